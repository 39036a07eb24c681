import PyProof.Rows.All
import Wide.All
import OpenK.AllK
import Wide.FinOn
import HandS.ForMost
import HandS.Wide
import HandS.WideBits
import HandS.TupAny
import HandS.IsInst
import HandS.Style
import HandS.Strs
import HandS.Zip
import HandS.EndBits
import KE.KUnpackStar
import HandS.More
import KE.GoesNew
import KE.GoesMore
import KE.GoesEnum
import PyProof.EqKinds
import PyProof.FactsAll.dict_1
import PyProof.FactsAll.subtypes_3
import PyProof.FactsAll.subtypes_4
import PyProof.Rows.EqBoolInt
import KE.SortKeyed
import HandS.SortKw
import HandS.Deep
import KE.DataFind
import KE.DataCmp
import HandS.CallLocal
import PyProof.FitsInt
import HandS.RaiseMore
import PyProof.TupleKey
import HandS.TupSets
import PyProof.SumAny
import HandS.NoneIn
import HandS.Conv
import KE.DatumOrd
import PyProof.MaxThree
import PySem.Challenge.RW_steploft_k42_needs_counted
set_option Elab.async false
set_option linter.all false
set_option maxRecDepth 100000
set_option maxHeartbeats 4000000
namespace DL
open PySem PySem.Spec PyProof.Rows L2
set_option autoImplicit false

/-! ### data -/
/-- data: lst is a list that nobody changes any more; ref a thing that G knows (or that doesn't matter); any: some thing of this type -/
inductive D where
  | non | bl (b : Bool) | int (i : Int) | str (x : Str) | ty (n : String) | ref (a : Addr) | any (n : String) | nt (zs : List Str) | tup (ds : List D) | lst (ds : List D)
/-- what stands at an address, by data -/
inductive GO where
  | lst (ds : List D) | dK (kvs : List (Key × D)) | dT (kvs : List (List Key × D)) | ins (C dx : Addr) (fs : List (Str × D)) | dX (ok : List (D × D) → Prop) (hs : D → Int) (kvs : List (D × D))
abbrev Gp := Addr → Option GO
def gup (G : Gp) (a : Addr) (o : GO) : Gp := fun b => if b = a then some o else G b
theorem gup_same {G : Gp} {a : Addr} {o : GO} : gup G a o a = some o := by unfold gup; rw [if_pos rfl]
theorem gup_ne {G : Gp} {a b : Addr} {o : GO} (h : b ≠ a) : gup G a o b = G b := by unfold gup; rw [if_neg h]
theorem gup_gup {G : Gp} {a : Addr} {o u : GO} : gup (gup G a o) a u = gup G a u := by
  funext b; unfold gup; split <;> rfl
theorem gne {G : Gp} {a b : Addr} {o : GO} (h : G a = some o) (h' : G b = none) : a ≠ b := by
  intro e; subst e; rw [h] at h'; cases h'
/-- all but one -/
def gdel (G : Gp) (a : Addr) : Gp := fun b => if b = a then none else G b
theorem gdel_same {G : Gp} {a : Addr} : gdel G a a = none := by unfold gdel; rw [if_pos rfl]
theorem gdel_ne {G : Gp} {a b : Addr} (h : b ≠ a) : gdel G a b = G b := by unfold gdel; rw [if_neg h]
def knd : HO → String
  | .lst _ => "list" | .tup _ => "tuple" | .dK _ => "dict" | .dT _ => "dict" | .set _ _ => "set" | .ins _ _ _ => "ins" | .frz _ (.lst _) => "list" | .frz _ (.tup _) => "tuple" | .frz _ (.dK _) => "dict" | _ => ""
abbrev Ns := Addr → Prop
def nadd (N : Ns) (p : Addr) : Ns := fun q => q = p ∨ N q
def ndel (N : Ns) (p : Addr) : Ns := fun q => q ≠ p ∧ N q
/-- a list that nobody changes: N tells the addresses of which this is not said -/
def LstAt (K : PySem.W.Frag) (H : Hp) (N : Ns) (a : Addr) (xs : List V) : Prop :=
  (H a = some (.lst xs) ∧ ¬ N a) ∨ (∃ o, H a = some (.frz o (.lst xs))) ∨ ∃ (o : Obj) (its : Array Value) (n : Nat), K.lookup a = some o ∧ o.cls = .type "list" ∧ o.dict = none ∧ o.data = .seq its n ∧ its.size ≤ sizeLine ∧ Vals xs its.toList
theorem LstAt.sq {K : PySem.W.Frag} {H : Hp} {N : Ns} {a : Addr} {xs : List V} (h : LstAt K H N a xs) : SqL K H a xs := by
  rcases h with h | h | h
  · exact .inl (.inl h.1)
  · exact .inl (.inr h)
  · exact .inr h
/-- a tuple of texts of which it is known that it has no dict (its methods may be called) -/
def NtAt (K : PySem.W.Frag) (H : Hp) (p : Addr) (zs : List Str) : Prop :=
  (∃ o, H p = some (.frz o (.tup (zs.map V.str))) ∧ o.cls = .type "tuple" ∧ o.dict = none) ∨ ∃ (o : Obj) (its : Array Value) (n : Nat), K.lookup p = some o ∧ o.cls = .type "tuple" ∧ o.dict = none ∧ o.data = .seq its n ∧ its.size ≤ sizeLine ∧ Vals (zs.map V.str) its.toList
theorem NtAt.sq {K : PySem.W.Frag} {H : Hp} {p : Addr} {zs : List Str} (h : NtAt K H p zs) : SqT K H p (zs.map V.str) := by
  rcases h with ⟨o, h, _⟩ | ⟨o, its, n, h1, h2, h3, h4, h5, h6⟩
  · exact .inl (.inr ⟨o, h⟩)
  · exact .inr ⟨o, its, n, h1, h2, h4, h5, h6⟩
mutual
def RD (K : PySem.W.Frag) (H : Hp) (N : Ns) : D → V → Prop
  | .non, v => v = .non
  | .bl b, v => v = .bl b
  | .int i, v => v = .int i
  | .str x, v => v = .str x
  | .ty n, v => v = .ty n
  | .ref a, v => v = .ref a
  | .any n, v => ∃ a u, v = .ref a ∧ H a = some u ∧ knd u = n
  | .nt zs, v => ∃ p, v = .ref p ∧ NtAt K H p zs
  | .tup ds, v => ∃ p vs, v = .ref p ∧ SqT K H p vs ∧ RDs K H N ds vs
  | .lst ds, v => ∃ p vs, v = .ref p ∧ LstAt K H N p vs ∧ RDs K H N ds vs
def RDs (K : PySem.W.Frag) (H : Hp) (N : Ns) : List D → List V → Prop
  | [], vs => vs = []
  | d :: ds, vs => ∃ v r, vs = v :: r ∧ RD K H N d v ∧ RDs K H N ds r
end
structure KLe (H H' : Hp) : Prop where
  tup : ∀ p xs, H p = some (.tup xs) → H' p = some (.tup xs)
  ktup : ∀ p o xs, H p = some (.frz o (.tup xs)) → H' p = some (.frz o (.tup xs))
  klst : ∀ p o xs, H p = some (.frz o (.lst xs)) → H' p = some (.frz o (.lst xs))
  kind : ∀ p u, H p = some u → ∃ u', H' p = some u' ∧ knd u' = knd u
theorem KLe.refl (H : Hp) : KLe H H := ⟨fun _ _ h => h, fun _ _ _ h => h, fun _ _ _ h => h, fun _ u h => ⟨u, h, rfl⟩⟩
theorem KLe.trans {H H1 H2 : Hp} (a : KLe H H1) (b : KLe H1 H2) : KLe H H2 :=
  ⟨fun p xs h => b.tup p xs (a.tup p xs h), fun p o xs h => b.ktup p o xs (a.ktup p o xs h), fun p o xs h => b.klst p o xs (a.klst p o xs h), fun p u h => by
    obtain ⟨u1, h1, e1⟩ := a.kind p u h
    obtain ⟨u2, h2, e2⟩ := b.kind p u1 h1
    exact ⟨u2, h2, e2.trans e1⟩⟩
theorem KLe.fresh {H : Hp} {p : Addr} {o : HO} (h : H p = none) : KLe H (upd H p o) :=
  ⟨fun q xs e => by rw [upd_ne (ne_of_none e h)]; exact e, fun q _ xs e => by rw [upd_ne (ne_of_none e h)]; exact e, fun q _ xs e => by rw [upd_ne (ne_of_none e h)]; exact e, fun q u e => ⟨u, by rw [upd_ne (ne_of_none e h)]; exact e, rfl⟩⟩
def mutH : HO → Bool
  | .lst _ => true | .dK _ => true | .dT _ => true | .ins _ _ _ => true | .set _ _ => true | .ext _ => true | _ => false
theorem KLe.write {H : Hp} {p : Addr} {o u : HO} (h : H p = some u) (m : mutH u = true) (k : knd o = knd u) : KLe H (upd H p o) := by
  have ne : ∀ q x, H q = some x → mutH x = false → q ≠ p := fun q x e n z => by
    subst z; rw [h] at e; cases e; rw [m] at n; cases n
  refine ⟨fun q xs e => ?_, fun q _ xs e => ?_, fun q _ xs e => ?_, fun q x e => ?_⟩
  · rw [upd_ne (ne q _ e rfl)]; exact e
  · rw [upd_ne (ne q _ e rfl)]; exact e
  · rw [upd_ne (ne q _ e rfl)]; exact e
  · by_cases z : q = p
    · subst z; rw [h] at e; cases e; exact ⟨o, upd_same, k⟩
    · exact ⟨x, by rw [upd_ne z]; exact e, rfl⟩
/-- data stay data -/
structure Kp (H : Hp) (N : Ns) (H' : Hp) (N' : Ns) : Prop where
  kle : KLe H H'
  nv : ∀ p xs, H p = some (.lst xs) → ¬ N p → H' p = some (.lst xs) ∧ ¬ N' p
theorem Kp.refl (H : Hp) (N : Ns) : Kp H N H N := ⟨KLe.refl H, fun _ _ h n => ⟨h, n⟩⟩
theorem Kp.trans {H H1 H2 : Hp} {N N1 N2 : Ns} (a : Kp H N H1 N1) (b : Kp H1 N1 H2 N2) : Kp H N H2 N2 :=
  ⟨a.kle.trans b.kle, fun p u h n => by obtain ⟨h1, n1⟩ := a.nv p u h n; exact b.nv p u h1 n1⟩
theorem SqT.le {K : PySem.W.Frag} {H H' : Hp} {a : Addr} {xs : List V} (l : KLe H H') (h : SqT K H a xs) : SqT K H' a xs := by
  rcases h with (h | ⟨o, h⟩) | h
  · exact .inl (.inl (l.tup _ _ h))
  · exact .inl (.inr ⟨o, l.ktup _ _ _ h⟩)
  · exact .inr h
theorem LstAt.le {K : PySem.W.Frag} {H H' : Hp} {N N' : Ns} {a : Addr} {xs : List V} (l : Kp H N H' N') (h : LstAt K H N a xs) : LstAt K H' N' a xs := by
  rcases h with ⟨h, n⟩ | ⟨o, h⟩ | h
  · exact .inl (l.nv _ _ h n)
  · exact .inr (.inl ⟨o, l.kle.klst _ _ _ h⟩)
  · exact .inr (.inr h)
mutual
theorem RD.le {K : PySem.W.Frag} {H H' : Hp} {N N' : Ns} (l : Kp H N H' N') : ∀ {d : D} {v : V}, RD K H N d v → RD K H' N' d v
  | .non, _, h => by simpa only [RD] using h
  | .bl _, _, h => by simpa only [RD] using h
  | .int _, _, h => by simpa only [RD] using h
  | .str _, _, h => by simpa only [RD] using h
  | .ty _, _, h => by simpa only [RD] using h
  | .ref _, _, h => by simpa only [RD] using h
  | .any n, v, h => by
    simp only [RD] at h ⊢
    obtain ⟨a, u, e, hu, k⟩ := h
    obtain ⟨u', hu', k'⟩ := l.kle.kind a u hu
    exact ⟨a, u', e, hu', k'.trans k⟩
  | .nt zs, v, h => by
    simp only [RD] at h ⊢
    obtain ⟨p, e, s⟩ := h
    refine ⟨p, e, ?_⟩
    rcases s with ⟨o, s, r⟩ | s
    · exact .inl ⟨o, l.kle.ktup _ _ _ s, r⟩
    · exact .inr s
  | .tup ds, v, h => by
    simp only [RD] at h ⊢
    obtain ⟨p, vs, e, s, r⟩ := h
    exact ⟨p, vs, e, SqT.le l.kle s, RDs.le l r⟩
  | .lst ds, v, h => by
    simp only [RD] at h ⊢
    obtain ⟨p, vs, e, s, r⟩ := h
    exact ⟨p, vs, e, LstAt.le l s, RDs.le l r⟩
theorem RDs.le {K : PySem.W.Frag} {H H' : Hp} {N N' : Ns} (l : Kp H N H' N') : ∀ {ds : List D} {vs : List V}, RDs K H N ds vs → RDs K H' N' ds vs
  | [], _, h => by simpa only [RDs] using h
  | d :: ds, _, h => by
    simp only [RDs] at h ⊢
    obtain ⟨v, r, e, h1, h2⟩ := h
    exact ⟨v, r, e, RD.le l h1, RDs.le l h2⟩
end
section
variable {K : PySem.W.Frag} {H : Hp} {N : Ns}
theorem RD.non : RD K H N .non .non := by simp only [RD]
theorem RD.bl (b : Bool) : RD K H N (.bl b) (.bl b) := by simp only [RD]
theorem RD.int (i : Int) : RD K H N (.int i) (.int i) := by simp only [RD]
theorem RD.str (x : Str) : RD K H N (.str x) (.str x) := by simp only [RD]
theorem RD.ty (n : String) : RD K H N (.ty n) (.ty n) := by simp only [RD]
theorem RD.ref (a : Addr) : RD K H N (.ref a) (.ref a) := by simp only [RD]
theorem RD.tup {ds : List D} {p : Addr} {vs : List V} (s : SqT K H p vs) (r : RDs K H N ds vs) : RD K H N (.tup ds) (.ref p) := by simp only [RD]; exact ⟨p, vs, rfl, s, r⟩
theorem RD.lst {ds : List D} {p : Addr} {vs : List V} (s : LstAt K H N p vs) (r : RDs K H N ds vs) : RD K H N (.lst ds) (.ref p) := by simp only [RD]; exact ⟨p, vs, rfl, s, r⟩
theorem RD.of_non {v : V} (h : RD K H N .non v) : v = .non := by simpa only [RD] using h
theorem RD.of_bl {b : Bool} {v : V} (h : RD K H N (.bl b) v) : v = .bl b := by simpa only [RD] using h
theorem RD.of_int {i : Int} {v : V} (h : RD K H N (.int i) v) : v = .int i := by simpa only [RD] using h
theorem RD.of_str {i : Str} {v : V} (h : RD K H N (.str i) v) : v = .str i := by simpa only [RD] using h
theorem RD.of_ty {i : String} {v : V} (h : RD K H N (.ty i) v) : v = .ty i := by simpa only [RD] using h
theorem RD.of_ref {i : Addr} {v : V} (h : RD K H N (.ref i) v) : v = .ref i := by simpa only [RD] using h
theorem RD.of_any {n : String} {v : V} (h : RD K H N (.any n) v) : ∃ a u, v = .ref a ∧ H a = some u ∧ knd u = n := by simpa only [RD] using h
theorem RD.of_tup {ds : List D} {v : V} (h : RD K H N (.tup ds) v) : ∃ p vs, v = .ref p ∧ SqT K H p vs ∧ RDs K H N ds vs := by simpa only [RD] using h
theorem RD.of_nt {zs : List Str} {v : V} (h : RD K H N (.nt zs) v) : ∃ p, v = .ref p ∧ NtAt K H p zs := by simpa only [RD] using h
theorem RD.of_lst {ds : List D} {v : V} (h : RD K H N (.lst ds) v) : ∃ p vs, v = .ref p ∧ LstAt K H N p vs ∧ RDs K H N ds vs := by simpa only [RD] using h
theorem RDs.nil : RDs K H N [] [] := by simp only [RDs]
theorem RDs.cons {d : D} {ds : List D} {v : V} {vs : List V} (h : RD K H N d v) (t : RDs K H N ds vs) : RDs K H N (d :: ds) (v :: vs) := by simp only [RDs]; exact ⟨v, vs, rfl, h, t⟩
theorem RDs.of_nil {vs : List V} (h : RDs K H N [] vs) : vs = [] := by simpa only [RDs] using h
theorem RDs.of_cons {d : D} {ds : List D} {vs : List V} (h : RDs K H N (d :: ds) vs) : ∃ v r, vs = v :: r ∧ RD K H N d v ∧ RDs K H N ds r := by simpa only [RDs] using h
theorem RDs.length : ∀ {ds : List D} {vs : List V}, RDs K H N ds vs → ds.length = vs.length
  | [], _, h => by rw [h.of_nil]; rfl
  | d :: ds, _, h => by
    obtain ⟨v, r, rfl, _, h2⟩ := h.of_cons
    rw [List.length_cons, List.length_cons, RDs.length h2]
theorem RDs.get : ∀ {ds : List D} {vs : List V} {i : Nat} {d : D}, RDs K H N ds vs → ds[i]? = some d → ∃ v, vs[i]? = some v ∧ RD K H N d v
  | [], _, _, _, _, e => by simp at e
  | d :: ds, _, 0, _, h, e => by
    obtain ⟨v, r, rfl, h1, _⟩ := h.of_cons
    simp at e; subst e
    exact ⟨v, rfl, h1⟩
  | d :: ds, _, i + 1, x, h, e => by
    obtain ⟨v, r, rfl, _, h2⟩ := h.of_cons
    obtain ⟨u, h3, h4⟩ := RDs.get (i := i) (d := x) h2 (by simpa using e)
    exact ⟨u, by simpa using h3, h4⟩
theorem RDs.append : ∀ {ds es : List D} {vs us : List V}, RDs K H N ds vs → RDs K H N es us → RDs K H N (ds ++ es) (vs ++ us)
  | [], _, _, _, h, t => by rw [h.of_nil]; exact t
  | d :: ds, _, _, _, h, t => by
    obtain ⟨v, r, rfl, h1, h2⟩ := h.of_cons
    exact RDs.cons h1 (RDs.append h2 t)
theorem RDs.take : ∀ {ds : List D} {vs : List V} (n : Nat), RDs K H N ds vs → RDs K H N (ds.take n) (vs.take n)
  | _, _, 0, _ => by simpa using RDs.nil
  | [], _, n + 1, h => by rw [h.of_nil]; exact RDs.nil
  | d :: ds, _, n + 1, h => by
    obtain ⟨v, r, rfl, h1, h2⟩ := h.of_cons
    exact RDs.cons h1 (RDs.take n h2)
theorem RDs.drop : ∀ {ds : List D} {vs : List V} (n : Nat), RDs K H N ds vs → RDs K H N (ds.drop n) (vs.drop n)
  | _, _, 0, h => h
  | [], _, n + 1, h => by rw [h.of_nil]; exact RDs.nil
  | d :: ds, _, n + 1, h => by
    obtain ⟨v, r, rfl, h1, h2⟩ := h.of_cons
    exact RDs.drop n h2
theorem RDs.reverse : ∀ {ds : List D} {vs : List V}, RDs K H N ds vs → RDs K H N ds.reverse vs.reverse
  | [], _, h => by rw [h.of_nil]; exact RDs.nil
  | d :: ds, _, h => by
    obtain ⟨v, r, rfl, h1, h2⟩ := h.of_cons
    rw [List.reverse_cons, List.reverse_cons]
    exact RDs.append (RDs.reverse h2) (RDs.cons h1 RDs.nil)
theorem RDs.set {d : D} {v : V} (h1 : RD K H N d v) : ∀ {ds : List D} {vs : List V} (i : Nat), RDs K H N ds vs → RDs K H N (ds.set i d) (vs.set i v)
  | [], _, _, h => by rw [h.of_nil]; exact RDs.nil
  | d' :: ds, _, 0, h => by
    obtain ⟨v, r, rfl, _, h2⟩ := h.of_cons
    exact RDs.cons h1 h2
  | d' :: ds, _, i + 1, h => by
    obtain ⟨v, r, rfl, h3, h2⟩ := h.of_cons
    exact RDs.cons h3 (RDs.set h1 i h2)
theorem RDs.eraseIdx : ∀ {ds : List D} {vs : List V} (i : Nat), RDs K H N ds vs → RDs K H N (ds.eraseIdx i) (vs.eraseIdx i)
  | [], _, _, h => by rw [h.of_nil]; exact RDs.nil
  | d' :: ds, _, 0, h => by
    obtain ⟨v, r, rfl, _, h2⟩ := h.of_cons
    exact h2
  | d' :: ds, _, i + 1, h => by
    obtain ⟨v, r, rfl, h3, h2⟩ := h.of_cons
    exact RDs.cons h3 (RDs.eraseIdx i h2)
theorem RDs.dropLast {ds : List D} {vs : List V} (h : RDs K H N ds vs) : RDs K H N ds.dropLast vs.dropLast := by
  rw [List.dropLast_eq_take, List.dropLast_eq_take, h.length]; exact RDs.take _ h
theorem RDs.ints : ∀ (ns : List Int), RDs K H N (ns.map D.int) (ns.map V.int)
  | [] => RDs.nil
  | n :: ns => RDs.cons (RD.int n) (RDs.ints ns)
theorem RDs.of_ints : ∀ {ns : List Int} {vs : List V}, RDs K H N (ns.map D.int) vs → vs = ns.map V.int
  | [], _, h => h.of_nil
  | n :: ns, _, h => by
    obtain ⟨v, r, rfl, h1, h2⟩ := RDs.of_cons h
    rw [h1.of_int, RDs.of_ints h2]; rfl
theorem RDs.of_strs : ∀ {ns : List Str} {vs : List V}, RDs K H N (ns.map D.str) vs → vs = ns.map V.str
  | [], _, h => h.of_nil
  | n :: ns, _, h => by
    obtain ⟨v, r, rfl, h1, h2⟩ := RDs.of_cons h
    rw [h1.of_str, RDs.of_strs h2]; rfl
theorem RDs.of_bls : ∀ {ns : List Bool} {vs : List V}, RDs K H N (ns.map D.bl) vs → vs = ns.map V.bl
  | [], _, h => h.of_nil
  | n :: ns, _, h => by
    obtain ⟨v, r, rfl, h1, h2⟩ := RDs.of_cons h
    rw [h1.of_bl, RDs.of_bls h2]; rfl
theorem RDs.strs : ∀ (ns : List Str), RDs K H N (ns.map D.str) (ns.map V.str)
  | [] => RDs.nil
  | n :: ns => RDs.cons (RD.str n) (RDs.strs ns)
end

theorem RD.nt_tup {K : PySem.W.Frag} {H : Hp} {N : Ns} {zs : List Str} {v : V} (h : RD K H N (.nt zs) v) : RD K H N (.tup (zs.map .str)) v := by
  obtain ⟨p, rfl, s⟩ := h.of_nt
  exact RD.tup s.sq (RDs.strs zs)
/-! ### what stands at addresses -/
def RKV {κ : Type} (K : PySem.W.Frag) (H : Hp) (N : Ns) : List (κ × D) → List (κ × V) → Prop := Paired fun p q => p.1 = q.1 ∧ RD K H N p.2 q.2
theorem RKV.le {κ : Type} {K : PySem.W.Frag} {H H' : Hp} {N N' : Ns} (l : Kp H N H' N') {a : List (κ × D)} {b : List (κ × V)} (h : RKV K H N a b) : RKV K H' N' a b := Paired.mapP h fun _ _ z => ⟨z.1, z.2.le l⟩
/-- a dict by its entries: hash, key, value -/
def DxIs (h : Heap) (a : Addr) (kvs : List (Int × V × V)) : Prop := kvs.length ≤ sizeLine ∧ (a == sysModules) = false ∧ ∃ o es ep, h.get? a = some o ∧ o.ExactDict ∧ o.data = .dict es ep ∧ Paired (fun (p : Int × V × V) (e : DictEntry) => e.hash = p.1 ∧ RelV p.2.1 e.key ∧ RelV p.2.2 e.val) kvs es.toList
def DxO (a : Addr) (kvs : List (Int × V × V)) : HO := .ext fun h => DxIs h a kvs
def RXV (K : PySem.W.Frag) (H : Hp) (N : Ns) (hs : D → Int) : List (D × D) → List (Int × V × V) → Prop := Paired fun p q => q.1 = hs p.1 ∧ RD K H N p.1 q.2.1 ∧ RD K H N p.2 q.2.2
theorem RXV.le {K : PySem.W.Frag} {H H' : Hp} {N N' : Ns} {hs : D → Int} (l : Kp H N H' N') {a : List (D × D)} {b : List (Int × V × V)} (h : RXV K H N hs a b) : RXV K H' N' hs a b := Paired.mapP h fun _ _ z => ⟨z.1, z.2.1.le l, z.2.2.le l⟩
def RO (K : PySem.W.Frag) (H : Hp) (N : Ns) (a : Addr) : GO → Prop
  | .lst ds => ∃ vs, H a = some (.lst vs) ∧ RDs K H N ds vs
  | .dK kvs => ∃ kvs', H a = some (.dK kvs') ∧ RKV K H N kvs kvs'
  | .dT kvs => ∃ kvs', H a = some (.dT kvs') ∧ RKV K H N kvs kvs'
  | .ins C dx fs => ∃ fs', H a = some (.ins C dx fs') ∧ RKV K H N fs fs'
  | .dX ok hs kvs => ∃ kvs', H a = some (DxO a kvs') ∧ RXV K H N hs kvs kvs' ∧ ok kvs
def RelG (K : PySem.W.Frag) (H : Hp) (N : Ns) (G : Gp) : Prop := ∀ a o, G a = some o → N a ∧ RO K H N a o
theorem RO.here {K : PySem.W.Frag} {H : Hp} {N : Ns} {a : Addr} {o : GO} (h : RO K H N a o) : ∃ u, H a = some u ∧ mutH u = true := by
  cases o with
  | lst ds => obtain ⟨_, h, _⟩ := h; exact ⟨_, h, rfl⟩
  | dK ds => obtain ⟨_, h, _⟩ := h; exact ⟨_, h, rfl⟩
  | dT ds => obtain ⟨_, h, _⟩ := h; exact ⟨_, h, rfl⟩
  | ins C dx ds => obtain ⟨_, h, _⟩ := h; exact ⟨_, h, rfl⟩
  | dX ok hs kvs => obtain ⟨_, h, _⟩ := h; exact ⟨_, h, rfl⟩
theorem RO.le {K : PySem.W.Frag} {H H' : Hp} {N N' : Ns} {a : Addr} {o : GO} (l : Kp H N H' N') (e : H' a = H a) (h : RO K H N a o) : RO K H' N' a o := by
  cases o with
  | lst ds => obtain ⟨vs, h, r⟩ := h; exact ⟨vs, e.trans h, r.le l⟩
  | dK ds => obtain ⟨vs, h, r⟩ := h; exact ⟨vs, e.trans h, r.le l⟩
  | dT ds => obtain ⟨vs, h, r⟩ := h; exact ⟨vs, e.trans h, r.le l⟩
  | ins C dx ds => obtain ⟨vs, h, r⟩ := h; exact ⟨vs, e.trans h, r.le l⟩
  | dX ok hs kvs => obtain ⟨vs, h, r, z⟩ := h; exact ⟨vs, e.trans h, r.le l, z⟩
theorem RelG.free {K : PySem.W.Frag} {H : Hp} {N : Ns} {G : Gp} (r : RelG K H N G) {p : Addr} (h : H p = none) : G p = none := by
  cases e : G p with
  | none => rfl
  | some o =>
    obtain ⟨u, h', _⟩ := (r p o e).2.here
    rw [h] at h'; cases h'
/-- a step -/
structure Stp (K : PySem.W.Frag) (H : Hp) (N : Ns) (G : Gp) (H' : Hp) (N' : Ns) (G' : Gp) : Prop where
  kp : Kp H N H' N'
  fr : ∀ p u, H p = some u → G p = none → H' p = some u ∧ G' p = none ∧ (N p → N' p)
  rel : RelG K H' N' G'
theorem Stp.refl {K : PySem.W.Frag} {H : Hp} {N : Ns} {G : Gp} (r : RelG K H N G) : Stp K H N G H N G := ⟨Kp.refl H N, fun _ _ h n => ⟨h, n, id⟩, r⟩
theorem Stp.trans {K : PySem.W.Frag} {H H1 H2 : Hp} {N N1 N2 : Ns} {G G1 G2 : Gp} (a : Stp K H N G H1 N1 G1) (b : Stp K H1 N1 G1 H2 N2 G2) : Stp K H N G H2 N2 G2 :=
  ⟨a.kp.trans b.kp, fun p u h n => by
    obtain ⟨h1, n1, m1⟩ := a.fr p u h n
    obtain ⟨h2, n2, m2⟩ := b.fr p u h1 n1
    exact ⟨h2, n2, fun z => m2 (m1 z)⟩, b.rel⟩
def Sub (G G' : Gp) : Prop := ∀ a o, G a = some o → G' a = some o
theorem Sub.refl (G : Gp) : Sub G G := fun _ _ h => h
theorem Sub.trans {G G1 G2 : Gp} (a : Sub G G1) (b : Sub G1 G2) : Sub G G2 := fun p o h => b p o (a p o h)
theorem Sub.new {G : Gp} {p : Addr} {o : GO} (h : G p = none) : Sub G (gup G p o) := fun a u e => by rw [gup_ne (gne e h)]; exact e
theorem Sub.news {G G' : Gp} {p : Addr} {o : GO} (s : Sub G G') (h : G' p = none) : Sub G (gup G' p o) := s.trans (Sub.new h)
theorem Sub.nn {G G' : Gp} (s : Sub G G') {p : Addr} (h : G' p = none) : G p = none := by
  cases e : G p with
  | none => rfl
  | some o => rw [s p o e] at h; cases h
theorem Sub.del {G : Gp} {p : Addr} : Sub (gdel G p) G := fun a o e => by
  unfold gdel at e
  split at e
  · cases e
  · exact e
theorem Sub.del_new {G : Gp} {p : Addr} {o : GO} (h : G p = none) : Sub G (gdel (gup G p o) p) := fun a u e => by
  rw [gdel_ne (gne e h), gup_ne (gne e h)]; exact e
theorem RelG.sub {K : PySem.W.Frag} {H : Hp} {N : Ns} {G G' : Gp} (r : RelG K H N G') (s : Sub G G') : Stp K H N G' H N G := ⟨Kp.refl H N, fun p u h n => ⟨h, s.nn n, id⟩, fun a o e => r a o (s a o e)⟩
theorem Kp.new {H : Hp} {N : Ns} {p : Addr} {u : HO} (h : H p = none) : Kp H N (upd H p u) (nadd N p) :=
  ⟨KLe.fresh h, fun q x e n => ⟨by rw [upd_ne (ne_of_none e h)]; exact e, fun z => z.elim (ne_of_none e h) n⟩⟩
theorem Kp.new0 {H : Hp} {N : Ns} {p : Addr} {u : HO} (h : H p = none) : Kp H N (upd H p u) N :=
  ⟨KLe.fresh h, fun q x e n => ⟨by rw [upd_ne (ne_of_none e h)]; exact e, n⟩⟩
theorem Kp.newV {H : Hp} {N : Ns} {p : Addr} {u : HO} (h : H p = none) : Kp H N (upd H p u) (ndel N p) :=
  ⟨KLe.fresh h, fun q x e n => ⟨by rw [upd_ne (ne_of_none e h)]; exact e, fun z => n z.2⟩⟩
/-- a new object that is known -/
theorem Stp.new {K : PySem.W.Frag} {H : Hp} {N : Ns} {G : Gp} {p : Addr} {u : HO} {o : GO} (r : RelG K H N G) (h : H p = none) (ho : RO K (upd H p u) (nadd N p) p o) : Stp K H N G (upd H p u) (nadd N p) (gup G p o) := by
  refine ⟨Kp.new h, fun q x e n => ⟨by rw [upd_ne (ne_of_none e h)]; exact e, by rw [gup_ne (ne_of_none e h)]; exact n, .inr⟩, fun a o' e => ?_⟩
  by_cases z : a = p
  · subst z; rw [gup_same] at e; cases e; exact ⟨.inl rfl, ho⟩
  · rw [gup_ne z] at e
    exact ⟨.inr (r a o' e).1, (r a o' e).2.le (Kp.new h) (upd_ne z)⟩
/-- a new object that is not known -/
theorem Stp.new0 {K : PySem.W.Frag} {H : Hp} {N : Ns} {G : Gp} {p : Addr} {u : HO} (r : RelG K H N G) (h : H p = none) : Stp K H N G (upd H p u) N G := by
  refine ⟨Kp.new0 h, fun q x e n => ⟨by rw [upd_ne (ne_of_none e h)]; exact e, n, id⟩, fun a o' e => ?_⟩
  obtain ⟨x, hx, _⟩ := (r a o' e).2.here
  exact ⟨(r a o' e).1, (r a o' e).2.le (Kp.new0 h) (upd_ne (ne_of_none hx h))⟩
/-- a new object that nobody changes -/
theorem Stp.newV {K : PySem.W.Frag} {H : Hp} {N : Ns} {G : Gp} {p : Addr} {u : HO} (r : RelG K H N G) (h : H p = none) : Stp K H N G (upd H p u) (ndel N p) G := by
  refine ⟨Kp.newV h, fun q x e n => ⟨by rw [upd_ne (ne_of_none e h)]; exact e, n, fun z => ⟨ne_of_none e h, z⟩⟩, fun a o' e => ?_⟩
  obtain ⟨x, hx, _⟩ := (r a o' e).2.here
  exact ⟨⟨ne_of_none hx h, (r a o' e).1⟩, (r a o' e).2.le (Kp.newV h) (upd_ne (ne_of_none hx h))⟩
theorem Kp.write {H : Hp} {N : Ns} {p : Addr} {u u0 : HO} (hN : N p) (h : H p = some u0) (m : mutH u0 = true) (k : knd u = knd u0) : Kp H N (upd H p u) N :=
  ⟨KLe.write h m k, fun q x e n => ⟨by rw [upd_ne (fun z => n (by rw [z]; exact hN))]; exact e, n⟩⟩
/-- a known object is changed -/
theorem Stp.write {K : PySem.W.Frag} {H : Hp} {N : Ns} {G : Gp} {p : Addr} {u : HO} {o o0 : GO} {u0 : HO} (r : RelG K H N G) (hG : G p = some o0) (h : H p = some u0) (m : mutH u0 = true) (k : knd u = knd u0) (ho : RO K (upd H p u) N p o) :
    Stp K H N G (upd H p u) N (gup G p o) := by
  have hN := (r p o0 hG).1
  refine ⟨Kp.write hN h m k, fun q x e n => ?_, fun a o' e => ?_⟩
  · have ne : q ≠ p := fun z => by subst z; rw [hG] at n; cases n
    exact ⟨by rw [upd_ne ne]; exact e, by rw [gup_ne ne]; exact n, id⟩
  · by_cases z : a = p
    · subst z; rw [gup_same] at e; cases e; exact ⟨hN, ho⟩
    · rw [gup_ne z] at e
      exact ⟨(r a o' e).1, (r a o' e).2.le (Kp.write hN h m k) (upd_ne z)⟩
/-- a young object that is not known is changed -/
theorem Stp.poke {K : PySem.W.Frag} {H0 H : Hp} {N0 N : Ns} {G0 G : Gp} {p : Addr} {u u0 : HO} (s : Stp K H0 N0 G0 H N G) (h0 : H0 p = none) (h : H p = some u0) (n : G p = none) (hN : N p) (m : mutH u0 = true) (k : knd u = knd u0) :
    Stp K H0 N0 G0 (upd H p u) N G := by
  have kw := Kp.write hN h m k
  refine ⟨s.kp.trans kw, fun q x e nq => ?_, fun a o' e => ?_⟩
  · obtain ⟨h1, n1, m1⟩ := s.fr q x e nq
    exact ⟨by rw [upd_ne (ne_of_none e h0)]; exact h1, n1, m1⟩
  · have ne : a ≠ p := fun z => by subst z; rw [n] at e; cases e
    exact ⟨(s.rel a o' e).1, (s.rel a o' e).2.le kw (upd_ne ne)⟩
/-- a young object gets known -/
theorem Stp.know {K : PySem.W.Frag} {H0 H : Hp} {N0 N : Ns} {G0 G : Gp} {p : Addr} {o : GO} (s : Stp K H0 N0 G0 H N G) (h0 : H0 p = none) (hN : N p) (ho : RO K H N p o) : Stp K H0 N0 G0 H N (gup G p o) := by
  refine ⟨s.kp, fun q x e nq => ?_, fun a o' e => ?_⟩
  · obtain ⟨h1, n1, m1⟩ := s.fr q x e nq
    exact ⟨h1, by rw [gup_ne (ne_of_none e h0)]; exact n1, m1⟩
  · by_cases z : a = p
    · subst z; rw [gup_same] at e; cases e; exact ⟨hN, ho⟩
    · rw [gup_ne z] at e
      exact s.rel a o' e
/-- an object that G doesn't know is from now on never changed: it was young, or G knew it -/
theorem Kp.calm {H : Hp} {N : Ns} {p : Addr} : Kp H N H (ndel N p) := ⟨KLe.refl H, fun q x e n => ⟨e, fun z => n z.2⟩⟩
theorem Stp.calm {K : PySem.W.Frag} {H0 H : Hp} {N0 N : Ns} {G0 G : Gp} {p : Addr} (s : Stp K H0 N0 G0 H N G) (h0 : H0 p = none ∨ G0 p ≠ none) (n : G p = none) : Stp K H0 N0 G0 H (ndel N p) G := by
  refine ⟨s.kp.trans Kp.calm, fun q x e nq => ?_, fun a o' e => ?_⟩
  · obtain ⟨h1, n1, m1⟩ := s.fr q x e nq
    refine ⟨h1, n1, fun z => ⟨fun w => ?_, m1 z⟩⟩
    subst w
    rcases h0 with h0 | h0
    · rw [h0] at e; cases e
    · exact h0 nq
  · have ne : a ≠ p := fun z => by subst z; rw [n] at e; cases e
    exact ⟨⟨ne, (s.rel a o' e).1⟩, (s.rel a o' e).2.le Kp.calm rfl⟩

/-! ### slots -/
abbrev Sd := List (Option D)
def RSt (K : PySem.W.Frag) (H : Hp) (N : Ns) (σ : Sd) (τ : L2.St) : Prop := σ.length = τ.length ∧ ∀ (i : Nat) (d : D), σ[i]? = some (some d) → ∃ v, τ[i]? = some (some v) ∧ RD K H N d v
theorem RSt.le {K : PySem.W.Frag} {H H' : Hp} {N N' : Ns} {σ : Sd} {τ : L2.St} (l : Kp H N H' N') (h : RSt K H N σ τ) : RSt K H' N' σ τ := ⟨h.1, fun i d e => by obtain ⟨v, h1, h2⟩ := h.2 i d e; exact ⟨v, h1, h2.le l⟩⟩
theorem RSt.set {K : PySem.W.Frag} {H : Hp} {N : Ns} {σ : Sd} {τ : L2.St} {d : D} {v : V} (h : RSt K H N σ τ) (r : RD K H N d v) (i : Nat) : RSt K H N (σ.set i (some d)) (τ.set i (some v)) := by
  refine ⟨by rw [List.length_set, List.length_set]; exact h.1, fun j x e => ?_⟩
  by_cases hj : i = j
  · subst hj
    rw [List.getElem?_set] at e ⊢
    simp only [if_true] at e ⊢
    rw [h.1] at e
    split at e
    · rename_i hlt
      cases e
      rw [if_pos hlt]
      exact ⟨v, rfl, r⟩
    · cases e
  · rw [List.getElem?_set_ne hj] at e ⊢
    exact h.2 j x e

/-! ### transformers by data -/
abbrev DK := D → Gp → Prop
abbrev DE := Sd → Gp → DK → Prop
abbrev DT := Sd → Gp → (Bool → Gp → Prop) → Prop
abbrev DA := Sd → Gp → (List D → Gp → Prop) → Prop
structure DEnds where
  nx : Sd → Gp → Prop
  rt : DK
  bk : Sd → Gp → Prop := fun _ _ => False
  ct : Sd → Gp → Prop := fun _ _ => False
abbrev DS := DEnds → Sd → Gp → Prop
abbrev DG := D → Sd → Gp → (Sd → Gp → Prop) → Prop
abbrev DGs := List D → Sd → Gp → (Sd → Gp → Prop) → Prop
abbrev DR2 := D → D → Gp → DK → Prop
abbrev DR1 := D → Gp → DK → Prop
abbrev DRn := List D → Gp → DK → Prop
/-- a continuation by values holds where the one by data does -/
def UpQ (K : PySem.W.Frag) (H : Hp) (N : Ns) (G : Gp) (R : DK) (Q : VK) : Prop := ∀ d G' N' v H', R d G' → Stp K H N G H' N' G' → RD K H' N' d v → Q v H'
def up (K : PySem.W.Frag) (t : DE) : TE := fun τ H Q => ∃ σ G N R, RSt K H N σ τ ∧ RelG K H N G ∧ t σ G R ∧ UpQ K H N G R Q
def upT (K : PySem.W.Frag) (t : DT) : TT := fun τ H Q => ∃ σ G N R, RSt K H N σ τ ∧ RelG K H N G ∧ t σ G R ∧ ∀ b G' N' H', R b G' → Stp K H N G H' N' G' → Q b H'
def upA (K : PySem.W.Frag) (t : DA) : TA := fun τ H Q => ∃ σ G N R, RSt K H N σ τ ∧ RelG K H N G ∧ t σ G R ∧ ∀ ds G' N' vs H', R ds G' → Stp K H N G H' N' G' → RDs K H' N' ds vs → Q vs H'
structure UpE (K : PySem.W.Frag) (H : Hp) (N : Ns) (G : Gp) (E : DEnds) (D : Ends) : Prop where
  nx : ∀ σ' G' N' τ' H', E.nx σ' G' → Stp K H N G H' N' G' → RSt K H' N' σ' τ' → D.nx τ' H'
  rt : UpQ K H N G E.rt D.rt
  bk : ∀ σ' G' N' τ' H', E.bk σ' G' → Stp K H N G H' N' G' → RSt K H' N' σ' τ' → D.bk τ' H'
  ct : ∀ σ' G' N' τ' H', E.ct σ' G' → Stp K H N G H' N' G' → RSt K H' N' σ' τ' → D.ct τ' H'
def upS (K : PySem.W.Frag) (t : DS) : TS := fun D τ H => ∃ σ G N E, RSt K H N σ τ ∧ RelG K H N G ∧ t E σ G ∧ UpE K H N G E D
def upG (K : PySem.W.Frag) (g : DG) : TG := fun v τ H Q => ∃ d σ G N R, RD K H N d v ∧ RSt K H N σ τ ∧ RelG K H N G ∧ g d σ G R ∧ ∀ σ' G' N' τ' H', R σ' G' → Stp K H N G H' N' G' → RSt K H' N' σ' τ' → Q τ' H'
def upGs (K : PySem.W.Frag) (g : DGs) : TGs := fun vs τ H Q => ∃ ds σ G N R, RDs K H N ds vs ∧ RSt K H N σ τ ∧ RelG K H N G ∧ g ds σ G R ∧ ∀ σ' G' N' τ' H', R σ' G' → Stp K H N G H' N' G' → RSt K H' N' σ' τ' → Q τ' H'
def upR2 (K : PySem.W.Frag) (r : DR2) : R2 := fun x y H Q => ∃ c d G N R, RD K H N c x ∧ RD K H N d y ∧ RelG K H N G ∧ r c d G R ∧ UpQ K H N G R Q
def upR1 (K : PySem.W.Frag) (r : DR1) : V → Hp → VK → Prop := fun x H Q => ∃ c G N R, RD K H N c x ∧ RelG K H N G ∧ r c G R ∧ UpQ K H N G R Q
def upRn (K : PySem.W.Frag) (r : DRn) : List V → Hp → VK → Prop := fun xs H Q => ∃ cs G N R, RDs K H N cs xs ∧ RelG K H N G ∧ r cs G R ∧ UpQ K H N G R Q
def upM (K : PySem.W.Frag) (r : D → List D → Gp → DK → Prop) : V → List V → Hp → VK → Prop := fun x xs H Q => ∃ c cs G N R, RD K H N c x ∧ RDs K H N cs xs ∧ RelG K H N G ∧ r c cs G R ∧ UpQ K H N G R Q
theorem UpQ.le {K : PySem.W.Frag} {H H1 : Hp} {N N1 : Ns} {G G1 : Gp} {R : DK} {Q : VK} (q : UpQ K H N G R Q) (s : Stp K H N G H1 N1 G1) : UpQ K H1 N1 G1 R Q := fun d G' N' v H' r s' rd => q d G' N' v H' r (s.trans s') rd
theorem UpQ.at {K : PySem.W.Frag} {H : Hp} {N : Ns} {G : Gp} {R : DK} {Q : VK} (q : UpQ K H N G R Q) (r : RelG K H N G) {d : D} {v : V} (h : R d G) (rd : RD K H N d v) : Q v H := q d G N v H h (Stp.refl r) rd

def QE (X : Cx) (e : Expr) (t : DE) : Prop := PE X e (up X.K t)
def QT (X : Cx) (e : Expr) (t : DT) : Prop := PT X e (upT X.K t)
def QW (X : Cx) (e : Expr) (t : DT) : Prop := PW X e (upT X.K t)
def QA (X : Cx) (es : List Expr) (t : DA) : Prop := PA X es (upA X.K t)
def QS (X : Cx) (st : Stmt) (t : DS) : Prop := PS X st (upS X.K t)
def QSs (X : Cx) (st : List Stmt) (t : DS) : Prop := PSs X st (upS X.K t)
def QG (X : Cx) (tg : Expr) (g : DG) : Prop := PG X tg (upG X.K g)
def QGs (X : Cx) (tg : List Expr) (g : DGs) : Prop := PGs X tg (upGs X.K g)
def OpD (X : Cx) (f : Value → Value → Sem Value) (r : DR2) : Prop := OpR X f (upR2 X.K r)
def UnD (X : Cx) (f : Value → Sem Value) (r : DR1) : Prop := UnR X f (upR1 X.K r)
def CallD (X : Cx) (f : Value) (r : DRn) : Prop := CallR X f (upRn X.K r)
def IxD (X : Cx) (r : DR2) : Prop := IxR X (upR2 X.K r)

theorem pe_mono {X : Cx} {e : Expr} {t t' : TE} (h : PE X e t) (i : ∀ τ H Q, t' τ H Q → t τ H Q) : PE X e t' := ⟨fun pins s σ H Q I q => h.run pins s σ H Q I (i σ H Q q)⟩
theorem pt_mono {X : Cx} {e : Expr} {t t' : TT} (h : PT X e t) (i : ∀ τ H Q, t' τ H Q → t τ H Q) : PT X e t' := ⟨fun pins s σ H Q I q => h.run pins s σ H Q I (i σ H Q q)⟩
theorem pw_mono {X : Cx} {e : Expr} {t t' : TT} (h : PW X e t) (i : ∀ τ H Q, t' τ H Q → t τ H Q) : PW X e t' := ⟨fun wh pins s σ H Q I q => h.run wh pins s σ H Q I (i σ H Q q)⟩
theorem pa_mono {X : Cx} {e : List Expr} {t t' : TA} (h : PA X e t) (i : ∀ τ H Q, t' τ H Q → t τ H Q) : PA X e t' := ⟨fun pos pins s σ H Q I q => h.run pos pins s σ H Q I (i σ H Q q)⟩
theorem ps_mono {X : Cx} {e : Stmt} {t t' : TS} (h : PS X e t) (i : ∀ D τ H, t' D τ H → t D τ H) : PS X e t' := ⟨fun pins s σ H D I q => h.run pins s σ H D I (i D σ H q)⟩
theorem pss_mono {X : Cx} {e : List Stmt} {t t' : TS} (h : PSs X e t) (i : ∀ D τ H, t' D τ H → t D τ H) : PSs X e t' := ⟨fun pins s σ H D I q => h.run pins s σ H D I (i D σ H q)⟩
theorem pg_mono {X : Cx} {e : Expr} {t t' : TG} (h : PG X e t) (i : ∀ v τ H Q, t' v τ H Q → t v τ H Q) : PG X e t' := ⟨fun pins s σ H v u Q I r q => h.run pins s σ H v u Q I r (i v σ H Q q)⟩
theorem pgs_mono {X : Cx} {e : List Expr} {t t' : TGs} (h : PGs X e t) (i : ∀ v τ H Q, t' v τ H Q → t v τ H Q) : PGs X e t' := ⟨fun pins s σ H v u Q I r q => h.run pins s σ H v u Q I r (i v σ H Q q)⟩
theorem opr_mono {X : Cx} {f : Value → Value → Sem Value} {r r' : R2} (h : OpR X f r) (i : ∀ x y H Q, r' x y H Q → r x y H Q) : OpR X f r' := fun pins s σ H x y v u Q I rx ry q => h pins s σ H x y v u Q I rx ry (i x y H Q q)
theorem unr_mono {X : Cx} {f : Value → Sem Value} {r r' : V → Hp → VK → Prop} (h : UnR X f r) (i : ∀ x H Q, r' x H Q → r x H Q) : UnR X f r' := fun pins s σ H x v Q I rx q => h pins s σ H x v Q I rx (i x H Q q)
theorem callr_mono {X : Cx} {f : Value} {r r' : List V → Hp → VK → Prop} (h : CallR X f r) (i : ∀ x H Q, r' x H Q → r x H Q) : CallR X f r' := fun pins s σ H xs us Q I rx q => h pins s σ H xs us Q I rx (i xs H Q q)
theorem ixr_mono {X : Cx} {r r' : R2} (h : IxR X r) (i : ∀ x y H Q, r' x y H Q → r x y H Q) : IxR X r' := fun va sl pins s σ H x y v u Q I rx ry q => h va sl pins s σ H x y v u Q I rx ry (i x y H Q q)

/-! ### names and constants -/
section
variable {X : Cx} {e a b c : Expr} {pos : Pos} {t ta tb tc : DE}
def dVar (i : Nat) : DE := fun σ G R => match σ[i]? with | some (some d) => R d G | _ => False
def dC (d : D) : DE := fun _ G R => R d G
theorem qv (i : Nat) {x : Str} {pos : Pos} (hN : X.N[i]? = some x := by rfl) (hv : Vis X.env.scope x := by first | exact Or.inl rfl | exact Or.inr (Or.inl rfl) | exact Or.inr (Or.inr rfl)) (hd : (x == ("__debug__" : Str)) = false := by decide)
    (hcd : (x == ("__classdict__" : Str)) = false := by decide) : QE X (.Name x pos) (dVar i) := by
  refine pe_mono (pe_var hN hv hd hcd) fun τ H Q h => ?_
  obtain ⟨σ, G, N, R, hs, hg, ht, q⟩ := h
  unfold dVar at ht
  split at ht
  · rename_i d e
    obtain ⟨v, h1, h2⟩ := hs.2 i d e
    exact ⟨v, h1, q.at hg ht h2⟩
  · exact ht.elim
theorem up_c {K : PySem.W.Frag} {d : D} {v : V} (h : ∀ H N, RD K H N d v) {τ : L2.St} {H : Hp} {Q : VK} (u : up K (dC d) τ H Q) : Q v H := by
  obtain ⟨σ, G, N, R, hs, hg, ht, q⟩ := u
  exact q.at hg ht (h H N)
theorem qe_int {i j pos} : QE X (.Constant (.int i) j pos) (dC (.int i)) := pe_mono pe_int fun _ _ _ h => up_c (fun _ _ => RD.int i) h
theorem qe_bl {i j pos} : QE X (.Constant (.bool i) j pos) (dC (.bl i)) := pe_mono pe_bl fun _ _ _ h => up_c (fun _ _ => RD.bl i) h
theorem qe_non {j pos} : QE X (.Constant .none j pos) (dC .non) := pe_mono pe_non fun _ _ _ h => up_c (fun _ _ => RD.non) h
theorem qe_str {i j pos} : QE X (.Constant (.str i) j pos) (dC (.str i)) := pe_mono pe_str fun _ _ _ h => up_c (fun _ _ => RD.str i) h
/-- a module's constant -/
theorem qe_glob {x : Str} {d : D} {v : V} {u : Value} {pos : Pos} (hg : Gl X x) (hm : X.mg x = some u) (r : RelV v u) (h : ∀ H N, RD X.K H N d v) (hd : (x == ("__debug__" : Str)) = false := by decide) : QE X (.Name x pos) (dC d) :=
  pe_mono (pe_glob hg hm r hd) fun _ _ _ z => up_c h z

/-! ### operators -/
def dOp (r : DR2) (ta tb : DE) : DE := fun σ G R => ta σ G fun x G1 => tb σ G1 fun y G2 => r x y G2 R
def dUn (r : DR1) (ta : DE) : DE := fun σ G R => ta σ G fun x G1 => r x G1 R
theorem up_op {K : PySem.W.Frag} {r : DR2} {τ : L2.St} {H : Hp} {Q : VK} (u : up K (dOp r ta tb) τ H Q) : tOp (upR2 K r) (up K ta) (up K tb) τ H Q := by
  obtain ⟨σ, G, N, R, hs, hg, ht, q⟩ := u
  refine ⟨σ, G, N, _, hs, hg, ht, fun x G1 N1 v1 H1 h1 s1 r1 => ?_⟩
  refine ⟨σ, G1, N1, _, hs.le s1.kp, s1.rel, h1, fun y G2 N2 v2 H2 h2 s2 r2 => ?_⟩
  exact ⟨x, y, G2, N2, R, r1.le s2.kp, r2, s2.rel, h2, q.le (s1.trans s2)⟩
theorem qe_op {op : Operator} {r : DR2} (ho : OpD X (binaryOp op) r) (ha : QE X a ta) (hb : QE X b tb) : QE X (.BinOp a op b pos) (dOp r ta tb) := pe_mono (pe_op ho ha hb) fun _ _ _ h => up_op h
theorem qe_cmp {op : CmpOp} {r : DR2} (ho : OpD X (compareOp op) r) (ha : QE X a ta) (hb : QE X b tb) (hm : behindInMarks op b = false) : QE X (.Compare a [op] [b] pos) (dOp r ta tb) := pe_mono (pe_cmpR ho ha hb hm) fun _ _ _ h => up_op h
theorem qe_ix {r : DR2} (ho : IxD X r) (ha : QE X a ta) (hb : QE X b tb) (hs : PlainIx b) : QE X (.Subscript a b pos) (dOp r ta tb) := pe_mono (pe_ix ho ha hb hs) fun _ _ _ h => up_op h
theorem qe_un {op : UnaryOp} {r : DR1} (ho : UnD X (unaryOp op) r) (ha : QE X a ta) : QE X (.UnaryOp op a pos) (dUn r ta) := by
  refine pe_mono (pe_un ho ha) fun τ H Q h => ?_
  obtain ⟨σ, G, N, R, hs, hg, ht, q⟩ := h
  refine ⟨σ, G, N, _, hs, hg, ht, fun x G1 N1 v1 H1 h1 s1 r1 => ?_⟩
  exact ⟨x, G1, N1, R, r1, s1.rel, h1, q.le s1⟩
/-- a op1 b op2 c -/
def dChain (r r' : DR2) (ta tb tc : DE) : DE := fun σ G R => ta σ G fun x G1 => tb σ G1 fun y G2 => r x y G2 fun z G3 => match z with | .bl true => tc σ G3 fun w G4 => r' y w G4 R | .bl false => R (.bl false) G3 | _ => False
theorem qe_chain {op op' : CmpOp} {r r' : DR2} (ho : OpD X (compareOp op) r) (ho' : OpD X (compareOp op') r') (ha : QE X a ta) (hb : QE X b tb) (hc : QE X c tc)
    (hm : lastMarks [op, op'] [b, c] = false := by with_unfolding_all rfl) : QE X (.Compare a [op, op'] [b, c] pos) (dChain r r' ta tb tc) := by
  refine pe_mono (pe_chain ho ho' ha hb hc hm) fun τ H Q h => ?_
  obtain ⟨σ, G, N, R, hs, hg, ht, q⟩ := h
  refine ⟨σ, G, N, _, hs, hg, ht, fun x G1 N1 v1 H1 h1 s1 r1 => ?_⟩
  refine ⟨σ, G1, N1, _, hs.le s1.kp, s1.rel, h1, fun y G2 N2 v2 H2 h2 s2 r2 => ?_⟩
  refine ⟨x, y, G2, N2, _, r1.le s2.kp, r2, s2.rel, h2, fun z G3 N3 v3 H3 h3 s3 r3 => ?_⟩
  have s13 := (s1.trans s2).trans s3
  split at h3
  · refine ⟨true, r3.of_bl, ?_⟩
    rw [if_pos rfl]
    refine ⟨σ, G3, N3, _, hs.le s13.kp, s3.rel, h3, fun w G4 N4 v4 H4 h4 s4 r4 => ?_⟩
    exact ⟨y, w, G4, N4, R, (r2.le s3.kp).le s4.kp, r4, s4.rel, h4, q.le (s13.trans s4)⟩
  · refine ⟨false, r3.of_bl, ?_⟩
    rw [if_neg Bool.false_ne_true]
    exact (q.le s13).at s3.rel h3 (RD.bl _)
  · exact h3.elim
/-! ### tests -/
/-- a value that is a bool, as a test -/
def dB (t : DE) : DT := fun σ G R => t σ G fun x G1 => match x with | .bl b => R b G1 | _ => False
theorem upT_B {K : PySem.W.Frag} {τ : L2.St} {H : Hp} {Q : Bool → Hp → Prop} (u : upT K (dB t) τ H Q) : tB (up K t) τ H Q := by
  obtain ⟨σ, G, N, R, hs, hg, ht, q⟩ := u
  refine ⟨σ, G, N, _, hs, hg, ht, fun x G1 N1 v1 H1 h1 s1 r1 => ?_⟩
  split at h1
  · exact ⟨_, r1.of_bl, q _ _ _ _ h1 s1⟩
  · exact h1.elim
theorem qt_val (h : QE X e t) (he : ∀ whole, isTrue e X.env whole = (do let v ← whole; standAt e.pos; holding [v] (truthy v)) := by intro _; rfl) : QT X e (dB t) := pt_mono (pt_val h he) fun _ _ _ z => upT_B z
theorem qt_cmp {op : CmpOp} {r : DR2} (ho : OpD X (compareOp op) r) (ha : QE X a ta) (hb : QE X b tb) (hm : behindInMarks op b = false) : QT X (.Compare a [op] [b] pos) (dB (dOp r ta tb)) :=
  pt_mono (pt_cmpR ho ha hb hm) fun τ H Q h => by
    obtain ⟨σ, G, N, R, hs, hg, ht, q⟩ := h
    refine up_op ⟨σ, G, N, _, hs, hg, ht, fun x G1 N1 v1 H1 h1 s1 r1 => ?_⟩
    split at h1
    · exact ⟨_, r1.of_bl, q _ _ _ _ h1 s1⟩
    · exact h1.elim
theorem up_chain {K : PySem.W.Frag} {r r' : DR2} {τ : L2.St} {H : Hp} {Q : VK} (u : up K (dChain r r' ta tb tc) τ H Q) : tChain (upR2 K r) (upR2 K r') (up K ta) (up K tb) (up K tc) τ H Q := by
  obtain ⟨σ, G, N, R, hs, hg, ht, q⟩ := u
  refine ⟨σ, G, N, _, hs, hg, ht, fun x G1 N1 v1 H1 h1 s1 r1 => ?_⟩
  refine ⟨σ, G1, N1, _, hs.le s1.kp, s1.rel, h1, fun y G2 N2 v2 H2 h2 s2 r2 => ?_⟩
  refine ⟨x, y, G2, N2, _, r1.le s2.kp, r2, s2.rel, h2, fun z G3 N3 v3 H3 h3 s3 r3 => ?_⟩
  have s13 := (s1.trans s2).trans s3
  split at h3
  · refine ⟨true, r3.of_bl, ?_⟩
    rw [if_pos rfl]
    refine ⟨σ, G3, N3, _, hs.le s13.kp, s3.rel, h3, fun w G4 N4 v4 H4 h4 s4 r4 => ?_⟩
    exact ⟨y, w, G4, N4, R, (r2.le s3.kp).le s4.kp, r4, s4.rel, h4, q.le (s13.trans s4)⟩
  · refine ⟨false, r3.of_bl, ?_⟩
    rw [if_neg Bool.false_ne_true]
    exact (q.le s13).at s3.rel h3 (RD.bl _)
  · exact h3.elim
theorem qt_chain {op op' : CmpOp} {r r' : DR2} (ho : OpD X (compareOp op) r) (ho' : OpD X (compareOp op') r') (ha : QE X a ta) (hb : QE X b tb) (hc : QE X c tc)
    (hm : lastMarks [op, op'] [b, c] = false := by with_unfolding_all rfl) : QT X (.Compare a [op, op'] [b, c] pos) (dB (dChain r r' ta tb tc)) :=
  pt_mono (pt_chain ho ho' ha hb hc hm) fun τ H Q h => by
    obtain ⟨σ, G, N, R, hs, hg, ht, q⟩ := h
    refine up_chain ⟨σ, G, N, _, hs, hg, ht, fun x G1 N1 v1 H1 h1 s1 r1 => ?_⟩
    split at h1
    · exact ⟨_, r1.of_bl, q _ _ _ _ h1 s1⟩
    · exact h1.elim
variable {u u' : DT} {rest : List Expr}
def dAnd (t u : DT) : DT := fun σ G R => t σ G fun c G1 => match c with | true => u σ G1 R | false => R false G1
def dOr (t u : DT) : DT := fun σ G R => t σ G fun c G1 => match c with | true => R true G1 | false => u σ G1 R
def dNot (t : DT) : DT := fun σ G R => t σ G fun c G1 => R (!c) G1
theorem QW.pt (h : QW X e u) : QT X e u := PW.pt h
theorem qw_and1 (ha : QT X a u) : QW X (.BoolOp .And [a] pos) u := pw_and1 ha
theorem qw_or1 (ha : QT X a u) : QW X (.BoolOp .Or [a] pos) u := pw_or1 ha
theorem qw_and (ha : QT X a u) (hb : QW X (.BoolOp .And (b :: rest) pos) u') : QW X (.BoolOp .And (a :: b :: rest) pos) (dAnd u u') :=
  pw_mono (pw_and ha hb) fun τ H Q h => by
    obtain ⟨σ, G, N, R, hs, hg, ht, q⟩ := h
    refine ⟨σ, G, N, _, hs, hg, ht, fun c G1 N1 H1 h1 s1 => ?_⟩
    cases c with
    | true => rw [if_pos rfl]; exact ⟨σ, G1, N1, R, hs.le s1.kp, s1.rel, h1, fun b G2 N2 H2 h2 s2 => q b G2 N2 H2 h2 (s1.trans s2)⟩
    | false => rw [if_neg Bool.false_ne_true]; exact q _ _ _ _ h1 s1
theorem qw_or (ha : QT X a u) (hb : QW X (.BoolOp .Or (b :: rest) pos) u') : QW X (.BoolOp .Or (a :: b :: rest) pos) (dOr u u') :=
  pw_mono (pw_or ha hb) fun τ H Q h => by
    obtain ⟨σ, G, N, R, hs, hg, ht, q⟩ := h
    refine ⟨σ, G, N, _, hs, hg, ht, fun c G1 N1 H1 h1 s1 => ?_⟩
    cases c with
    | true => rw [if_pos rfl]; exact q _ _ _ _ h1 s1
    | false => rw [if_neg Bool.false_ne_true]; exact ⟨σ, G1, N1, R, hs.le s1.kp, s1.rel, h1, fun b G2 N2 H2 h2 s2 => q b G2 N2 H2 h2 (s1.trans s2)⟩
theorem qt_not (ha : QT X a u) : QT X (.UnaryOp .Not a pos) (dNot u) :=
  pt_mono (pt_not ha) fun τ H Q h => by
    obtain ⟨σ, G, N, R, hs, hg, ht, q⟩ := h
    exact ⟨σ, G, N, _, hs, hg, ht, fun c G1 N1 H1 h1 s1 => q _ _ _ _ h1 s1⟩
/-- .. as values that are bools -/
def dAndV (ta tb : DE) : DE := fun σ G R => ta σ G fun x G1 => match x with | .bl true => tb σ G1 R | .bl false => R (.bl false) G1 | _ => False
def dOrV (ta tb : DE) : DE := fun σ G R => ta σ G fun x G1 => match x with | .bl true => R (.bl true) G1 | .bl false => tb σ G1 R | _ => False
def dNotV (ta : DE) : DE := fun σ G R => ta σ G fun x G1 => match x with | .bl c => R (.bl (!c)) G1 | _ => False
theorem qe_one {op} (h : QE X a t) : QE X (.BoolOp op [a] pos) t := pe_one h
theorem qe_and (ha : QE X a ta) (hb : QE X (.BoolOp .And (b :: rest) pos) tb) : QE X (.BoolOp .And (a :: b :: rest) pos) (dAndV ta tb) :=
  pe_mono (pe_and ha hb) fun τ H Q h => by
    obtain ⟨σ, G, N, R, hs, hg, ht, q⟩ := h
    refine ⟨σ, G, N, _, hs, hg, ht, fun x G1 N1 v1 H1 h1 s1 r1 => ?_⟩
    split at h1
    · refine ⟨true, r1.of_bl, ?_⟩
      rw [if_pos rfl]
      exact ⟨σ, G1, N1, R, hs.le s1.kp, s1.rel, h1, q.le s1⟩
    · refine ⟨false, r1.of_bl, ?_⟩
      rw [if_neg Bool.false_ne_true]
      exact (q.le s1).at s1.rel h1 (RD.bl _)
    · exact h1.elim
theorem qe_or (ha : QE X a ta) (hb : QE X (.BoolOp .Or (b :: rest) pos) tb) : QE X (.BoolOp .Or (a :: b :: rest) pos) (dOrV ta tb) :=
  pe_mono (pe_or ha hb) fun τ H Q h => by
    obtain ⟨σ, G, N, R, hs, hg, ht, q⟩ := h
    refine ⟨σ, G, N, _, hs, hg, ht, fun x G1 N1 v1 H1 h1 s1 r1 => ?_⟩
    split at h1
    · refine ⟨true, r1.of_bl, ?_⟩
      rw [if_pos rfl]
      exact (q.le s1).at s1.rel h1 (RD.bl _)
    · refine ⟨false, r1.of_bl, ?_⟩
      rw [if_neg Bool.false_ne_true]
      exact ⟨σ, G1, N1, R, hs.le s1.kp, s1.rel, h1, q.le s1⟩
    · exact h1.elim
theorem qe_not (ha : QE X a ta) : QE X (.UnaryOp .Not a pos) (dNotV ta) :=
  pe_mono (pe_not ha) fun τ H Q h => by
    obtain ⟨σ, G, N, R, hs, hg, ht, q⟩ := h
    refine ⟨σ, G, N, _, hs, hg, ht, fun x G1 N1 v1 H1 h1 s1 r1 => ?_⟩
    split at h1
    · exact ⟨_, r1.of_bl, (q.le s1).at s1.rel h1 (RD.bl _)⟩
    · exact h1.elim
def dIf (t : DT) (ta tb : DE) : DE := fun σ G R => t σ G fun c G1 => match c with | true => ta σ G1 R | false => tb σ G1 R
theorem qe_ifExp (hc : QT X c u) (ha : QE X a ta) (hb : QE X b tb) : QE X (.IfExp c a b pos) (dIf u ta tb) :=
  pe_mono (pe_ifExp hc ha hb) fun τ H Q h => by
    obtain ⟨σ, G, N, R, hs, hg, ht, q⟩ := h
    refine ⟨σ, G, N, _, hs, hg, ht, fun c G1 N1 H1 h1 s1 => ?_⟩
    cases c with
    | true => rw [if_pos rfl]; exact ⟨σ, G1, N1, R, hs.le s1.kp, s1.rel, h1, q.le s1⟩
    | false => rw [if_neg Bool.false_ne_true]; exact ⟨σ, G1, N1, R, hs.le s1.kp, s1.rel, h1, q.le s1⟩
/-! ### argument lists, displays -/
variable {es : List Expr} {tr : DA}
def dNil : DA := fun _ G R => R [] G
def dCons (ta : DE) (tr : DA) : DA := fun σ G R => ta σ G fun x G1 => tr σ G1 fun xs G2 => R (x :: xs) G2
theorem qa_nil : QA X [] dNil := pa_mono pa_nil fun τ H Q h => by
  obtain ⟨σ, G, N, R, hs, hg, ht, q⟩ := h
  exact q [] G N [] H ht (Stp.refl hg) RDs.nil
theorem qa_cons (ha : QE X e t) (hr : QA X es tr) (hs : starEach (e :: es) X.env = (false, eval e X.env) :: starEach es X.env := by rfl) : QA X (e :: es) (dCons t tr) :=
  pa_mono (pa_cons ha hr hs) fun τ H Q h => by
    obtain ⟨σ, G, N, R, hs, hg, ht, q⟩ := h
    refine ⟨σ, G, N, _, hs, hg, ht, fun x G1 N1 v1 H1 h1 s1 r1 => ?_⟩
    refine ⟨σ, G1, N1, _, hs.le s1.kp, s1.rel, h1, fun ds G2 N2 vs H2 h2 s2 r2 => ?_⟩
    exact q _ G2 N2 _ H2 h2 (s1.trans s2) (RDs.cons (r1.le s2.kp) r2)
/-- a new list: known (to be changed), or one that nobody changes -/
def newL (mk : Bool) (ds : List D) (G : Gp) (R : DK) : Prop := match mk with | true => ∀ p, G p = none → R (.ref p) (gup G p (.lst ds)) | false => R (.lst ds) G
theorem newL_ok {K : PySem.W.Frag} {mk : Bool} {H : Hp} {N : Ns} {G : Gp} {ds : List D} {vs : List V} {R : DK} {Q : VK} (r : RelG K H N G) (rd : RDs K H N ds vs) (h : newL mk ds G R) (q : UpQ K H N G R Q) {p : Addr} (np : H p = none) : Q (.ref p) (upd H p (.lst vs)) := by
  cases mk with
  | true =>
    exact q _ _ _ _ _ (h p (r.free np)) (Stp.new (u := .lst vs) (o := .lst ds) r np ⟨vs, upd_same, rd.le (Kp.new np)⟩) (RD.ref p)
  | false =>
    exact q _ _ _ _ _ h (Stp.newV (u := .lst vs) r np) (RD.lst (.inl ⟨upd_same, fun z => z.1 rfl⟩) (rd.le (Kp.newV np)))
theorem newT_ok {K : PySem.W.Frag} {H : Hp} {N : Ns} {G : Gp} {ds : List D} {vs : List V} {R : DK} {Q : VK} (r : RelG K H N G) (rd : RDs K H N ds vs) (h : R (.tup ds) G) (q : UpQ K H N G R Q) {p : Addr} (np : H p = none) : Q (.ref p) (upd H p (.tup vs)) :=
  q _ _ _ _ _ h (Stp.new0 (u := .tup vs) r np) (RD.tup (.inl (.inl upd_same)) (rd.le (Kp.new0 np)))
def dTup (t : DA) : DE := fun σ G R => t σ G fun ds G1 => ds.length ≤ sizeLine ∧ R (.tup ds) G1
def dLst (mk : Bool) (t : DA) : DE := fun σ G R => t σ G fun ds G1 => ds.length ≤ sizeLine ∧ newL mk ds G1 R
theorem qe_tup {x1} (h : QA X es tr) : QE X (.Tuple es x1 pos) (dTup tr) := pe_mono (pe_tup h) fun τ H Q h => by
  obtain ⟨σ, G, N, R, hs, hg, ht, q⟩ := h
  refine ⟨σ, G, N, _, hs, hg, ht, fun ds G1 N1 vs H1 h1 s1 r1 => ⟨by rw [← r1.length]; exact h1.1, fun p np => ?_⟩⟩
  exact newT_ok s1.rel r1 h1.2 (q.le s1) np
theorem qe_lst (mk : Bool) (h : QA X es tr) : QE X (.List es pos) (dLst mk tr) := pe_mono (pe_lst h) fun τ H Q h => by
  obtain ⟨σ, G, N, R, hs, hg, ht, q⟩ := h
  refine ⟨σ, G, N, _, hs, hg, ht, fun ds G1 N1 vs H1 h1 s1 r1 => ⟨by rw [← r1.length]; exact h1.1, fun p np => ?_⟩⟩
  exact newL_ok s1.rel r1 h1.2 (q.le s1) np
/-! ### calls of built-ins -/
def dCallB (r : DRn) (t : DA) : DE := fun σ G R => t σ G fun ds G1 => r ds G1 R
end
end DL

set_option Elab.async false
set_option linter.all false
set_option maxRecDepth 100000
set_option maxHeartbeats 4000000
set_option autoImplicit false
namespace DL
open PySem PySem.Spec PyProof.Rows L2

/-! ### blocks and small statements -/
theorem UpE.le {K : PySem.W.Frag} {H H1 : Hp} {N N1 : Ns} {G G1 : Gp} {E : DEnds} {D : Ends} (u : UpE K H N G E D) (s : Stp K H N G H1 N1 G1) : UpE K H1 N1 G1 E D :=
  ⟨fun σ' G' N' τ' H' h s' => u.nx σ' G' N' τ' H' h (s.trans s'), u.rt.le s, fun σ' G' N' τ' H' h s' => u.bk σ' G' N' τ' H' h (s.trans s'), fun σ' G' N' τ' H' h s' => u.ct σ' G' N' τ' H' h (s.trans s')⟩
section
variable {X : Cx} {st : Stmt} {rest : List Stmt} {t u : DS} {e : Expr} {te : DE} {pos : Pos}
def dNext : DS := fun D σ G => D.nx σ G
def dSeq (t u : DS) : DS := fun D σ G => t { D with nx := u D } σ G
theorem qss_nil : QSs X [] dNext := pss_mono pss_nil fun D τ H h => by
  obtain ⟨σ, G, N, E, hs, hg, ht, q⟩ := h
  exact q.nx _ _ _ _ _ ht (Stp.refl hg) hs
theorem qss_cons (h1 : QS X st t) (h2 : QSs X rest u) : QSs X (st :: rest) (dSeq t u) := pss_mono (pss_cons h1 h2) fun D τ H h => by
  obtain ⟨σ, G, N, E, hs, hg, ht, q⟩ := h
  refine ⟨σ, G, N, _, hs, hg, ht, ⟨fun σ' G' N' τ' H' h s' r => ?_, q.rt, q.bk, q.ct⟩⟩
  exact ⟨σ', G', N', E, r, s'.rel, h, q.le s'⟩
theorem qss_one (h1 : QS X st t) : QSs X [st] t := pss_mono (pss_one h1) fun D τ H h => h
def dBreak : DS := fun D σ G => D.bk σ G
def dCont : DS := fun D σ G => D.ct σ G
theorem qs_pass : QS X (.Pass pos) dNext := ps_mono ps_pass fun D τ H h => by
  obtain ⟨σ, G, N, E, hs, hg, ht, q⟩ := h
  exact q.nx _ _ _ _ _ ht (Stp.refl hg) hs
theorem qs_break : QS X (.Break pos) dBreak := ps_mono ps_break fun D τ H h => by
  obtain ⟨σ, G, N, E, hs, hg, ht, q⟩ := h
  exact q.bk _ _ _ _ _ ht (Stp.refl hg) hs
theorem qs_continue : QS X (.Continue pos) dCont := ps_mono ps_continue fun D τ H h => by
  obtain ⟨σ, G, N, E, hs, hg, ht, q⟩ := h
  exact q.ct _ _ _ _ _ ht (Stp.refl hg) hs
theorem qs_doc {x j pos pos'} : QS X (.Expr (.Constant (.str x) j pos) pos') dNext := ps_mono ps_doc fun D τ H h => by
  obtain ⟨σ, G, N, E, hs, hg, ht, q⟩ := h
  exact q.nx _ _ _ _ _ ht (Stp.refl hg) hs
def dDrop (te : DE) : DS := fun D σ G => te σ G fun _ G1 => D.nx σ G1
theorem qs_expr (he : QE X e te) (hs : swapsWith e none pos.line X.env = pure false := by rfl) : QS X (.Expr e pos) (dDrop te) := ps_mono (ps_expr he hs) fun D τ H h => by
  obtain ⟨σ, G, N, E, hs, hg, ht, q⟩ := h
  exact ⟨σ, G, N, _, hs, hg, ht, fun d G' N' v H' h s' r => q.nx _ _ _ _ _ h s' (hs.le s'.kp)⟩
/-- what may be said instead: fewer known things, a list that is left alone from now on -/
inductive Wk (G : Gp) : D → D → Gp → Prop where
  | same {d : D} {G0 : Gp} : Sub G0 G → Wk G d d G0
  | lst {p : Addr} {ds : List D} {G0 : Gp} : G p = some (.lst ds) → Sub G0 G → G0 p = none → Wk G (.ref p) (.lst ds) G0
theorem UpQ.wk {K : PySem.W.Frag} {H0 H : Hp} {N0 N : Ns} {G0 G G' : Gp} {R : DK} {Q : VK} {d d' : D} {v : V} (q : UpQ K H0 N0 G0 R Q) (s : Stp K H0 N0 G0 H N G) (rd : RD K H N d v) (w : Wk G d d' G') (h : R d' G') (hy : ∀ p, G p ≠ none → H0 p = none ∨ G0 p ≠ none) : Q v H := by
  cases w with
  | same sb => exact q _ _ _ _ _ h (s.trans (s.rel.sub sb)) rd
  | @lst p ds _ e sb n =>
    obtain rfl := rd.of_ref
    obtain ⟨hN, vs, hv, hd⟩ := s.rel p _ e
    have s2 := (s.trans (s.rel.sub sb)).calm (hy p (by rw [e]; simp)) n
    exact q _ _ _ _ _ h s2 (RD.lst (.inl ⟨hv, fun z => z.1 rfl⟩) (hd.le Kp.calm))
theorem Stp.old {K : PySem.W.Frag} {H0 H : Hp} {N0 N : Ns} {G0 G : Gp} (s : Stp K H0 N0 G0 H N G) (p : Addr) (h : G p ≠ none) : H0 p = none ∨ G0 p ≠ none := by
  cases e : H0 p with
  | none => exact .inl rfl
  | some u =>
    refine .inr fun n => h ?_
    exact (s.fr p u e n).2.1
def dRet (te : DE) : DS := fun D σ G => te σ G fun d G1 => ∃ d' G', Wk G1 d d' G' ∧ D.rt d' G'
theorem qs_ret (he : QE X e te) : QS X (.Return (some e) pos) (dRet te) := ps_mono (ps_ret he) fun D τ H h => by
  obtain ⟨σ, G, N, E, hs, hg, ht, q⟩ := h
  refine ⟨σ, G, N, _, hs, hg, ht, fun d G' N' v H' h s' r => ?_⟩
  obtain ⟨d', G2, w, h⟩ := h
  exact q.rt.wk s' r w h s'.old
def dRetN : DS := fun D _ G => ∃ G', Sub G' G ∧ D.rt .non G'
theorem qs_retN : QS X (.Return none pos) dRetN := ps_mono ps_retN fun D τ H h => by
  obtain ⟨σ, G, N, E, hs, hg, ⟨G', sb, ht⟩, q⟩ := h
  exact q.rt _ _ _ _ _ ht (hg.sub sb) RD.non
def dIfS (c : DT) (t u : DS) : DS := fun D σ G => c σ G fun b G1 => match b with | true => t D σ G1 | false => u D σ G1
theorem qs_if {c : Expr} {a b : List Stmt} {tc : DT} (hc : QT X c tc) (ha : QSs X a t) (hb : QSs X b u) : QS X (.If c a b pos) (dIfS tc t u) := ps_mono (ps_if hc ha hb) fun D τ H h => by
  obtain ⟨σ, G, N, E, hs, hg, ht, q⟩ := h
  refine ⟨σ, G, N, _, hs, hg, ht, fun b G1 N1 H1 h1 s1 => ?_⟩
  cases b with
  | true => rw [if_pos rfl]; exact ⟨σ, G1, N1, E, hs.le s1.kp, s1.rel, h1, q.le s1⟩
  | false => rw [if_neg Bool.false_ne_true]; exact ⟨σ, G1, N1, E, hs.le s1.kp, s1.rel, h1, q.le s1⟩
def dNever : DS := fun _ _ _ => False
theorem qs_never : QS X st dNever := ⟨fun _ _ _ _ _ _ h => by obtain ⟨_, _, _, _, _, _, h, _⟩ := h; exact h.elim⟩
theorem qss_never {sts : List Stmt} : QSs X sts dNever := ⟨fun _ _ _ _ _ _ h => by obtain ⟨_, _, _, _, _, _, h, _⟩ := h; exact h.elim⟩
end
/-! ### targets -/
section
variable {X : Cx} {e : Expr} {te : DE} {pos : Pos}
def setAll (σ : Sd) : List Nat → List D → Sd
  | i :: is, d :: ds => setAll (σ.set i (some d)) is ds
  | _, _ => σ
def setAllV (σ : L2.St) : List Nat → List V → L2.St
  | i :: is, d :: ds => setAllV (σ.set i (some d)) is ds
  | _, _ => σ
theorem RSt.setAll {K : PySem.W.Frag} {H : Hp} {N : Ns} : ∀ (is : List Nat) {ds : List D} {vs : List V} {σ : Sd} {τ : L2.St}, RSt K H N σ τ → RDs K H N ds vs → RSt K H N (setAll σ is ds) (setAllV τ is vs)
  | [], _, _, _, _, h, _ => h
  | i :: is, [], _, _, _, h, r => by rw [r.of_nil]; exact h
  | i :: is, d :: ds, _, _, _, h, r => by
    obtain ⟨v, rr, rfl, r1, r2⟩ := r.of_cons
    exact RSt.setAll is (h.set r1 i) r2
/-- what a target does: by data, by values; the slots vs alone are changed -/
def TgOk (K : PySem.W.Frag) (vg : TG) (dg : DG) (ws : List Nat) : Prop :=
  ∀ (d : D) (v : V) (σ : Sd) (τ : L2.St) (H : Hp) (N : Ns) (G : Gp) (R : Sd → Gp → Prop) (Q : L2.St → Hp → Prop), RD K H N d v → RSt K H N σ τ → RelG K H N G → dg d σ G R →
    (∀ σ' τ', R σ' G → RSt K H N σ' τ' → wipe τ' ws = wipe τ ws → Q τ' H) → vg v τ H Q
theorem wipe_set {τ : L2.St} {i : Nat} {x : Option V} : ∀ {ws : List Nat}, i ∈ ws → wipe (τ.set i x) ws = wipe τ ws
  | [], h => by cases h
  | w :: ws, h => by
    unfold wipe
    by_cases e : i ∈ ws
    · rw [wipe_set e]
    · have e2 : i = w := by
        rcases List.mem_cons.mp h with h | h
        · exact h
        · exact absurd h e
      subst e2
      have aux : ∀ vs : List Nat, i ∉ vs → wipe (τ.set i x) vs = (wipe τ vs).set i x := by
        intro vs
        induction vs with
        | nil => intro _; rfl
        | cons v vs ih =>
          intro hv
          unfold wipe
          rw [ih (fun z => hv (List.mem_cons_of_mem _ z)), List.set_comm]
          exact fun z => hv (by rw [z]; exact List.mem_cons_self)
      rw [aux ws e, List.set_set]
def dName (i : Nat) : DG := fun d σ G R => R (σ.set i (some d)) G
theorem tg_name {K : PySem.W.Frag} {ws : List Nat} {i : Nat} (h : i ∈ ws) : TgOk K (gName i) (dName i) ws := fun d v σ τ H N G R Q rd rs rg h0 q => q _ _ h0 (rs.set rd i) (wipe_set h)
def gNames : List Nat → TGs
  | [] => gNil
  | i :: is => gCons (gName i) (gNames is)
theorem gNames_ok {Q : L2.St → Hp → Prop} : ∀ {is : List Nat} {vs : List V} {τ : L2.St} {H : Hp}, vs.length = is.length → Q (setAllV τ is vs) H → gNames is vs τ H Q
  | [], [], _, _, _, h => ⟨rfl, h⟩
  | [], _ :: _, _, _, e, _ => by simp at e
  | i :: is, [], _, _, e, _ => by simp at e
  | i :: is, v :: vs, τ, H, e, h => ⟨v, vs, rfl, gNames_ok (by simpa using e) h⟩
theorem wipe_setAll : ∀ {is : List Nat} {vs : List V} {τ : L2.St} {ws : List Nat}, (∀ i ∈ is, i ∈ ws) → wipe (setAllV τ is vs) ws = wipe τ ws
  | [], _, _, _, _ => by simp [setAllV]
  | i :: is, [], _, _, _ => by simp [setAllV]
  | i :: is, v :: vs, τ, ws, h => by
    rw [setAllV, wipe_setAll (fun j hj => h j (List.mem_cons_of_mem _ hj)), wipe_set (h i List.mem_cons_self)]
def dNames (is : List Nat) : DG := fun d σ G R => match d with | .tup ds => ds.length = is.length ∧ R (setAll σ is ds) G | _ => False
theorem tg_names {K : PySem.W.Frag} {ws is : List Nat} {n : Nat} (h : ∀ i ∈ is, i ∈ ws) (hn : is.length = n) : TgOk K (gTup K n (gNames is)) (dNames is) ws := fun d v σ τ H N G R Q rd rs rg h0 q => by
  unfold dNames at h0
  split at h0
  · rename_i ds
    obtain ⟨p, vs, rfl, sq, r⟩ := rd.of_tup
    have hl := r.length
    refine ⟨p, vs, rfl, sq, by omega, gNames_ok (by omega) ?_⟩
    exact q _ _ h0.2 (RSt.setAll is rs r) (wipe_setAll h)
  · exact h0.elim
/-- a target, by data -/
theorem qg_of {tg : Expr} {vg : TG} {dg : DG} {ws : List Nat} (h : PG X tg vg) (t : TgOk X.K vg dg ws) : QG X tg dg := pg_mono h fun v τ H Q h => by
  obtain ⟨d, σ, G, N, R, rd, rs, rg, h0, q⟩ := h
  exact t d v σ τ H N G R Q rd rs rg h0 fun σ' τ' h1 r1 _ => q _ _ _ _ _ h1 (Stp.refl rg) r1
theorem pgs_names : ∀ (is : List Nat) {es : List Expr}, PGs X es (gNames is) → PGs X es (gNames is) := fun _ _ h => h
/-- name = value -/
def dAsg (te : DE) (g : DG) : DS := fun D σ G => te σ G fun x G1 => g x σ G1 D.nx
theorem upS_asg {K : PySem.W.Frag} {g : DG} {D : Ends} {τ : L2.St} {H : Hp} (h : upS K (dAsg te g) D τ H) : tAsg (up K te) (upG K g) D τ H := by
  obtain ⟨σ, G, N, E, hs, hg, ht, q⟩ := h
  refine ⟨σ, G, N, _, hs, hg, ht, fun d G' N' v H' h s' r => ?_⟩
  exact ⟨d, σ, G', N', _, r, hs.le s'.kp, s'.rel, h, fun σ2 G2 N2 τ2 H2 h2 s2 r2 => q.nx _ _ _ _ _ h2 (s'.trans s2) r2⟩
theorem qs_set {i : Nat} {x : Str} {pos' : Pos} (hN : X.N.Nodup) (hi : X.N[i]? = some x) (hx : Loc X.env.scope x) (he : QE X e te) (hs : swapsWith e (some (.Name x pos')) pos.line X.env = pure false := by rfl) (hf : X.fn x = true ∨ X.env.scope.names.lookup x = some .local := by first | exact .inl rfl | exact .inr rfl | assumption) :
    QS X (.Assign [.Name x pos'] e pos) (dAsg te (dName i)) := ps_mono (ps_set hN hi hx he hs hf) fun D τ H h => by
  obtain ⟨σ, G, N, E, hs, hg, ht, q⟩ := h
  refine ⟨σ, G, N, _, hs, hg, ht, fun d G' N' v H' h s' r => ?_⟩
  exact q.nx _ _ _ _ _ h s' ((hs.le s'.kp).set r i)
theorem qs_asg {tg : Expr} {g : DG} (he : QE X e te) (hg : QG X tg g) (hs : swapsWithSole [tg] e pos.line X.env = pure false := by rfl) (hw : swappedStores [tg] e X.env = pure none := by rfl)
    (h1 : (assignEach [tg] X.env).map (·.2) = [assign tg X.env] := by rfl) : QS X (.Assign [tg] e pos) (dAsg te g) := ps_mono (ps_asg he hg hs hw h1) fun D τ H h => upS_asg h
/-- o[i] = .. , by data -/
abbrev DSet := D → D → D → Gp → (Gp → Prop) → Prop
def upSet (K : PySem.W.Frag) (r : DSet) : TSet := fun o i v H Q => ∃ c d e G N R, RD K H N c o ∧ RD K H N d i ∧ RD K H N e v ∧ RelG K H N G ∧ r c d e G R ∧ ∀ G' N' H', R G' → Stp K H N G H' N' G' → Q H'
def SetD (X : Cx) (r : DSet) : Prop := PSet X (upSet X.K r)
def dSub (to ti : DE) (r : DSet) : DG := fun v σ G R => to σ G fun o G1 => ti σ G1 fun i G2 => r o i v G2 fun G3 => R σ G3
theorem qg_sub {o i : Expr} {to ti : DE} {r : DSet} (ho : QE X o to) (hi : QE X i ti) (hs : SetD X r)
    (ha : ∀ v, assign (.Subscript o i pos) X.env v = (do
      let ov ← holding [v] (eval o X.env)
      let iv ← holding [v, ov] (eval i X.env)
      standAt pos
      holding [v, ov, iv] (setItem ov iv v)
      release [v, ov, iv] []) := by intro _; rfl) : QG X (.Subscript o i pos) (dSub to ti r) := pg_mono (pg_sub ho hi hs ha) fun v τ H Q h => by
  obtain ⟨d, σ, G, N, R, rd, rs, rg, h0, q⟩ := h
  refine ⟨σ, G, N, _, rs, rg, h0, fun x G1 N1 v1 H1 h1 s1 r1 => ?_⟩
  refine ⟨σ, G1, N1, _, rs.le s1.kp, s1.rel, h1, fun y G2 N2 v2 H2 h2 s2 r2 => ?_⟩
  exact ⟨x, y, d, G2, N2, _, r1.le s2.kp, r2, (rd.le s1.kp).le s2.kp, s2.rel, h2, fun G3 N3 H3 h3 s3 => q _ _ _ _ _ h3 ((s1.trans s2).trans s3) (((rs.le s1.kp).le s2.kp).le s3.kp)⟩
/-- name op= e -/
def dAug (i : Nat) (te : DE) (r : DR2) : DS := fun D σ G => match σ[i]? with | some (some x) => te σ G fun y G1 => r x y G1 fun z G2 => D.nx (σ.set i (some z)) G2 | _ => False
theorem qs_aug {i : Nat} {x : Str} {op : Operator} {r : DR2} {pos' : Pos} (hN : X.N.Nodup) (hi : X.N[i]? = some x) (hx : Loc X.env.scope x) (he : QE X e te) (ho : OpD X (inplaceOp op) r) (hf : X.fn x = true ∨ X.env.scope.names.lookup x = some .local := by first | exact .inl rfl | exact .inr rfl | assumption) :
    QS X (.AugAssign (.Name x pos') op e pos) (dAug i te r) := ps_mono (ps_aug (ti := upR2 X.K r) hN hi hx he (fun pins s σ H x y v u Q I r1 r2 q => ho pins s σ H x y v u Q I r1 r2 q) hf) fun D τ H h => by
  obtain ⟨σ, G, N, E, hs, hg, ht, q⟩ := h
  unfold dAug at ht
  split at ht
  · rename_i d ed
    obtain ⟨v, h1, h2⟩ := hs.2 i d ed
    refine ⟨v, h1, σ, G, N, _, hs, hg, ht, fun y G1 N1 v1 H1 h3 s1 r1 => ?_⟩
    exact ⟨d, y, G1, N1, _, h2.le s1.kp, r1, s1.rel, h3, fun z G2 N2 v2 H2 h4 s2 r4 => q.nx _ _ _ _ _ h4 (s1.trans s2) (((hs.le s1.kp).le s2.kp).set r4 i)⟩
  · exact ht.elim
/-- o[i] op= e -/
def upGet (K : PySem.W.Frag) (r : DR2) : V → V → Hp → VK → Prop := upR2 K r
def GetD (X : Cx) (r : DR2) : Prop := PGet X (upR2 X.K r)
def dAugS (to ti te : DE) (rg rp : DR2) (rs : DSet) : DS := fun D σ G => to σ G fun o G1 => ti σ G1 fun i G2 => rg o i G2 fun x G3 => te σ G3 fun y G4 => rp x y G4 fun z G5 => rs o i z G5 fun G6 => D.nx σ G6
theorem qs_augS {o i : Expr} {to ti : DE} {rg rp : DR2} {rs : DSet} {op : Operator} {tpos : Pos} (ho : QE X o to) (hi : QE X i ti) (hg : GetD X rg) (he : QE X e te) (hp : OpD X (inplaceOp op) rp) (hs : SetD X rs)
    (ha : ∀ ov iv new, augStore i ov iv new = (do holding [new, ov, iv] (setItem ov iv new); release [new, ov, iv] []; pure .next) := by intros; rfl) : QS X (.AugAssign (.Subscript o i tpos) op e pos) (dAugS to ti te rg rp rs) :=
  ps_mono (ps_augS (tip := upR2 X.K rp) ho hi hg he (fun pins s σ H x y v u Q I r1 r2 q => hp pins s σ H x y v u Q I r1 r2 q) hs ha) fun D τ H h => by
  obtain ⟨σ, G, N, E, hs, hg, ht, q⟩ := h
  refine ⟨σ, G, N, _, hs, hg, ht, fun o G1 N1 v1 H1 h1 s1 r1 => ?_⟩
  refine ⟨σ, G1, N1, _, hs.le s1.kp, s1.rel, h1, fun i G2 N2 v2 H2 h2 s2 r2 => ?_⟩
  refine ⟨o, i, G2, N2, _, r1.le s2.kp, r2, s2.rel, h2, fun x G3 N3 v3 H3 h3 s3 r3 => ?_⟩
  have s13 := (s1.trans s2).trans s3
  refine ⟨σ, G3, N3, _, hs.le s13.kp, s3.rel, h3, fun y G4 N4 v4 H4 h4 s4 r4 => ?_⟩
  refine ⟨x, y, G4, N4, _, r3.le s4.kp, r4, s4.rel, h4, fun z G5 N5 v5 H5 h5 s5 r5 => ?_⟩
  have s25 := ((s2.trans s3).trans s4).trans s5
  have s15 := s1.trans s25
  exact ⟨o, i, z, G5, N5, _, r1.le s25.kp, r2.le ((s3.trans s4).trans s5).kp, r5, s5.rel, h5, fun G6 N6 H6 h6 s6 => q.nx _ _ _ _ _ h6 (s15.trans s6) (hs.le (s15.trans s6).kp)⟩
end
/-! ### while -/
section
variable {X : Cx} {pos : Pos}
def dWhN (c : DT) (tb : DS) (D : DEnds) : Nat → Sd → Gp → Prop
  | 0, _, _ => False
  | n + 1, σ, G => c σ G fun b G1 => match b with | true => tb { D with nx := dWhN c tb D n, ct := dWhN c tb D n, bk := D.nx } σ G1 | false => D.nx σ G1
def dWhile (c : DT) (tb : DS) : DS := fun D σ G => ∃ n, dWhN c tb D n σ G
theorem qs_while {c : Expr} {body : List Stmt} {tc : DT} {tb : DS} (hp : PassesOwn (model X.prog X.w) X.A X.env X.xe) (hc : QT X c tc) (hb : QSs X body tb) : QS X (.While c body [] pos) (dWhile tc tb) := ps_mono (ps_while hp hc hb) fun D τ H h => by
  obtain ⟨σ, G, N, E, hs, hg, ⟨n, ht⟩, q⟩ := h
  refine ⟨fun m τ' H' => ∃ σ' G' N', RSt X.K H' N' σ' τ' ∧ Stp X.K H N G H' N' G' ∧ dWhN tc tb E m σ' G', ⟨n, σ, G, N, hs, Stp.refl hg, ht⟩, ?_⟩
  rintro m τ1 H1 ⟨σ1, G1, N1, r1, s1, h1⟩
  cases m with
  | zero => exact h1.elim
  | succ m =>
    refine ⟨σ1, G1, N1, _, r1, s1.rel, h1, fun b G2 N2 H2 h2 s2 => ?_⟩
    cases b with
    | true =>
      rw [if_pos rfl]
      refine ⟨fun τ' H' => ∃ σ' G' N', RSt X.K H' N' σ' τ' ∧ Stp X.K H N G H' N' G' ∧ dWhN tc tb E m σ' G', fun τ' H' z => ⟨m, Nat.lt_succ_self m, z⟩, ?_⟩
      have s12 := s1.trans s2
      refine ⟨σ1, G2, N2, _, r1.le s2.kp, s2.rel, h2, ⟨fun σ' G' N' τ' H' h s' r => ⟨σ', G', N', r, s12.trans s', h⟩, (q.le s12).rt, fun σ' G' N' τ' H' h s' r => q.nx _ _ _ _ _ h (s12.trans s') r, fun σ' G' N' τ' H' h s' r => ⟨σ', G', N', r, s12.trans s', h⟩⟩⟩
    | false =>
      rw [if_neg Bool.false_ne_true]
      exact q.nx _ _ _ _ _ h2 (s1.trans s2) (r1.le s2.kp)
end
/-! ### what is walked -/
abbrev DI := Sd → Gp → (List D → (Gp → Prop) → Gp → Prop) → Prop
/-- J yields the things xs, one behind the other, wherever gd holds of what is known -/
structure Yl (K : PySem.W.Frag) (J : It) (H0 : Hp) (N0 : Ns) (G0 : Gp) (xs : List D) (gd : Gp → Prop) : Prop where
  go : ∀ i H N G d, Stp K H0 N0 G0 H N G → gd G → xs[i]? = some d → J.go i H ∧ ∀ x H', J.yld i H x H' → Stp K H N G H' N G ∧ RD K H' N d x
  stop : ∀ i H N G, Stp K H0 N0 G0 H N G → gd G → xs.length = i → J.stop i H
theorem Yl.of {K : PySem.W.Frag} {J : It} {H0 : Hp} {N0 : Ns} {G0 : Gp} {xs : List D} {gd : Gp → Prop} (go : ∀ i H N G d, Stp K H0 N0 G0 H N G → gd G → xs[i]? = some d → J.go i H ∧ ∀ x H', J.yld i H x H' → Stp K H N G H' N G ∧ RD K H' N d x)
    (stop : ∀ i H N G, Stp K H0 N0 G0 H N G → gd G → xs.length ≤ i → J.stop i H) : Yl K J H0 N0 G0 xs gd := ⟨go, fun i H N G s g e => stop i H N G s g (Nat.le_of_eq e)⟩
def upI (K : PySem.W.Frag) (ti : DI) : TI := fun τ H R => ∃ σ G N R', RSt K H N σ τ ∧ RelG K H N G ∧ ti σ G R' ∧ ∀ xs gd G' N' J H', R' xs gd G' → Stp K H N G H' N' G' → Yl K J H' N' G' xs gd → R J H'
def QI (X : Cx) (tg iter : Expr) (ti : DI) : Prop := PI X tg iter (upI X.K ti)
theorem pi_mono {X : Cx} {tg e : Expr} {t t' : TI} (h : PI X tg e t) (i : ∀ τ H Q, t' τ H Q → t τ H Q) : PI X tg e t' := ⟨fun pins s σ H Q I q => h.run pins s σ H Q I (i σ H Q q)⟩
def dForGo (g : DG) (tb : DS) (gd : Gp → Prop) (E : DEnds) : List D → Sd → Gp → Prop
  | [], σ, G => gd G ∧ E.nx σ G
  | x :: xs, σ, G => gd G ∧ g x σ G fun σ2 G2 => tb { E with nx := dForGo g tb gd E xs, ct := dForGo g tb gd E xs, bk := E.nx } σ2 G2
def dFor (ti : DI) (g : DG) (tb : DS) : DS := fun D σ G => ti σ G fun xs gd G1 => dForGo g tb gd D xs σ G1
section
variable {X : Cx} {tg : Expr} {pos : Pos}
theorem qs_for {iter : Expr} {body : List Stmt} {ti : DI} {g : DG} {tb : DS} (hp : PassesOwn (model X.prog X.w) X.A X.env X.xe) (hc : X.calm = true) (hi : QI X tg iter ti) (hg : QG X tg g) (hb : QSs X body tb)
    (hs : ∀ x, foldedSetIterable iter X.env x = pure x := by intro _; rfl) : QS X (.For tg iter body [] pos) (dFor ti g tb) := ps_mono (ps_for hp hc hi hg hb hs) fun D τ H h => by
  obtain ⟨σ, G, N, E, hs, hg, ht, q⟩ := h
  refine ⟨σ, G, N, _, hs, hg, ht, fun xs gd G1 N1 J H1 h1 s1 y => ?_⟩
  refine ⟨fun i m τ' H' => m = xs.length - i ∧ i ≤ xs.length ∧ ∃ σ' G' N', RSt X.K H' N' σ' τ' ∧ Stp X.K H1 N1 G1 H' N' G' ∧ dForGo g tb gd E (xs.drop i) σ' G', ⟨xs.length, rfl, Nat.zero_le _, σ, G1, N1, hs.le s1.kp, Stp.refl s1.rel, h1⟩, ?_⟩
  rintro i m τ2 H2 ⟨rfl, hi, σ2, G2, N2, r2, s2, h2⟩
  by_cases hlt : i < xs.length
  · rw [List.drop_eq_getElem_cons hlt] at h2
    obtain ⟨hgd, h2⟩ := h2
    obtain ⟨go, yld⟩ := y.go i H2 N2 G2 xs[i] s2 hgd (List.getElem?_eq_getElem hlt)
    refine .inr ⟨go, fun τ' H' => ∃ σ' G' N', RSt X.K H' N' σ' τ' ∧ Stp X.K H1 N1 G1 H' N' G' ∧ dForGo g tb gd E (xs.drop (i + 1)) σ' G', fun τ' H' z => ⟨xs.length - (i + 1), by omega, rfl, hlt, z⟩, fun x H3 hy => ?_⟩
    obtain ⟨s3, r3⟩ := yld x H3 hy
    refine ⟨xs[i], σ2, G2, N2, _, r3, r2.le s3.kp, s3.rel, h2, fun σ4 G4 N4 τ4 H4 h4 s4 r4 => ?_⟩
    have s14 := (s2.trans s3).trans s4
    refine ⟨σ4, G4, N4, _, r4, s4.rel, h4, ⟨fun σ' G' N' τ' H' h s' r => ⟨σ', G', N', r, s14.trans s', h⟩, (q.le (s1.trans s14)).rt, fun σ' G' N' τ' H' h s' r => q.nx _ _ _ _ _ h ((s1.trans s14).trans s') r, fun σ' G' N' τ' H' h s' r => ⟨σ', G', N', r, s14.trans s', h⟩⟩⟩
  · have e : i = xs.length := by omega
    subst e
    rw [List.drop_length] at h2
    exact .inl ⟨y.stop _ H2 N2 G2 s2 h2.1 rfl, q.nx _ _ _ _ _ h2.2 (s1.trans s2) r2⟩
end
/-! ### comprehensions -/
def wipeD (σ : Sd) : List Nat → Sd
  | [] => σ
  | v :: vs => (wipeD σ vs).set v none
theorem RSt.wipe {K : PySem.W.Frag} {H : Hp} {N : Ns} {σ : Sd} {τ : L2.St} (h : RSt K H N σ τ) : ∀ vs : List Nat, RSt K H N (wipeD σ vs) (L2.wipe τ vs)
  | [] => h
  | v :: vs => by
    have ih := RSt.wipe h vs
    unfold wipeD L2.wipe
    refine ⟨by rw [List.length_set, List.length_set]; exact ih.1, fun i d e => ?_⟩
    by_cases hj : v = i
    · subst hj
      rw [List.getElem?_set] at e
      simp only [if_true] at e
      split at e
      · cases e
      · cases e
    · rw [List.getElem?_set_ne hj] at e ⊢
      exact ih.2 i d e
def dLcGo (g : DG) (tt : DT) (te : DE) (gd : Gp → Prop) (σ : Sd) : List D → List D → Gp → (List D → Gp → Prop) → Prop
  | [], acc, G, Q => gd G ∧ Q acc G
  | x :: xs, acc, G, Q => gd G ∧ g x σ G fun σ2 G2 => tt σ2 G2 fun b G3 => match b with
    | true => te σ2 G3 fun y G4 => dLcGo g tt te gd σ xs (acc ++ [y]) G4 Q
    | false => dLcGo g tt te gd σ xs acc G3 Q
def dLc (mk : Bool) (ti : DI) (g : DG) (tt : DT) (te : DE) (ws : List Nat) : DE := fun σ G R => ti σ G fun xs gd G1 => xs.length ≤ sizeLine ∧ dLcGo g tt te gd (wipeD σ ws) xs [] G1 fun ds G2 => newL mk ds G2 R
def QTs (X : Cx) (ifs : List Expr) (t : DT) : Prop := PTs X ifs (upT X.K t)
def dYes : DT := fun _ G R => R true G
theorem qts_nil {X : Cx} : QTs X [] dYes := ⟨fun pins s σ H Q I h => (pts_nil (X := X)).run pins s σ H Q I (by
  obtain ⟨σ', G, N, R, hs, hg, ht, q⟩ := h
  exact q _ _ _ _ ht (Stp.refl hg))⟩
theorem qts_one {X : Cx} {c : Expr} {t : DT} (h : QT X c t) : QTs X [c] t := pts_one h
theorem up_lc {K : PySem.W.Frag} {mk : Bool} {ti : DI} {vg : TG} {g : DG} {tt : DT} {te : DE} {ws : List Nat} (tgo : TgOk K vg g ws) {τ : L2.St} {H : Hp} {Q : VK} (h : up K (dLc mk ti g tt te ws) τ H Q) : tLc (upI K ti) vg (upT K tt) (up K te) ws τ H Q := by
  obtain ⟨σ, G, N, R, hs, hg, ht, q⟩ := h
  refine ⟨σ, G, N, _, hs, hg, ht, fun xs gd G1 N1 J H1 h1 s1 y => ?_⟩
  obtain ⟨hlen, h1⟩ := h1
  intro p np
  have q1 := q.le s1
  let Q' : List D → Gp → Prop := fun ds G2 => newL mk ds G2 R
  refine ⟨fun i m H' => m = xs.length - i ∧ i ≤ xs.length ∧ ∃ acc vacc G' N', H' p = some (.lst vacc) ∧ RDs K H' N' acc vacc ∧ acc.length ≤ i ∧ G' p = none ∧ N' p ∧ Stp K H1 N1 G1 H' N' G' ∧ dLcGo g tt te gd (wipeD σ ws) (xs.drop i) acc G' Q',
    ⟨xs.length, rfl, Nat.zero_le _, [], [], G1, nadd N1 p, upd_same, RDs.nil, Nat.zero_le _, s1.rel.free np, .inl rfl, ?_, h1⟩, ?_⟩
  · refine ⟨Kp.new np, fun q x e n => ⟨by rw [upd_ne (ne_of_none e np)]; exact e, n, .inr⟩, fun a o' e => ?_⟩
    obtain ⟨x, hx, _⟩ := (s1.rel a o' e).2.here
    exact ⟨.inr (s1.rel a o' e).1, (s1.rel a o' e).2.le (Kp.new np) (upd_ne (ne_of_none hx np))⟩
  rintro i m H2 ⟨rfl, hi, acc, vacc, G2, N2, hp2, ra2, hal, gp2, nn2, s2, h2⟩
  by_cases hlt : i < xs.length
  · rw [List.drop_eq_getElem_cons hlt] at h2
    obtain ⟨hgd, h2⟩ := h2
    obtain ⟨go, yld⟩ := y.go i H2 N2 G2 xs[i] s2 hgd (List.getElem?_eq_getElem hlt)
    refine .inr ⟨go, fun H' => ∃ acc vacc G' N', H' p = some (.lst vacc) ∧ RDs K H' N' acc vacc ∧ acc.length ≤ i + 1 ∧ G' p = none ∧ N' p ∧ Stp K H1 N1 G1 H' N' G' ∧ dLcGo g tt te gd (wipeD σ ws) (xs.drop (i + 1)) acc G' Q', fun H' z => ⟨xs.length - (i + 1), by omega, rfl, hlt, z⟩, fun x H3 hy => ?_⟩
    obtain ⟨s3, r3⟩ := yld x H3 hy
    have rw3 : RSt K H3 N2 (wipeD σ ws) (L2.wipe τ ws) := (((hs.le s1.kp).le s2.kp).le s3.kp).wipe ws
    refine tgo xs[i] x (wipeD σ ws) (L2.wipe τ ws) H3 N2 G2 _ _ r3 rw3 s3.rel h2 fun σ4 τ4 h4 r4 w4 => ⟨?_, ?_⟩
    · rw [w4]
      have aux : ∀ (us vs : List Nat), (∀ v ∈ us, v ∈ vs) → L2.wipe (L2.wipe τ vs) us = L2.wipe τ vs := by
        intro us
        induction us with
        | nil => intro vs _; rfl
        | cons u us ih =>
          intro vs hv
          show (L2.wipe (L2.wipe τ vs) us).set u none = _
          rw [ih vs (fun v hv' => hv v (List.mem_cons_of_mem _ hv'))]
          have hm := hv u List.mem_cons_self
          apply List.ext_getElem?
          intro j
          by_cases hj : u = j
          · subst hj
            rw [List.getElem?_set]
            simp only [if_true]
            have hn : ∀ x, (L2.wipe τ vs)[u]? ≠ some (some x) := fun x e => (wipe_some e).2 hm
            split
            · rename_i hlt'
              rw [List.getElem?_eq_getElem hlt'] at hn ⊢
              cases e : (L2.wipe τ vs)[u] with
              | none => rfl
              | some z => exact absurd (by rw [e]) (hn z)
            · rename_i hge
              rw [List.getElem?_eq_none (by omega)]
          · rw [List.getElem?_set_ne hj]
      exact aux ws ws fun v h => h
    · refine ⟨σ4, G2, N2, _, r4, s3.rel, h4, fun b G5 N5 H5 h5 s5 => ?_⟩
      obtain ⟨hp3, gp3, _⟩ := s3.fr p _ hp2 gp2
      obtain ⟨hp5, gp5, nn5⟩ := s5.fr p _ hp3 gp3
      have s25 := (s2.trans s3).trans s5
      cases b with
      | false =>
        rw [if_neg Bool.false_ne_true]
        exact ⟨acc, vacc, G5, N5, hp5, (ra2.le s3.kp).le s5.kp, by omega, gp5, nn5 nn2, s25, h5⟩
      | true =>
        rw [if_pos rfl]
        refine ⟨σ4, G5, N5, _, r4.le s5.kp, s5.rel, h5, fun d G6 N6 v6 H6 h6 s6 r6 => ?_⟩
        obtain ⟨hp6, gp6, nn6⟩ := s6.fr p _ hp5 gp5
        have s26 := s25.trans s6
        have ra6 := ((ra2.le s3.kp).le s5.kp).le s6.kp
        have kw := Kp.write (u := .lst (vacc ++ [v6])) (nn6 (nn5 nn2)) hp6 rfl rfl
        have hl6 := ra6.length
        refine ⟨vacc, hp6, by omega, acc ++ [d], vacc ++ [v6], G6, N6, upd_same, (RDs.append ra6 (RDs.cons r6 RDs.nil)).le kw, by simp; omega, gp6, nn6 (nn5 nn2), s26.poke np hp6 gp6 (nn6 (nn5 nn2)) rfl rfl, h6⟩
  · have e : i = xs.length := by omega
    subst e
    rw [List.drop_length] at h2
    refine .inl ⟨y.stop _ H2 N2 G2 s2 h2.1 rfl, ?_⟩
    have h3 : newL mk acc G2 R := h2.2
    cases mk with
    | true =>
      refine q1 (.ref p) (gup G2 p (.lst acc)) N2 _ _ (h3 p gp2) (s2.know np nn2 ⟨vacc, hp2, ra2⟩) (RD.ref p)
    | false =>
      exact q1 (.lst acc) G2 (ndel N2 p) _ _ h3 (s2.calm (.inl np) gp2) (RD.lst (.inl ⟨hp2, fun z => z.1 rfl⟩) (ra2.le Kp.calm))
section
variable {X : Cx}
theorem qe_lc (mk : Bool) {elt tg iter : Expr} {ifs : List Expr} {scope : Scope} {own : List (Str × Nat)} {pos : Pos} {ti : DI} {vg : TG} {g : DG} {tt : DT} {te : DE} (hc : X.calm = true) (hN : X.N.Nodup) (hi : QI X tg iter ti) (ok : BlkOk X.N X.env.scope scope own)
    (hg : ∀ (s : Shared) (H : Hp) (C : Addr) (cl : List (Str × Addr)) (fp : List Addr), PG (X.blk s H scope (compEnvC scope cl C X.env) fp) tg vg) (tgo : TgOk X.K vg g (own.map (·.2)))
    (ht : ∀ (s : Shared) (H : Hp) (C : Addr) (cl : List (Str × Addr)) (fp : List Addr), QTs (X.blk s H scope (compEnvC scope cl C X.env) fp) ifs tt)
    (he : ∀ (s : Shared) (H : Hp) (C : Addr) (cl : List (Str × Addr)) (fp : List Addr), QE (X.blk s H scope (compEnvC scope cl C X.env) fp) elt te) (hs : ∀ x, foldedSetIterable iter X.env x = pure x := by intro _; rfl) :
    QE X (.ListComp elt [⟨tg, iter, ifs, 0⟩] scope pos) (dLc mk ti g tt te (own.map (·.2))) :=
  pe_mono (pe_lc (wi := upI X.K ti) (tt := upT X.K tt) (te := up X.K te) hc hN hi ok hg ht he hs) fun τ H Q h => up_lc tgo h
theorem qs_setLc (mk : Bool) {i : Nat} {y : Str} {py : Pos} {elt tg iter : Expr} {ifs : List Expr} {scope : Scope} {own : List (Str × Nat)} {pos spos : Pos} {ti : DI} {vg : TG} {g : DG} {tt : DT} {te : DE} (hc : X.calm = true) (hN : X.N.Nodup) (hy : X.N[i]? = some y) (hyl : X.env.scope.names.lookup y = some .local)
    (hsw : swapsWith (.ListComp elt [⟨tg, iter, ifs, 0⟩] scope pos) (some (.Name y py)) spos.line X.env = pure true) (hi : QI X tg iter ti) (ok : BlkOk X.N X.env.scope scope own)
    (hg : ∀ (s : Shared) (H : Hp) (C : Addr) (cl : List (Str × Addr)) (fp : List Addr), PG (X.blk s H scope (compEnvC scope cl C X.env) fp) tg vg) (tgo : TgOk X.K vg g (own.map (·.2)))
    (ht : ∀ (s : Shared) (H : Hp) (C : Addr) (cl : List (Str × Addr)) (fp : List Addr), QTs (X.blk s H scope (compEnvC scope cl C X.env) fp) ifs tt)
    (he : ∀ (s : Shared) (H : Hp) (C : Addr) (cl : List (Str × Addr)) (fp : List Addr), QE (X.blk s H scope (compEnvC scope cl C X.env) fp) elt te) (hs : ∀ x, foldedSetIterable iter X.env x = pure x := by intro _; rfl) :
    QS X (.Assign [.Name y py] (.ListComp elt [⟨tg, iter, ifs, 0⟩] scope pos) spos) (dAsg (dLc mk ti g tt te (own.map (·.2))) (dName i)) :=
  ps_mono (ps_setLc (wi := upI X.K ti) (tt := upT X.K tt) (te := up X.K te) hc hN hy hyl hsw hi ok hg ht he hs) fun D τ H h => by
    obtain ⟨σ, G, N, E, hs, hg, ht, q⟩ := h
    refine up_lc tgo ⟨σ, G, N, _, hs, hg, ht, fun d G' N' v H' h s' r => ?_⟩
    exact q.nx _ _ _ _ _ h s' ((hs.le s'.kp).set r i)
end
/-! ### defs -/
abbrev DSp := List D → Gp → DK → Prop
def upSp (K : PySem.W.Frag) (sp : DSp) : Sp := fun vs H Q _ => ∃ ds G N R, RDs K H N ds vs ∧ RelG K H N G ∧ sp ds G R ∧ UpQ K H N G R Q
/-- the def at f keeps the promise sp, by data; no exception leaves it -/
def FnD (P : Program) (w : World) (K : PySem.W.Frag) (mg : Str → Option Value) (base : Heap) (k : Nat) (f : Addr) (fd : FuncData) (ps : List Str) (sp : DSp) : Prop := FnOk P w K mg base CX0 k f fd ps (upSp K sp)
theorem FnD.mono {P : Program} {w : World} {K : PySem.W.Frag} {mg : Str → Option Value} {base : Heap} {j k : Nat} {f : Addr} {fd : FuncData} {ps : List Str} {sp : DSp} (F : FnD P w K mg base j f fd ps sp) (h : j ≤ k) : FnD P w K mg base k f fd ps sp := FnOk.mono F h
theorem FnD.imp {P : Program} {w : World} {K : PySem.W.Frag} {mg : Str → Option Value} {base : Heap} {k : Nat} {f : Addr} {fd : FuncData} {ps : List Str} {sp sp' : DSp} (F : FnD P w K mg base k f fd ps sp) (h : ∀ ds G R, sp' ds G R → sp ds G R) : FnD P w K mg base k f fd ps sp' :=
  FnOk.imp F fun vs H Q E ⟨ds, G, N, R, r1, r2, h1, q⟩ => ⟨ds, G, N, R, r1, r2, h ds G R h1, q⟩
def startD (n : Nat) (ds : List D) : Sd := ds.map some ++ List.replicate (n - ds.length) none
theorem RSt.begin {K : PySem.W.Frag} {H : Hp} {N : Ns} {M : List Str} {ds : List D} {vs : List V} (r : RDs K H N ds vs) : RSt K H N (startD M.length ds) (start M vs) := by
  have hl := r.length
  refine ⟨by unfold startD L2.start; simp; omega, fun i d e => ?_⟩
  unfold startD at e
  by_cases hi : i < ds.length
  · rw [List.getElem?_append_left (by simpa using hi), List.getElem?_map, List.getElem?_eq_getElem hi] at e
    have e' : ds[i] = d := by simpa using e
    obtain ⟨v, h1, h2⟩ := r.get (List.getElem?_eq_getElem hi)
    refine ⟨v, ?_, by rw [← e']; exact h2⟩
    unfold L2.start
    rw [List.getElem?_append_left (by rw [List.length_map]; omega), List.getElem?_map, h1]
    rfl
  · rw [List.getElem?_append_right (by simpa using hi), List.getElem?_replicate] at e
    split at e
    · cases e
    · cases e
section
variable {P : Program} {w : World} {K : PySem.W.Frag} {mg : Str → Option Value} {base : Heap}
theorem fun_okD {x qual : Str} {st : Stmt} {f : Addr} {fd : FuncData} {M ps : List Str} {k : Nat} {sp : DSp} (F : Fun K x qual st f fd) (S : FnScope M ps (defScope st)) (len : ∀ ds G R, sp ds G R → ds.length = ps.length)
    (hbody : ∀ (cdv : Value) (A : Around) (outer : List Env) (s : Shared) (H : Hp), Room k (A.deeper (envOfC qual (defScope st) s.heap.objs.size f cdv)) →
      ∃ t, QSs (cxOf CX0 P w K mg base M qual (defScope st) f cdv A outer s H E0).nox (defBody st) t ∧ ∀ (ds : List D) (G : Gp) (R : DK), sp ds G R → t { nx := fun _ G1 => ∃ G', Sub G' G1 ∧ R .non G', rt := R } (startD M.length ds) G) : FnD P w K mg base (k + 1) f fd ps sp := by
  refine F.ok S (fun vs H Q E h => ?_) (fun cdv A outer s H vs Q E hr h => ?_)
  · obtain ⟨ds, G, N, R, r1, _, h1, _⟩ := h
    rw [← r1.length]; exact len ds G R h1
  · obtain ⟨ds, G, N, R, r1, r2, h1, q⟩ := h
    obtain ⟨t, ht, hq⟩ := hbody cdv A outer s H hr
    refine ⟨upS K t, ht, startD M.length ds, G, N, _, RSt.begin r1, r2, hq ds G R h1, ⟨fun σ' G' N' τ' H' h s' r => ?_, q, fun _ _ _ _ _ h => h.elim, fun _ _ _ _ _ h => h.elim⟩⟩
    obtain ⟨G2, sb, h⟩ := h
    exact q _ _ _ _ _ h (s'.trans (s'.rel.sub sb)) RD.non
end
section
variable {X : Cx} {k : Nat} {f : Addr} {fd : FuncData} {ps : List Str} {sp : DSp} {x : Str} {p pos : Pos} {e : Expr} {es : List Expr} {t : DA}
def dCall (sp : DSp) (t : DA) : DE := fun σ G R => t σ G fun ds G1 => sp ds G1 R
theorem up_call {K : PySem.W.Frag} {τ : L2.St} {H : Hp} {Q : VK} (h : up K (dCall sp t) τ H Q) : tCall (upSp K sp) [] E0 (upA K t) τ H Q := by
  obtain ⟨σ, G, N, R, hs, hg, ht, q⟩ := h
  refine ⟨σ, G, N, _, hs, hg, ht, fun ds G1 N1 vs H1 h1 s1 r1 => ?_⟩
  show upSp K sp (vs ++ []) H1 Q E0
  rw [List.append_nil]
  exact ⟨ds, G1, N1, R, r1, s1.rel, h1, q.le s1⟩
theorem qe_call (F : FnD X.prog X.w X.K X.mg X.base k f fd ps sp) (hr : Room k X.A) (hg : Gl X x) (hm : X.mg x = some (.ref f)) (hk : PySem.W.keepIn X.K (.ref f) = true) (hb : Binds X.K fd ps []) (ha : QA X (e :: es) t)
    (hdb : (x == ("__debug__" : Str)) = false := by decide) (he : starEach (e :: es) X.env = (false, eval e X.env) :: starEach es X.env := by rfl) (hpl : (backTo pos (starEach es X.env)).any (·.1) = false := by rfl) :
    QE X (.Call (.Name x p) (e :: es) [] pos) (dCall sp t) := pe_mono (pe_call F hr hg hm hk hb .nil pass0 ha hdb he hpl) fun τ H Q h => up_call h
theorem up_cb {K : PySem.W.Frag} {r : DRn} {τ : L2.St} {H : Hp} {Q : VK} (h : up K (dCallB r t) τ H Q) : tCB (upRn K r) (upA K t) τ H Q := by
  obtain ⟨σ, G, N, R, hs, hg, ht, q⟩ := h
  refine ⟨σ, G, N, _, hs, hg, ht, fun ds G1 N1 vs H1 h1 s1 r1 => ?_⟩
  exact ⟨ds, G1, N1, R, r1, s1.rel, h1, q.le s1⟩
theorem qe_callB {id : String} {r : DRn} (hc : CallD X (.builtin id) r) (hg : Gl X x) (hm : X.mg x = none) (hv : bootBuiltins x = some (.builtin id)) (ha : QA X (e :: es) t) (hn : x ≠ "__name__" := by decide) (hdb : (x == ("__debug__" : Str)) = false := by decide)
    (he : starEach (e :: es) X.env = (false, eval e X.env) :: starEach es X.env := by rfl) (hpl : (backTo pos (starEach es X.env)).any (·.1) = false := by rfl) : QE X (.Call (.Name x p) (e :: es) [] pos) (dCallB r t) :=
  pe_mono (pe_callB hc hg hm hv ha hn hdb he hpl) fun τ H Q h => up_cb h
theorem qe_callTy {id : String} {r : DRn} (hc : CallD X (.type id) r) (hg : Gl X x) (hm : X.mg x = none) (hv : bootBuiltins x = some (.type id)) (ha : QA X (e :: es) t) (hn : x ≠ "__name__" := by decide) (hdb : (x == ("__debug__" : Str)) = false := by decide)
    (he : starEach (e :: es) X.env = (false, eval e X.env) :: starEach es X.env := by rfl) (hpl : (backTo pos (starEach es X.env)).any (·.1) = false := by rfl) : QE X (.Call (.Name x p) (e :: es) [] pos) (dCallB r t) :=
  pe_mono (pe_callTy hc hg hm hv ha hn hdb he hpl) fun τ H Q h => up_cb h
end
end DL

set_option Elab.async false
set_option linter.all false
set_option maxRecDepth 100000
set_option maxHeartbeats 4000000
set_option autoImplicit false
namespace DL
open PySem PySem.Spec PyProof.Rows L2

/-! ### lists by data -/
def lstOf (G : Gp) : D → Option (List D)
  | .lst ds => some ds
  | .ref a => match G a with | some (.lst ds) => some ds | _ => none
  | _ => none
theorem lstOf_ok {K : PySem.W.Frag} {H : Hp} {N : Ns} {G : Gp} {d : D} {v : V} {ds : List D} (rg : RelG K H N G) (rd : RD K H N d v) (h : lstOf G d = some ds) : ∃ p vs, v = .ref p ∧ SqL K H p vs ∧ RDs K H N ds vs := by
  cases d with
  | lst es =>
    obtain ⟨p, vs, rfl, l, r⟩ := rd.of_lst
    cases h
    exact ⟨p, vs, rfl, l.sq, r⟩
  | ref a =>
    obtain rfl := rd.of_ref
    unfold lstOf at h
    simp only at h
    split at h
    · rename_i es e
      cases h
      obtain ⟨_, vs, hv, r⟩ := rg a _ e
      exact ⟨a, vs, rfl, SqL.of hv, r⟩
    · cases h
  | _ => cases h
section
variable {X : Cx}
/-! ### list + list, whatever lists -/
def rCatL (K : PySem.W.Frag) : R2 := fun x y H Q => ∃ l b xs zs, x = .ref l ∧ y = .ref b ∧ SqL K H l xs ∧ SqL K H b zs ∧ xs.length + zs.length ≤ sizeLine ∧ ∀ p, H p = none → Q (.ref p) (upd H p (.lst (xs ++ zs)))
theorem op_catL : OpR X (binaryOp .Add) (rCatL X.K) := by
  intro pins s σ H x y v u Q I rx ry h
  obtain ⟨l, b, xs, zs, rfl, rfl, hH, hB, hz, q⟩ := h
  cases rx
  cases ry
  obtain ⟨its, r, pl, _⟩ := I.list hH
  obtain ⟨its2, r2, pl2, _⟩ := I.list hB
  obtain ⟨⟨cls, dd, data, sl⟩, ho, hc, n, hd⟩ := pl.isList
  obtain ⟨⟨cls2, dd2, data2, sl2⟩, ho2, hc2, n2, hd2⟩ := pl2.isList
  simp only at hc hd hc2 hd2
  subst hc hd hc2 hd2
  have hl := r.length
  have hl2 := r2.length
  have e : its.toArray ++ its2.toArray = (its ++ its2).toArray := by simp
  refine concat_meets ⟨_, ho, rfl⟩ ⟨_, ho2, rfl⟩ noFill_list_add seq_list_add PySem.F.slot_list_add PySem.F.entry_list_add (PySem.F.args_list_add_2 _ _) (list_addW l b its.toArray its2.toArray n n2 dd dd2 sl sl2 (by simp; omega)) ⟨ho, ho2, ?_⟩
  rw [e]
  exact ⟨.ref _, _, I.lnew (t' := s.toks) (r.append r2) (by rw [List.length_append]; omega), rfl, q _ I.fresh⟩
/-! ### arithmetic -/
theorem op_mulX : OpR X (binaryOp .Mult) (rI IntMulOk fun i j => .int (i * j)) := opI fun _ _ _ _ _ _ _ hc q => mul_int q hc
def CPowX (i j : Int) : Prop := 0 ≤ j ∧ (Builtin.Int.intBits i : Int) * j ≤ 2 ^ 27
theorem op_powX : OpR X (binaryOp .Pow) (rI CPowX fun i j => .int (i ^ j.toNat)) := opI fun _ _ _ _ _ _ _ hc q => pow_int hc.1 hc.2 q
def dAdd (mk : Bool) : DR2 := fun x y G R => match x, y with
  | .int i, .int j => R (.int (i + j)) G
  | .str a, .str b => a.length + b.length ≤ sizeLine ∧ R (.str (a ++ b)) G
  | .tup a, .tup b => a.length + b.length ≤ sizeLine ∧ R (.tup (a ++ b)) G
  | x, y => match lstOf G x, lstOf G y with | some a, some b => a.length + b.length ≤ sizeLine ∧ newL mk (a ++ b) G R | _, _ => False
theorem od_add (mk : Bool) : OpD X (binaryOp .Add) (dAdd mk) := opr_mono (op_add.or (op_add_str.or (op_catA.or op_catL))) fun x y H Q h => by
  obtain ⟨c, d, G, N, R, r1, r2, rg, h, q⟩ := h
  unfold dAdd at h
  split at h
  · rename_i i j
    obtain rfl := r1.of_int
    obtain rfl := r2.of_int
    exact .inl ⟨i, j, rfl, rfl, q.at rg h (RD.int _)⟩
  · rename_i i j
    obtain rfl := r1.of_str
    obtain rfl := r2.of_str
    exact .inr (.inl ⟨i, j, rfl, rfl, h.1, q.at rg h.2 (RD.str _)⟩)
  · rename_i a b
    obtain ⟨p, vs, rfl, s1, d1⟩ := r1.of_tup
    obtain ⟨p2, vs2, rfl, s2, d2⟩ := r2.of_tup
    have l1 := d1.length
    have l2 := d2.length
    refine .inr (.inr (.inl ⟨p, p2, vs, vs2, rfl, rfl, s1, s2, by omega, fun e => ?_, fun e e2 => ?_, fun e e2 p np => ?_⟩))
    · subst e
      have e3 : a = [] := List.eq_nil_of_length_eq_zero (by simpa using l1)
      subst e3
      exact q.at rg h.2 (RD.tup s2 d2)
    · subst e2
      have e3 : b = [] := List.eq_nil_of_length_eq_zero (by simpa using l2)
      subst e3
      rw [List.append_nil] at h
      exact q.at rg h.2 (RD.tup s1 d1)
    · exact newT_ok rg (d1.append d2) h.2 q np
  · split at h
    · rename_i a b ea eb
      obtain ⟨p, vs, rfl, s1, d1⟩ := lstOf_ok rg r1 ea
      obtain ⟨p2, vs2, rfl, s2, d2⟩ := lstOf_ok rg r2 eb
      have l1 := d1.length
      have l2 := d2.length
      exact .inr (.inr (.inr ⟨p, p2, vs, vs2, rfl, rfl, s1, s2, by omega, fun p np => newL_ok rg (d1.append d2) h.2 q np⟩))
    · exact h.elim
/-- two ints, under C -/
def dI (C : Int → Int → Prop) (g : Int → Int → D) : DR2 := fun x y G R => match x, y with | .int i, .int j => C i j ∧ R (g i j) G | _, _ => False
def dI0 (g : Int → Int → D) : DR2 := fun x y G R => match x, y with | .int i, .int j => R (g i j) G | _, _ => False
theorem od_I {f : Value → Value → Sem Value} {C : Int → Int → Prop} {g : Int → Int → Int} (h : OpR X f (rI C fun i j => .int (g i j))) : OpD X f (dI C fun i j => .int (g i j)) := opr_mono h fun x y H Q h => by
  obtain ⟨c, d, G, N, R, r1, r2, rg, h, q⟩ := h
  unfold dI at h
  split at h
  · obtain rfl := r1.of_int
    obtain rfl := r2.of_int
    exact ⟨_, _, rfl, rfl, h.1, q.at rg h.2 (RD.int _)⟩
  · exact h.elim
theorem od_I0 {f : Value → Value → Sem Value} {g : Int → Int → Int} (h : OpR X f (rI0 fun i j => .int (g i j))) : OpD X f (dI0 fun i j => .int (g i j)) := opr_mono h fun x y H Q h => by
  obtain ⟨c, d, G, N, R, r1, r2, rg, h, q⟩ := h
  unfold dI0 at h
  split at h
  · obtain rfl := r1.of_int
    obtain rfl := r2.of_int
    exact ⟨_, _, rfl, rfl, q.at rg h (RD.int _)⟩
  · exact h.elim
def dMinus : DR2 := dI0 fun i j => .int (i - j)
def dMul : DR2 := dI IntMulOk fun i j => .int (i * j)
def dFdiv : DR2 := dI CDivW fun i j => .int (i / j)
def dMod : DR2 := dI (fun _ j => 0 < j) fun i j => .int (i % j)
def dPow : DR2 := dI CPowX fun i j => .int (i ^ j.toNat)
def dShl : DR2 := dI CShl fun i j => .int (i * 2 ^ j.toNat)
def dBand : DR2 := dI0 fun i j => .int (Builtin.bitAnd i j)
def dBor : DR2 := dI0 fun i j => .int (Builtin.bitOr i j)
def dBxor : DR2 := dI0 fun i j => .int (Builtin.bitXor i j)
theorem od_sub : OpD X (binaryOp .Sub) dMinus := od_I0 op_sub
theorem od_mul : OpD X (binaryOp .Mult) dMul := od_I op_mulX
theorem od_fdiv : OpD X (binaryOp .FloorDiv) dFdiv := od_I op_fdivW
theorem od_mod : OpD X (binaryOp .Mod) dMod := od_I op_mod
theorem od_pow : OpD X (binaryOp .Pow) dPow := od_I op_powX
theorem od_shl : OpD X (binaryOp .LShift) dShl := od_I op_shlW
theorem od_band : OpD X (binaryOp .BitAnd) dBand := od_I0 op_and
theorem od_bor : OpD X (binaryOp .BitOr) dBor := od_I0 op_or
theorem od_bxor : OpD X (binaryOp .BitXor) dBxor := od_I0 op_xor
/-- += of ints, texts -/
def dIadd : DR2 := fun x y G R => match x, y with
  | .int i, .int j => R (.int (i + j)) G
  | .str a, .str b => a.length + b.length ≤ sizeLine ∧ R (.str (a ++ b)) G
  | _, _ => False
theorem od_iadd : OpD X (inplaceOp .Add) dIadd := opr_mono (iop_add.or iop_add_str) fun x y H Q h => by
  obtain ⟨c, d, G, N, R, r1, r2, rg, h, q⟩ := h
  unfold dIadd at h
  split at h
  · obtain rfl := r1.of_int
    obtain rfl := r2.of_int
    exact .inl ⟨_, _, rfl, rfl, q.at rg h (RD.int _)⟩
  · obtain rfl := r1.of_str
    obtain rfl := r2.of_str
    exact .inr ⟨_, _, rfl, rfl, h.1, q.at rg h.2 (RD.str _)⟩
  · exact h.elim
theorem od_isub : OpD X (inplaceOp .Sub) dMinus := od_I0 iop_sub
def dNeg : DR1 := fun x G R => match x with | .int i => R (.int (-i)) G | _ => False
theorem od_neg : UnD X (unaryOp .USub) dNeg := unr_mono un_neg fun x H Q h => by
  obtain ⟨c, G, N, R, r1, rg, h, q⟩ := h
  unfold dNeg at h
  split at h
  · obtain rfl := r1.of_int
    exact ⟨_, rfl, q.at rg h (RD.int _)⟩
  · exact h.elim
/-! ### comparisons -/
/-- the order of ints and of texts -/
def dOrd (pi : Int → Int → Bool) (ps : Str → Str → Bool) : DR2 := fun x y G R => match x, y with
  | .int i, .int j => R (.bl (pi i j)) G
  | .str a, .str b => R (.bl (ps a b)) G
  | _, _ => False
theorem od_ord {f : Value → Value → Sem Value} {pi : Int → Int → Bool} {ps : Str → Str → Bool} (h1 : OpR X f (rI0 fun i j => .bl (pi i j))) (h2 : OpR X f (fun x y H Q => ∃ i j, x = .str i ∧ y = .str j ∧ Q (.bl (ps i j)) H)) : OpD X f (dOrd pi ps) := opr_mono (h1.or h2) fun x y H Q h => by
  obtain ⟨c, d, G, N, R, r1, r2, rg, h, q⟩ := h
  unfold dOrd at h
  split at h
  · obtain rfl := r1.of_int
    obtain rfl := r2.of_int
    exact .inl ⟨_, _, rfl, rfl, q.at rg h (RD.bl _)⟩
  · obtain rfl := r1.of_str
    obtain rfl := r2.of_str
    exact .inr ⟨_, _, rfl, rfl, q.at rg h (RD.bl _)⟩
  · exact h.elim
def sLt (a b : Str) : Bool := decide (a.cps.toList < b.cps.toList)
def dLt : DR2 := dOrd (fun i j => decide (i < j)) fun a b => sLt a b
def dLe : DR2 := dOrd (fun i j => decide (i ≤ j)) fun a b => !sLt b a
def dGt : DR2 := dOrd (fun i j => decide (j < i)) fun a b => sLt b a
def dGe : DR2 := dOrd (fun i j => decide (j ≤ i)) fun a b => !sLt a b
theorem od_lt : OpD X (compareOp .Lt) dLt := od_ord op_lt op_lt_str
theorem od_le : OpD X (compareOp .LtE) dLe := od_ord op_le op_le_str
theorem od_gt : OpD X (compareOp .Gt) dGt := od_ord op_gt op_gt_str
theorem od_ge : OpD X (compareOp .GtE) dGe := od_ord op_ge op_ge_str
mutual
def toPy : D → Option PyData
  | .non => some .none
  | .bl b => some (.bool b)
  | .int i => some (.int i)
  | .str x => some (.str x)
  | .tup ds => (toPys ds).map .tuple
  | .lst ds => (toPys ds).map .list
  | _ => none
def toPys : List D → Option (List PyData)
  | [] => some []
  | d :: ds => match toPy d, toPys ds with | some a, some b => some (a :: b) | _, _ => none
end
theorem dpAll_strs {K : PySem.W.Frag} {H : Hp} : ∀ zs : List Str, DpAll K H (zs.map V.str) (zs.map .str)
  | [] => .nil
  | z :: zs => .cons (.str z) (dpAll_strs zs)
mutual
theorem toPy_ok {K : PySem.W.Frag} {H : Hp} {N : Ns} : ∀ {d : D} {v : V} {a : PyData}, RD K H N d v → toPy d = some a → Dp K H v a
  | .non, _, _, r, h => by simp only [toPy] at h; cases h; rw [r.of_non]; exact .non
  | .bl b, _, _, r, h => by simp only [toPy] at h; cases h; rw [r.of_bl]; exact .bl b
  | .int b, _, _, r, h => by simp only [toPy] at h; cases h; rw [r.of_int]; exact .int b
  | .str b, _, _, r, h => by simp only [toPy] at h; cases h; rw [r.of_str]; exact .str b
  | .tup ds, _, _, r, h => by
    simp only [toPy] at h
    obtain ⟨p, vs, rfl, s, q⟩ := r.of_tup
    cases e : toPys ds with
    | none => rw [e] at h; cases h
    | some as => rw [e] at h; cases h; exact .tup s (toPys_ok q e)
  | .lst ds, _, _, r, h => by
    simp only [toPy] at h
    obtain ⟨p, vs, rfl, s, q⟩ := r.of_lst
    cases e : toPys ds with
    | none => rw [e] at h; cases h
    | some as => rw [e] at h; cases h; exact .lst s.sq (toPys_ok q e)
  | .nt _, _, _, r, h => by simp only [toPy] at h; cases h
  | .ty _, _, _, r, h => by simp only [toPy] at h; cases h
  | .ref _, _, _, r, h => by simp only [toPy] at h; cases h
  | .any _, _, _, r, h => by simp only [toPy] at h; cases h
theorem toPys_ok {K : PySem.W.Frag} {H : Hp} {N : Ns} : ∀ {ds : List D} {vs : List V} {as : List PyData}, RDs K H N ds vs → toPys ds = some as → DpAll K H vs as
  | [], _, _, r, h => by simp only [toPys] at h; cases h; rw [r.of_nil]; exact .nil
  | d :: ds, _, _, r, h => by
    obtain ⟨v, vs, rfl, r1, r2⟩ := r.of_cons
    simp only [toPys] at h
    split at h
    · rename_i a b ea eb
      cases h
      exact .cons (toPy_ok r1 ea) (toPys_ok r2 eb)
    · cases h
end
def gPy (G : Gp) (d : D) : Option PyData := match d with
  | .ref a => match G a with | some (.lst ds) => (toPys ds).map .list | _ => none
  | d => toPy d
theorem gPy_ok {K : PySem.W.Frag} {H : Hp} {N : Ns} {G : Gp} {d : D} {v : V} {a : PyData} (rg : RelG K H N G) (r : RD K H N d v) (h : gPy G d = some a) : Dp K H v a := by
  unfold gPy at h
  split at h
  · rename_i p
    split at h
    · rename_i ds e
      obtain ⟨_, vs, hv, rd⟩ := rg p _ e
      rw [r.of_ref]
      cases e2 : toPys ds with
      | none => rw [e2] at h; cases h
      | some as => rw [e2] at h; cases h; exact .lst (SqL.of hv) (toPys_ok rd e2)
    · cases h
  · exact toPy_ok r h
/-- ==, as a bool of the answer -/
def dEqW (f : Bool → Bool) : DR2 := fun x y G R => match x, y with
  | .int i, .int j => R (.bl (f (decide (i = j)))) G
  | .str i, .str j => R (.bl (f (decide (i = j)))) G
  | .bl i, .bl j => R (.bl (f (decide (i = j)))) G
  | .non, .non => R (.bl (f true)) G
  | x, y => match gPy G x, gPy G y with | some a, some b => SeqAt.shaped a = true ∧ SeqAt.shaped b = true ∧ R (.bl (f (PyData.eqv a b))) G | _, _ => False
theorem dec_int' {i j : Int} : decide (V.int i = V.int j) = decide (i = j) := by rw [Bool.eq_iff_iff]; simp
theorem dec_str' {i j : Str} : decide (V.str i = V.str j) = decide (i = j) := by rw [Bool.eq_iff_iff]; simp
theorem dec_bl' {i j : Bool} : decide (V.bl i = V.bl j) = decide (i = j) := by rw [Bool.eq_iff_iff]; simp
theorem od_eqW {f : Value → Value → Sem Value} {g : Bool → Bool} {H0 : Prop} (h1 : OpR X f (fun x y H Q => scal x y = true ∧ Q (.bl (g (decide (x = y)))) H))
    (h2 : OpR X f (fun x y H Q => ∃ d e, Dp X.K H x d ∧ Dp X.K H y e ∧ SeqAt.shaped d = true ∧ SeqAt.shaped e = true ∧ Q (.bl (g (PyData.eqv d e))) H)) : OpD X f (dEqW g) := opr_mono (h1.or h2) fun x y H Q h => by
  obtain ⟨c, d, G, N, R, r1, r2, rg, h, q⟩ := h
  unfold dEqW at h
  split at h
  · obtain rfl := r1.of_int
    obtain rfl := r2.of_int
    exact .inl ⟨rfl, by rw [dec_int']; exact q.at rg h (RD.bl _)⟩
  · obtain rfl := r1.of_str
    obtain rfl := r2.of_str
    exact .inl ⟨rfl, by rw [dec_str']; exact q.at rg h (RD.bl _)⟩
  · obtain rfl := r1.of_bl
    obtain rfl := r2.of_bl
    exact .inl ⟨rfl, by rw [dec_bl']; exact q.at rg h (RD.bl _)⟩
  · obtain rfl := r1.of_non
    obtain rfl := r2.of_non
    exact .inl ⟨rfl, by simpa using q.at rg h (RD.bl _)⟩
  · split at h
    · rename_i a b ea eb
      exact .inr ⟨a, b, gPy_ok rg r1 ea, gPy_ok rg r2 eb, h.1, h.2.1, q.at rg h.2.2 (RD.bl _)⟩
    · exact h.elim
def dEq : DR2 := dEqW id
def dNe : DR2 := dEqW not
theorem od_eq (hu : X.A.units + 64 < cLine) : OpD X (compareOp .Eq) dEq := od_eqW (H0 := True) (opr_mono op_eq fun _ _ _ _ h => h) (opr_mono (op_eqD hu) fun _ _ _ _ h => h)
theorem od_ne (hu : X.A.units + 64 < cLine) : OpD X (compareOp .NotEq) dNe := od_eqW (H0 := True) (opr_mono op_ne fun _ _ _ _ h => h) (opr_mono (op_neD hu) fun _ _ _ _ h => h)
/-- is None -/
def isNon : D → Bool | .non => true | _ => false
theorem isNon_ok {K : PySem.W.Frag} {H : Hp} {N : Ns} {d : D} {v : V} (r : RD K H N d v) : decide (v = .non) = isNon d := by
  cases d with
  | non => rw [r.of_non]; rfl
  | bl b => rw [r.of_bl]; rfl
  | int b => rw [r.of_int]; rfl
  | str b => rw [r.of_str]; rfl
  | ty b => rw [r.of_ty]; rfl
  | ref b => rw [r.of_ref]; rfl
  | any b => obtain ⟨a, u, rfl, _⟩ := r.of_any; rfl
  | nt b => obtain ⟨a, rfl, _⟩ := r.of_nt; rfl
  | tup b => obtain ⟨a, u, rfl, _⟩ := r.of_tup; rfl
  | lst b => obtain ⟨a, u, rfl, _⟩ := r.of_lst; rfl
def dIs : DR2 := fun x y G R => match y with | .non => R (.bl (isNon x)) G | _ => False
def dIsNot : DR2 := fun x y G R => match y with | .non => R (.bl (!isNon x)) G | _ => False
theorem od_is : OpD X (compareOp .Is) dIs := opr_mono op_isN fun x y H Q h => by
  obtain ⟨c, d, G, N, R, r1, r2, rg, h, q⟩ := h
  unfold dIs at h
  split at h
  · exact ⟨r2.of_non, by rw [isNon_ok r1]; exact q.at rg h (RD.bl _)⟩
  · exact h.elim
theorem od_isNot : OpD X (compareOp .IsNot) dIsNot := opr_mono op_notN fun x y H Q h => by
  obtain ⟨c, d, G, N, R, r1, r2, rg, h, q⟩ := h
  unfold dIsNot at h
  split at h
  · exact ⟨r2.of_non, by rw [isNon_ok r1]; exact q.at rg h (RD.bl _)⟩
  · exact h.elim
/-! ### in -/
def flatD : D → Bool
  | .non => true | .bl _ => true | .int _ => true | .str _ => true | _ => false
def eqF : D → D → Bool
  | .non, .non => true
  | .bl a, .bl b => a == b
  | .bl a, .int b => (if a then 1 else 0) == b
  | .int a, .bl b => a == (if b then 1 else 0)
  | .int a, .int b => a == b
  | .str a, .str b => a == b
  | _, _ => false
def flatTo : D → V
  | .bl b => .bl b | .int b => .int b | .str b => .str b | _ => .non
theorem flat_ok {K : PySem.W.Frag} {H : Hp} {N : Ns} {d : D} {v : V} (r : RD K H N d v) (f : flatD d = true) : v = flatTo d := by
  cases d with
  | non => exact r.of_non
  | bl b => exact r.of_bl
  | int b => exact r.of_int
  | str b => exact r.of_str
  | _ => cases f
theorem flats_ok {K : PySem.W.Frag} {H : Hp} {N : Ns} : ∀ {ds : List D} {vs : List V}, RDs K H N ds vs → ds.all flatD = true → vs = ds.map flatTo
  | [], _, r, _ => r.of_nil
  | d :: ds, _, r, f => by
    obtain ⟨v, vs, rfl, r1, r2⟩ := r.of_cons
    simp only [List.all_cons, Bool.and_eq_true] at f
    rw [flat_ok r1 f.1, flats_ok r2 f.2]; rfl
theorem flatV_to {d : D} (f : flatD d = true) : flatV (flatTo d) = true := by cases d <;> rfl
theorem eqV_to {c d : D} (f : flatD c = true) (g : flatD d = true) : eqV (flatTo c) (flatTo d) = eqF c d := by
  cases c <;> cases d <;> first | rfl | (simp [flatD] at f; done) | (simp [flatD] at g; done)
def inF (x : D) (ds : List D) : Bool := ds.any fun y => eqF y x
theorem inV_to {x : D} (f : flatD x = true) : ∀ {ds : List D}, ds.all flatD = true → inV (flatTo x) (ds.map flatTo) = inF x ds
  | [], _ => rfl
  | d :: ds, h => by
    simp only [List.all_cons, Bool.and_eq_true] at h
    have ih := inV_to f h.2
    unfold inV inF at ih ⊢
    rw [List.map_cons, List.any_cons, List.any_cons, eqV_to h.1 f, ih]
theorem flatsV_to : ∀ {ds : List D}, ds.all flatD = true → (ds.map flatTo).all flatV = true
  | [], _ => rfl
  | d :: ds, h => by
    simp only [List.all_cons, Bool.and_eq_true] at h
    rw [List.map_cons, List.all_cons, flatV_to h.1, flatsV_to h.2]; rfl
/-- the things of a list or tuple -/
def seqOf (G : Gp) : D → Option (List D)
  | .tup ds => some ds
  | .nt zs => some (zs.map .str)
  | d => lstOf G d
theorem seqOf_ok {K : PySem.W.Frag} {H : Hp} {N : Ns} {G : Gp} {d : D} {v : V} {ds : List D} (rg : RelG K H N G) (rd : RD K H N d v) (h : seqOf G d = some ds) : ∃ p vs, v = .ref p ∧ (SqL K H p vs ∨ SqT K H p vs) ∧ RDs K H N ds vs := by
  unfold seqOf at h
  split at h
  · cases h
    obtain ⟨p, vs, rfl, s, r⟩ := rd.of_tup
    exact ⟨p, vs, rfl, .inr s, r⟩
  · rename_i zs
    cases h
    obtain ⟨p, rfl, s⟩ := rd.of_nt
    exact ⟨p, _, rfl, .inr s.sq, RDs.strs zs⟩
  · obtain ⟨p, vs, rfl, s, r⟩ := lstOf_ok rg rd h
    exact ⟨p, vs, rfl, .inl s, r⟩
def strIn (a b : Str) : Bool := !(Builtin.Str.occurrences b a 0 b.length 1).isEmpty
def dInW (f : Bool → Bool) : DR2 := fun x y G R => match x, y with
  | .str a, .str b => match a.cps.toList with | [c] => R (.bl (f (decide (c ∈ b.cps.toList)))) G | _ => R (.bl (f (strIn a b))) G
  | x, y => match seqOf G y with | some ds => flatD x = true ∧ ds.all flatD = true ∧ R (.bl (f (inF x ds))) G | none => False
theorem str_one {a : Str} {c : Nat} (h : a.cps.toList = [c]) : a = ⟨#[c]⟩ := by
  cases a with
  | mk cps => simp only at h; congr 1; apply Array.toList_inj.mp; simpa using h
theorem od_inW {f : Value → Value → Sem Value} {g : Bool → Bool} (h1 : OpR X f (fun x y H Q => ∃ (c : Nat) (z : Str), x = .str ⟨#[c]⟩ ∧ y = .str z ∧ Q (.bl (g (decide (c ∈ z.cps.toList)))) H))
    (h2 : OpR X f (fun x y H Q => ∃ i j, x = .str i ∧ y = .str j ∧ Q (.bl (g (!(Builtin.Str.occurrences j i 0 j.length 1).isEmpty))) H))
    (h3 : OpR X f (fun x y H Q => ∃ p xs, y = .ref p ∧ (SqL X.K H p xs ∨ SqT X.K H p xs) ∧ flatV x = true ∧ xs.all flatV = true ∧ Q (.bl (g (inV x xs))) H)) : OpD X f (dInW g) := opr_mono (h1.or (h2.or h3)) fun x y H Q h => by
  obtain ⟨c, d, G, N, R, r1, r2, rg, h, q⟩ := h
  unfold dInW at h
  split at h
  · rename_i a b
    obtain rfl := r1.of_str
    obtain rfl := r2.of_str
    split at h
    · rename_i c e
      exact .inl ⟨c, b, by rw [str_one e], rfl, q.at rg h (RD.bl _)⟩
    · exact .inr (.inl ⟨a, b, rfl, rfl, q.at rg h (RD.bl _)⟩)
  · split at h
    · rename_i ds e
      obtain ⟨p, vs, rfl, s, r⟩ := seqOf_ok rg r2 e
      have e1 := flat_ok r1 h.1
      have e2 := flats_ok r h.2.1
      subst e1 e2
      refine .inr (.inr ⟨p, _, rfl, s, flatV_to h.1, flatsV_to h.2.1, ?_⟩)
      rw [inV_to h.1 h.2.1]
      exact q.at rg h.2.2 (RD.bl _)
    · exact h.elim
def dIn : DR2 := dInW id
def dNotIn : DR2 := dInW not
theorem od_in : OpD X (compareOp .In) dIn := od_inW (opr_mono op_in_sign fun _ _ _ _ h => h) (opr_mono op_in_str fun _ _ _ _ h => h) (opr_mono op_in_seq fun _ _ _ _ h => by
  obtain ⟨p, xs, a, b, c, d, e⟩ := h
  exact ⟨p, xs, a, b, c, d, by simpa using e⟩)
theorem od_notIn : OpD X (compareOp .NotIn) dNotIn := od_inW (opr_mono op_notIn_sign fun _ _ _ _ h => h) (opr_mono op_notin_str fun _ _ _ _ h => h) (opr_mono op_notIn_seq fun _ _ _ _ h => by
  obtain ⟨p, xs, a, b, c, d, e⟩ := h
  exact ⟨p, xs, a, b, c, d, by simpa using e⟩)
/-! ### subscripts -/
def dIx : DR2 := fun x y G R => match x, y with
  | .str z, .int i => z.length ≤ sizeLine ∧ (match atI z.cps.toList i with | some c => R (.str ⟨#[c]⟩) G | none => False)
  | x, .int i => match seqOf G x with | some ds => (match atI ds i with | some d => R d G | none => False) | none => False
  | _, _ => False
theorem atI_rd {K : PySem.W.Frag} {H : Hp} {N : Ns} {ds : List D} {vs : List V} {i : Int} {d : D} (r : RDs K H N ds vs) (h : atI ds i = some d) : ∃ v, atI vs i = some v ∧ RD K H N d v := by
  unfold atI at h ⊢
  rw [← r.length]
  cases e : ixN ds.length i with
  | none => rw [e] at h; cases h
  | some j =>
    rw [e] at h
    obtain ⟨v, h1, h2⟩ := r.get (i := j) (d := d) h
    exact ⟨v, h1, h2⟩
theorem xd_ix : IxD X dIx := ixr_mono ix_seq fun x y H Q h => by
  obtain ⟨c, d, G, N, R, r1, r2, rg, h, q⟩ := h
  unfold dIx at h
  split at h
  · rename_i z i
    obtain rfl := r1.of_str
    obtain rfl := r2.of_int
    obtain ⟨hz, h⟩ := h
    split at h
    · rename_i c e
      exact .inr (.inr ⟨z, i, c, rfl, rfl, hz, e, q.at rg h (RD.str _)⟩)
    · exact h.elim
  · rename_i i _
    obtain rfl := r2.of_int
    split at h
    · rename_i ds e
      obtain ⟨p, vs, rfl, s, r⟩ := seqOf_ok rg r1 e
      split at h
      · rename_i d ed
        obtain ⟨v, hv, rv⟩ := atI_rd r ed
        rcases s with s | s
        · exact .inl ⟨p, vs, i, v, rfl, rfl, s, hv, q.at rg h rv⟩
        · exact .inr (.inl ⟨p, vs, i, v, rfl, rfl, s, hv, q.at rg h rv⟩)
      · exact h.elim
    · exact h.elim
  · exact h.elim
/-- a list's item stored -/
def dSetI : DSet := fun o i v G R => match o, i with
  | .ref a, .int k => match G a with | some (.lst ds) => (match ixN ds.length k with | some j => R (gup G a (.lst (ds.set j v))) | none => False) | _ => False
  | _, _ => False
theorem sd_set : SetD X dSetI := by
  intro pins s σ H o i v ov iv u Q I ro ri rv h
  refine set_list pins s σ H o i v ov iv u Q I ro ri rv ?_
  obtain ⟨c, d, e, G, N, R, r1, r2, r3, rg, h, q⟩ := h
  unfold dSetI at h
  split at h
  · rename_i a k
    obtain rfl := r1.of_ref
    obtain rfl := r2.of_int
    split at h
    · rename_i ds ea
      split at h
      · rename_i j ej
        obtain ⟨_, vs, hv, r⟩ := rg a _ ea
        refine ⟨a, vs, k, j, rfl, rfl, hv, by rw [← r.length]; exact ej, ?_⟩
        refine q _ N _ h (Stp.write (u := .lst (vs.set j v)) rg ea hv rfl rfl ⟨_, upd_same, ?_⟩)
        exact (RDs.set r3 j r).le (Kp.write (u := .lst (vs.set j v)) (rg a _ ea).1 hv rfl rfl)
      · exact h.elim
    · exact h.elim
  · exact h.elim
def dGetI : DR2 := fun x y G R => match x, y with
  | .ref a, .int i => (match G a with | some (.lst ds) => (match atI ds i with | some d => R d G | none => False) | _ => False)
  | _, _ => False
theorem gd_ix : GetD X dGetI := by
  intro pins s σ H o i ov iv Q I ro ri h
  obtain ⟨c, d, G, N, R, r1, r2, rg, h, q⟩ := h
  unfold dGetI at h
  split at h
  · rename_i a k
    obtain rfl := r1.of_ref
    obtain rfl := r2.of_int
    split at h
    · rename_i ds ea
      split at h
      · rename_i d ed
        obtain ⟨_, vs, hv, r⟩ := rg a _ ea
        obtain ⟨v, hv2, rv⟩ := atI_rd r ed
        cases ro
        obtain ⟨t, rfl⟩ := ri
        obtain ⟨its, rr, pl, hz⟩ := I.list (SqL.of hv)
        obtain ⟨j, h1, h2, h3, h4, h5⟩ := atI_get hv2
        obtain ⟨w, ew, ru⟩ := rr.get h2
        have hl := rr.length
        have hn := line63
        have fin : EP X pins σ Q w s := ⟨v, H, I, ru, q.at rg h rv⟩
        by_cases h0 : 0 ≤ k
        · have hj : k.toNat = j := by
            rw [seqIndex_of h0 h5] at h1
            exact Option.some.inj h1
          exact wpAny_getItem_list pl.isList h0 (by omega) (by rw [hj]; simpa using ew) fin
        · have hj : (k + (its.toArray.size : Int)).toNat = j := by
            rw [seqIndex_neg (by omega) h4] at h1
            rw [List.size_toArray, ← hl]
            exact Option.some.inj h1
          exact wpAny_getItem_list_neg pl.isList (by omega) (by rw [List.size_toArray] <;> omega) (by omega) (by rw [hj]; simpa using ew) fin
      · exact h.elim
    · exact h.elim
  · exact h.elim
end
end DL

set_option Elab.async false
set_option linter.all false
set_option maxRecDepth 100000
set_option maxHeartbeats 4000000
set_option autoImplicit false
namespace DL
open PySem PySem.Spec PyProof.Rows L2

/-! ### slices -/
abbrev DO := Sd → Gp → (Option Int → Gp → Prop) → Prop
def upO (K : PySem.W.Frag) (t : DO) : TO := fun τ H Q => ∃ σ G N R, RSt K H N σ τ ∧ RelG K H N G ∧ t σ G R ∧ ∀ o G' N' H', R o G' → Stp K H N G H' N' G' → Q o H'
def QO (X : Cx) (e : Option Expr) (t : DO) : Prop := PO X e (upO X.K t)
def dNoPart : DO := fun _ G R => R none G
def dPart (t : DE) : DO := fun σ G R => t σ G fun x G1 => match x with | .int i => R (some i) G1 | _ => False
theorem po_mono {X : Cx} {e : Option Expr} {t t' : TO} (h : PO X e t) (i : ∀ τ H Q, t' τ H Q → t τ H Q) : PO X e t' := ⟨fun pins s σ H Q I q => h.run pins s σ H Q I (i σ H Q q)⟩
def cutL {α : Type} (xs : List α) (lo hi : Option Int) : List α := (xs.drop (HT.sIx xs.length 0 lo)).take (HT.sIx xs.length xs.length hi - HT.sIx xs.length 0 lo)
theorem RDs.cut {K : PySem.W.Frag} {H : Hp} {N : Ns} {ds : List D} {vs : List V} (r : RDs K H N ds vs) (lo hi : Option Int) : RDs K H N (cutL ds lo hi) (cutV vs lo hi) := by
  unfold cutL cutV
  rw [r.length]
  exact RDs.take _ (RDs.drop _ r)
theorem cut_whole {α : Type} {xs : List α} {lo hi : Option Int} (h : HT.sIx xs.length 0 lo = 0 ∧ HT.sIx xs.length xs.length hi = xs.length) : cutL xs lo hi = xs := by
  unfold cutL
  rw [h.1, h.2, List.drop_zero, Nat.sub_zero, List.take_length]
def dSl (mk : Bool) : D → Option Int → Option Int → Gp → DK → Prop := fun x lo hi G R => match x with
  | .str z => z.length ≤ sizeLine ∧ R (.str (cutS z lo hi)) G
  | .tup ds => R (.tup (cutL ds lo hi)) G
  | x => match lstOf G x with | some ds => newL mk (cutL ds lo hi) G R | none => False
def dSlice (mk : Bool) (te : DE) (tl th : DO) : DE := fun σ G R => te σ G fun x G1 => tl σ G1 fun l G2 => th σ G2 fun u G3 => dSl mk x l u G3 R
section
variable {X : Cx} {e : Expr} {te : DE} {pos : Pos}
theorem qo_none : QO X none dNoPart := po_mono po_none fun τ H Q h => by
  obtain ⟨σ, G, N, R, hs, hg, ht, q⟩ := h
  exact q _ _ _ _ ht (Stp.refl hg)
theorem qo_some (h : QE X e te) : QO X (some e) (dPart te) := po_mono (po_some h) fun τ H Q h => by
  obtain ⟨σ, G, N, R, hs, hg, ht, q⟩ := h
  refine ⟨σ, G, N, _, hs, hg, ht, fun d G1 N1 v1 H1 h1 s1 r1 => ?_⟩
  split at h1
  · exact ⟨_, r1.of_int, q _ _ _ _ h1 s1⟩
  · exact h1.elim
theorem qe_slice (mk : Bool) {lo hi : Option Expr} {tl th : DO} {p2 : Pos} (he : QE X e te) (hl : QO X lo tl) (hu : QO X hi th) : QE X (.Subscript e (.Slice lo hi none p2) pos) (dSlice mk te tl th) :=
  pe_mono (pe_slice (sl_str.or (sl_tupA.or sl_list)) he hl hu) fun τ H Q h => by
    obtain ⟨σ, G, N, R, hs, hg, ht, q⟩ := h
    refine ⟨σ, G, N, _, hs, hg, ht, fun d G1 N1 v1 H1 h1 s1 r1 => ?_⟩
    refine ⟨σ, G1, N1, _, hs.le s1.kp, s1.rel, h1, fun l G2 N2 H2 h2 s2 => ?_⟩
    refine ⟨σ, G2, N2, _, (hs.le s1.kp).le s2.kp, s2.rel, h2, fun u G3 N3 H3 h3 s3 => ?_⟩
    have s13 := (s1.trans s2).trans s3
    have r3 := (r1.le s2.kp).le s3.kp
    have q3 := q.le s13
    have rg := s3.rel
    unfold dSl at h3
    split at h3
    · obtain rfl := r3.of_str
      exact .inl ⟨_, rfl, h3.1, q3.at rg h3.2 (RD.str _)⟩
    · rename_i ds
      obtain ⟨p, vs, rfl, sq, r⟩ := r3.of_tup
      have hlen := r.length
      refine .inr (.inl ⟨p, vs, rfl, sq, fun hw => ?_, fun hw p np => ?_⟩)
      · rw [cut_whole (by rw [hlen]; exact hw)] at h3
        exact q3.at rg h3 (RD.tup sq r)
      · exact newT_ok rg (r.cut l u) h3 q3 np
    · split at h3
      · rename_i ds ed
        obtain ⟨p, vs, rfl, sq, r⟩ := lstOf_ok rg r3 ed
        exact .inr (.inr ⟨p, vs, rfl, sq, fun p np => newL_ok rg (r.cut l u) h3 q3 np⟩)
      · exact h3.elim
end
/-! ### t[::-1] -/
section
variable {prog : Program} {w : World} {A : Around} {E : Value → Shared → Prop} {s : Shared}
theorem rev_places (n : Nat) : Builtin.Slice.slicePlaces ((n : Int) - 1) (-1) (-1) = n := by
  unfold Builtin.Slice.slicePlaces
  rw [if_neg (by decide)]
  by_cases h : (n : Int) - 1 > -1
  · rw [if_pos h, show (- -1 : Int) = 1 by decide, Int.ediv_one]
    omega
  · rw [if_neg h]
    omega
theorem rev_pick (xs : Array Value) : ((List.range xs.size).filterMap fun (m : Nat) => xs[(((xs.size : Int) - 1) + (m : Int) * (-1)).toNat]?).toArray = xs.toList.reverse.toArray := by
  have e : ((List.range xs.size).filterMap fun (m : Nat) => xs[(((xs.size : Int) - 1) + (m : Int) * (-1)).toNat]?) = (((List.range xs.size).map fun k => xs.size - 1 - k).filterMap (xs[·]?)) := by
    rw [List.filterMap_map]
    have aux : ∀ (l : List Nat), (∀ m ∈ l, m < xs.size) → l.filterMap (fun (m : Nat) => xs[(((xs.size : Int) - 1) + (m : Int) * (-1)).toNat]?) = l.filterMap ((fun x => xs[x]?) ∘ fun k => xs.size - 1 - k) := by
      intro l
      induction l with
      | nil => intro _; rfl
      | cons m l ih =>
        intro h
        have hm := h m List.mem_cons_self
        have e2 : (((xs.size : Int) - 1) + (m : Int) * (-1)).toNat = xs.size - 1 - m := by omega
        rw [List.filterMap_cons, List.filterMap_cons, ih (fun k hk => h k (List.mem_cons_of_mem _ hk)), e2]
        rfl
    exact aux _ fun m hm => List.mem_range.mp hm
  rw [e]
  have h := PySem.W.krv_pick xs
  unfold slicePick at h
  rw [PySem.W.krv_bounds] at h
  have h' : ((sliceRange ((xs.size : Int) - 1) (-1) (-1)).filterMap (xs[·]?)).toArray = xs.toList.reverse.toArray := h
  rw [PySem.W.krv_sliceRange] at h'
  exact h'
theorem getItem_tuple_rev {t sl : Addr} {items : Array Value} {vs : Value} {Q : Value → Shared → Prop} (ht : IsTup s.heap t items) (hs : s.heap.IsSliceOf sl .none .none vs) (ps : IsPart vs (some (-1)))
    (h : Q (.ref s.heap.objs.size) { s with heap := s.heap.push { cls := .type "tuple", data := .seq items.toList.reverse.toArray } })
    (hsz : items.size ≤ sizeLine) : wpAny (model prog w) A (getItem (.ref t) (.ref sl)) Q E s := by
  have htake : sizeOk (.seq items.toList.reverse.toArray) := by
    show items.toList.reverse.toArray.size ≤ sizeLine
    rw [List.size_toArray, List.length_reverse, Array.length_toList]
    exact hsz
  obtain ⟨os, hos, hcs, hds⟩ := id hs
  have hTs : s.TypeIs (.ref sl) "slice" := ⟨os, hos, hcs⟩
  unfold getItem
  try with_reducible refine wpAny_holding ?_
  first | refine wpAny_bind (wpAny_pure ?_) | skip
  refine wpAny_bind (wpAny_sequenceKey ht.typeIs (by decide) ?_)
  refine wpAny_bind (wpAny_callSpecial?_slot (name := Str.ofString "__getitem__") ht.typeIs PyProof.Rows.slot_tuple_getitem
    (wpAny_call_entry PyProof.Rows.slot_tuple_getitem ht.typeIs entry_tuple_getitem ?_ (args_tuple_getitem _ _)))
  show wpAny _ _ (Builtin.Tuple.tupleItemsOf (.ref t) >>= _) _ _ s
  refine wpAny_bind (tupleItemsOf_ ht ?_)
  refine wpAny_bind (wpAny_typeOf hTs ?_)
  rw [if_pos (by decide)]
  have ap : ∀ (A : Around) (E : Value → Shared → Prop) (Q : Int × Int × Nat → Shared → Prop), Q ((items.size : Int) - 1, -1, items.size) s → wpAny (model prog w) A (Builtin.Slice.sliceApplied (.ref sl) (pure (items.size : Int))) Q E s := by
    intro A E Q hQ
    unfold Builtin.Slice.sliceApplied Builtin.Slice.sliceFields
    refine wpAny_bind (wpAny_bind (wpAny_field hos hds (x := .none) rfl (wpAny_bind (wpAny_field hos hds (x := .none) rfl (wpAny_bind (wpAny_field hos hds (x := vs) rfl (wpAny_pure ?_)))))))
    refine wpAny_bind (HT.slicePart_ ps ?_)
    show wpAny _ _ (if ((-1 : Int) == 0) = true then _ else _) _ _ s
    rw [if_neg (by decide)]
    refine wpAny_bind (slicePart_none (wpAny_bind (slicePart_none (wpAny_bind (wpAny_pure ?_)))))
    show wpAny _ _ (pure (((items.size : Int) - 1), (-1 : Int), Builtin.Slice.slicePlaces ((items.size : Int) - 1) (-1) (-1))) _ _ s
    rw [rev_places]
    exact wpAny_pure hQ
  refine wpAny_bind (ap _ _ _ ?_)
  have hno : ¬ ((((items.size : Int) - 1) == 0 && (-1 : Int) == 1 && items.size == items.size) = true) := by
    intro q
    rw [Bool.and_eq_true, Bool.and_eq_true] at q
    exact absurd q.1.2 (by decide)
  show wpAny _ _ (if (((items.size : Int) - 1) == 0 && (-1 : Int) == 1 && items.size == items.size) = true then _ else _) _ _ s
  rw [if_neg hno, rev_pick]
  first
    | exact wpAny_bind (m := Builtin.Tuple.tupleExact _) (wpAny_newObj_type (wpAny_pure ⟨_, rfl, wpAny_pure h⟩) htake)
    | exact wpAny_bind (m := Builtin.Tuple.tupleExact _) (wpAny_newObj_type (wpAny_bind (wpAny_pure (wpAny_pure ⟨_, rfl, wpAny_pure h⟩))) htake)
    | exact wpAny_bind (wpAny_bind (m := Builtin.Tuple.tupleExact _) (wpAny_newObj_type (wpAny_pure (wpAny_pure ⟨_, rfl, wpAny_pure h⟩)) htake))
    | exact wpAny_bind (wpAny_bind (m := Builtin.Tuple.tupleExact _) (wpAny_newObj_type (wpAny_pure ⟨_, rfl, wpAny_pure h⟩) htake))
end
section
variable {X : Cx}
def tRevS (K : PySem.W.Frag) (te : TE) : TE := fun σ H Q => te σ H fun x H1 => ∃ a xs, x = .ref a ∧ ((SqL K H1 a xs ∧ ∀ p, H1 p = none → Q (.ref p) (upd H1 p (.lst xs.reverse))) ∨ (SqT K H1 a xs ∧ ∀ p, H1 p = none → Q (.ref p) (upd H1 p (.tup xs.reverse))))
theorem pe_revS {e : Expr} {te : TE} {k : Nat} {p1 p2 p3 pos : Pos} (he : PE X e te) : PE X (.Subscript e (.Slice none none (some (.UnaryOp .USub (.Constant (.int 1) k p1) p2)) p3) pos) (tRevS X.K te) := by
  refine ⟨fun pins s σ H Q I h => ?_⟩
  refine Subscript_ (thn (he.run pins s σ H _ I h) fun v s1 ⟨x, H1, I1, r1, q1⟩ => ?_)
  obtain ⟨a, xs, ex, q⟩ := q1
  subst ex
  cases r1
  have hst : PO X (some (.UnaryOp .USub (.Constant (.int 1) k p1) p2)) (tPart (tUn (rU fun i => .int (-i)) (tC (.int 1)))) := po_some (pe_un un_neg pe_int)
  refine wpAny_Slice (thn (po_none.run pins s1 σ H1 (fun o H2 => o = none ∧ H2 = H1) I1 ⟨rfl, rfl⟩) fun vl s2 ⟨l, H2, I2, pl, el, e2⟩ => ?_)
  subst el e2
  refine thn (po_none.run pins s2 σ H2 (fun o H3 => o = none ∧ H3 = H2) I2 ⟨rfl, rfl⟩) fun vu s3 ⟨u, H3, I3, pu, eu, e3⟩ => ?_
  subst eu e3
  refine thn (hst.run pins s3 σ H3 (fun o H4 => o = some (-1) ∧ H4 = H3) I3 ⟨1, rfl, -1, rfl, rfl, rfl⟩) fun vs s4 ⟨o, H4, I4, ps, eo, e4⟩ => ?_
  subst eo e4
  have I5 : Inv X pins σ H4 { s4 with heap := s4.heap.push { cls := .type "slice", data := .fields #[vl, vu, vs] } } := I4.kept (t' := s4.toks) fun b ob q => Heap.get?_push_of_some _ q
  show wpAny (model X.prog X.w) X.A (subscriptTail e (.Slice none none (some (.UnaryOp .USub (.Constant (.int 1) k p1) p2)) p3) (.ref a) (.ref s4.heap.objs.size)) (EP X pins σ Q) X.xe { s4 with heap := s4.heap.push { cls := .type "slice", data := .fields #[vl, vu, vs] } }
  rcases q with ⟨hx, q⟩ | ⟨hx, q⟩
  · obtain ⟨its, r, ht, hz⟩ := I5.list hx
    have hlen := r.length
    refine tail_any (ops := [.ref a, .ref s4.heap.objs.size]) ht.isList.typeIs (PySem.slot_list_getitem.lookup) ?_ (by with_unfolding_all rfl)
    refine wpAny_getItem_list_slice ht.isList (Heap.IsSliceOf.new _ vl vu vs) pl pu ps (by decide) ?_ (by rw [List.size_toArray]; omega)
    rw [PySem.W.krv_pick]
    refine ⟨.ref _, _, I5.laid (t' := s4.toks) (o := .lst xs.reverse) (fun b ob q => Heap.get?_push_of_some _ q) (Nat.le_refl _) ?_, rfl, q _ (I5.hok.fresh (Nat.le_refl _))⟩
    exact ⟨by rw [List.length_reverse]; exact hz, _, 0, r.reverse, Heap.get?_push_size _ rfl⟩
  · obtain ⟨its, r, ht, hz⟩ := I5.tuple hx
    have hlen := r.length
    refine tail_any (ops := [.ref a, .ref s4.heap.objs.size]) ht.typeIs (PyProof.Rows.slot_tuple_getitem.lookup) ?_ (by with_unfolding_all rfl)
    have e1 : vl = .none := by cases pl; rfl
    have e2 : vu = .none := by cases pu; rfl
    refine getItem_tuple_rev ht (vs := vs) (by have := Heap.IsSliceOf.new s4.heap vl vu vs; rw [e1, e2] at this ⊢; exact this) ps ?_ (by rw [List.size_toArray]; omega)
    refine ⟨.ref _, _, I5.laid (t' := s4.toks) (o := .tup xs.reverse) (fun b ob q => Heap.get?_push_of_some _ q) (Nat.le_refl _) ?_, rfl, q _ (I5.hok.fresh (Nat.le_refl _))⟩
    exact ⟨by rw [List.length_reverse]; exact hz, _, r.reverse, ⟨_, Heap.get?_push_size _ rfl, rfl, 0, rfl⟩⟩
def dRev (mk : Bool) (te : DE) : DE := fun σ G R => te σ G fun x G1 => match x with
  | .tup ds => R (.tup ds.reverse) G1
  | x => match lstOf G1 x with | some ds => newL mk ds.reverse G1 R | none => False
theorem qe_rev (mk : Bool) {e : Expr} {te : DE} {k : Nat} {p1 p2 p3 pos : Pos} (he : QE X e te) : QE X (.Subscript e (.Slice none none (some (.UnaryOp .USub (.Constant (.int 1) k p1) p2)) p3) pos) (dRev mk te) := pe_mono (pe_revS he) fun τ H Q h => by
  obtain ⟨σ, G, N, R, hs, hg, ht, q⟩ := h
  refine ⟨σ, G, N, _, hs, hg, ht, fun d G1 N1 v1 H1 h1 s1 r1 => ?_⟩
  split at h1
  · obtain ⟨p, vs, rfl, sq, r⟩ := r1.of_tup
    exact ⟨p, vs, rfl, .inr ⟨sq, fun p np => newT_ok s1.rel r.reverse h1 (q.le s1) np⟩⟩
  · split at h1
    · rename_i ds ed
      obtain ⟨p, vs, rfl, sq, r⟩ := lstOf_ok s1.rel r1 ed
      exact ⟨p, vs, rfl, .inl ⟨sq, fun p np => newL_ok s1.rel r.reverse h1 (q.le s1) np⟩⟩
    · exact h1.elim
/-! ### built-ins -/
theorem up_rn {f : Value} {r : DRn} {rv : List V → Hp → VK → Prop} (h : CallR X f rv) (i : ∀ cs G N R xs H Q, RDs X.K H N cs xs → RelG X.K H N G → r cs G R → UpQ X.K H N G R Q → rv xs H Q) : CallD X f r := callr_mono h fun xs H Q h => by
  obtain ⟨cs, G, N, R, r1, rg, h, q⟩ := h
  exact i cs G N R xs H Q r1 rg h q
def dLen : DRn := fun cs G R => match cs with
  | [.str z] => z.length ≤ sizeLine ∧ R (.int z.length) G
  | [x] => match seqOf G x with | some ds => R (.int ds.length) G | none => False
  | _ => False
theorem cd_len : CallD X (.builtin "len") dLen := up_rn (call_len_str.or call_len_seq) fun cs G N R xs H Q rd rg h q => by
  unfold dLen at h
  split at h
  · obtain ⟨v, r, rfl, r1, r2⟩ := rd.of_cons
    rw [r1.of_str, r2.of_nil]
    exact .inl ⟨_, rfl, h.1, q.at rg h.2 (RD.int _)⟩
  · obtain ⟨v, r, rfl, r1, r2⟩ := rd.of_cons
    rw [r2.of_nil]
    split at h
    · rename_i ds e
      obtain ⟨p, vs, rfl, s, r⟩ := seqOf_ok rg r1 e
      refine .inr ⟨p, vs, rfl, s, ?_⟩
      rw [← r.length]
      exact q.at rg h (RD.int _)
    · exact h.elim
  · exact h.elim
def blsOf : List D → Option (List Bool)
  | [] => some []
  | .bl b :: r => match blsOf r with | some bs => some (b :: bs) | none => none
  | _ => none
theorem blsOf_ok : ∀ {ds : List D} {bs : List Bool}, blsOf ds = some bs → ds = bs.map D.bl
  | [], _, h => by cases h; rfl
  | .bl b :: r, _, h => by
    unfold blsOf at h
    split at h
    · rename_i bs e
      cases h
      rw [blsOf_ok e]; rfl
    · cases h
  | .non :: r, _, h => by simp [blsOf] at h
  | .int _ :: r, _, h => by simp [blsOf] at h
  | .str _ :: r, _, h => by simp [blsOf] at h
  | .ty _ :: r, _, h => by simp [blsOf] at h
  | .ref _ :: r, _, h => by simp [blsOf] at h
  | .any _ :: r, _, h => by simp [blsOf] at h
  | .tup _ :: r, _, h => by simp [blsOf] at h
  | .lst _ :: r, _, h => by simp [blsOf] at h
theorem blsOf_map : ∀ bs : List Bool, blsOf (bs.map D.bl) = some bs
  | [] => rfl
  | b :: bs => by rw [List.map_cons]; unfold blsOf; rw [blsOf_map bs]
def dAll : DRn := fun cs G R => match cs with
  | [x] => match (lstOf G x).bind blsOf with | some bs => R (.bl (bs.all id)) G | none => False
  | _ => False
def dAny : DRn := fun cs G R => match cs with
  | [x] => match (lstOf G x).bind blsOf with | some bs => R (.bl (bs.any id)) G | none => False
  | _ => False
theorem bls_at {K : PySem.W.Frag} {H : Hp} {N : Ns} {G : Gp} {d : D} {v : V} {bs : List Bool} (rg : RelG K H N G) (rd : RD K H N d v) (h : (lstOf G d).bind blsOf = some bs) : ∃ p, v = .ref p ∧ SqL K H p (bs.map V.bl) := by
  cases e : lstOf G d with
  | none => rw [e] at h; cases h
  | some ds =>
    rw [e] at h
    obtain ⟨p, vs, rfl, s, r⟩ := lstOf_ok rg rd e
    have e2 := blsOf_ok (show blsOf ds = some bs from h)
    subst e2
    rw [r.of_bls] at s
    exact ⟨p, rfl, s⟩
theorem cd_all (hc : X.calm = true) : CallD X (.builtin "all") dAll := up_rn (cr_all hc) fun cs G N R xs H Q rd rg h q => by
  unfold dAll at h
  split at h
  · obtain ⟨v, r, rfl, r1, r2⟩ := rd.of_cons
    rw [r2.of_nil]
    split at h
    · rename_i bs e
      obtain ⟨p, rfl, s⟩ := bls_at rg r1 e
      exact ⟨p, bs, rfl, s, q.at rg h (RD.bl _)⟩
    · exact h.elim
  · exact h.elim
theorem cd_any (hc : X.calm = true) : CallD X (.builtin "any") dAny := up_rn (cr_any hc) fun cs G N R xs H Q rd rg h q => by
  unfold dAny at h
  split at h
  · obtain ⟨v, r, rfl, r1, r2⟩ := rd.of_cons
    rw [r2.of_nil]
    split at h
    · rename_i bs e
      obtain ⟨p, rfl, s⟩ := bls_at rg r1 e
      exact ⟨p, bs, rfl, s, q.at rg h (RD.bl _)⟩
    · exact h.elim
  · exact h.elim
def dMax2 : DRn := fun cs G R => match cs with | [.int i, .int j] => R (.int (if j > i then j else i)) G | _ => False
def dMin2 : DRn := fun cs G R => match cs with | [.int i, .int j] => R (.int (if j < i then j else i)) G | _ => False
theorem cd_max2 (hc : X.calm = true) : CallD X (.builtin "max") dMax2 := up_rn (call_max2 hc) fun cs G N R xs H Q rd rg h q => by
  unfold dMax2 at h
  split at h
  · obtain ⟨v, r, rfl, r1, r2⟩ := rd.of_cons
    obtain ⟨v', r', rfl, r3, r4⟩ := r2.of_cons
    rw [r4.of_nil, r1.of_int, r3.of_int]
    exact ⟨_, _, rfl, q.at rg h (RD.int _)⟩
  · exact h.elim
theorem cd_min2 (hc : X.calm = true) : CallD X (.builtin "min") dMin2 := up_rn (call_min2 hc) fun cs G N R xs H Q rd rg h q => by
  unfold dMin2 at h
  split at h
  · obtain ⟨v, r, rfl, r1, r2⟩ := rd.of_cons
    obtain ⟨v', r', rfl, r3, r4⟩ := r2.of_cons
    rw [r4.of_nil, r1.of_int, r3.of_int]
    exact ⟨_, _, rfl, q.at rg h (RD.int _)⟩
  · exact h.elim
def dTuple : DRn := fun cs G R => match cs with | [x] => (match seqOf G x with | some ds => R (.tup ds) G | none => False) | _ => False
def dList (mk : Bool) : DRn := fun cs G R => match cs with | [x] => (match seqOf G x with | some ds => newL mk ds G R | none => False) | _ => False
theorem cd_tuple : CallD X (.type "tuple") dTuple := up_rn call_tuple_of fun cs G N R xs H Q rd rg h q => by
  unfold dTuple at h
  split at h
  · obtain ⟨v, r, rfl, r1, r2⟩ := rd.of_cons
    rw [r2.of_nil]
    split at h
    · rename_i ds e
      obtain ⟨p, vs, rfl, s, r⟩ := seqOf_ok rg r1 e
      refine ⟨p, vs, rfl, ?_⟩
      rcases s with s | s
      · exact .inl ⟨s, fun p np => newT_ok rg r h q np⟩
      · exact .inr ⟨s, q.at rg h (RD.tup s r)⟩
    · exact h.elim
  · exact h.elim
theorem cd_list (mk : Bool) : CallD X (.type "list") (dList mk) := up_rn call_list_of fun cs G N R xs H Q rd rg h q => by
  unfold dList at h
  split at h
  · obtain ⟨v, r, rfl, r1, r2⟩ := rd.of_cons
    rw [r2.of_nil]
    split at h
    · rename_i ds e
      obtain ⟨p, vs, rfl, s, r⟩ := seqOf_ok rg r1 e
      exact ⟨p, vs, rfl, s, fun p np => newL_ok rg r h q np⟩
    · exact h.elim
  · exact h.elim
def dInt : DRn := fun cs G R => match cs with | [.int i] => R (.int i) G | [.bl b] => R (.int (if b then 1 else 0)) G | _ => False
theorem cd_int : CallD X (.type "int") dInt := up_rn call_int1 fun cs G N R xs H Q rd rg h q => by
  unfold dInt at h
  split at h
  · obtain ⟨v, r, rfl, r1, r2⟩ := rd.of_cons
    rw [r2.of_nil, r1.of_int]
    exact .inl ⟨_, rfl, q.at rg h (RD.int _)⟩
  · obtain ⟨v, r, rfl, r1, r2⟩ := rd.of_cons
    rw [r2.of_nil, r1.of_bl]
    exact .inr ⟨_, rfl, q.at rg h (RD.int _)⟩
  · exact h.elim
def dStrI : DRn := fun cs G R => match cs with | [.int i] => i.natAbs.log2 < 1920 ∧ R (.str (toString i)) G | _ => False
theorem cd_strI : CallD X (.type "str") dStrI := up_rn call_str_int fun cs G N R xs H Q rd rg h q => by
  unfold dStrI at h
  split at h
  · obtain ⟨v, r, rfl, r1, r2⟩ := rd.of_cons
    rw [r2.of_nil, r1.of_int]
    exact ⟨_, rfl, h.1, q.at rg h.2 (RD.str _)⟩
  · exact h.elim
/-- the type of data -/
def tyD (G : Gp) : D → Option String
  | .non => some "NoneType" | .bl _ => some "bool" | .int _ => some "int" | .str _ => some "str" | .tup _ => some "tuple" | .nt _ => some "tuple" | .lst _ => some "list"
  | .any n => if n = "list" ∨ n = "dict" then some n else none
  | .ref a => match G a with | some (.lst _) => some "list" | some (.dK _) => some "dict" | some (.dT _) => some "dict" | _ => none
  | _ => none
def isTy (t n : String) : Bool := t == n || (t == "bool" && n == "int")
def knownTy : List String := ["int", "bool", "str", "tuple", "list", "dict"]
def dIsi : DRn := fun cs G R => match cs with
  | [x, .ty n] => n ∈ knownTy ∧ (match tyD G x with | some t => R (.bl (isTy t n)) G | none => False)
  | _ => False
theorem kits : ∀ t ∈ ["NoneType", "bool", "int", "str", "tuple", "list", "dict"], ∀ n ∈ knownTy, kitB t n = some (isTy t n) := by decide +kernel
theorem knd_ty {K : PySem.W.Frag} {H : Hp} {a : Addr} {u : HO} {n : String} (h : H a = some u) (k : knd u = n) (d : n = "list" ∨ n = "dict") : TyX K H (.ref a) (.type n) := by
  subst k
  cases u with
  | lst _ => exact .base (.lst h)
  | dK _ => exact .base (.dK h)
  | dT _ => exact .base (.dT h)
  | frz o z =>
    cases z with
    | lst _ => exact .base (.frz h)
    | dK _ => exact .fDict h
    | _ => simp [knd] at d
  | _ => simp [knd] at d
theorem tyD_ok {K : PySem.W.Frag} {H : Hp} {N : Ns} {G : Gp} {d : D} {v : V} {t : String} (rg : RelG K H N G) (rd : RD K H N d v) (h : tyD G d = some t) : TyX K H v (.type t) ∧ t ∈ ["NoneType", "bool", "int", "str", "tuple", "list", "dict"] := by
  cases d with
  | non => cases h; rw [rd.of_non]; exact ⟨.base .non, by decide⟩
  | bl b => cases h; rw [rd.of_bl]; exact ⟨.base (.bl _), by decide⟩
  | int b => cases h; rw [rd.of_int]; exact ⟨.base (.int _), by decide⟩
  | str b => cases h; rw [rd.of_str]; exact ⟨.base (.str _), by decide⟩
  | ty b => cases h
  | nt zs =>
    cases h
    obtain ⟨p, rfl, s⟩ := rd.of_nt
    refine ⟨?_, by decide⟩
    rcases s with ⟨o, s, _⟩ | ⟨o, its, n, e, c, _⟩
    · exact .fTuple s
    · exact .kTuple e c
  | tup ds =>
    cases h
    obtain ⟨p, vs, rfl, s, r⟩ := rd.of_tup
    refine ⟨?_, by decide⟩
    rcases s with (s | ⟨o, s⟩) | ⟨o, its, n, e, c, _⟩
    · exact .base (.tup s)
    · exact .fTuple s
    · exact .kTuple e c
  | lst ds =>
    cases h
    obtain ⟨p, vs, rfl, s, r⟩ := rd.of_lst
    refine ⟨?_, by decide⟩
    rcases s with ⟨s, _⟩ | ⟨o, s⟩ | ⟨o, its, n, e, c, _⟩
    · exact .base (.lst s)
    · exact .base (.frz s)
    · exact .kList e c
  | any n =>
    obtain ⟨a, u, rfl, hu, k⟩ := rd.of_any
    unfold tyD at h
    simp only at h
    split at h
    · rename_i d
      cases h
      refine ⟨knd_ty hu k d, ?_⟩
      rcases d with d | d
      · subst d; decide
      · subst d; decide
    · cases h
  | ref a =>
    obtain rfl := rd.of_ref
    unfold tyD at h
    simp only at h
    split at h
    · rename_i ds e
      cases h
      obtain ⟨_, vs, hv, _⟩ := rg a _ e
      exact ⟨.base (.lst hv), by decide⟩
    · rename_i ds e
      cases h
      obtain ⟨_, vs, hv, _⟩ := rg a _ e
      exact ⟨.base (.dK hv), by decide⟩
    · rename_i ds e
      cases h
      obtain ⟨_, vs, hv, _⟩ := rg a _ e
      exact ⟨.base (.dT hv), by decide⟩
    · cases h
theorem cd_isi : CallD X (.builtin "isinstance") dIsi := up_rn call_isi fun cs G N R xs H Q rd rg h q => by
  unfold dIsi at h
  split at h
  · rename_i x n
    obtain ⟨hn, h⟩ := h
    obtain ⟨v, r, rfl, r1, r2⟩ := rd.of_cons
    obtain ⟨v', r', rfl, r3, r4⟩ := r2.of_cons
    rw [r4.of_nil, r3.of_ty]
    split at h
    · rename_i t et
      obtain ⟨ty, mt⟩ := tyD_ok rg r1 et
      exact ⟨v, _, .type t, .type n, isTy t n, rfl, .ty n, ty, kit_ty (kits t mt n hn), q.at rg h (RD.bl _)⟩
    · exact h.elim
  · exact h.elim
/-- a built-in type's name, as a value -/
theorem qe_ty {x : Str} {n : String} {pos : Pos} (hg : Gl X x) (hm : X.mg x = none) (hv : bootBuiltins x = some (.type n)) (hn : x ≠ "__name__" := by decide) (hd : (x == ("__debug__" : Str)) = false := by decide) : QE X (.Name x pos) (dC (.ty n)) :=
  pe_mono (pe_bltn hg hm hv (v := .ty n) rfl hn hd) fun _ _ _ h => up_c (fun _ _ => RD.ty n) h
/-! ### methods -/
def MtD (X : Cx) (id : String) (r : D → List D → Gp → DK → Prop) : Prop := MtR X id (upM X.K r)
theorem mtr_mono {id : String} {r r' : V → List V → Hp → VK → Prop} (h : MtR X id r) (i : ∀ x xs H Q, r' x xs H Q → r x xs H Q) : MtR X id r' := fun pins s σ H x xs v us Q I rx rxs q => h pins s σ H x xs v us Q I rx rxs (i x xs H Q q)
theorem md_of {id : String} {r : D → List D → Gp → DK → Prop} {rv : V → List V → Hp → VK → Prop} (h : MtR X id rv) (i : ∀ c cs G N R x xs H Q, RD X.K H N c x → RDs X.K H N cs xs → RelG X.K H N G → r c cs G R → UpQ X.K H N G R Q → rv x xs H Q) : MtD X id r := mtr_mono h fun x xs H Q h => by
  obtain ⟨c, cs, G, N, R, r0, r1, rg, h, q⟩ := h
  exact i c cs G N R x xs H Q r0 r1 rg h q
/-- the type of what has methods -/
def mty (G : Gp) : D → Option String
  | .str _ => some "str" | .lst _ => some "list"
  | .ref a => match G a with | some (.lst _) => some "list" | some (.dK _) => some "dict" | some (.dT _) => some "dict" | _ => none
  | _ => none
def dM (T : String) (r : D → List D → Gp → DK → Prop) (to : DE) (t : DA) : DE := fun σ G R => to σ G fun x G1 => mty G1 x = some T ∧ t σ G1 fun xs G2 => r x xs G2 R
def dM0 (T : String) (r : D → List D → Gp → DK → Prop) (to : DE) : DE := fun σ G R => to σ G fun x G1 => mty G1 x = some T ∧ r x [] G1 R
theorem tyV_of {K : PySem.W.Frag} {H : Hp} {N : Ns} {G : Gp} {d : D} {v : V} {T : String} (rg : RelG K H N G) (rd : RD K H N d v) (h : mty G d = some T) : tyV K T v H := by
  cases d with
  | str b => cases h; rw [rd.of_str]; rfl
  | lst ds =>
    cases h
    obtain ⟨p, vs, rfl, s, r⟩ := rd.of_lst
    exact .inl ⟨rfl, _, s.sq⟩
  | ref a =>
    obtain rfl := rd.of_ref
    unfold mty at h
    simp only at h
    split at h
    · rename_i ds e
      cases h
      obtain ⟨_, vs, hv, _⟩ := rg a _ e
      exact .inl ⟨rfl, _, SqL.of hv⟩
    · rename_i ds e
      cases h
      obtain ⟨_, vs, hv, _⟩ := rg a _ e
      exact .inr (.inr (.inl ⟨rfl, .inl ⟨_, hv⟩⟩))
    · rename_i ds e
      cases h
      obtain ⟨_, vs, hv, _⟩ := rg a _ e
      exact .inr (.inr (.inl ⟨rfl, .inr ⟨_, hv⟩⟩))
    · cases h
  | _ => cases h
variable {o e : Expr} {es : List Expr} {to : DE} {t : DA} {name : Str} {apos cpos : Pos} {T id : String} {r : D → List D → Gp → DK → Prop}
theorem qe_m0 (pa : PlainAttrs T) (slot : Slot T name id) (hty : typeOf (.builtin id) = pure (.type "method_descriptor")) (hm : MtD X id r) (ho : QE X o to)
    (hbase : attributeBase o name X.env (eval o X.env) = eval o X.env := by rfl) (hline : (apos.endLine == cpos.line) = true := by rfl) : QE X (.Call (.Attribute o name apos) [] [] cpos) (dM0 T r to) := pe_mono (pe_bm0 pa slot hty hm ho hbase hline) fun τ H Q h => by
  obtain ⟨σ, G, N, R, hs, hg, ht, q⟩ := h
  refine ⟨σ, G, N, _, hs, hg, ht, fun x G1 N1 v1 H1 h1 s1 r1 => ?_⟩
  exact ⟨tyV_of s1.rel r1 h1.1, x, [], G1, N1, R, r1, RDs.nil, s1.rel, h1.2, q.le s1⟩
theorem qe_m (pa : PlainAttrs T) (slot : Slot T name id) (hty : typeOf (.builtin id) = pure (.type "method_descriptor")) (hm : MtD X id r) (ho : QE X o to) (ha : QA X (e :: es) t)
    (hbase : attributeBase o name X.env (eval o X.env) = eval o X.env := by rfl)
    (hfew : ((backTo cpos (starEach (e :: es) X.env)).all (fun x => !x.1) && (backToKw cpos (keywordEach [] X.env)).all (fun x => x.1.isSome)
      && decide ((e :: es).length + ([] : List Keyword).length + (if ([] : List Keyword).isEmpty then 0 else 1) < 30)) = true := by rfl)
    (hline : (apos.endLine == cpos.line) = true := by rfl) (hs : starEach (e :: es) X.env = (false, eval e X.env) :: starEach es X.env := by rfl) (hplain : (backTo cpos (starEach es X.env)).any (·.1) = false := by rfl) :
    QE X (.Call (.Attribute o name apos) (e :: es) [] cpos) (dM T r to t) := pe_mono (pe_bm pa slot hty hm ho ha hbase hfew hline hs hplain) fun τ H Q h => by
  obtain ⟨σ, G, N, R, hs, hg, ht, q⟩ := h
  refine ⟨σ, G, N, _, hs, hg, ht, fun x G1 N1 v1 H1 h1 s1 r1 => ?_⟩
  refine ⟨tyV_of s1.rel r1 h1.1, σ, G1, N1, _, hs.le s1.kp, s1.rel, h1.2, fun xs G2 N2 vs H2 h2 s2 r2 => ?_⟩
  exact ⟨x, xs, G2, N2, R, r1.le s2.kp, r2, s2.rel, h2, q.le (s1.trans s2)⟩
/-- xs.append(y) -/
def dAppend : D → List D → Gp → DK → Prop := fun x xs G R => match x, xs with
  | .ref a, [y] => match G a with | some (.lst ds) => ds.length < sizeLine ∧ R .non (gup G a (.lst (ds ++ [y]))) | _ => False
  | _, _ => False
theorem md_append : MtD X "list.append" dAppend := md_of (rv := rAppend) (fun pins s σ H x xs v us Q I rx rxs q => mt_append pins s σ H x xs v us Q I rx rxs q) fun c cs G N R x xs H Q r0 r1 rg h q => by
  unfold dAppend at h
  split at h
  · rename_i a y
    obtain rfl := r0.of_ref
    obtain ⟨v, r, rfl, rv, rr⟩ := r1.of_cons
    rw [rr.of_nil]
    split at h
    · rename_i ds e
      obtain ⟨_, vs, hv, rd⟩ := rg a _ e
      have hl := rd.length
      refine ⟨a, vs, v, rfl, rfl, hv, by omega, ?_⟩
      refine q _ _ N _ _ h.2 (Stp.write (u := .lst (vs ++ [v])) rg e hv rfl rfl ⟨_, upd_same, ?_⟩) RD.non
      exact (rd.append (RDs.cons rv RDs.nil)).le (Kp.write (u := .lst (vs ++ [v])) (rg a _ e).1 hv rfl rfl)
    · exact h.elim
  · exact h.elim
/-- s.upper() -/
def dUpper : D → List D → Gp → DK → Prop := fun x xs G R => match x, xs with | .str a, [] => a.length ≤ 5592405 ∧ R (.str (Txt.upper a)) G | _, _ => False
theorem md_upper : MtD X "str.upper" dUpper := md_of mt_upper fun c cs G N R x xs H Q r0 r1 rg h q => by
  unfold dUpper at h
  split at h
  · obtain rfl := r0.of_str
    rw [r1.of_nil]
    exact ⟨_, rfl, rfl, h.1, q.at rg h.2 (RD.str _)⟩
  · exact h.elim
def strsOf : List D → Option (List Str)
  | [] => some []
  | .str b :: r => match strsOf r with | some bs => some (b :: bs) | none => none
  | _ => none
theorem strsOf_ok : ∀ {ds : List D} {bs : List Str}, strsOf ds = some bs → ds = bs.map D.str
  | [], _, h => by cases h; rfl
  | .str b :: r, _, h => by
    unfold strsOf at h
    split at h
    · rename_i bs e
      cases h
      rw [strsOf_ok e]; rfl
    · cases h
  | .non :: r, _, h => by simp [strsOf] at h
  | .int _ :: r, _, h => by simp [strsOf] at h
  | .bl _ :: r, _, h => by simp [strsOf] at h
  | .ty _ :: r, _, h => by simp [strsOf] at h
  | .ref _ :: r, _, h => by simp [strsOf] at h
  | .any _ :: r, _, h => by simp [strsOf] at h
  | .tup _ :: r, _, h => by simp [strsOf] at h
  | .lst _ :: r, _, h => by simp [strsOf] at h
theorem strsOf_map : ∀ bs : List Str, strsOf (bs.map D.str) = some bs
  | [] => rfl
  | b :: bs => by rw [List.map_cons]; unfold strsOf; rw [strsOf_map bs]
/-- sep.join(texts) -/
def dJoin : D → List D → Gp → DK → Prop := fun x xs G R => match x, xs with
  | .str a, [y] => match (seqOf G y).bind strsOf with | some ys => (ys.map (·.length)).sum + ys.length * a.length ≤ 16777216 ∧ R (.str (Txt.join a ys)) G | none => False
  | _, _ => False
theorem md_join : MtD X "str.join" dJoin := md_of mt_join fun c cs G N R x xs H Q r0 r1 rg h q => by
  unfold dJoin at h
  split at h
  · obtain rfl := r0.of_str
    obtain ⟨v, r, rfl, rv, rr⟩ := r1.of_cons
    rw [rr.of_nil]
    rename_i a0 y
    split at h
    · rename_i ys e
      cases e2 : seqOf G y with
      | none => rw [e2] at e; cases e
      | some ds =>
        rw [e2] at e
        obtain ⟨p, vs, rfl, s, rd⟩ := seqOf_ok rg rv e2
        have e3 := strsOf_ok (show strsOf ds = some ys from e)
        subst e3
        rw [rd.of_strs] at s
        exact ⟨_, p, ys, rfl, rfl, s, h.1, q.at rg h.2 (RD.str _)⟩
    · exact h.elim
  · exact h.elim
end
end DL

set_option Elab.async false
set_option linter.all false
set_option maxRecDepth 100000
set_option maxHeartbeats 4000000
set_option autoImplicit false
namespace DL
open PySem PySem.Spec PyProof.Rows L2
/-! ### sets of ints and texts, made of a list or a tuple -/
section
variable {κ : Type} [DecidableEq κ]
/-- each thing once, in the order of coming -/
def uniqStep (acc : List κ) (k : κ) : List κ := if k ∈ acc then acc else acc ++ [k]
def uniq (ks : List κ) : List κ := ks.foldl uniqStep []
theorem uniq_snoc (ks : List κ) (k : κ) : uniq (ks ++ [k]) = uniqStep (uniq ks) k := by unfold uniq; rw [List.foldl_append]; rfl
theorem uniq_fold : ∀ (ks acc : List κ), acc.Nodup → (ks.foldl uniqStep acc).Nodup ∧ (∀ x, x ∈ ks.foldl uniqStep acc ↔ x ∈ acc ∨ x ∈ ks) ∧ (ks.foldl uniqStep acc).length ≤ acc.length + ks.length ∧ ((ks.foldl uniqStep acc).length = acc.length + ks.length ↔ (acc ++ ks).Nodup)
  | [], acc, h => by simp [h]
  | k :: ks, acc, h => by
    rw [List.foldl_cons]
    by_cases e : k ∈ acc
    · rw [show uniqStep acc k = acc from if_pos e]
      obtain ⟨h1, h2, h3, h4⟩ := uniq_fold ks acc h
      refine ⟨h1, fun x => ?_, by simp; omega, ?_⟩
      · rw [h2 x]
        constructor
        · rintro (z | z)
          · exact .inl z
          · exact .inr (List.mem_cons_of_mem _ z)
        · rintro (z | z)
          · exact .inl z
          · rcases List.mem_cons.mp z with z | z
            · exact .inl (z ▸ e)
            · exact .inr z
      · constructor
        · intro z; simp only [List.length_cons] at z; omega
        · intro z
          rw [List.nodup_append] at z
          exact absurd rfl (z.2.2 k e k List.mem_cons_self)
    · rw [show uniqStep acc k = acc ++ [k] from if_neg e]
      have hn : (acc ++ [k]).Nodup := by
        rw [List.nodup_append]
        refine ⟨h, by simp, fun a ha b hb => ?_⟩
        rw [List.mem_singleton] at hb
        subst hb
        intro z; subst z; exact e ha
      obtain ⟨h1, h2, h3, h4⟩ := uniq_fold ks (acc ++ [k]) hn
      refine ⟨h1, fun x => ?_, by simp only [List.length_append, List.length_cons, List.length_nil] at h3 ⊢; omega, ?_⟩
      · rw [h2 x]; simp [or_assoc]
      · have e1 : (acc ++ [k]).length + ks.length = acc.length + (k :: ks).length := by simp; omega
        rw [← e1, h4]
        simp
theorem uniq_mem (ks : List κ) (x : κ) : x ∈ uniq ks ↔ x ∈ ks := by have := (uniq_fold ks [] List.nodup_nil).2.1 x; simpa [uniq] using this
theorem uniq_le (ks : List κ) : (uniq ks).length ≤ ks.length := by have := (uniq_fold ks [] List.nodup_nil).2.2.1; simpa [uniq] using this
theorem uniq_eq (ks : List κ) : (uniq ks).length = ks.length ↔ ks.Nodup := by have := (uniq_fold ks [] List.nodup_nil).2.2.2; simpa [uniq] using this
end
def memB (k : Key) (l : List Key) : Bool := l.any fun y => decide (y = k)
theorem memB_iff {k : Key} {l : List Key} : memB k l = true ↔ k ∈ l := by
  unfold memB
  rw [List.any_eq_true]
  constructor
  · rintro ⟨x, h, e⟩
    rw [← of_decide_eq_true e]; exact h
  · intro h
    exact ⟨k, h, decide_eq_true rfl⟩
instance keyLawful : LawfulBEq Key where
  eq_of_beq := fun {a b} h => by
    cases a with
    | inl i => cases b with
      | inl j => exact congrArg Sum.inl (eq_of_beq (show (i == j) = true from h))
      | inr j => exact absurd (show false = true from h) Bool.false_ne_true
    | inr i => cases b with
      | inl j => exact absurd (show false = true from h) Bool.false_ne_true
      | inr j => exact congrArg Sum.inr (eq_of_beq (show (i == j) = true from h))
  rfl := fun {a} => by
    cases a with
    | inl i => exact beq_self_eq_true i
    | inr i => exact beq_self_eq_true i
/-- values that are these keys -/
def KeysAre (us : List Value) (ks : List Key) : Prop := Paired (fun (k : Key) (u : Value) => keyIs k u = true) ks us
theorem KeysAre.len {us : List Value} {ks : List Key} (h : KeysAre us ks) : us.length = ks.length := (Paired.length h).symm
theorem KeysAre.get : ∀ {us : List Value} {ks : List Key} {i : Nat} {v : Value}, KeysAre us ks → us[i]? = some v → ∃ k, ks[i]? = some k ∧ keyIs k v = true
  | _, _, _, _, .nil, e => by simp at e
  | _, _, 0, _, .cons r _, e => by simp at e; subst e; exact ⟨_, rfl, r⟩
  | _, _, i + 1, v, .cons _ t, e => by
    obtain ⟨k, h1, h2⟩ := KeysAre.get (i := i) (v := v) t (by simpa using e)
    exact ⟨k, by simpa using h1, h2⟩
theorem keyIs_scan {k : Key} {v : Value} (h : keyIs k v = true) : v.scannable = true := by
  rcases keyIs_shape h with ⟨i, t, rfl, rfl⟩ | ⟨x, t, rfl, rfl⟩ <;> rfl
section
variable {prog : Program} {w : World} {A : Around} {R : Result → Shared → Prop} {I : Addr} {fp wr : List Addr} {G : Array GenState → Array GenState → Prop} {n : Nat} {P : Nat → Value → Prop} {St : Nat → Shared → Prop}
theorem loopKey (W : WalksS prog w A.in1 I fp wr G n P St) (S : Addr) (hSf : S ∉ fp) (xs : List Key) (hsz : xs.length = n) (hb : xs.length + 1 < scanBound)
    (hval : ∀ i v, P i v → ∃ k, xs[i]? = some k ∧ keyIs k v = true) :
    ∀ (k i : Nat) (s : Shared), n - i = k → i ≤ n → St i s →
      s.heap.SetOf (mixKind prog w) S (fun k' => memB k' (uniq (xs.take i))) (uniq (xs.take i)).length →
      (∀ s', Moved (S :: wr) G s s' → s'.heap.SetOf (mixKind prog w) S (fun k' => memB k' (uniq xs)) (uniq xs).length → R (.ok (.ret .none)) s') →
      codeAny (model prog w) A (.builtin "set.update.loop" ⟨[.ref S, .ref I], []⟩) R s := by
  have hSw : S ∉ wr := fun h => hSf (W.sub _ h)
  have hsub : ∀ b ∈ wr, b ∈ S :: wr := fun b hb => List.mem_cons_of_mem _ hb
  intro k
  induction k with
  | zero =>
    intro i s hk hi hst hS hR
    have hin : i = n := by omega
    subst hin
    refine codeAny_builtin PyProof.Rows.F.entry_set_update_loop ?_
    rw [Around.under_plainId PyProof.Rows.F.plain_set_update_loop _]
    show wpAny _ A.in1 (pyNext (.ref I) >>= _) _ _ s
    refine wpAny_bind (W.done s _ _ hst fun s' hm => ?_)
    show wpAny _ A.in1 (ret Value.none) _ _ s'
    rw [List.take_of_length_le (by omega)] at hS
    exact wpAny_pure (hR s' (hm.mono hsub) (by
      obtain ⟨o, es, ep, t, ho, rest⟩ := hS
      exact ⟨o, es, ep, t, hm.heap S _ hSw ho, rest⟩))
  | succ k ih =>
    intro i s hk hi hst hS hR
    have hlt : i < n := by omega
    refine codeAny_builtin PyProof.Rows.F.entry_set_update_loop ?_
    rw [Around.under_plainId PyProof.Rows.F.plain_set_update_loop _]
    show wpAny _ A.in1 (pyNext (.ref I) >>= _) _ _ s
    refine wpAny_bind (W.item i s _ _ hlt hst fun v s' hP hst' hm => ?_)
    obtain ⟨key, hk1, hk2⟩ := hval i v hP
    have hS' : s'.heap.SetOf (mixKind prog w) S (fun k' => memB k' (uniq (xs.take i))) (uniq (xs.take i)).length := by
      obtain ⟨o, es, ep, tb, ho, rest⟩ := hS
      exact ⟨o, es, ep, tb, hm.heap S _ hSw ho, rest⟩
    show wpAny _ A.in1 (holding [v] (setAdd S v) >>= _) _ _ s'
    refine wpAny_bind (wpAny_holding ?_)
    unfold setAdd
    refine wpAny_holding ?_
    refine wpAny_bind ((mixKind prog w).pyHash (k := key) hk2 ?_)
    have hroom : (uniq (xs.take i)).length + 1 < scanBound := by
      have := uniq_le (xs.take i)
      rw [List.length_take] at this
      omega
    refine wpAny_setAddHashed_of (knd := mixKind prog w) (k := key) (s := { s' with toks := s'.toks + 1 }) hk2 (keyIs_scan hk2) hS' hroom fun h' hsb hS2 => ?_
    have hSi : h'.SetOf (mixKind prog w) S (fun k' => memB k' (uniq (xs.take (i + 1)))) (uniq (xs.take (i + 1))).length := by
      have et : xs.take (i + 1) = xs.take i ++ [key] := by rw [List.take_add_one, hk1]; rfl
      rw [et, uniq_snoc]
      by_cases e : key ∈ uniq (xs.take i)
      · have em := memB_iff.mpr e
        refine SetOf_congr hS2 (fun k' => ?_) ?_
        · rw [show uniqStep (uniq (xs.take i)) key = uniq (xs.take i) from if_pos e]
          show (memB k' (uniq (xs.take i)) || decide (k' = key)) = _
          by_cases e2 : k' = key
          · subst e2; rw [em]; rfl
          · rw [decide_eq_false e2, Bool.or_false]
        · rw [show uniqStep (uniq (xs.take i)) key = uniq (xs.take i) from if_pos e, em]; rfl
      · have em : memB key (uniq (xs.take i)) = false := by
          cases q : memB key (uniq (xs.take i)) with
          | false => rfl
          | true => exact absurd (memB_iff.mp q) e
        refine SetOf_congr hS2 (fun k' => ?_) ?_
        · rw [show uniqStep (uniq (xs.take i)) key = uniq (xs.take i) ++ [key] from if_neg e]
          show (memB k' (uniq (xs.take i)) || decide (k' = key)) = memB k' (uniq (xs.take i) ++ [key])
          unfold memB
          rw [List.any_append]
          congr 1
          show decide (k' = key) = ([key].any fun y => decide (y = k'))
          rw [List.any_cons, List.any_nil, Bool.or_false]
          by_cases e2 : k' = key
          · subst e2; rfl
          · rw [decide_eq_false e2, decide_eq_false (fun z => e2 z.symm)]
        · rw [show uniqStep (uniq (xs.take i)) key = uniq (xs.take i) ++ [key] from if_neg e, em, List.length_append]; rfl
    refine wpAny_pure ⟨plainId_quiet PyProof.Rows.F.plain_set_update_loop _, ih (i + 1) _ (by omega) hlt (W.frame _ s' _ _ hst' (Nat.le_succ _) fun b hb o e => ?_) hSi fun s'' hm'' hS'' => ?_⟩
    · rw [hsb.2 b (fun h : b = S => hSf (by rw [← h]; exact hb))]; exact e
    · refine hR s'' (Moved.trans W.gtrans ((hm.mono hsub).then_heap (Nat.le_succ _) fun b o hb e => ?_) hm'') hS''
      rw [hsb.2 b (fun h : b = S => hb (by rw [h]; exact List.mem_cons_self))]; exact e
end
section
variable {prog : Program} {w : World} {A : Around} {E : Value → Shared → Prop} {s : Shared}
set_option maxHeartbeats 3200000 in
theorem call_set_listK {l : Addr} {items : Array Value} {xs : List Key} {Q : Value → Shared → Prop}
    (hh : A.handled = none) (hl : s.heap.IsList l items) (hi : KeysAre items.toList xs) (hn1 : xs.length + 1 < scanBound)
    (h : ∀ (h' : Heap) (tk : Nat), h'.SetOf (mixKind prog w) s.heap.objs.size (fun k' => memB k' (uniq xs)) (uniq xs).length →
      (∀ b o, b < s.heap.objs.size → s.heap.get? b = some o → h'.get? b = some o) → Q (.ref s.heap.objs.size) { s with heap := h', toks := tk }) :
    wpAny (model prog w) A (call (.type "set") [.ref l]) Q E s := by
  obtain ⟨c, tl, hmro⟩ := PySem.F.called_set.mro
  have hmade := PySem.F.called_set.made
  have hsub := PySem.F.called_set.sub
  refine wpAny_call (codeAny_of_tree ?_)
  show wpAny _ _ (callAny (.type "set") _) _ _ _
  refine wpAny_pure ⟨Code.quiet_builtin _ (by decide +kernel), codeAny_builtin PySem.F.entry_type_call ?_⟩
  rw [Around.under_plain (weight_type_call_type "set" [.ref l] []) rfl]
  have h1 := PySem.F.called_set.notType
  have h2 := PySem.F.called_set.canCreate
  have hct := PySem.F.typeCall_set_1 (.ref l)
  repeat (any_goals (first | assumption | wp_step))

  refine codeAny_mono (code_set_new_1 (.ref l) (E := E) (Q₁ := fun obj s₁ => ∃ led : Bool, obj = .ref s.heap.objs.size ∧ s₁ = { s with heap := s.heap.push { cls := .type "set", dict := none, data := .set #[] 0 (.fresh 0 0 led) } }) fun led => ⟨led, rfl, rfl⟩) fun r s₁ hr => ?_
  cases r with
  | error e => exact hr
  | ok fl =>
    cases fl with
    | ret obj =>
      obtain ⟨led, rfl, rfl⟩ := hr
      have hS : (s.heap.push { cls := .type "set", dict := none, data := .set #[] 0 (.fresh 0 0 led) }).get? s.heap.objs.size = some { cls := .type "set", dict := none, data := .set #[] 0 (.fresh 0 0 led) } := Heap.get?_push_size _ rfl
      have hT : Shared.TypeIs { s with heap := s.heap.push { cls := .type "set", dict := none, data := .set #[] 0 (.fresh 0 0 led) } } (.ref s.heap.objs.size) "set" := ⟨_, hS, rfl⟩
      have hli := PySem.F.called_set.init.lookup
      have hbi := PySem.F.called_set.init.bind (.ref s.heap.objs.size)
      repeat (any_goals (first | assumption | wp_step))

      refine codeAny_mono (codeAny_call_builtin (R := wants (fun r s₂ => r = .none ∧ ∃ h' tk, s₂ = { s with heap := h', toks := tk } ∧
          h'.SetOf (mixKind prog w) s.heap.objs.size (fun k' => memB k' (uniq xs)) (uniq xs).length ∧
          (∀ b o, b < s.heap.objs.size → s.heap.get? b = some o → h'.get? b = some o)) E) PySem.F.called_set.init.plain PySem.F.entry_set_init (check_set_init_1 hT ?_)) fun r₂ s₂ hr₂ => ?_
      · obtain ⟨ol, hol, hcl, nl, hdl⟩ := hl
        obtain ⟨ocls, odict, odata, oslots⟩ := ol
        simp only at hcl hdl
        subst hcl; subst hdl
        have hol' : (s.heap.push { cls := .type "set", dict := none, data := .set #[] 0 (.fresh 0 0 led) }).get? l = some { cls := .type "list", dict := odict, data := .seq items nl, slots := oslots } := Heap.get?_push_of_some _ hol
        have hsls := PySem.F.sub_list_set
        have hslf := PySem.F.sub_list_frozenset
        have hne : (Value.type "list" == Value.type "dict") = false := by decide
        have hl1 : (s.heap.push { cls := .type "set", dict := none, data := .set #[] 0 (.fresh 0 0 led) }).IsList l items := ⟨_, hol', rfl, nl, rfl⟩
        unfold Builtin.«set.__init__» noKeywords Builtin.Frozenset.updateFrom
        generalize hPI : pyIter = PI
        wp_walk
        subst hPI

        refine wpAny_pyIter_list hl1 ?_
        refine wpAny_bind (wpAny_runValue ?_)
        have hlS : l < s.heap.objs.size := Heap.lt_size hol
        have hh3 : A.in1.in1.in1.handled = none := by simp [hh]
        have hneI : l ≠ (s.heap.push { cls := .type "set", dict := none, data := .set #[] 0 (.fresh 0 0 led) }).objs.size := by
          rw [Heap.size_push]; exact Nat.ne_of_lt (Nat.lt_succ_of_lt hlS)
        have hSf : s.heap.objs.size ∉ [(s.heap.push { cls := .type "set", dict := none, data := .set #[] 0 (.fresh 0 0 led) }).objs.size, l] := by
          rw [Heap.size_push]; simp only [List.mem_cons, List.mem_singleton, List.not_mem_nil, or_false, not_or]
          exact ⟨Nat.ne_of_lt (Nat.lt_succ_self _), Nat.ne_of_gt hlS⟩
        have hsz : xs.length = items.size := by rw [← hi.len, Array.length_toList]
        have hval : ∀ (i : Nat) (v : Value), items[i]? = some v → ∃ k, xs[i]? = some k ∧ keyIs k v = true := fun i v hv => hi.get (by rw [Array.getElem?_toList]; exact hv)
        refine loopKey ((Walks.list hh3 _ l hneI items).toS) s.heap.objs.size
          hSf xs hsz hn1 hval (items.size - 0) 0 _ (by omega) (Nat.zero_le _)
          ⟨⟨_, Heap.get?_push_size _ rfl, rfl, rfl⟩, (hl1.push _)⟩ ?hS0 ?hR
        case hS0 =>
          have hget : ((s.heap.push { cls := .type "set", dict := none, data := .set #[] 0 (.fresh 0 0 led) }).push { cls := .type "list_iterator", data := .fields #[.ref l, .int 0 0] }).get? s.heap.objs.size
              = some { cls := .type "set", dict := none, data := .set #[] 0 (.fresh 0 0 led) } := Heap.get?_push_of_some _ hS
          exact PyProof.Rows.SetOf_congr ((PyProof.Rows.setObjOf_fresh (knd := mixKind prog w) led).setOf hget (by unfold scanBound; omega)) (fun _ => rfl) rfl
        case hR =>
          intro s' hm hS'
          obtain ⟨h', g', d', tk', os'⟩ := s'
          have eg : g' = s.gens := hm.gens
          have ed : d' = s.drawn := hm.drawn
          have eo : os' = s.os := hm.os
          subst eg; subst ed; subst eo
          show wpAny _ _ _ _ _ _
          refine wpAny_pure ?_
          show wpAny _ _ (ret Value.none) _ _ _
          refine wpAny_pure ⟨rfl, h', tk', rfl, hS', fun b o hb e => ?_⟩
          have hb1 : b ≠ s.heap.objs.size := Nat.ne_of_lt hb
          have hb2 : b ≠ (s.heap.push { cls := .type "set", dict := none, data := .set #[] 0 (.fresh 0 0 led) }).objs.size := by
            rw [Heap.size_push]; exact Nat.ne_of_lt (Nat.lt_succ_of_lt hb)
          exact hm.heap b o (by simp only [List.mem_cons, List.mem_singleton, List.not_mem_nil, or_false, not_or]; exact ⟨hb1, hb2⟩) (Heap.get?_push_of_some _ (Heap.get?_push_of_some _ e))

      · cases r₂ with
        | error e => exact hr₂
        | ok fl₂ =>
          cases fl₂ with
          | ret r =>
            obtain ⟨rfl, h', tk, rfl, hS', hk'⟩ := hr₂
            repeat (any_goals (first | assumption | wp_step))
            exact h _ _ hS' hk'
          | _ => exact hr₂.elim
    | _ => exact hr.elim


set_option maxHeartbeats 3200000 in
theorem call_set_tupleK {l : Addr} {items : Array Value} {xs : List Key} {Q : Value → Shared → Prop}
    (hh : A.handled = none) (hl : s.heap.IsTuple l items) (hi : KeysAre items.toList xs) (hn1 : xs.length + 1 < scanBound)
    (h : ∀ (h' : Heap) (tk : Nat), h'.SetOf (mixKind prog w) s.heap.objs.size (fun k' => memB k' (uniq xs)) (uniq xs).length →
      (∀ b o, b < s.heap.objs.size → s.heap.get? b = some o → h'.get? b = some o) → Q (.ref s.heap.objs.size) { s with heap := h', toks := tk }) :
    wpAny (model prog w) A (call (.type "set") [.ref l]) Q E s := by
  obtain ⟨c, tl, hmro⟩ := PySem.F.called_set.mro
  have hmade := PySem.F.called_set.made
  have hsub := PySem.F.called_set.sub
  refine wpAny_call (codeAny_of_tree ?_)
  show wpAny _ _ (callAny (.type "set") _) _ _ _
  refine wpAny_pure ⟨Code.quiet_builtin _ (by decide +kernel), codeAny_builtin PySem.F.entry_type_call ?_⟩
  rw [Around.under_plain (weight_type_call_type "set" [.ref l] []) rfl]
  have h1 := PySem.F.called_set.notType
  have h2 := PySem.F.called_set.canCreate
  have hct := PySem.F.typeCall_set_1 (.ref l)
  repeat (any_goals (first | assumption | wp_step))

  refine codeAny_mono (code_set_new_1 (.ref l) (E := E) (Q₁ := fun obj s₁ => ∃ led : Bool, obj = .ref s.heap.objs.size ∧ s₁ = { s with heap := s.heap.push { cls := .type "set", dict := none, data := .set #[] 0 (.fresh 0 0 led) } }) fun led => ⟨led, rfl, rfl⟩) fun r s₁ hr => ?_
  cases r with
  | error e => exact hr
  | ok fl =>
    cases fl with
    | ret obj =>
      obtain ⟨led, rfl, rfl⟩ := hr
      have hS : (s.heap.push { cls := .type "set", dict := none, data := .set #[] 0 (.fresh 0 0 led) }).get? s.heap.objs.size = some { cls := .type "set", dict := none, data := .set #[] 0 (.fresh 0 0 led) } := Heap.get?_push_size _ rfl
      have hT : Shared.TypeIs { s with heap := s.heap.push { cls := .type "set", dict := none, data := .set #[] 0 (.fresh 0 0 led) } } (.ref s.heap.objs.size) "set" := ⟨_, hS, rfl⟩
      have hli := PySem.F.called_set.init.lookup
      have hbi := PySem.F.called_set.init.bind (.ref s.heap.objs.size)
      repeat (any_goals (first | assumption | wp_step))

      refine codeAny_mono (codeAny_call_builtin (R := wants (fun r s₂ => r = .none ∧ ∃ h' tk, s₂ = { s with heap := h', toks := tk } ∧
          h'.SetOf (mixKind prog w) s.heap.objs.size (fun k' => memB k' (uniq xs)) (uniq xs).length ∧
          (∀ b o, b < s.heap.objs.size → s.heap.get? b = some o → h'.get? b = some o)) E) PySem.F.called_set.init.plain PySem.F.entry_set_init (check_set_init_1 hT ?_)) fun r₂ s₂ hr₂ => ?_
      · obtain ⟨ol, hol, hcl, nl, hdl⟩ := hl
        obtain ⟨ocls, odict, odata, oslots⟩ := ol
        simp only at hcl hdl
        subst hcl; subst hdl
        have hol' : (s.heap.push { cls := .type "set", dict := none, data := .set #[] 0 (.fresh 0 0 led) }).get? l = some { cls := .type "tuple", dict := odict, data := .seq items nl, slots := oslots } := Heap.get?_push_of_some _ hol
        have hsls := PySem.F.sub_tuple_set
        have hslf := PySem.F.sub_tuple_frozenset
        have hne : (Value.type "tuple" == Value.type "dict") = false := by decide
        have hl1 : (s.heap.push { cls := .type "set", dict := none, data := .set #[] 0 (.fresh 0 0 led) }).IsTuple l items := ⟨_, hol', rfl, nl, rfl⟩
        unfold Builtin.«set.__init__» noKeywords Builtin.Frozenset.updateFrom
        generalize hPI : pyIter = PI
        wp_walk
        subst hPI

        refine wpAny_pyIter_tuple hl1 ?_
        refine wpAny_bind (wpAny_runValue ?_)
        have hlS : l < s.heap.objs.size := Heap.lt_size hol
        have hh3 : A.in1.in1.in1.handled = none := by simp [hh]
        have hneI : l ≠ (s.heap.push { cls := .type "set", dict := none, data := .set #[] 0 (.fresh 0 0 led) }).objs.size := by
          rw [Heap.size_push]; exact Nat.ne_of_lt (Nat.lt_succ_of_lt hlS)
        have hSf : s.heap.objs.size ∉ [(s.heap.push { cls := .type "set", dict := none, data := .set #[] 0 (.fresh 0 0 led) }).objs.size, l] := by
          rw [Heap.size_push]; simp only [List.mem_cons, List.mem_singleton, List.not_mem_nil, or_false, not_or]
          exact ⟨Nat.ne_of_lt (Nat.lt_succ_self _), Nat.ne_of_gt hlS⟩
        have hsz : xs.length = items.size := by rw [← hi.len, Array.length_toList]
        have hval : ∀ (i : Nat) (v : Value), items[i]? = some v → ∃ k, xs[i]? = some k ∧ keyIs k v = true := fun i v hv => hi.get (by rw [Array.getElem?_toList]; exact hv)
        refine loopKey ((Walks.tuple hh3 _ l hneI items).toS) s.heap.objs.size
          hSf xs hsz hn1 hval (items.size - 0) 0 _ (by omega) (Nat.zero_le _)
          ⟨⟨_, Heap.get?_push_size _ rfl, rfl, rfl⟩, (hl1.push _)⟩ ?hS0 ?hR
        case hS0 =>
          have hget : ((s.heap.push { cls := .type "set", dict := none, data := .set #[] 0 (.fresh 0 0 led) }).push { cls := .type "tuple_iterator", data := .fields #[.ref l, .int 0 0] }).get? s.heap.objs.size
              = some { cls := .type "set", dict := none, data := .set #[] 0 (.fresh 0 0 led) } := Heap.get?_push_of_some _ hS
          exact PyProof.Rows.SetOf_congr ((PyProof.Rows.setObjOf_fresh (knd := mixKind prog w) led).setOf hget (by unfold scanBound; omega)) (fun _ => rfl) rfl
        case hR =>
          intro s' hm hS'
          obtain ⟨h', g', d', tk', os'⟩ := s'
          have eg : g' = s.gens := hm.gens
          have ed : d' = s.drawn := hm.drawn
          have eo : os' = s.os := hm.os
          subst eg; subst ed; subst eo
          show wpAny _ _ _ _ _ _
          refine wpAny_pure ?_
          show wpAny _ _ (ret Value.none) _ _ _
          refine wpAny_pure ⟨rfl, h', tk', rfl, hS', fun b o hb e => ?_⟩
          have hb1 : b ≠ s.heap.objs.size := Nat.ne_of_lt hb
          have hb2 : b ≠ (s.heap.push { cls := .type "set", dict := none, data := .set #[] 0 (.fresh 0 0 led) }).objs.size := by
            rw [Heap.size_push]; exact Nat.ne_of_lt (Nat.lt_succ_of_lt hb)
          exact hm.heap b o (by simp only [List.mem_cons, List.mem_singleton, List.not_mem_nil, or_false, not_or]; exact ⟨hb1, hb2⟩) (Heap.get?_push_of_some _ (Heap.get?_push_of_some _ e))

      · cases r₂ with
        | error e => exact hr₂
        | ok fl₂ =>
          cases fl₂ with
          | ret r =>
            obtain ⟨rfl, h', tk, rfl, hS', hk'⟩ := hr₂
            repeat (any_goals (first | assumption | wp_step))
            exact h _ _ hS' hk'
          | _ => exact hr₂.elim
    | _ => exact hr.elim


end
end DL

set_option Elab.async false
set_option linter.all false
set_option maxRecDepth 100000
set_option maxHeartbeats 4000000
set_option autoImplicit false
namespace DL
open PySem PySem.Spec PyProof.Rows L2
/-! ### len(set(xs)) -/
def keyD : D → Option Key
  | .int i => some (.inl i) | .str x => some (.inr x) | _ => none
def keysD : List D → Option (List Key)
  | [] => some []
  | d :: ds => match keyD d, keysD ds with | some k, some ks => some (k :: ks) | _, _ => none
theorem keyD_ok {K : PySem.W.Frag} {H : Hp} {N : Ns} {d : D} {v : V} {k : Key} (r : RD K H N d v) (h : keyD d = some k) : v = kV k := by
  cases d with
  | int i => cases h; exact r.of_int
  | str i => cases h; exact r.of_str
  | _ => cases h
theorem keysD_ok {K : PySem.W.Frag} {H : Hp} {N : Ns} : ∀ {ds : List D} {vs : List V} {ks : List Key}, RDs K H N ds vs → keysD ds = some ks → vs = ks.map kV
  | [], _, _, r, h => by cases h; exact r.of_nil
  | d :: ds, _, _, r, h => by
    obtain ⟨v, vs, rfl, r1, r2⟩ := r.of_cons
    unfold keysD at h
    split at h
    · rename_i k ks e1 e2
      cases h
      rw [keyD_ok r1 e1, keysD_ok r2 e2]; rfl
    · cases h
theorem keyIs_of {k : Key} {u : Value} (r : RelV (kV k) u) : keyIs k u = true := by
  cases k with
  | inl i => obtain ⟨t, rfl⟩ := r; exact keyIs_int i t
  | inr i => obtain ⟨t, rfl⟩ := r; exact keyIs_str i t
theorem keysAre_of : ∀ {ks : List Key} {us : List Value}, Vals (ks.map kV) us → KeysAre us ks
  | [], _, .nil => .nil
  | k :: ks, _, .cons r t => .cons (keyIs_of r) (keysAre_of t)
section
variable {X : Cx}
def tLenSetK (K : PySem.W.Frag) (ta : TE) : TE := fun σ H Q => ta σ H fun x H1 => ∃ l, ∃ ks : List Key, x = .ref l ∧ (SqL K H1 l (ks.map kV) ∨ SqT K H1 l (ks.map kV)) ∧ ks.length + 1 < scanBound ∧ Q (.int (uniq ks).length) H1
theorem pe_lenSetK {a : Expr} {ta : TE} {p p2 q pos : Pos} (hc : X.calm = true) (hg : Gl X "len") (hm : X.mg "len" = none) (hg2 : Gl X "set") (hm2 : X.mg "set" = none) (ha : PE X a ta)
    (na : starEach [a] X.env = (false, eval a X.env) :: starEach [] X.env := by rfl) : PE X (.Call (.Name "len" p) [.Call (.Name "set" p2) [a] [] q] [] pos) (tLenSetK X.K ta) := by
  refine ⟨fun pins s σ H Q I h => ?_⟩
  refine Call_ (ld_blt I hg hm boot_len (PyProof.Rows.callWith_builtin1 (PyProof.Rows.args_cons ?_ rfl) rfl rfl))
  refine Call_ (ld_blt I hg2 hm2 boot_set (PyProof.Rows.callWith_type1 (PyProof.Rows.args_cons (thn (ha.run pins s σ H _ I h) fun v s1 ⟨x, H1, I1, r1, q1⟩ => PyProof.Rows.args_nil ?_) na) na rfl))
  obtain ⟨l, ks, rfl, hq, h1, q1⟩ := q1
  cases r1
  have fin : ∀ (h' : Heap) (tk : Nat), h'.SetOf (mixKind X.prog X.w) s1.heap.objs.size (fun k' => memB k' (uniq ks)) (uniq ks).length →
      (∀ b o, b < s1.heap.objs.size → s1.heap.get? b = some o → h'.get? b = some o) →
      wpAny (model X.prog X.w) X.A (spliced (backTo pos (starEach [] X.env))) (fun vs s2 => wpAny (model X.prog X.w) X.A (call (.builtin "len") (Value.ref s1.heap.objs.size :: vs)) (EP X pins σ Q) X.xe s2) X.xe { s1 with heap := h', toks := tk } := fun h' tk hS hk => by
    refine PyProof.Rows.args_nil ?_
    obtain ⟨o, es, ep, t, ho, hex, hd, _, _, hb, hf, hn⟩ := hS
    have I2 : Inv X pins σ H1 { s1 with heap := h', toks := tk } := I1.kept fun b o e => hk b o (Heap.lt_size e) e
    have hsb : (scanBound : Int) ≤ 2 ^ 63 := by unfold scanBound; decide
    exact call_len_set ho hex hd hf (by omega) ⟨.int (uniq ks).length, H1, I2.tok _, ⟨_, by rw [hn]⟩, q1⟩
  rcases hq with hq | hq
  · obtain ⟨its, r, pl, hz⟩ := I1.list hq
    exact call_set_listK (I1.ok.hd hc) pl.isList (by simpa using keysAre_of r) h1 fun h' tk hS hk => fin h' tk hS hk
  · obtain ⟨its, r, pl, hz⟩ := I1.tuple hq
    exact call_set_tupleK (I1.ok.hd hc) pl (by simpa using keysAre_of r) h1 fun h' tk hS hk => fin h' tk hS hk
def dLenSet (te : DE) : DE := fun σ G R => te σ G fun x G1 => match (seqOf G1 x).bind keysD with | some ks => ks.length + 1 < scanBound ∧ R (.int (uniq ks).length) G1 | none => False
theorem qe_lenSet {a : Expr} {ta : DE} {p p2 q pos : Pos} (hc : X.calm = true) (hg : Gl X "len") (hm : X.mg "len" = none) (hg2 : Gl X "set") (hm2 : X.mg "set" = none) (ha : QE X a ta)
    (na : starEach [a] X.env = (false, eval a X.env) :: starEach [] X.env := by rfl) : QE X (.Call (.Name "len" p) [.Call (.Name "set" p2) [a] [] q] [] pos) (dLenSet ta) := pe_mono (pe_lenSetK hc hg hm hg2 hm2 ha na) fun τ H Q h => by
  obtain ⟨σ, G, N, R, hs, hgg, ht, q⟩ := h
  refine ⟨σ, G, N, _, hs, hgg, ht, fun x G1 N1 v1 H1 h1 s1 r1 => ?_⟩
  split at h1
  · rename_i ks e
    cases e2 : seqOf G1 x with
    | none => rw [e2] at e; cases e
    | some ds =>
      rw [e2] at e
      obtain ⟨p, vs, rfl, sq, r⟩ := seqOf_ok s1.rel r1 e2
      have e3 := keysD_ok r (show keysD ds = some ks from e)
      subst e3
      exact ⟨p, ks, rfl, sq, h1.1, (q.le s1).at s1.rel h1.2 (RD.int _)⟩
  · exact h1.elim
/-! ### what is walked -/
def iSeq (K : PySem.W.Frag) (tl : TE) : TI := fun σ H R => tl σ H fun x H1 => (∃ a, x = .ref a ∧ (∃ xs, SqL K H1 a xs) ∧ R (Itl K a) H1) ∨ (∃ a, x = .ref a ∧ (∃ xs, SqT K H1 a xs) ∧ R (Itt K a) H1) ∨ ∃ z, x = .str z ∧ R (Its z) H1
theorem pi_seq {tg l : Expr} {tl : TE} (hl : PE X l tl) : PI X tg l (iSeq X.K tl) := by
  refine ⟨fun pins s σ H R I h => thn (hl.run pins s σ H _ I h) fun v s1 ⟨x, H1, I1, r1, q1⟩ => ?_⟩
  rcases q1 with ⟨a, e, ⟨xs, hq⟩, q⟩ | ⟨a, e, ⟨xs, hq⟩, q⟩ | ⟨z, e, q⟩
  · subst e
    have hp : PE X l (fun _ _ Q => True) → True := fun _ => True.intro
    cases r1
    obtain ⟨its, rv, p, hz⟩ := I1.list hq
    exact wpAny_pyIter_list p.isList (pi_one (tk := s1.toks) I1 _ (turn_list a _) ⟨_, Heap.get?_push_size _ rfl, rfl, rfl⟩ q)
  · subst e
    cases r1
    obtain ⟨its, rv, p, hz⟩ := I1.tuple hq
    exact wpAny_pyIter_tuple (show s1.heap.IsTuple a its.toArray from p) (pi_one (tk := s1.toks) I1 _ (turn_tuple a _) ⟨_, Heap.get?_push_size _ rfl, rfl, rfl⟩ q)
  · subst e
    obtain ⟨t, rfl⟩ := r1
    cases ha : z.cps.all (· < 128)
    · exact wpAny_pyIter_wide ha (pi_one (tk := s1.toks) I1 _ (turn_str _ z t "str_iterator" (.inr rfl)) ⟨_, Heap.get?_push_size _ rfl, rfl, rfl⟩ q)
    · exact wpAny_pyIter_ascii ha (pi_one (tk := s1.toks) I1 _ (turn_str _ z t "str_ascii_iterator" (.inl rfl)) ⟨_, Heap.get?_push_size _ rfl, rfl, rfl⟩ q)
/-- a text's signsD -/
def signsD (z : Str) : List D := z.cps.toList.map fun c => .str ⟨#[c]⟩
def dIter (te : DE) : DI := fun σ G R => te σ G fun x G1 => match x with
  | .tup ds => R ds (fun _ => True) G1
  | .nt zs => R (zs.map .str) (fun _ => True) G1
  | .lst ds => R ds (fun _ => True) G1
  | .str z => R (signsD z) (fun _ => True) G1
  | .ref a => match G1 a with | some (.lst ds) => R ds (fun G => G a = some (.lst ds)) G1 | _ => False
  | _ => False
theorem yl_list {K : PySem.W.Frag} {H0 : Hp} {N0 : Ns} {G0 : Gp} {a : Addr} {ds : List D} {gd : Gp → Prop} (h : ∀ H N G, Stp K H0 N0 G0 H N G → gd G → ∃ vs, SqL K H a vs ∧ RDs K H N ds vs) : Yl K (Itl K a) H0 N0 G0 ds gd := by
  refine Yl.of (fun i H N G d s g e => ?_) (fun i H N G s g e => ?_)
  · obtain ⟨vs, sq, r⟩ := h H N G s g
    obtain ⟨v, hv, rv⟩ := r.get e
    refine ⟨⟨vs, v, sq, hv⟩, fun x H' y => ?_⟩
    obtain ⟨rfl, y⟩ := y
    have e2 := y vs sq
    rw [hv] at e2; cases e2
    exact ⟨Stp.refl s.rel, rv⟩
  · obtain ⟨vs, sq, r⟩ := h H N G s g
    exact ⟨vs, sq, by rw [← r.length]; exact e⟩
theorem yl_tup {K : PySem.W.Frag} {H0 : Hp} {N0 : Ns} {G0 : Gp} {a : Addr} {ds : List D} {vs : List V} (sq : SqT K H0 a vs) (r : RDs K H0 N0 ds vs) : Yl K (Itt K a) H0 N0 G0 ds fun _ => True := by
  refine Yl.of (fun i H N G d s g e => ?_) (fun i H N G s g e => ?_)
  · obtain ⟨v, hv, rv⟩ := (r.le s.kp).get e
    have sq' := SqT.le s.kp.kle sq
    refine ⟨⟨vs, v, sq', hv⟩, fun x H' y => ?_⟩
    obtain ⟨rfl, y⟩ := y
    have e2 := y vs sq'
    rw [hv] at e2; cases e2
    exact ⟨Stp.refl s.rel, rv⟩
  · exact ⟨vs, SqT.le s.kp.kle sq, by rw [← r.length]; exact e⟩
theorem yl_str {K : PySem.W.Frag} {H0 : Hp} {N0 : Ns} {G0 : Gp} {z : Str} : Yl K (Its z) H0 N0 G0 (signsD z) fun _ => True := by
  refine Yl.of (fun i H N G d s g e => ?_) (fun i H N G s g e => ?_)
  · unfold signsD at e
    rw [List.getElem?_map] at e
    cases ec : z.cps.toList[i]? with
    | none => rw [ec] at e; cases e
    | some c =>
      rw [ec] at e
      cases e
      have ec' : z.cps[i]? = some c := by rw [← Array.getElem?_toList]; exact ec
      refine ⟨(Array.getElem?_eq_some_iff.mp ec').1, fun x H' y => ?_⟩
      obtain ⟨rfl, c', e', rfl⟩ := y
      rw [ec'] at e'; cases e'
      exact ⟨Stp.refl s.rel, RD.str _⟩
  · unfold signsD at e
    rw [List.length_map, Array.length_toList] at e
    exact e
theorem qi_seq {tg l : Expr} {te : DE} (hl : QE X l te) : QI X tg l (dIter te) := pi_mono (pi_seq hl) fun τ H Q h => by
  obtain ⟨σ, G, N, R, hs, hg, ht, q⟩ := h
  refine ⟨σ, G, N, _, hs, hg, ht, fun x G1 N1 v1 H1 h1 s1 r1 => ?_⟩
  split at h1
  · obtain ⟨p, vs, rfl, sq, r⟩ := r1.of_tup
    exact .inr (.inl ⟨p, rfl, ⟨vs, sq⟩, q _ _ _ _ _ _ h1 s1 (yl_tup sq r)⟩)
  · obtain ⟨p, vs, rfl, sq, r⟩ := r1.nt_tup.of_tup
    exact .inr (.inl ⟨p, rfl, ⟨vs, sq⟩, q _ _ _ _ _ _ h1 s1 (yl_tup sq r)⟩)
  · obtain ⟨p, vs, rfl, sq, r⟩ := r1.of_lst
    exact .inl ⟨p, rfl, ⟨vs, sq.sq⟩, q _ _ _ _ _ _ h1 s1 (yl_list fun H N G s _ => ⟨vs, (sq.le s.kp).sq, r.le s.kp⟩)⟩
  · obtain rfl := r1.of_str
    exact .inr (.inr ⟨_, rfl, q _ _ _ _ _ _ h1 s1 yl_str⟩)
  · obtain rfl := r1.of_ref
    split at h1
    · rename_i ds e
      obtain ⟨_, vs, hv, r⟩ := s1.rel _ _ e
      exact .inl ⟨_, rfl, ⟨vs, SqL.of hv⟩, q _ _ _ _ _ _ h1 s1 (yl_list fun H N G s g => by
        obtain ⟨_, vs, hv, r⟩ := s.rel _ _ g
        exact ⟨vs, SqL.of hv, r⟩)⟩
    · exact h1.elim
  · exact h1.elim
/-- range(n) -/
def rng (lo : Int) (n : Nat) : List D := (List.range n).map fun i => .int (lo + (i : Nat))
theorem rng_length (lo : Int) (n : Nat) : (rng lo n).length = n := by unfold rng; rw [List.length_map, List.length_range]
theorem yl_rng {K : PySem.W.Frag} {H0 : Hp} {N0 : Ns} {G0 : Gp} {lo : Int} {n : Nat} : Yl K (Itr lo n) H0 N0 G0 (rng lo n) fun _ => True := by
  refine Yl.of (fun i H N G d s g e => ?_) (fun i H N G s g e => ?_)
  · have hi : i < n := by
      have := (List.getElem?_eq_some_iff.mp e).1
      rwa [rng_length] at this
    unfold rng at e
    rw [List.getElem?_map, List.getElem?_range hi] at e
    cases e
    refine ⟨hi, fun x H' y => ?_⟩
    obtain ⟨rfl, rfl⟩ := y
    exact ⟨Stp.refl s.rel, RD.int _⟩
  · rw [rng_length] at e; exact e
def dRng1 (ta : DA) : DI := fun σ G R => ta σ G fun ds G1 => match ds with | [.int j] => -(2 ^ 62) ≤ j ∧ j < 2 ^ 62 ∧ R (rng 0 j.toNat) (fun _ => True) G1 | _ => False
theorem qi_range1 {tg a : Expr} {ta : DA} {p pos : Pos} (hg : Gl X "range") (hm : X.mg "range" = none) (ha : QA X [a] ta) (hs : starEach [a] X.env = [(false, eval a X.env)] := by rfl) : QI X tg (.Call (.Name "range" p) [a] [] pos) (dRng1 ta) := pi_mono (pi_range1 hg hm ha hs) fun τ H Q h => by
  obtain ⟨σ, G, N, R, hs, hg, ht, q⟩ := h
  refine ⟨σ, G, N, _, hs, hg, ht, fun ds G1 N1 vs H1 h1 s1 r1 => ?_⟩
  split at h1
  · rename_i j
    obtain ⟨v, r, rfl, r2, r3⟩ := r1.of_cons
    rw [r3.of_nil, r2.of_int]
    exact ⟨j, rfl, h1.1, h1.2.1, q _ _ _ _ _ _ h1.2.2 s1 yl_rng⟩
  · exact h1.elim
/-- enumerate(list) -/
def enumD (lo : Int) : List D → List D
  | [] => []
  | d :: ds => .tup [.int lo, d] :: enumD (lo + 1) ds
theorem enumD_get : ∀ (ds : List D) (lo : Int) (i : Nat), (enumD lo ds)[i]? = (ds[i]?).map fun d => .tup [.int (lo + i), d]
  | [], lo, i => by simp [enumD]
  | d :: ds, lo, 0 => by simp [enumD]
  | d :: ds, lo, i + 1 => by
    rw [enumD, List.getElem?_cons_succ, List.getElem?_cons_succ, enumD_get ds (lo + 1) i]
    congr 1
    funext x
    rw [show lo + 1 + (i : Int) = lo + ((i + 1 : Nat) : Int) by push_cast; omega]
theorem enumD_length : ∀ (ds : List D) (lo : Int), (enumD lo ds).length = ds.length
  | [], _ => rfl
  | d :: ds, lo => by rw [enumD, List.length_cons, List.length_cons, enumD_length ds]
theorem yl_enum {K : PySem.W.Frag} {H0 : Hp} {N0 : Ns} {G0 : Gp} {a : Addr} {ds : List D} {gd : Gp → Prop} (h : ∀ H N G, Stp K H0 N0 G0 H N G → gd G → ∃ vs, SqL K H a vs ∧ RDs K H N ds vs) : Yl K (Ite K a) H0 N0 G0 (enumD 0 ds) gd := by
  refine Yl.of (fun i H N G d s g e => ?_) (fun i H N G s g e => ?_)
  · obtain ⟨vs, sq, r⟩ := h H N G s g
    rw [enumD_get] at e
    cases ed : ds[i]? with
    | none => rw [ed] at e; cases e
    | some d0 =>
      rw [ed] at e
      cases e
      obtain ⟨v, hv, rv⟩ := r.get ed
      refine ⟨⟨vs, v, sq, hv⟩, fun x H' y => ?_⟩
      obtain ⟨T, x1, rfl, nT, rfl, y⟩ := y
      have e2 := y vs sq
      rw [hv] at e2; cases e2
      have s2 := Stp.new0 (u := .tup [.int ((i : Nat) : Int), v]) s.rel nT
      refine ⟨s2, RD.tup (.inl (.inl upd_same)) (RDs.cons ?_ (RDs.cons (rv.le s2.kp) RDs.nil))⟩
      rw [Int.zero_add]
      exact RD.int _
  · obtain ⟨vs, sq, r⟩ := h H N G s g
    rw [enumD_length] at e
    exact ⟨vs, sq, by rw [← r.length]; exact e⟩
def dEnum (ta : DA) : DI := fun σ G R => ta σ G fun ds G1 => match ds with
  | [.lst xs] => R (enumD 0 xs) (fun _ => True) G1
  | [.ref a] => (match G1 a with | some (.lst xs) => R (enumD 0 xs) (fun G => G a = some (.lst xs)) G1 | _ => False)
  | _ => False
theorem qi_enum {e : Expr} {ta : DA} {p pos tpos : Pos} {elts : List Expr} {kk : Nat} (hg : Gl X "enumerate") (hm : X.mg "enumerate" = none) (ha : QA X [e] ta) (hs : starEach [e] X.env = [(false, eval e X.env)] := by rfl) :
    QI X (.Tuple elts kk tpos) (.Call (.Name "enumerate" p) [e] [] pos) (dEnum ta) := pi_mono (pi_enum hg hm ha hs) fun τ H Q h => by
  obtain ⟨σ, G, N, R, hs, hg, ht, q⟩ := h
  refine ⟨σ, G, N, _, hs, hg, ht, fun ds G1 N1 vs H1 h1 s1 r1 => ?_⟩
  split at h1
  · obtain ⟨v, r, rfl, r2, r3⟩ := r1.of_cons
    rw [r3.of_nil]
    obtain ⟨p, vs, rfl, sq, r⟩ := r2.of_lst
    exact ⟨p, vs, rfl, sq.sq, q _ _ _ _ _ _ h1 s1 (yl_enum fun H N G s _ => ⟨vs, (sq.le s.kp).sq, r.le s.kp⟩)⟩
  · obtain ⟨v, r, rfl, r2, r3⟩ := r1.of_cons
    rw [r3.of_nil]
    obtain rfl := r2.of_ref
    split at h1
    · rename_i xs e
      obtain ⟨_, vs, hv, r⟩ := s1.rel _ _ e
      exact ⟨_, vs, rfl, SqL.of hv, q _ _ _ _ _ _ h1 s1 (yl_enum fun H N G s g => by
        obtain ⟨_, vs, hv, r⟩ := s.rel _ _ g
        exact ⟨vs, SqL.of hv, r⟩)⟩
    · exact h1.elim
  · exact h1.elim
/-! ### f(k = v, ..) -/
variable {k : Nat} {f : Addr} {fd : FuncData} {ps ks : List Str} {sp : DSp} {x : Str} {p pos : Pos} {kws : List Keyword} {tk : DA}
def QK (X : Cx) (kws : List Keyword) (t : DA) : Prop := PK X kws (upA X.K t)
theorem pk_mono {t t' : TA} (h : PK X kws t) (i : ∀ τ H Q, t' τ H Q → t τ H Q) : PK X kws t' := ⟨fun pos pins s σ H Q I q => h.run pos pins s σ H Q I (i σ H Q q)⟩
theorem qk_nil : QK X [] dNil := pk_mono pk_nil fun τ H Q h => by
  obtain ⟨σ, G, N, R, hs, hg, ht, q⟩ := h
  exact q [] G N [] H ht (Stp.refl hg) RDs.nil
theorem qk_cons {e : Expr} {t : DE} {tr : DA} {nm : Option Str} {kpos : Pos} (ha : QE X e t) (hr : QK X kws tr) : QK X (⟨nm, e, kpos⟩ :: kws) (dCons t tr) := pk_mono (pk_cons ha hr) fun τ H Q h => by
  obtain ⟨σ, G, N, R, hs, hg, ht, q⟩ := h
  refine ⟨σ, G, N, _, hs, hg, ht, fun x G1 N1 v1 H1 h1 s1 r1 => ?_⟩
  refine ⟨σ, G1, N1, _, hs.le s1.kp, s1.rel, h1, fun ds G2 N2 vs H2 h2 s2 r2 => ?_⟩
  exact q _ G2 N2 _ H2 h2 (s1.trans s2) (RDs.cons (r1.le s2.kp) r2)
/-- by names alone: the promise is asked at the values in the parameters' order (g) -/
def dCallK (sp : DSp) (g : List D → List D) (n : Nat) (tk : DA) : DE := fun σ G R => tk σ G fun ds G1 => ds.length = n ∧ sp (g ds) G1 R
theorem qe_callK {g : List D → List D} {gu : List Value → List Value} {gv : List V → List V} (F : FnD X.prog X.w X.K X.mg X.base k f fd ps sp) (hr : Room k X.A) (hg : Gl X x) (hm : X.mg x = some (.ref f)) (hk : PySem.W.keepIn X.K (.ref f) = true)
    (hb : ∀ (s : Shared) (ws : List Value), ws.length = ks.length → BindsTo s fd ⟨[], ks.zip ws⟩ (ps.zip (gu ws))) (h1 : ∀ {vs us}, Vals vs us → Vals (gv vs) (gu us)) (h2 : ∀ {H N ds vs}, RDs X.K H N ds vs → RDs X.K H N (g ds) (gv vs))
    (hkw : QK X kws tk) (hall : (backToKw pos (keywordEach kws X.env)).all (·.1.isSome) = true := by rfl) (hks : (backToKw pos (keywordEach kws X.env)).filterMap (·.1) = ks := by rfl)
    (hdb : (x == ("__debug__" : Str)) = false := by decide) (hpl : ((backTo pos (starEach [] X.env)).any (·.1) || (backToKw pos (keywordEach kws X.env)).any (·.1.isNone)) = false := by rfl) :
    QE X (.Call (.Name x p) [] kws pos) (dCallK sp g ks.length tk) := by
  refine ⟨fun pins s τ H Q I h => ?_⟩
  obtain ⟨σ, G, N, R, hs, hgg, ht, q⟩ := h
  refine wpAny_Call_Name_kw (ld_glob I hg hm ?_ hdb)
  refine PySem.W.callWith_KW0 (h₀ := X.base) I.ok.mod.kin hk hall ?_ hpl
  refine thn (hkw.run pos pins s τ H (fun vs H1 => vs.length = ks.length ∧ upSp X.K sp (gv vs) H1 Q E0) I ⟨σ, G, N, _, hs, hgg, ht, fun ds G1 N1 vs H1 h3 s1 r1 => ?_⟩) fun ws s2 ⟨zs, H2, I2, rz, l2, q2⟩ => ⟨I2.kIn, ?_⟩
  · exact ⟨by rw [← r1.length]; exact h3.1, g ds, G1, N1, R, h2 r1, s1.rel, h3.2, q.le s1⟩
  · rw [hks]
    refine wpAny_call (codeAny_mono (FnOk.run F X.A X.stack s2 H2 ⟨[], ks.zip ws⟩ (gu ws) (gv zs) Q E0 hr I2.env0 (hb s2 ws (by rw [← rz.length]; exact l2)) (h1 rz) q2) fun r s' hq => ?_)
    cases r with
    | error e => exact (show False from hq).elim
    | ok fl =>
      cases fl with
      | ret u => exact I2.after hq
      | next => exact False.elim hq
      | brk => exact False.elim hq
      | cont => exact False.elim hq
end
end DL

set_option Elab.async false
set_option linter.all false
set_option maxRecDepth 100000
set_option maxHeartbeats 4000000
set_option autoImplicit false
namespace DL
open PySem PySem.Spec PyProof.Rows L2
section
variable {X : Cx}
theorem qe_globI {x : Str} {i : Int} {pos : Pos} (hg : Gl X x) (hm : ∃ t, X.mg x = some (.int i t)) (hd : (x == ("__debug__" : Str)) = false := by decide) : QE X (.Name x pos) (dC (.int i)) := by
  obtain ⟨t, h⟩ := hm
  exact qe_glob (v := .int i) hg h ⟨t, rfl⟩ (fun _ _ => RD.int i) hd
theorem qe_globS {x : Str} {i : Str} {pos : Pos} (hg : Gl X x) (hm : ∃ t, X.mg x = some (.str i t)) (hd : (x == ("__debug__" : Str)) = false := by decide) : QE X (.Name x pos) (dC (.str i)) := by
  obtain ⟨t, h⟩ := hm
  exact qe_glob (v := .str i) hg h ⟨t, rfl⟩ (fun _ _ => RD.str i) hd
/-- {} that is not looked into -/
theorem qe_dnewO {pos : Pos} : QE X (.Dict [] [] pos) (dC (.any "dict")) := pe_mono pe_dnewK fun τ H Q h => by
  obtain ⟨σ, G, N, R, hs, hg, ht, q⟩ := h
  intro p np
  have s2 := Stp.new0 (u := .dK []) hg np
  exact q _ _ _ _ _ ht s2 (by simp only [RD]; exact ⟨p, _, rfl, upd_same, rfl⟩)
end
end DL

set_option Elab.async false
set_option linter.all false
set_option maxRecDepth 100000
set_option maxHeartbeats 4000000
set_option autoImplicit false
namespace DL
open PySem PySem.Spec PyProof.Rows L2
/-! ### readings -/
theorem at_K {K : PySem.W.Frag} {h : Heap} (_ : K.In h) (Q : PySem.W.Frag → Prop) (q : Q K) : Q K := q
theorem ret_same {R : DK} {d : D} {G : Gp} (h : R d G) : ∃ d' G', Wk G d d' G' ∧ R d' G' := ⟨d, G, .same (Sub.refl G), h⟩
theorem ret_sub {R : DK} {d : D} {G G0 : Gp} (s : Sub G0 G) (h : R d G0) : ∃ d' G', Wk G d d' G' ∧ R d' G' := ⟨d, G0, .same s, h⟩
theorem ret_lst {R : DK} {p : Addr} {ds : List D} {G G0 : Gp} (e : G p = some (.lst ds)) (s : Sub G0 G) (n : G0 p = none) (h : R (.lst ds) G0) : ∃ d' G', Wk G (.ref p) d' G' ∧ R d' G' := ⟨_, G0, .lst e s n, h⟩
theorem lc_pure {g : DG} {te : DE} {σ : Sd} {gd : Gp → Prop} {G : Gp} (f : D → D) (hg : gd G) : ∀ (xs acc : List D), (∀ x ∈ xs, ∀ Q : DK, Q (f x) G → g x σ G fun σ2 G2 => te σ2 G2 Q) → ∀ Q : List D → Gp → Prop, Q (acc ++ xs.map f) G → dLcGo g dYes te gd σ xs acc G Q
  | [], acc, _, Q, h => ⟨hg, by simpa using h⟩
  | x :: xs, acc, hf, Q, h => ⟨hg, hf x List.mem_cons_self _ (lc_pure f hg xs (acc ++ [f x]) (fun y hy => hf y (List.mem_cons_of_mem _ hy)) Q (by simpa using h))⟩
theorem lc_filter {g : DG} {tt : DT} {te : DE} {σ : Sd} {gd : Gp → Prop} {G : Gp} (p : D → Bool) (f : D → D) (hg : gd G) : ∀ (xs acc : List D), (∀ x ∈ xs, ∀ (Q : DK) (Q0 : Gp → Prop), (p x = true → Q (f x) G) → (p x = false → Q0 G) → g x σ G fun σ2 G2 => tt σ2 G2 fun b G3 => match b with | true => te σ2 G3 Q | false => Q0 G3) →
    ∀ Q : List D → Gp → Prop, Q (acc ++ (xs.filter p).map f) G → dLcGo g tt te gd σ xs acc G Q
  | [], acc, _, Q, h => ⟨hg, by simpa using h⟩
  | x :: xs, acc, hf, Q, h => ⟨hg, hf x List.mem_cons_self _ _ (fun hp => lc_filter p f hg xs (acc ++ [f x]) (fun y hy => hf y (List.mem_cons_of_mem _ hy)) Q (by simpa [hp] using h)) fun hp => lc_filter p f hg xs acc (fun y hy => hf y (List.mem_cons_of_mem _ hy)) Q (by simpa [hp] using h)⟩
/-- a loop by an invariant over what is still to come -/
theorem for_inv {g : DG} {tb : DS} {gd : Gp → Prop} {E : DEnds} (I : List D → Sd → Gp → Prop)
    (turn : ∀ x xs σ G, I (x :: xs) σ G → gd G ∧ g x σ G fun σ2 G2 => ∀ E' : DEnds, (∀ σ' G', I xs σ' G' → E'.nx σ' G') → (∀ σ' G', I xs σ' G' → E'.ct σ' G') → E'.bk = E.nx → E'.rt = E.rt → tb E' σ2 G2)
    (fin : ∀ σ G, I [] σ G → gd G ∧ E.nx σ G)
    (mono : ∀ x σ G (R R' : Sd → Gp → Prop), (∀ σ' G', R σ' G' → R' σ' G') → g x σ G R → g x σ G R') : ∀ (xs : List D) (σ : Sd) (G : Gp), I xs σ G → dForGo g tb gd E xs σ G
  | [], σ, G, h => fin σ G h
  | x :: xs, σ, G, h => by
    obtain ⟨h1, h2⟩ := turn x xs σ G h
    refine ⟨h1, mono x σ G _ _ (fun σ' G' h3 => ?_) h2⟩
    exact h3 _ (fun σ' G' i => for_inv I turn fin mono xs σ' G' i) (fun σ' G' i => for_inv I turn fin mono xs σ' G' i) rfl rfl
theorem fnd_never {P : Program} {w : World} {K : PySem.W.Frag} {mg : Str → Option Value} {base : Heap} {k : Nat} {f : Addr} {fd : FuncData} {ps : List Str} : FnD P w K mg base k f fd ps (fun _ _ _ => False) :=
  ⟨fun vs H Q E h => by obtain ⟨_, _, _, _, _, _, h, _⟩ := h; exact h.elim, fun A outer s H args us vs Q E _ _ _ _ h => by obtain ⟨_, _, _, _, _, _, h, _⟩ := h; exact h.elim⟩
theorem gup_comm {G : Gp} {a b : Addr} {o u : GO} (h : a ≠ b) : gup (gup G a o) b u = gup (gup G b u) a o := by
  funext c; unfold gup
  by_cases e1 : c = b
  · by_cases e2 : c = a
    · exact absurd (e2.symm.trans e1) h
    · rw [if_pos e1, if_neg e2, if_pos e1]
  · by_cases e2 : c = a
    · rw [if_neg e1, if_pos e2, if_pos e2]
    · rw [if_neg e1, if_neg e2, if_neg e2, if_neg e1]
/-! ### plain data -/
mutual
def plD : D → Bool
  | .non => true | .bl _ => true | .int _ => true | .str z => decide (z.length ≤ 1000) && z.cps.toList.all fun c => decide (c < 1114112)
  | .tup ds => decide (ds.length ≤ 1000) && plDs ds
  | .lst ds => decide (ds.length ≤ 1000) && plDs ds
  | .any n => n == "dict"
  | _ => false
def plDs : List D → Bool
  | [] => true
  | d :: ds => plD d && plDs ds
end
theorem plDs_mem : ∀ {ds : List D} {d : D}, plDs ds = true → d ∈ ds → plD d = true
  | [], _, _, h => by cases h
  | e :: ds, d, p, h => by
    simp only [plDs, Bool.and_eq_true] at p
    rcases List.mem_cons.mp h with h | h
    · subst h; exact p.1
    · exact plDs_mem p.2 h
theorem plDs_of : ∀ {ds : List D}, (∀ d ∈ ds, plD d = true) → plDs ds = true
  | [], _ => by simp only [plDs]
  | e :: ds, h => by simp only [plDs, Bool.and_eq_true]; exact ⟨h e List.mem_cons_self, plDs_of fun d hd => h d (List.mem_cons_of_mem _ hd)⟩
theorem pl_tup {ds : List D} : plD (.tup ds) = true ↔ ds.length ≤ 1000 ∧ ∀ d ∈ ds, plD d = true := by
  simp only [plD, Bool.and_eq_true, decide_eq_true_eq]
  exact ⟨fun h => ⟨h.1, fun d hd => plDs_mem h.2 hd⟩, fun h => ⟨h.1, plDs_of h.2⟩⟩
theorem pl_lst {ds : List D} : plD (.lst ds) = true ↔ ds.length ≤ 1000 ∧ ∀ d ∈ ds, plD d = true := by
  simp only [plD, Bool.and_eq_true, decide_eq_true_eq]
  exact ⟨fun h => ⟨h.1, fun d hd => plDs_mem h.2 hd⟩, fun h => ⟨h.1, plDs_of h.2⟩⟩
theorem pl_str {z : Str} : plD (.str z) = true ↔ z.length ≤ 1000 ∧ ∀ c ∈ z.cps.toList, c < 1114112 := by
  simp only [plD, Bool.and_eq_true, decide_eq_true_eq, List.all_eq_true]
def tyP : D → String
  | .non => "NoneType" | .bl _ => "bool" | .int _ => "int" | .str _ => "str" | .tup _ => "tuple" | .nt _ => "tuple" | .lst _ => "list" | .any n => n | _ => ""
theorem tyD_pl {x : D} (h : plD x = true) (G : Gp) : tyD G x = some (tyP x) := by
  cases x with
  | any n =>
    simp only [plD, Bool.or_eq_true, beq_iff_eq] at h
    simp [tyD, tyP, h]
  | ref a => simp [plD] at h
  | ty a => simp [plD] at h
  | nt a => simp [plD] at h
  | _ => rfl
def isIntD : D → Bool | .int _ => true | .bl _ => true | _ => false
def isBl : D → Bool | .bl _ => true | _ => false
def isStr : D → Bool | .str _ => true | _ => false
def isTup : D → Bool | .tup _ => true | _ => false
def isWhole : D → Bool | .int _ => true | _ => false
theorem isTy_any {n t : String} (h : plD (.any n) = true) (h1 : t ≠ "list") (h2 : t ≠ "dict") : isTy n t = false := by
  simp only [plD, Bool.or_eq_true, beq_iff_eq] at h
  have e : ∀ m : String, m = "list" ∨ m = "dict" → isTy m t = false := by
    rintro m (rfl | rfl)
    · unfold isTy
      rw [show ("list" == t) = false from beq_eq_false_iff_ne.mpr fun z => h1 z.symm]
      rfl
    · unfold isTy
      rw [show ("dict" == t) = false from beq_eq_false_iff_ne.mpr fun z => h2 z.symm]
      rfl
  exact e n (.inr h)
theorem isi_pl {x : D} (h : plD x = true) {G : Gp} {n : String} {R : DK} (hn : n ∈ knownTy) : dIsi [x, .ty n] G R ↔ R (.bl (isTy (tyP x) n)) G := by
  unfold dIsi
  simp only [tyD_pl h G]
  exact ⟨fun q => q.2, fun q => ⟨hn, q⟩⟩
theorem isi_int {x : D} (h : plD x = true) {G : Gp} {R : DK} : dIsi [x, .ty "int"] G R ↔ R (.bl (isIntD x)) G := by
  rw [isi_pl h (by decide)]
  have e : isTy (tyP x) "int" = isIntD x := by
    cases x with
    | any n => exact isTy_any h (by decide) (by decide)
    | ref a => simp [plD] at h
    | ty a => simp [plD] at h
    | nt a => simp [plD] at h
    | _ => rfl
  rw [e]
theorem isi_bool {x : D} (h : plD x = true) {G : Gp} {R : DK} : dIsi [x, .ty "bool"] G R ↔ R (.bl (isBl x)) G := by
  rw [isi_pl h (by decide)]
  have e : isTy (tyP x) "bool" = isBl x := by
    cases x with
    | any n => exact isTy_any h (by decide) (by decide)
    | ref a => simp [plD] at h
    | ty a => simp [plD] at h
    | nt a => simp [plD] at h
    | _ => rfl
  rw [e]
theorem isi_str {x : D} (h : plD x = true) {G : Gp} {R : DK} : dIsi [x, .ty "str"] G R ↔ R (.bl (isStr x)) G := by
  rw [isi_pl h (by decide)]
  have e : isTy (tyP x) "str" = isStr x := by
    cases x with
    | any n => exact isTy_any h (by decide) (by decide)
    | ref a => simp [plD] at h
    | ty a => simp [plD] at h
    | nt a => simp [plD] at h
    | _ => rfl
  rw [e]
theorem isi_tup {x : D} (h : plD x = true) {G : Gp} {R : DK} : dIsi [x, .ty "tuple"] G R ↔ R (.bl (isTup x)) G := by
  rw [isi_pl h (by decide)]
  have e : isTy (tyP x) "tuple" = isTup x := by
    cases x with
    | any n => exact isTy_any h (by decide) (by decide)
    | ref a => simp [plD] at h
    | ty a => simp [plD] at h
    | nt a => simp [plD] at h
    | _ => rfl
  rw [e]
/-! ### == of data -/
mutual
def pyD : D → Bool
  | .non => true | .bl _ => true | .int _ => true | .str z => z.cps.toList.all fun c => decide (c < 1114112)
  | .tup ds => pyDs ds
  | .lst ds => pyDs ds
  | _ => false
def pyDs : List D → Bool
  | [] => true
  | d :: ds => pyD d && pyDs ds
end
mutual
def depD : D → Nat
  | .tup ds => depDs ds + 1
  | .lst ds => depDs ds + 1
  | _ => 0
def depDs : List D → Nat
  | [] => 0
  | d :: ds => max (depD d) (depDs ds)
end
mutual
def eqD : D → D → Bool
  | .non, .non => true
  | .bl a, .bl b => a == b
  | .bl a, .int j => (if a then 1 else 0) == j
  | .int i, .bl b => i == (if b then 1 else 0)
  | .int i, .int j => i == j
  | .str x, .str y => x == y
  | .tup xs, .tup ys => eqDs xs ys
  | .lst xs, .lst ys => eqDs xs ys
  | _, _ => false
def eqDs : List D → List D → Bool
  | [], [] => true
  | x :: xs, y :: ys => eqD x y && eqDs xs ys
  | _, _ => false
end
mutual
theorem toPy_pure : ∀ {d : D}, pyD d = true → ∃ a, toPy d = some a ∧ a.canLay0 = true ∧ a.depth = depD d
  | .non, _ => ⟨.none, by simp only [toPy], by simp [PyData.canLay0], by simp [PyData.depth, depD]⟩
  | .bl b, _ => ⟨.bool b, by simp only [toPy], by simp [PyData.canLay0], by simp [PyData.depth, depD]⟩
  | .int i, _ => ⟨.int i, by simp only [toPy], by simp [PyData.canLay0], by simp [PyData.depth, depD]⟩
  | .str z, h => ⟨.str z, by simp only [toPy], by
      simp only [pyD] at h
      simp only [PyData.canLay0, PyData.strOk]
      rw [← Array.all_toList]
      exact h, by simp [PyData.depth, depD]⟩
  | .tup ds, h => by
    simp only [pyD] at h
    obtain ⟨as, h1, h2, h3⟩ := toPys_pure h
    exact ⟨.tuple as, by simp only [toPy, h1, Option.map_some], by simpa [PyData.canLay0] using h2, by simp only [PyData.depth, depD, h3]⟩
  | .lst ds, h => by
    simp only [pyD] at h
    obtain ⟨as, h1, h2, h3⟩ := toPys_pure h
    exact ⟨.list as, by simp only [toPy, h1, Option.map_some], by simpa [PyData.canLay0] using h2, by simp only [PyData.depth, depD, h3]⟩
  | .ty _, h => by simp [pyD] at h
  | .ref _, h => by simp [pyD] at h
  | .any _, h => by simp [pyD] at h
theorem toPys_pure : ∀ {ds : List D}, pyDs ds = true → ∃ as, toPys ds = some as ∧ PyData.canLayAll0 as = true ∧ PyData.depthAll as = depDs ds
  | [], _ => ⟨[], by simp only [toPys], by simp [PyData.canLayAll0], by simp [PyData.depthAll, depDs]⟩
  | d :: ds, h => by
    simp only [pyDs, Bool.and_eq_true] at h
    obtain ⟨a, h1, h2, h3⟩ := toPy_pure h.1
    obtain ⟨as, h4, h5, h6⟩ := toPys_pure h.2
    exact ⟨a :: as, by simp only [toPys, h1, h4], by simp [PyData.canLayAll0, h2, h5], by simp only [PyData.depthAll, depDs, h3, h6]⟩
end
def ShapeOf (c : D) (a : PyData) : Prop := match c with
  | .non => a = .none | .bl b => a = .bool b | .int i => a = .int i | .str z => a = .str z
  | .tup ds => ∃ as, a = .tuple as ∧ toPys ds = some as
  | .lst ds => ∃ as, a = .list as ∧ toPys ds = some as
  | _ => False
theorem toPy_shape {c : D} {a : PyData} (h : toPy c = some a) : ShapeOf c a := by
  cases c with
  | tup ds =>
    simp only [toPy] at h
    cases e1 : toPys ds with
    | none => rw [e1] at h; cases h
    | some as => rw [e1] at h; cases h; exact ⟨as, rfl, e1⟩
  | lst ds =>
    simp only [toPy] at h
    cases e1 : toPys ds with
    | none => rw [e1] at h; cases h
    | some as => rw [e1] at h; cases h; exact ⟨as, rfl, e1⟩
  | _ => simp only [toPy] at h <;> first | (cases h; done) | (cases h; rfl)
mutual
theorem eqv_eqD : ∀ {c d : D} {a b : PyData}, toPy c = some a → toPy d = some b → PyData.eqv a b = eqD c d
  | .tup xs, .tup ys, a, b, h1, h2 => by
    obtain ⟨as, rfl, e1⟩ := toPy_shape h1
    obtain ⟨bs, rfl, e2⟩ := toPy_shape h2
    simp only [PyData.eqv, eqD]
    exact eqv_eqDs e1 e2
  | .lst xs, .lst ys, a, b, h1, h2 => by
    obtain ⟨as, rfl, e1⟩ := toPy_shape h1
    obtain ⟨bs, rfl, e2⟩ := toPy_shape h2
    simp only [PyData.eqv, eqD]
    exact eqv_eqDs e1 e2
  | .tup xs, .lst ys, a, b, h1, h2 => by
    obtain ⟨as, rfl, e1⟩ := toPy_shape h1
    obtain ⟨bs, rfl, e2⟩ := toPy_shape h2
    simp only [PyData.eqv, eqD]
  | .lst xs, .tup ys, a, b, h1, h2 => by
    obtain ⟨as, rfl, e1⟩ := toPy_shape h1
    obtain ⟨bs, rfl, e2⟩ := toPy_shape h2
    simp only [PyData.eqv, eqD]
  | .tup xs, .non, a, b, h1, h2 | .tup xs, .bl _, a, b, h1, h2 | .tup xs, .int _, a, b, h1, h2 | .tup xs, .str _, a, b, h1, h2
  | .lst xs, .non, a, b, h1, h2 | .lst xs, .bl _, a, b, h1, h2 | .lst xs, .int _, a, b, h1, h2 | .lst xs, .str _, a, b, h1, h2 => by
    obtain ⟨as, rfl, e1⟩ := toPy_shape h1
    have s2 := toPy_shape h2
    simp only [ShapeOf] at s2
    subst s2
    simp only [PyData.eqv, eqD]
  | .non, .tup ys, a, b, h1, h2 | .bl _, .tup ys, a, b, h1, h2 | .int _, .tup ys, a, b, h1, h2 | .str _, .tup ys, a, b, h1, h2
  | .non, .lst ys, a, b, h1, h2 | .bl _, .lst ys, a, b, h1, h2 | .int _, .lst ys, a, b, h1, h2 | .str _, .lst ys, a, b, h1, h2 => by
    obtain ⟨bs, rfl, e1⟩ := toPy_shape h2
    have s1 := toPy_shape h1
    simp only [ShapeOf] at s1
    subst s1
    simp only [PyData.eqv, eqD]
  | .ty _, _, a, b, h1, h2 | .ref _, _, a, b, h1, h2 | .any _, _, a, b, h1, h2 => (toPy_shape h1).elim
  | _, .ty _, a, b, h1, h2 | _, .ref _, a, b, h1, h2 | _, .any _, a, b, h1, h2 => (toPy_shape h2).elim
  | .non, .non, a, b, h1, h2 | .non, .bl _, a, b, h1, h2 | .non, .int _, a, b, h1, h2 | .non, .str _, a, b, h1, h2
  | .bl _, .non, a, b, h1, h2 | .bl _, .bl _, a, b, h1, h2 | .bl _, .int _, a, b, h1, h2 | .bl _, .str _, a, b, h1, h2
  | .int _, .non, a, b, h1, h2 | .int _, .bl _, a, b, h1, h2 | .int _, .int _, a, b, h1, h2 | .int _, .str _, a, b, h1, h2
  | .str _, .non, a, b, h1, h2 | .str _, .bl _, a, b, h1, h2 | .str _, .int _, a, b, h1, h2 | .str _, .str _, a, b, h1, h2 => by
    have s1 := toPy_shape h1
    have s2 := toPy_shape h2
    simp only [ShapeOf] at s1 s2
    subst s1 s2
    simp only [PyData.eqv, eqD]
theorem eqv_eqDs : ∀ {cs ds : List D} {as bs : List PyData}, toPys cs = some as → toPys ds = some bs → PyData.eqvAll as bs = eqDs cs ds
  | [], [], _, _, h1, h2 => by simp only [toPys] at h1 h2; cases h1; cases h2; simp only [PyData.eqvAll, eqDs]
  | [], d :: ds, _, _, h1, h2 => by
    simp only [toPys] at h1 h2
    split at h2
    · cases h1; cases h2; simp only [PyData.eqvAll, eqDs]
    · cases h2
  | c :: cs, [], _, _, h1, h2 => by
    simp only [toPys] at h1 h2
    split at h1
    · cases h1; cases h2; simp only [PyData.eqvAll, eqDs]
    · cases h1
  | c :: cs, d :: ds, _, _, h1, h2 => by
    simp only [toPys] at h1 h2
    split at h1
    · split at h2
      · rename_i a as e1 e2 _ _ b bs e3 e4
        cases h1; cases h2
        simp only [PyData.eqvAll, eqDs, eqv_eqD e1 e3, eqv_eqDs e2 e4]
      · cases h2
    · cases h1
end
theorem gPy_pure {G : Gp} {d : D} (h : pyD d = true) : gPy G d = toPy d := by
  cases d with
  | ref a => simp [pyD] at h
  | _ => rfl
theorem eqD_scal_int (i j : Int) : eqD (.int i) (.int j) = decide (i = j) := by simp only [eqD]; rw [Bool.eq_iff_iff]; simp
theorem eqD_scal_str (i j : Str) : eqD (.str i) (.str j) = decide (i = j) := by simp only [eqD]; rw [Bool.eq_iff_iff]; simp
theorem eqD_scal_bl (i j : Bool) : eqD (.bl i) (.bl j) = decide (i = j) := by simp only [eqD]; rw [Bool.eq_iff_iff]; simp
theorem eqW_pure {f : Bool → Bool} {c d : D} {G : Gp} {R : DK} (hc : pyD c = true) (hd : pyD d = true) (lc : depD c ≤ 64) (ld : depD d ≤ 64) : dEqW f c d G R ↔ R (.bl (f (eqD c d))) G := by
  unfold dEqW
  split
  · rw [eqD_scal_int]
  · rw [eqD_scal_str]
  · rw [eqD_scal_bl]
  · simp only [eqD]
  · obtain ⟨a, h1, h2, h3⟩ := toPy_pure hc
    obtain ⟨b, h4, h5, h6⟩ := toPy_pure hd
    rw [gPy_pure hc, gPy_pure hd, h1, h4]
    simp only [eqv_eqD h1 h4]
    have s1 : SeqAt.shaped a = true := by unfold SeqAt.shaped; rw [h2, h3, decide_eq_true lc]; rfl
    have s2 : SeqAt.shaped b = true := by unfold SeqAt.shaped; rw [h5, h6, decide_eq_true ld]; rfl
    exact ⟨fun z => z.2.2, fun z => ⟨s1, s2, z⟩⟩
theorem eq_pure {c d : D} {G : Gp} {R : DK} (hc : pyD c = true) (hd : pyD d = true) (lc : depD c ≤ 64) (ld : depD d ≤ 64) : dEq c d G R ↔ R (.bl (eqD c d)) G := eqW_pure hc hd lc ld
theorem ne_pure {c d : D} {G : Gp} {R : DK} (hc : pyD c = true) (hd : pyD d = true) (lc : depD c ≤ 64) (ld : depD d ≤ 64) : dNe c d G R ↔ R (.bl (!eqD c d)) G := eqW_pure hc hd lc ld
theorem pyDs_of : ∀ {ds : List D}, (∀ d ∈ ds, pyD d = true) → pyDs ds = true
  | [], _ => by simp only [pyDs]
  | e :: ds, h => by simp only [pyDs, Bool.and_eq_true]; exact ⟨h e List.mem_cons_self, pyDs_of fun d hd => h d (List.mem_cons_of_mem _ hd)⟩
theorem depDs_le : ∀ {ds : List D} {n : Nat}, (∀ d ∈ ds, depD d ≤ n) → depDs ds ≤ n
  | [], _, _ => by simp only [depDs]; omega
  | e :: ds, n, h => by
    have h1 := h e List.mem_cons_self
    have h2 := depDs_le (n := n) fun d hd => h d (List.mem_cons_of_mem e hd)
    simp only [depDs]; omega
theorem small_line {n : Nat} (h : n ≤ 1000) : n ≤ sizeLine := Nat.le_of_lt (small1000 h)
theorem len_str {z : Str} {G : Gp} {R : DK} (h : z.length ≤ 1000) : dLen [.str z] G R ↔ R (.int z.length) G := by
  unfold dLen
  exact ⟨fun q => q.2, fun q => ⟨small_line h, q⟩⟩
theorem len_tup {ds : List D} {G : Gp} {R : DK} : dLen [.tup ds] G R ↔ R (.int ds.length) G := by unfold dLen; simp only [seqOf]
theorem len_lst {ds : List D} {G : Gp} {R : DK} : dLen [.lst ds] G R ↔ R (.int ds.length) G := by unfold dLen; simp only [seqOf, lstOf]
theorem len_ref {p : Addr} {ds : List D} {G : Gp} {R : DK} (e : G p = some (.lst ds)) : dLen [.ref p] G R ↔ R (.int ds.length) G := by unfold dLen; simp only [seqOf, lstOf, e]
theorem all_lst {bs : List Bool} {G : Gp} {R : DK} : dAll [.lst (bs.map D.bl)] G R ↔ R (.bl (bs.all id)) G := by
  unfold dAll
  simp only [lstOf, Option.bind_some, blsOf_map]
theorem all_pure {g : DG} {te : DE} {σ : Sd} {gd : Gp → Prop} {G : Gp} (p : D → Bool) (hg : gd G) (xs : List D) (h : ∀ x ∈ xs, ∀ Q : DK, Q (.bl (p x)) G → g x σ G fun σ2 G2 => te σ2 G2 Q) {Q : DK} (q : Q (.bl (xs.all p)) G) : dLcGo g dYes te gd σ xs [] G fun ds G2 => dAll [.lst ds] G2 Q := by
  refine lc_pure (fun x => .bl (p x)) hg xs [] h _ ?_
  have e : [] ++ xs.map (fun x => D.bl (p x)) = (xs.map p).map D.bl := by simp
  rw [e, all_lst, List.all_map]
  exact q
theorem any_lst {bs : List Bool} {G : Gp} {R : DK} : dAny [.lst (bs.map D.bl)] G R ↔ R (.bl (bs.any id)) G := by
  unfold dAny
  simp only [lstOf, Option.bind_some, blsOf_map]
theorem any_pure {g : DG} {te : DE} {σ : Sd} {gd : Gp → Prop} {G : Gp} (p : D → Bool) (hg : gd G) (xs : List D) (h : ∀ x ∈ xs, ∀ Q : DK, Q (.bl (p x)) G → g x σ G fun σ2 G2 => te σ2 G2 Q) {Q : DK} (q : Q (.bl (xs.any p)) G) : dLcGo g dYes te gd σ xs [] G fun ds G2 => dAny [.lst ds] G2 Q := by
  refine lc_pure (fun x => .bl (p x)) hg xs [] h _ ?_
  have e : [] ++ xs.map (fun x => D.bl (p x)) = (xs.map p).map D.bl := by simp
  rw [e, any_lst, List.any_map]
  exact q
/-! ### cuts and loops -/
theorem seq_cut {t u : DS} {E : DEnds} {σ : Sd} {G : Gp} (M : Sd → Gp → Prop) (h1 : ∀ σ' G', M σ' G' → u E σ' G') (h2 : ∀ N : Sd → Gp → Prop, (∀ σ' G', M σ' G' → N σ' G') → t { E with nx := N } σ G) : dSeq t u E σ G := h2 (u E) h1
theorem for_go {g : DG} {tb : DS} {gd : Gp → Prop} {E : DEnds} (I : List D → Sd → Gp → Prop)
    (turn : ∀ x xs σ G, I (x :: xs) σ G → gd G ∧ ∀ N : Sd → Gp → Prop, (∀ σ' G', I xs σ' G' → N σ' G') → g x σ G fun σ2 G2 => tb { E with nx := N, ct := N, bk := E.nx } σ2 G2)
    (fin : ∀ σ G, I [] σ G → gd G ∧ E.nx σ G) : ∀ (xs : List D) (σ : Sd) (G : Gp), I xs σ G → dForGo g tb gd E xs σ G
  | [], σ, G, h => fin σ G h
  | x :: xs, σ, G, h => ⟨(turn x xs σ G h).1, (turn x xs σ G h).2 _ fun σ' G' i => for_go I turn fin xs σ' G' i⟩
theorem wh_go {c : DT} {tb : DS} {E : DEnds} (I : Nat → Sd → Gp → Prop)
    (turn : ∀ n σ G, I n σ G → ∀ N : Sd → Gp → Prop, (∀ k σ' G', n = k + 1 → I k σ' G' → N σ' G') → c σ G fun b G1 => match b with | true => tb { E with nx := N, ct := N, bk := E.nx } σ G1 | false => E.nx σ G1) :
    ∀ (n : Nat) (σ : Sd) (G : Gp), I n σ G → dWhN c tb E (n + 1) σ G
  | 0, σ, G, h => turn 0 σ G h _ fun k _ _ e => by omega
  | n + 1, σ, G, h => turn (n + 1) σ G h _ fun k σ' G' e i => by
    have : k = n := by omega
    subst this
    exact wh_go I turn k σ' G' i
/-- a comprehension by an invariant -/
theorem lc_go {g : DG} {tt : DT} {te : DE} {gd : Gp → Prop} {σ : Sd} {Q : List D → Gp → Prop} (I : List D → List D → Gp → Prop)
    (turn : ∀ x xs acc G, I (x :: xs) acc G → gd G ∧ ∀ N : List D → Gp → Prop, (∀ acc' G', I xs acc' G' → N acc' G') → g x σ G fun σ2 G2 => tt σ2 G2 fun b G3 => match b with | true => te σ2 G3 fun y G4 => N (acc ++ [y]) G4 | false => N acc G3)
    (fin : ∀ acc G, I [] acc G → gd G ∧ Q acc G) : ∀ (xs acc : List D) (G : Gp), I xs acc G → dLcGo g tt te gd σ xs acc G Q
  | [], acc, G, h => fin acc G h
  | x :: xs, acc, G, h => ⟨(turn x xs acc G h).1, (turn x xs acc G h).2 _ fun acc' G' i => lc_go I turn fin xs acc' G' i⟩
theorem gup_self {G : Gp} {a : Addr} {o : GO} (h : G a = some o) : gup G a o = G := by
  funext b; unfold gup
  split
  · rename_i e; rw [e, h]
  · rfl
/-! ### texts by their signs' numbers -/
abbrev cds (z : Str) : List Nat := z.cps.toList
theorem cds_len (z : Str) : (cds z).length = z.length := Array.length_toList
theorem cds_inj {a b : Str} (h : cds a = cds b) : a = b := by
  cases a; cases b; simp only [cds] at h; congr 1; exact Array.toList_inj.mp h
theorem cds_app (a b : Str) : cds (a ++ b) = cds a ++ cds b := by show (a.cps ++ b.cps).toList = _; simp
theorem cds_mk (l : List Nat) : cds ⟨l.toArray⟩ = l := by simp [cds]
theorem cds_cut (z : Str) (lo hi : Option Int) : cds (cutS z lo hi) = cutL (cds z) lo hi := by
  unfold cutS cutL
  rw [cds_len]
theorem cds_join (sep : Str) : ∀ zs : List Str, cds (Txt.join sep zs) = ((zs.map cds).intersperse (cds sep)).flatten := by
  intro zs
  rw [show Txt.join sep zs = Str.join sep zs from PySem.StrLaws.glued_eq_join sep zs]
  induction zs with
  | nil => rfl
  | cons x r ih =>
    cases r with
    | nil => simp [Str.join]
    | cons y r =>
      show cds (x ++ sep ++ Str.join sep (y :: r)) = _
      rw [cds_app, cds_app, ih]
      simp
theorem cds_join0 {sep : Str} (h : cds sep = []) (zs : List Str) : cds (Txt.join sep zs) = (zs.map cds).flatten := by
  rw [cds_join, h]
  generalize zs.map cds = l
  induction l with
  | nil => rfl
  | cons x r ih =>
    cases r with
    | nil => simp
    | cons y r => simp [List.intersperse] at ih ⊢; rw [ih]
theorem eqW_ref {f : Bool → Bool} {G : Gp} {p : Addr} {ds : List D} {d : D} {R : DK} (e : G p = some (.lst ds)) : dEqW f (.ref p) d G R ↔ dEqW f (.lst ds) d G R := by
  cases d <;> simp only [dEqW, gPy, e, toPy]
theorem atI_neg1 {α : Type} {xs : List α} {x : α} (h : xs.getLast? = some x) : atI xs (-1) = some x := by
  have hne : xs ≠ [] := fun z => by subst z; cases h
  have e := List.dropLast_concat_getLast hne
  rw [List.getLast?_eq_getLast hne] at h
  rw [← e]
  have := atI_last xs.dropLast (xs.getLast hne)
  rw [this]; exact h
theorem cut_init {α : Type} (xs : List α) : cutL xs none (some (-1)) = xs.dropLast := by
  unfold cutL
  have h1 : HT.sIx xs.length 0 none = 0 := rfl
  have h2 : HT.sIx xs.length xs.length (some (-1)) = xs.length - 1 := by
    have := HT.clip_eq (-1) xs.length xs.length
    rw [if_pos (by decide)] at this
    omega
  rw [h1, h2, List.drop_zero, Nat.sub_zero, List.dropLast_eq_take]
theorem nodup_sub {α : Type} : ∀ {l1 l2 : List α}, l1.Nodup → (∀ x ∈ l1, x ∈ l2) → l1.length ≤ l2.length
  | [], _, _, _ => Nat.zero_le _
  | a :: l1, l2, hn, hs => by
    obtain ⟨s, t, rfl⟩ := List.append_of_mem (hs a List.mem_cons_self)
    have hn2 := List.nodup_cons.mp hn
    have := nodup_sub (l1 := l1) (l2 := s ++ t) hn2.2 fun x hx => by
      have := hs x (List.mem_cons_of_mem _ hx)
      simp only [List.mem_append, List.mem_cons] at this ⊢
      rcases this with h | h | h
      · exact .inl h
      · subst h; exact absurd hx hn2.1
      · exact .inr h
    simp only [List.length_append, List.length_cons] at this ⊢
    omega
theorem in_strs {z : Str} {zs : List Str} : inF (.str z) (zs.map D.str) = decide (z ∈ zs) := by
  unfold inF
  rw [List.any_map, Bool.eq_iff_iff, List.any_eq_true, decide_eq_true_eq]
  constructor
  · rintro ⟨y, hy, e⟩
    have e' : (y == z) = true := e
    rw [beq_iff_eq] at e'
    rw [← e']; exact hy
  · intro h
    exact ⟨z, h, beq_self_eq_true z⟩
theorem flat_strs' (zs : List Str) : (zs.map D.str).all flatD = true := by
  rw [List.all_map, List.all_eq_true]; intro _ _; rfl
/-! ### operators at what is known -/
section
variable {mk : Bool} {i j : Int} {a b : Str} {x y : Bool} {as bs : List D} {d : D} {G : Gp} {R : DK}
theorem dAdd_ii : dAdd mk (.int i) (.int j) G R = R (.int (i + j)) G := rfl
theorem dAdd_ss : dAdd mk (.str a) (.str b) G R = (a.length + b.length ≤ sizeLine ∧ R (.str (a ++ b)) G) := rfl
theorem dAdd_tt : dAdd mk (.tup as) (.tup bs) G R = (as.length + bs.length ≤ sizeLine ∧ R (.tup (as ++ bs)) G) := rfl
theorem dAdd_ll : dAdd mk (.lst as) (.lst bs) G R = (as.length + bs.length ≤ sizeLine ∧ newL mk (as ++ bs) G R) := rfl
theorem dMinus_ii : dMinus (.int i) (.int j) G R = R (.int (i - j)) G := rfl
theorem dMul_ii : dMul (.int i) (.int j) G R = (IntMulOk i j ∧ R (.int (i * j)) G) := rfl
theorem dMod_ii : dMod (.int i) (.int j) G R = (0 < j ∧ R (.int (i % j)) G) := rfl
theorem dFdiv_ii : dFdiv (.int i) (.int j) G R = (CDivW i j ∧ R (.int (i / j)) G) := rfl
theorem dPow_ii : dPow (.int i) (.int j) G R = (CPowX i j ∧ R (.int (i ^ j.toNat)) G) := rfl
theorem dShl_ii : dShl (.int i) (.int j) G R = (CShl i j ∧ R (.int (i * 2 ^ j.toNat)) G) := rfl
theorem dNeg_i : dNeg (.int i) G R = R (.int (-i)) G := rfl
theorem dIadd_ii : dIadd (.int i) (.int j) G R = R (.int (i + j)) G := rfl
theorem dLt_ii : dLt (.int i) (.int j) G R = R (.bl (decide (i < j))) G := rfl
theorem dLe_ii : dLe (.int i) (.int j) G R = R (.bl (decide (i ≤ j))) G := rfl
theorem dGt_ii : dGt (.int i) (.int j) G R = R (.bl (decide (j < i))) G := rfl
theorem dGe_ii : dGe (.int i) (.int j) G R = R (.bl (decide (j ≤ i))) G := rfl
theorem dEq_ii : dEq (.int i) (.int j) G R = R (.bl (decide (i = j))) G := rfl
theorem dNe_ii : dNe (.int i) (.int j) G R = R (.bl (!decide (i = j))) G := rfl
theorem dEq_ss : dEq (.str a) (.str b) G R = R (.bl (decide (a = b))) G := rfl
theorem dNe_ss : dNe (.str a) (.str b) G R = R (.bl (!decide (a = b))) G := rfl
theorem dEq_bb : dEq (.bl x) (.bl y) G R = R (.bl (decide (x = y))) G := rfl
theorem dNe_bb : dNe (.bl x) (.bl y) G R = R (.bl (!decide (x = y))) G := rfl
theorem dIs_n : dIs d .non G R = R (.bl (isNon d)) G := rfl
theorem dIsNot_n : dIsNot d .non G R = R (.bl (!isNon d)) G := rfl
theorem dMax2_ii : dMax2 [.int i, .int j] G R = R (.int (if j > i then j else i)) G := rfl
theorem dMin2_ii : dMin2 [.int i, .int j] G R = R (.int (if j < i then j else i)) G := rfl
theorem dTuple_t : dTuple [.tup as] G R = R (.tup as) G := rfl
theorem dTuple_l : dTuple [.lst as] G R = R (.tup as) G := rfl
theorem dList_t : dList mk [.tup as] G R = newL mk as G R := rfl
theorem dList_l : dList mk [.lst as] G R = newL mk as G R := rfl
theorem dIx_t : dIx (.tup as) (.int i) G R = (match atI as i with | some d => R d G | none => False) := rfl
theorem dIx_l : dIx (.lst as) (.int i) G R = (match atI as i with | some d => R d G | none => False) := rfl
theorem dIx_s : dIx (.str a) (.int i) G R = (a.length ≤ sizeLine ∧ (match atI a.cps.toList i with | some c => R (.str ⟨#[c]⟩) G | none => False)) := rfl
theorem dSl_t {lo hi : Option Int} : dSl mk (.tup as) lo hi G R = R (.tup (cutL as lo hi)) G := rfl
theorem dSl_l {lo hi : Option Int} : dSl mk (.lst as) lo hi G R = newL mk (cutL as lo hi) G R := rfl
theorem dSl_s {lo hi : Option Int} : dSl mk (.str a) lo hi G R = (a.length ≤ sizeLine ∧ R (.str (cutS a lo hi)) G) := rfl
theorem newL_f : newL false as G R = R (.lst as) G := rfl
end
end DL

set_option Elab.async false
set_option linter.all false
set_option maxRecDepth 100000
set_option maxHeartbeats 4000000
set_option autoImplicit false
namespace DL
open PySem PySem.Spec PyProof.Rows L2
/-! ### a block within a block -/
theorem look_re {env : Env} {y : Str} : ∀ {names : List (Str × NameKind)} {k : NameKind}, names.lookup y = some k → k = .cell ∨ k = .free →
    (names.map fun (n, k) => if (k == NameKind.free && env.scope.kind == .function && env.kindOf n == some .cell) then (n, NameKind.cell) else (n, k)).lookup y = some .cell ∨
    (names.map fun (n, k) => if (k == NameKind.free && env.scope.kind == .function && env.kindOf n == some .cell) then (n, NameKind.cell) else (n, k)).lookup y = some .free
  | [], k, h, _ => by simp at h
  | (n, j) :: r, k, h, hk => by
    rw [List.lookup_cons] at h
    simp only [List.map_cons]
    by_cases e : (y == n) = true
    · rw [e] at h
      cases h
      split
      · left; rw [List.lookup_cons, e]
      · rw [List.lookup_cons, e]
        rcases hk with rfl | rfl
        · exact .inl rfl
        · exact .inr rfl
    · have e' : (y == n) = false := by simpa using e
      rw [e'] at h
      have := look_re (env := env) h hk
      split <;> (rw [List.lookup_cons, e']; exact this)
theorem blkOk_re {N : List Str} {sc scope : Scope} {own : List (Str × Nat)} {env : Env} (h : BlkOk N sc scope own) : BlkOk N (relabel sc env) scope own :=
  ⟨h.kind, h.uniq, h.ix, fun y hy e => (h.free y hy e).elim (fun z => look_re z (.inl rfl)) (fun z => look_re z (.inr rfl)), h.own⟩
theorem atI_zero {α : Type} {x : α} {xs : List α} : atI (x :: xs) 0 = some x := by
  have := atI_nat (xs := x :: xs) (j := 0) (v := x) rfl
  exact this
/-! ### names in another order -/
def permL {α : Type} (js : List Nat) (l : List α) : List α := js.filterMap fun i => l[i]?
theorem vals_perm {vs : List V} {us : List Value} (h : Vals vs us) : ∀ js : List Nat, Vals (permL js vs) (permL js us)
  | [] => .nil
  | i :: js => by
    unfold permL
    rw [List.filterMap_cons, List.filterMap_cons]
    have hl := h.length
    cases e : vs[i]? with
    | none =>
      have : us[i]? = none := by rw [List.getElem?_eq_none_iff] at e ⊢; omega
      rw [this]
      exact vals_perm h js
    | some v =>
      obtain ⟨u, hu, r⟩ := h.get e
      rw [hu]
      exact .cons r (vals_perm h js)
theorem rds_perm {K : PySem.W.Frag} {H : Hp} {N : Ns} {ds : List D} {vs : List V} (h : RDs K H N ds vs) : ∀ js : List Nat, RDs K H N (permL js ds) (permL js vs)
  | [] => RDs.nil
  | i :: js => by
    unfold permL
    rw [List.filterMap_cons, List.filterMap_cons]
    have hl := h.length
    cases e : ds[i]? with
    | none =>
      have : vs[i]? = none := by rw [List.getElem?_eq_none_iff] at e ⊢; omega
      rw [this]
      exact rds_perm h js
    | some v =>
      obtain ⟨u, hu, r⟩ := h.get e
      rw [hu]
      exact RDs.cons r (rds_perm h js)
/-! ### zip -/
def zipD : List D → List D → List D
  | x :: xs, y :: ys => .tup [x, y] :: zipD xs ys
  | _, _ => []
theorem zipD_get : ∀ (xs ys : List D) (i : Nat), (zipD xs ys)[i]? = match xs[i]?, ys[i]? with | some x, some y => some (.tup [x, y]) | _, _ => none
  | [], ys, i => by simp [zipD]
  | x :: xs, [], i => by
    simp only [zipD, List.getElem?_nil]
    split <;> simp_all
  | x :: xs, y :: ys, 0 => by simp [zipD]
  | x :: xs, y :: ys, i + 1 => by simp only [zipD, List.getElem?_cons_succ]; exact zipD_get xs ys i
theorem zipD_length : ∀ (xs ys : List D), (zipD xs ys).length = min xs.length ys.length
  | [], ys => by simp [zipD]
  | x :: xs, [] => by simp [zipD]
  | x :: xs, y :: ys => by simp only [zipD, List.length_cons, zipD_length xs ys]; omega
theorem yl_zipL {K : PySem.W.Frag} {H0 : Hp} {N0 : Ns} {G0 : Gp} {a b : Addr} {ds es : List D} {gd : Gp → Prop} (h : ∀ H N G, Stp K H0 N0 G0 H N G → gd G → ∃ vs ws, SqL K H a vs ∧ RDs K H N ds vs ∧ SqL K H b ws ∧ RDs K H N es ws) : Yl K (Itz K a b) H0 N0 G0 (zipD ds es) gd := by
  refine Yl.of (fun i H N G d s g e => ?_) (fun i H N G s g e => ?_)
  · obtain ⟨vs, ws, sq, r, sq', r'⟩ := h H N G s g
    rw [zipD_get] at e
    cases ed : ds[i]? with
    | none => rw [ed] at e; cases e
    | some d0 =>
      cases ee : es[i]? with
      | none => rw [ed, ee] at e; cases e
      | some e0 =>
        rw [ed, ee] at e
        cases e
        obtain ⟨v, hv, rv⟩ := r.get ed
        obtain ⟨u, hu, ru⟩ := r'.get ee
        refine ⟨⟨vs, ws, v, u, sq, sq', hv, hu⟩, fun x H' y => ?_⟩
        obtain ⟨T, x1, y1, rfl, nT, rfl, y, y'⟩ := y
        have e2 := y vs sq
        rw [hv] at e2; cases e2
        have e3 := y' ws sq'
        rw [hu] at e3; cases e3
        have s2 := Stp.new0 (u := .tup [v, u]) s.rel nT
        exact ⟨s2, RD.tup (.inl (.inl upd_same)) (RDs.cons (rv.le s2.kp) (RDs.cons (ru.le s2.kp) RDs.nil))⟩
  · obtain ⟨vs, ws, sq, r, sq', r'⟩ := h H N G s g
    rw [zipD_length] at e
    exact ⟨vs, ws, sq, sq', by rw [← r.length, ← r'.length]; omega⟩
theorem yl_zipT {K : PySem.W.Frag} {H0 : Hp} {N0 : Ns} {G0 : Gp} {a b : Addr} {ds es : List D} {gd : Gp → Prop} (h : ∀ H N G, Stp K H0 N0 G0 H N G → gd G → ∃ vs ws, SqT K H a vs ∧ RDs K H N ds vs ∧ SqT K H b ws ∧ RDs K H N es ws) : Yl K (RZ.ItzT K a b) H0 N0 G0 (zipD ds es) gd := by
  refine Yl.of (fun i H N G d s g e => ?_) (fun i H N G s g e => ?_)
  · obtain ⟨vs, ws, sq, r, sq', r'⟩ := h H N G s g
    rw [zipD_get] at e
    cases ed : ds[i]? with
    | none => rw [ed] at e; cases e
    | some d0 =>
      cases ee : es[i]? with
      | none => rw [ed, ee] at e; cases e
      | some e0 =>
        rw [ed, ee] at e
        cases e
        obtain ⟨v, hv, rv⟩ := r.get ed
        obtain ⟨u, hu, ru⟩ := r'.get ee
        refine ⟨⟨vs, ws, v, u, sq, sq', hv, hu⟩, fun x H' y => ?_⟩
        obtain ⟨T, x1, y1, rfl, nT, rfl, y, y'⟩ := y
        have e2 := y vs sq
        rw [hv] at e2; cases e2
        have e3 := y' ws sq'
        rw [hu] at e3; cases e3
        have s2 := Stp.new0 (u := .tup [v, u]) s.rel nT
        exact ⟨s2, RD.tup (.inl (.inl upd_same)) (RDs.cons (rv.le s2.kp) (RDs.cons (ru.le s2.kp) RDs.nil))⟩
  · obtain ⟨vs, ws, sq, r, sq', r'⟩ := h H N G s g
    rw [zipD_length] at e
    exact ⟨vs, ws, sq, sq', by rw [← r.length, ← r'.length]; omega⟩
def dZip (ta : DA) : DI := fun σ G R => ta σ G fun ds G1 => match ds with
  | [.lst xs, .lst ys] => R (zipD xs ys) (fun _ => True) G1
  | [.tup xs, .tup ys] => R (zipD xs ys) (fun _ => True) G1
  | [.ref a, .lst ys] => (match G1 a with | some (.lst xs) => R (zipD xs ys) (fun G => G a = some (.lst xs)) G1 | _ => False)
  | _ => False
variable {X : Cx}
theorem qi_zip {e e2 : Expr} {ta : DA} {p pos tpos : Pos} {elts : List Expr} {kk : Nat} (hg : Gl X "zip") (hm : X.mg "zip" = none) (ha : QA X [e, e2] ta)
    (hs : starEach [e, e2] X.env = (false, eval e X.env) :: starEach [e2] X.env := by rfl) (hpl : (backTo pos (starEach [e2] X.env)).any (·.1) = false := by rfl) :
    QI X (.Tuple elts kk tpos) (.Call (.Name "zip" p) [e, e2] [] pos) (dZip ta) := pi_mono (RZ.pi_zipA hg hm ha hs hpl) fun τ H Q h => by
  obtain ⟨σ, G, N, R, hs, hg, ht, q⟩ := h
  refine ⟨σ, G, N, _, hs, hg, ht, fun ds G1 N1 vs H1 h1 s1 r1 => ?_⟩
  split at h1
  · obtain ⟨v, r, rfl, r2, r3⟩ := r1.of_cons
    obtain ⟨v', r', rfl, r4, r5⟩ := r3.of_cons
    rw [r5.of_nil]
    obtain ⟨p, vs, rfl, sq, r⟩ := r2.of_lst
    obtain ⟨p', vs', rfl, sq', r'⟩ := r4.of_lst
    exact ⟨p, p', vs, vs', rfl, .inl ⟨sq.sq, sq'.sq, q _ _ _ _ _ _ h1 s1 (yl_zipL fun H N G s _ => ⟨vs, vs', (sq.le s.kp).sq, r.le s.kp, (sq'.le s.kp).sq, r'.le s.kp⟩)⟩⟩
  · obtain ⟨v, r, rfl, r2, r3⟩ := r1.of_cons
    obtain ⟨v', r', rfl, r4, r5⟩ := r3.of_cons
    rw [r5.of_nil]
    obtain ⟨p, vs, rfl, sq, r⟩ := r2.of_tup
    obtain ⟨p', vs', rfl, sq', r'⟩ := r4.of_tup
    exact ⟨p, p', vs, vs', rfl, .inr ⟨sq, sq', q _ _ _ _ _ _ h1 s1 (yl_zipT fun H N G s _ => ⟨vs, vs', SqT.le s.kp.kle sq, r.le s.kp, SqT.le s.kp.kle sq', r'.le s.kp⟩)⟩⟩
  · obtain ⟨v, r, rfl, r2, r3⟩ := r1.of_cons
    obtain ⟨v', r', rfl, r4, r5⟩ := r3.of_cons
    rw [r5.of_nil]
    obtain rfl := r2.of_ref
    obtain ⟨p', vs', rfl, sq', r'⟩ := r4.of_lst
    split at h1
    · rename_i xs e
      obtain ⟨_, vs, hv, r⟩ := s1.rel _ _ e
      exact ⟨_, p', vs, vs', rfl, .inl ⟨SqL.of hv, sq'.sq, q _ _ _ _ _ _ h1 s1 (yl_zipL fun H N G s g => by
        obtain ⟨_, vs, hv, r⟩ := s.rel _ _ g
        exact ⟨vs, vs', SqL.of hv, r, (sq'.le s.kp).sq, r'.le s.kp⟩)⟩⟩
    · exact h1.elim
  · exact h1.elim
end DL

set_option Elab.async false
set_option linter.all false
set_option maxRecDepth 100000
set_option maxHeartbeats 4000000
set_option autoImplicit false
namespace DL
open PySem PySem.Spec PyProof.Rows L2
/-! ### a, *b = a tuple or a list -/
section
variable {prog : Program} {w : World} {A : Around} {E : Value → Shared → Prop} {s : Shared}
theorem star_tup {l : Addr} {items : Array Value} {n i : Nat} {Q : List Value → Shared → Prop} (hl : IsTup s.heap l items) (hh : A.handled = none) (hi : i < n) (hn : n ≤ items.size + 1) (hz : items.size ≤ sizeLine)
    (h : ∀ (h' : Heap) (tk : Nat), (∀ b o, s.heap.get? b = some o → h'.get? b = some o) →
      Q (items.toList.take i ++ [.ref h'.objs.size] ++ (items.toList.drop i).drop (items.size + 1 - n)) { s with heap := h'.push { cls := .type "list", data := .seq ((items.toList.drop i).take (items.size + 1 - n)).toArray }, toks := tk }) :
    wpAny (model prog w) A (unpackItems (.ref l) n (some i)) Q E s := by
  have hlt : l ≠ s.heap.objs.size := by obtain ⟨o, ho, _⟩ := hl; exact Nat.ne_of_lt (Heap.lt_size ho)
  unfold unpackItems
  refine wpAny_bind ?_
  unfold notIterableAtAll
  refine wpAny_bind (wpAny_specialOf hl.typeIs slot_tuple_iter.lookup ?_)
  refine wpAny_pure ?_
  simp only [Bool.false_eq_true, if_false]
  refine wpAny_bind (wpAny_holding (iter_tuple hl ?_))
  refine wpAny_bind (wpAny_holding (draw_tuple hlt i 0 _ _ ⟨_, Heap.get?_push_size _ rfl, rfl, rfl⟩ (hl.push _) (by omega) fun h₁ hit₁ hs₁ => ?_))
  have hl₁ : IsTup h₁ l items := (hl.push _).extBut hs₁.extBut hlt
  rw [Nat.zero_add] at hit₁
  have hit₁' := hit₁
  obtain ⟨oi, hoi, _⟩ := hit₁'
  have hl₁' := hl₁
  obtain ⟨ol, hol, _⟩ := hl₁'
  rw [List.drop_zero]
  have hfl : (items.toList.take i).length = i := by rw [List.length_take, Array.length_toList]; omega
  rw [if_neg (show ¬ ((items.toList.take i).length < i) by rw [hfl]; omega)]
  refine wpAny_bind (wpAny_holding (PySem.W.kun_collect (s := { s with heap := h₁ }) (T := "tuple_iterator") (.inr (.inr (.inr rfl))) (Walks.tuple (A := A.in1) hh s.heap.objs.size l hlt items) (fun j u st => st.1.typeIs) (k := i) (by omega) ⟨hit₁, hl₁⟩ (Heap.lt_size hoi) (Heap.lt_size hol) (fun h₂ tk hk => ?_) hz))
  have hrl : (items.toList.drop i).length = items.size - i := by rw [List.length_drop, Array.length_toList]
  have hmid : (items.toList.drop i).length - (n - 1 - i) = items.size + 1 - n := by rw [hrl]; omega
  show wpAny _ _ (if (items.toList.drop i).length < n - 1 - i then _ else _) _ _ _
  rw [if_neg (by rw [hrl]; omega)]
  show wpAny _ _ (newList ((items.toList.drop i).take ((items.toList.drop i).length - (n - 1 - i))) >>= fun d => pure (items.toList.take i ++ [d] ++ (items.toList.drop i).drop ((items.toList.drop i).length - (n - 1 - i)))) _ _ _
  rw [hmid]
  have he : ∀ b o, s.heap.get? b = some o → h₂.get? b = some o := fun b o e => hk b o (Nat.ne_of_lt (Heap.lt_size e)) (hs₁.extBut b o (Nat.ne_of_lt (Heap.lt_size e)) (Heap.get?_push_of_some _ e))
  exact wpAny_bind (wpAny_newList (s := { s with heap := h₂, toks := tk }) (wpAny_pure (h h₂ tk he)) (by rw [List.length_take, hrl]; omega))
theorem star_lst' {l : Addr} {items : Array Value} {n i : Nat} {Q : List Value → Shared → Prop} (hl : s.heap.IsList l items) (hh : A.handled = none) (hi : i < n) (hn : n ≤ items.size + 1) (hz : items.size ≤ sizeLine)
    (h : ∀ (h' : Heap) (tk : Nat), (∀ b o, s.heap.get? b = some o → h'.get? b = some o) →
      Q (items.toList.take i ++ [.ref h'.objs.size] ++ (items.toList.drop i).drop (items.size + 1 - n)) { s with heap := h'.push { cls := .type "list", data := .seq ((items.toList.drop i).take (items.size + 1 - n)).toArray }, toks := tk }) :
    wpAny (model prog w) A (unpackItems (.ref l) n (some i)) Q E s := by
  have hlt : l ≠ s.heap.objs.size := by obtain ⟨o, ho, _⟩ := hl; exact Nat.ne_of_lt (Heap.lt_size ho)
  unfold unpackItems
  refine wpAny_bind ?_
  unfold notIterableAtAll
  refine wpAny_bind (wpAny_specialOf hl.typeIs slot_list_iter.lookup ?_)
  refine wpAny_pure ?_
  simp only [Bool.false_eq_true, if_false]
  refine wpAny_bind (wpAny_holding (wpAny_pyIter_list hl ?_))
  refine wpAny_bind (wpAny_holding (PySem.W.kun_draw hlt i 0 _ _ ⟨_, Heap.get?_push_size _ rfl, rfl, rfl⟩ (hl.push _) (by omega) fun h₁ hit₁ hs₁ => ?_))
  have hl₁ : h₁.IsList l items := (hl.push _).extBut hs₁.extBut hlt
  rw [Nat.zero_add] at hit₁
  have hit₁' := hit₁
  obtain ⟨oi, hoi, _⟩ := hit₁'
  have hl₁' := hl₁
  obtain ⟨ol, hol, _⟩ := hl₁'
  rw [List.drop_zero]
  have hfl : (items.toList.take i).length = i := by rw [List.length_take, Array.length_toList]; omega
  rw [if_neg (show ¬ ((items.toList.take i).length < i) by rw [hfl]; omega)]
  refine wpAny_bind (wpAny_holding (PySem.W.kun_collect (s := { s with heap := h₁ }) (T := "list_iterator") (.inr (.inr (.inl rfl))) (Walks.list (A := A.in1) hh s.heap.objs.size l hlt items) (fun j u st => st.1.typeIs) (k := i) (by omega) ⟨hit₁, hl₁⟩ (Heap.lt_size hoi) (Heap.lt_size hol) (fun h₂ tk hk => ?_) hz))
  have hrl : (items.toList.drop i).length = items.size - i := by rw [List.length_drop, Array.length_toList]
  have hmid : (items.toList.drop i).length - (n - 1 - i) = items.size + 1 - n := by rw [hrl]; omega
  show wpAny _ _ (if (items.toList.drop i).length < n - 1 - i then _ else _) _ _ _
  rw [if_neg (by rw [hrl]; omega)]
  show wpAny _ _ (newList ((items.toList.drop i).take ((items.toList.drop i).length - (n - 1 - i))) >>= fun d => pure (items.toList.take i ++ [d] ++ (items.toList.drop i).drop ((items.toList.drop i).length - (n - 1 - i)))) _ _ _
  rw [hmid]
  have he : ∀ b o, s.heap.get? b = some o → h₂.get? b = some o := fun b o e => hk b o (Nat.ne_of_lt (Heap.lt_size e)) (hs₁.extBut b o (Nat.ne_of_lt (Heap.lt_size e)) (Heap.get?_push_of_some _ e))
  exact wpAny_bind (wpAny_newList (s := { s with heap := h₂, toks := tk }) (wpAny_pure (h h₂ tk he)) (by rw [List.length_take, hrl]; omega))
end
section
variable {X : Cx} {pos : Pos}
def gStar (K : PySem.W.Frag) (n i : Nat) (t : TGs) : TG := fun v σ H Q => ∃ a xs, v = .ref a ∧ (SqT K H a xs ∨ SqL K H a xs) ∧ n ≤ xs.length + 1 ∧
  ∀ p, H p = none → t (xs.take i ++ [.ref p] ++ (xs.drop i).drop (xs.length + 1 - n)) σ (upd H p (.lst ((xs.drop i).take (xs.length + 1 - n)))) Q
theorem vals_take {vs : List V} {us : List Value} (h : Vals vs us) : ∀ n : Nat, Vals (vs.take n) (us.take n) := by
  induction h with
  | nil => intro n; simp; exact .nil
  | cons r _ ih =>
    intro n
    cases n with
    | zero => exact .nil
    | succ n => exact .cons r (ih n)
theorem vals_drop {vs : List V} {us : List Value} (h : Vals vs us) : ∀ n : Nat, Vals (vs.drop n) (us.drop n) := by
  induction h with
  | nil => intro n; simp; exact .nil
  | cons r rr ih =>
    intro n
    cases n with
    | zero => exact .cons r rr
    | succ n => exact ih n
theorem vals_app {vs vs' : List V} {us us' : List Value} (h : Vals vs us) (h' : Vals vs' us') : Vals (vs ++ vs') (us ++ us') := by
  induction h with
  | nil => exact h'
  | cons r _ ih => exact .cons r ih
theorem pg_star {es : List Expr} {k : Nat} {t : TGs} {n i : Nat} (hc : X.calm = true) (h : PGs X es t) (hi : i < n)
    (hn : (assignEach es X.env).length = n := by rfl) (hst : (assignEach es X.env).findIdx? (·.1) = some i := by rfl) : PG X (.Tuple es k pos) (gStar X.K n i t) := by
  refine ⟨fun pins s σ H v u Q I r hw => ?_⟩
  obtain ⟨a, xs, e1, hq, hl, hw⟩ := hw
  subst e1
  cases r
  rw [assign_Tuple]
  refine wpAny_bind (wpAny_standAt ?_)
  unfold unpack
  rw [hn, hst]
  have fin : ∀ (its : List Value) (h' : Heap) (tk : Nat), Vals xs its → (∀ b o, s.heap.get? b = some o → h'.get? b = some o) → xs.length ≤ sizeLine →
      wpAny (model X.prog X.w) X.A (assignInOrder ((assignEach es X.env).map (·.2)) (its.take i ++ [.ref h'.objs.size] ++ (its.drop i).drop (its.length + 1 - n))) (fun _ s' => ∃ σ' H', Inv X pins σ' H' s' ∧ Q σ' H') X.xe
        { s with heap := h'.push { cls := .type "list", data := .seq ((its.drop i).take (its.length + 1 - n)).toArray }, toks := tk } := by
    intro its h' tk rv hk hz
    have I1 : Inv X pins σ H { s with heap := h', toks := tk } := I.kept hk
    have hln := rv.length
    have np : H h'.objs.size = none := I1.hok.fresh (Nat.le_refl _)
    have I2 : Inv X pins σ (upd H h'.objs.size (.lst ((xs.drop i).take (xs.length + 1 - n)))) { s with heap := h'.push { cls := .type "list", data := .seq ((its.drop i).take (its.length + 1 - n)).toArray }, toks := tk } :=
      I1.laid (t' := tk) (fun b u e => Heap.get?_push_of_some _ e) (Nat.le_refl _)
        (show ObjOk X.prog X.w _ _ _ (.lst ((xs.drop i).take (xs.length + 1 - n))) from ⟨by rw [List.length_take, List.length_drop]; omega, _, 0, by rw [← hln]; exact vals_take (vals_drop rv i) _, Heap.get?_push_size _ rfl⟩)
    refine h.run pins _ σ _ _ _ Q I2 ?_ (hw _ np)
    exact vals_app (vals_app (vals_take rv i) (.cons rfl .nil)) (by rw [← hln]; exact vals_drop (vals_drop rv i) _)
  rcases hq with hq | hq
  · obtain ⟨its, rv, ht, hz⟩ := I.tuple hq
    have hln := rv.length
    refine wpAny_bind (wpAny_holding (star_tup ht (I.ok.hd hc) hi (by rw [List.size_toArray]; omega) (by rw [List.size_toArray]; omega) fun h' tk hk => ?_))
    have := fin its h' tk rv hk hz
    simpa using this
  · obtain ⟨its, rv, ht, hz⟩ := I.list hq
    have hln := rv.length
    refine wpAny_bind (wpAny_holding (star_lst' ht.isList (I.ok.hd hc) hi (by rw [List.size_toArray]; omega) (by rw [List.size_toArray]; omega) fun h' tk hk => ?_))
    have := fin its h' tk rv hk hz
    simpa using this
end
section
variable {X : Cx} {pos : Pos}
theorem pgs_star {e : Expr} {es : List Expr} {t : TG} {u : TGs} {p : Pos} (h1 : PG X e t) (h2 : PGs X es u)
    (hs : (assignEach (.Starred e p :: es) X.env).map (·.2) = assign e X.env :: (assignEach es X.env).map (·.2) := by rfl) : PGs X (.Starred e p :: es) (gCons t u) := by
  refine ⟨fun pins s σ H vs us Q I r h => ?_⟩
  obtain ⟨v, vr, e1, h⟩ := h
  subst e1
  cases r with
  | cons r rr =>
    rw [hs]
    exact assignInOrder_cons (thn (h1.run pins s σ H _ _ _ I r h) fun _ s1 ⟨σ1, H1, I1, q1⟩ => h2.run pins s1 σ1 H1 _ _ Q I1 rr q1)
def starD (n i : Nat) (ds : List D) : List D := ds.take i ++ [.lst ((ds.drop i).take (ds.length + 1 - n))] ++ (ds.drop i).drop (ds.length + 1 - n)
def dStar (n i : Nat) (is : List Nat) : DG := fun d σ G R => match d with
  | .tup ds => n ≤ ds.length + 1 ∧ R (setAll σ is (starD n i ds)) G
  | .lst ds => n ≤ ds.length + 1 ∧ R (setAll σ is (starD n i ds)) G
  | _ => False
theorem rds_take {K : PySem.W.Frag} {H : Hp} {N : Ns} : ∀ {ds : List D} {vs : List V} (n : Nat), RDs K H N ds vs → RDs K H N (ds.take n) (vs.take n)
  | [], vs, n, h => by rw [h.of_nil]; simp; exact RDs.nil
  | d :: ds, vs, 0, h => RDs.nil
  | d :: ds, vs, n + 1, h => by
    obtain ⟨v, r, rfl, h1, h2⟩ := h.of_cons
    exact RDs.cons h1 (rds_take n h2)
theorem rds_drop {K : PySem.W.Frag} {H : Hp} {N : Ns} : ∀ {ds : List D} {vs : List V} (n : Nat), RDs K H N ds vs → RDs K H N (ds.drop n) (vs.drop n)
  | [], vs, n, h => by rw [h.of_nil]; simp; exact RDs.nil
  | d :: ds, vs, 0, h => h
  | d :: ds, vs, n + 1, h => by
    obtain ⟨v, r, rfl, h1, h2⟩ := h.of_cons
    exact rds_drop n h2
theorem rds_app {K : PySem.W.Frag} {H : Hp} {N : Ns} : ∀ {ds es : List D} {vs ws : List V}, RDs K H N ds vs → RDs K H N es ws → RDs K H N (ds ++ es) (vs ++ ws)
  | [], es, vs, ws, h, h' => by rw [h.of_nil]; exact h'
  | d :: ds, es, vs, ws, h, h' => by
    obtain ⟨v, r, rfl, h1, h2⟩ := h.of_cons
    exact RDs.cons h1 (rds_app h2 h')
theorem qg_star {es : List Expr} {k n i : Nat} {is : List Nat} (hc : X.calm = true) (h : PGs X es (gNames is)) (hi : i < n) (hl : is.length = n)
    (hn : (assignEach es X.env).length = n := by rfl) (hst : (assignEach es X.env).findIdx? (·.1) = some i := by rfl) : QG X (.Tuple es k pos) (dStar n i is) := pg_mono (pg_star hc h hi hn hst) fun v τ H Q h => by
  obtain ⟨d, σ, G, N, R, rd, rs, rg, h0, q⟩ := h
  have go : ∀ (p : Addr) (vs : List V) (ds : List D), RDs X.K H N ds vs → n ≤ ds.length + 1 → R (setAll σ is (starD n i ds)) G → H p = none →
      gNames is (vs.take i ++ [.ref p] ++ (vs.drop i).drop (vs.length + 1 - n)) τ (upd H p (.lst ((vs.drop i).take (vs.length + 1 - n)))) Q := by
    intro p vs ds r hln h0 np
    have hlv := r.length
    refine gNames_ok (by simp only [List.length_append, List.length_take, List.length_drop, List.length_cons, List.length_nil]; omega) ?_
    have s2 := Stp.newV (u := .lst ((vs.drop i).take (vs.length + 1 - n))) rg np
    refine q _ _ _ _ _ h0 s2 (RSt.setAll is (rs.le s2.kp) ?_)
    unfold starD
    rw [hlv]
    refine rds_app (rds_app (rds_take i (r.le s2.kp)) (RDs.cons ?_ RDs.nil)) (rds_drop _ (rds_drop i (r.le s2.kp)))
    exact RD.lst (.inl ⟨upd_same, fun z => z.1 rfl⟩) (rds_take _ (rds_drop i (r.le s2.kp)))
  unfold dStar at h0
  split at h0
  · obtain ⟨p, vs, rfl, sq, r⟩ := rd.of_tup
    exact ⟨p, vs, rfl, .inl sq, by rw [← r.length]; exact h0.1, fun p' np => go p' vs _ r h0.1 h0.2 np⟩
  · obtain ⟨p, vs, rfl, sq, r⟩ := rd.of_lst
    exact ⟨p, vs, rfl, .inr sq.sq, by rw [← r.length]; exact h0.1, fun p' np => go p' vs _ r h0.1 h0.2 np⟩
  · exact h0.elim
theorem starD_one (d : D) (ds : List D) : starD 2 1 (d :: ds) = [d, .lst ds] := by
  unfold starD
  simp
end
end DL

set_option Elab.async false
set_option linter.all false
set_option maxRecDepth 100000
set_option maxHeartbeats 4000000
set_option autoImplicit false
namespace DL
open PySem PySem.Spec PyProof.Rows L2
/-! ### the module's tuples and dicts -/
/-- what stands written: the value u is the data d, whatever else stands -/
def Kc (K : PySem.W.Frag) (d : D) (u : Value) : Prop := ∃ v, RelV v u ∧ ∀ H N, RD K H N d v
theorem rds_strs {K : PySem.W.Frag} {H : Hp} {N : Ns} : ∀ zs : List Str, RDs K H N (zs.map D.str) (zs.map V.str)
  | [] => RDs.nil
  | z :: zs => RDs.cons (RD.str z) (rds_strs zs)
theorem kc_tup {K : PySem.W.Frag} {p : Addr} {od : Option Addr} {its : Array Value} {n : Nat} {sl : Array (Option Value)} (zs : List Str) (l : K.lookup p = some ⟨.type "tuple", od, .seq its n, sl⟩) (h : Vals (zs.map V.str) its.toList) (hz : its.size ≤ sizeLine) : Kc K (.tup (zs.map D.str)) (.ref p) :=
  ⟨.ref p, rfl, fun H N => RD.tup (.inr ⟨_, its, n, l, rfl, rfl, hz, h⟩) (rds_strs zs)⟩
theorem kc_ref {K : PySem.W.Frag} {p : Addr} : Kc K (.ref p) (.ref p) := ⟨.ref p, rfl, fun H N => RD.ref p⟩
variable {X : Cx}
theorem qe_globD {x : Str} {p : Pos} {d : D} (hg : Gl X x) (hm : ∃ u, X.mg x = some u ∧ Kc X.K d u) (hdb : (x == ("__debug__" : Str)) = false := by decide) : QE X (.Name x p) (dC d) := by
  obtain ⟨u, hm, v, r, k⟩ := hm
  exact pe_mono (pe_glob hg hm r hdb) fun τ H Q h => by
    obtain ⟨σ, G, N, R, hs, hgg, ht, q⟩ := h
    exact q _ _ _ _ _ ht (Stp.refl hgg) (k H N)
/-- a dict of the module's, with text keys -/
def KD (K : PySem.W.Frag) (w : World) (d : Addr) (kvs : List (Str × D)) : Prop := ∃ es n, KDict K w d es n ∧ ∀ z, match kvs.lookup z with
  | some x => ∃ u, PySem.W.nsIn K d z = some (some u) ∧ Kc K x u
  | none => PySem.W.nsIn K d z = some none
def dInK (d : Addr) (kvs : List (Str × D)) (f : Bool → Bool) : DR2 := fun x y G R => match x with | .str z => y = .ref d ∧ R (.bl (f (kvs.lookup z).isSome)) G | _ => False
def dIxK (d : Addr) (kvs : List (Str × D)) : DR2 := fun x y G R => match y with | .str z => x = .ref d ∧ (match kvs.lookup z with | some v => R v G | none => False) | _ => False
theorem od_inK {d : Addr} {kvs : List (Str × D)} (h : KD X.K X.w d kvs) : OpD X (compareOp .In) (dInK d kvs id) := by
  obtain ⟨es, n, D, hz⟩ := h
  refine opr_mono (op_in_kd D) fun x y H Q h => ?_
  obtain ⟨c, e, G, N, R, r1, r2, rg, h, q⟩ := h
  unfold dInK at h
  split at h
  · rename_i z
    obtain ⟨rfl, h⟩ := h
    obtain rfl := r1.of_str
    obtain rfl := r2.of_ref
    have hz := hz z
    cases e : kvs.lookup z with
    | none => rw [e] at hz h; exact ⟨z, _, rfl, rfl, hz, q.at rg h (RD.bl _)⟩
    | some x => rw [e] at hz h; obtain ⟨u, hz, _⟩ := hz; exact ⟨z, _, rfl, rfl, hz, q.at rg h (RD.bl _)⟩
  · exact h.elim
theorem od_notInK {d : Addr} {kvs : List (Str × D)} (h : KD X.K X.w d kvs) : OpD X (compareOp .NotIn) (dInK d kvs not) := by
  obtain ⟨es, n, D, hz⟩ := h
  refine opr_mono (op_notIn_kd D) fun x y H Q h => ?_
  obtain ⟨c, e, G, N, R, r1, r2, rg, h, q⟩ := h
  unfold dInK at h
  split at h
  · rename_i z
    obtain ⟨rfl, h⟩ := h
    obtain rfl := r1.of_str
    obtain rfl := r2.of_ref
    have hz := hz z
    cases e : kvs.lookup z with
    | none => rw [e] at hz h; exact ⟨z, _, rfl, rfl, hz, q.at rg h (RD.bl _)⟩
    | some x => rw [e] at hz h; obtain ⟨u, hz, _⟩ := hz; exact ⟨z, _, rfl, rfl, hz, q.at rg h (RD.bl _)⟩
  · exact h.elim
theorem xd_kd {d : Addr} {kvs : List (Str × D)} (h : KD X.K X.w d kvs) : IxD X (dIxK d kvs) := by
  obtain ⟨es, n, D, hz⟩ := h
  refine ixr_mono ix_kdict fun x y H Q h => ?_
  obtain ⟨c, e, G, N, R, r1, r2, rg, h, q⟩ := h
  unfold dIxK at h
  split at h
  · rename_i z
    obtain ⟨rfl, h⟩ := h
    obtain rfl := r1.of_ref
    obtain rfl := r2.of_str
    have hz := hz z
    cases e : kvs.lookup z with
    | none => rw [e] at h; exact h.elim
    | some x =>
      rw [e] at hz h
      obtain ⟨u, hz, v, hv, k⟩ := hz
      exact ⟨d, z, v, rfl, rfl, ⟨es, n, u, D.at_, D.lit, hz, hv⟩, q.at rg h (k H N)⟩
  · exact h.elim
/-- a written dict's look -/
theorem ns_find {K : PySem.W.Frag} {d : Addr} {oc : Value} {od : Option Addr} {es : List DictEntry} {n : Nat} {sl : Array (Option Value)} (l : K.lookup d = some ⟨oc, od, .dict es.toArray n, sl⟩) (z : Str) :
    PySem.W.nsIn K d z = (match es.find? (·.key.isStr z) with | some e => some (some e.val) | none => if es.any (·.refKey) then none else some none) := by
  unfold PySem.W.nsIn
  rw [l]
  rfl
/-- entries, told by keys, tokens and values -/
def entK (P : Params) : List (Str × Tok × Value) → List DictEntry
  | [] => []
  | (k, t, v) :: r => ⟨PyData.keyHash P k, .str k t, v⟩ :: entK P r
theorem entK_lit {P : Params} : ∀ l : List (Str × Tok × Value), PySem.W.KeysLit P (entK P l)
  | [] => trivial
  | (k, t, v) :: r => ⟨⟨k, t, rfl, rfl⟩, entK_lit r⟩
inductive KvOk (K : PySem.W.Frag) : List (Str × D) → List (Str × Tok × Value) → Prop where
  | nil : KvOk K [] []
  | cons {k : Str} {t : Tok} {v : Value} {x : D} {kvs : List (Str × D)} {l : List (Str × Tok × Value)} : Kc K x v → KvOk K kvs l → KvOk K ((k, x) :: kvs) ((k, t, v) :: l)
theorem entK_look {K : PySem.W.Frag} {P : Params} {z : Str} {kvs : List (Str × D)} {l : List (Str × Tok × Value)} (h : KvOk K kvs l) : match kvs.lookup z with
    | some x => ∃ e, (entK P l).find? (·.key.isStr z) = some e ∧ Kc K x e.val
    | none => (entK P l).find? (·.key.isStr z) = none ∧ (entK P l).any (·.refKey) = false := by
  induction h with
  | nil => exact ⟨rfl, rfl⟩
  | @cons k t v x kvs l hx _ ih =>
    rw [List.lookup_cons]
    unfold entK
    rw [List.find?_cons]
    have e1 : (Value.str k t).isStr z = (k == z) := rfl
    simp only [e1]
    by_cases e : z = k
    · subst e
      simp only [beq_self_eq_true]
      exact ⟨_, rfl, hx⟩
    · have e2 : (z == k) = false := by simpa using e
      have e3 : (k == z) = false := by simp; exact fun h => e h.symm
      simp only [e2, e3]
      cases e4 : kvs.lookup z with
      | none => rw [e4] at ih; simp only at ih ⊢; exact ⟨ih.1, by simp [DictEntry.refKey]; simpa [DictEntry.refKey] using ih.2⟩
      | some y => rw [e4] at ih; exact ih
theorem kd_mk {K : PySem.W.Frag} {w : World} {d : Addr} {n : Nat} {kvs : List (Str × D)} (l : List (Str × Tok × Value)) (hl : K.lookup d = some ⟨.type "dict", none, .dict (entK w.params l).toArray n, #[]⟩) (low : (d == sysModules) = false) (h : KvOk K kvs l) : KD K w d kvs := by
  refine ⟨_, n, ⟨hl, by simpa using entK_lit l, low⟩, fun z => ?_⟩
  have := entK_look (P := w.params) (z := z) h
  rw [ns_find hl]
  cases e : kvs.lookup z with
  | none =>
    rw [e] at this
    rw [this.1, this.2]
    rfl
  | some x =>
    rw [e] at this
    obtain ⟨e, h1, h2⟩ := this
    rw [h1]
    exact ⟨_, rfl, h2⟩
end DL

set_option Elab.async false
set_option linter.all false
set_option maxRecDepth 100000
set_option maxHeartbeats 4000000
set_option autoImplicit false
namespace DL
open PySem PySem.Spec PyProof.Rows L2
/-! ### zip of lists and tuples in any mix: the kind of a source is told by a Bool (true: a list) -/
def sqB (l : Bool) (K : PySem.W.Frag) (H : Hp) (a : Addr) (xs : List V) : Prop := match l with | true => SqL K H a xs | false => SqT K H a xs
def itB (l : Bool) (h : Heap) (it a : Addr) (i : Nat) : Prop := match l with | true => h.IsListIter it a i | false => h.IsTupleIter it a i
def srB (l : Bool) (h : Heap) (a : Addr) (its : Array Value) : Prop := match l with | true => h.IsList a its | false => h.IsTuple a its
def boB (l : Bool) (a : Addr) : Obj := match l with | true => { cls := .type "list_iterator", data := .fields #[.ref a, .int 0 0] } | false => { cls := .type "tuple_iterator", data := .fields #[.ref a, .int 0 0] }
theorem drB {prog : Program} {w : World} {A : Around} (hh : A.handled = none) (l : Bool) (it a : Addr) (hne : a ≠ it) (its : Array Value) : Draws prog w A it [it, a] its.size (fun i v => its[i]? = some v) (fun i h => itB l h it a i ∧ srB l h a its) := by
  cases l
  · exact Draws.tuple hh it a hne its
  · exact Draws.list hh it a hne its
theorem beB (l : Bool) (a : Addr) (its : Array Value) : Begins (.ref a) (boB l a) fun h => srB l h a its := by
  cases l
  · exact begins_tuple a its
  · exact begins_list a its
theorem itB_at {l : Bool} {h h' : Heap} {it a : Addr} {i : Nat} (x : itB l h it a i) (k : ∀ o, h.get? it = some o → h'.get? it = some o) : itB l h' it a i := by
  cases l
  · exact Heap.IsTupleIter.at x k
  · exact Heap.IsListIter.at x k
theorem itB_obj {l : Bool} {h : Heap} {it a : Addr} {i : Nat} (x : itB l h it a i) : ∃ o, h.get? it = some o ∧ ∀ v, o.data ≠ .cell v := by
  cases l
  · obtain ⟨o, e, _, d⟩ := x; exact ⟨o, e, fun v q => by rw [d] at q; cases q⟩
  · obtain ⟨o, e, _, d⟩ := x; exact ⟨o, e, fun v q => by rw [d] at q; cases q⟩
theorem itB_new {l : Bool} {h : Heap} {it a : Addr} (e : h.get? it = some (boB l a)) : itB l h it a 0 := by
  cases l
  · exact ⟨_, e, rfl, rfl⟩
  · exact ⟨_, e, rfl, rfl⟩
theorem srB_of {X : Cx} {pins : List (Addr × Obj)} {σ : L2.St} {H : Hp} {s : Shared} {l : Bool} {a : Addr} {xs : List V} (I : Inv X pins σ H s) (h : sqB l X.K H a xs) : ∃ its : List Value, Vals xs its ∧ srB l s.heap a its.toArray ∧ a < s.heap.objs.size := by
  cases l
  · obtain ⟨its, rv, p, _⟩ := I.tuple h
    obtain ⟨o, ho, _⟩ := id p
    exact ⟨its, rv, p, Heap.lt_size ho⟩
  · obtain ⟨its, rv, p, _⟩ := I.list h
    exact ⟨its, rv, p.isList, p.lt⟩
theorem sqB_inj {X : Cx} {pins : List (Addr × Obj)} {σ : L2.St} {H : Hp} {s : Shared} {l : Bool} {a : Addr} {xs ys : List V} (I : Inv X pins σ H s) (h : sqB l X.K H a xs) (h' : sqB l X.K H a ys) : xs = ys := by
  cases l
  · exact I.tuple_inj h h'
  · exact I.list_inj h h'
def ItM (K : PySem.W.Frag) (l1 l2 : Bool) (a b : Addr) : It :=
  ⟨fun i H => ∃ (xs ys : List V) (x y : V), sqB l1 K H a xs ∧ sqB l2 K H b ys ∧ xs[i]? = some x ∧ ys[i]? = some y,
    fun i H v H' => ∃ T x y, v = .ref T ∧ H T = none ∧ H' = upd H T (.tup [x, y]) ∧ (∀ xs, sqB l1 K H a xs → xs[i]? = some x) ∧ ∀ ys, sqB l2 K H b ys → ys[i]? = some y,
    fun i H => ∃ xs ys : List V, sqB l1 K H a xs ∧ sqB l2 K H b ys ∧ min xs.length ys.length = i⟩
theorem turn_zipM {P : Program} {w : World} {K : PySem.W.Frag} {elts : List Expr} {kk : Nat} {tpos : Pos} {l1 l2 : Bool} {a b z TI TO i1 i2 : Addr} (S : ZipSep2 z TI TO i1 i2 [i1, a] [i2, b]) (ne1 : a ≠ i1) (ne2 : b ≠ i2) :
    Turn P w K (.Tuple elts kk tpos) (ItM K l1 l2 a b) [z, TI, TO, i1, i2] z (fun i h => IsZip h z TI TO .none ∧ IsTupOf2 h TI (.ref i1) (.ref i2) ∧ (∃ x y, IsTupOf2 h TO x y) ∧ itB l1 h i1 a i ∧ itB l2 h i2 b i) where
  mem := by simp
  obj := fun i h st c hc => by
    obtain ⟨hz, hTI, ⟨x, y, hTO⟩, s1, s2⟩ := st
    have e' : c = z ∨ c = TI ∨ c = TO ∨ c = i1 ∨ c = i2 := by simpa using hc
    rcases e' with rfl | rfl | rfl | rfl | rfl
    · exact ⟨_, hz, fun v q => nomatch q⟩
    · exact ⟨_, hTI, fun v q => nomatch q⟩
    · exact ⟨_, hTO, fun v q => nomatch q⟩
    · exact itB_obj s1
    · exact itB_obj s2
  keep := fun i h h' st k => by
    obtain ⟨hz, hTI, ⟨x, y, hTO⟩, s1, s2⟩ := st
    exact ⟨k _ (by simp) _ hz, k _ (by simp) _ hTI, ⟨x, y, k _ (by simp) _ hTO⟩, itB_at s1 fun o q => k _ (by simp) o q, itB_at s2 fun o q => k _ (by simp) o q⟩
  item := by
    intro X hP hw hK hc i pins s σ H E I hf st hg
    subst hP hw hK
    obtain ⟨xs, ys, x, y, hqx, hqy, hx, hy⟩ := hg
    obtain ⟨its, rv, p, la⟩ := srB_of I hqx
    obtain ⟨its2, rv2, p2, lb⟩ := srB_of I hqy
    obtain ⟨hz, hTI, hTO, h1, h2⟩ := st
    have h1' := itB_obj h1
    have h2' := itB_obj h2
    have n1 := rv.length
    have n2 := rv2.length
    have hi1 : i < xs.length := (List.getElem?_eq_some_iff.mp hx).1
    have hi2 : i < ys.length := (List.getElem?_eq_some_iff.mp hy).1
    have hh : X.A.in1.handled = none := I.ok.hd hc
    have W := GoesN.zip2 (prog := X.prog) (w := X.w) (A := X.A) (elts := elts) (x1 := kk) (pos := tpos) S (drB hh l1 i1 a ne1 its.toArray) (drB hh l2 i2 b ne2 its2.toArray)
    refine W.goes i s _ E (by simp only [List.size_toArray]; omega) ⟨hz, hTI, hTO, ⟨h1, p⟩, h2, p2⟩ fun v h' tk hY hSt hk htk => ?_
    obtain ⟨T, u, u2, rfl, hT, hu, hu2, hTT⟩ := hY
    obtain ⟨hz', hTI', hTO', ⟨h1'', _⟩, h2'', _⟩ := hSt
    obtain ⟨u0, hu0, ru⟩ := rv.get hx
    obtain ⟨u20, hu20, ru2⟩ := rv2.get hy
    have eu : u0 = u := by
      have : its[i]? = some u := by simpa using hu
      rw [hu0] at this; exact Option.some.inj this
    have eu2 : u20 = u2 := by
      have : its2[i]? = some u2 := by simpa using hu2
      rw [hu20] at this; exact Option.some.inj this
    subst eu eu2
    have lt5 : ∀ c ∈ [z, TI, TO, i1, i2], c < s.heap.objs.size := by
      intro c hcm
      obtain ⟨ta, tb, hTO⟩ := hTO
      have e' : c = z ∨ c = TI ∨ c = TO ∨ c = i1 ∨ c = i2 := by simpa using hcm
      rcases e' with rfl | rfl | rfl | rfl | rfl
      · exact Heap.lt_size hz
      · exact Heap.lt_size hTI
      · exact Heap.lt_size hTO
      · obtain ⟨_, e, _⟩ := h1'; exact Heap.lt_size e
      · obtain ⟨_, e, _⟩ := h2'; exact Heap.lt_size e
    have new : ObjOk X.prog X.w (upd H T (.tup [x, y])) h' T (.tup [x, y]) := ⟨by show 2 ≤ sizeLine; decide, [u0, u20], .cons ru (.cons ru2 .nil), hTT⟩
    have I1 : Inv X pins σ (upd H T (.tup [x, y])) { s with heap := h', toks := tk } :=
      I.turnedNew (t' := tk) (ch := [z, TI, TO, i1, i2]) (fun c o hb q => hk c o (fun m => hb (by simp only [List.mem_cons, List.not_mem_nil, or_false] at m ⊢; rcases m with m | m | m | m <;> simp [m])) q) hf hT new
    refine ⟨.ref T, _, I1, rfl, ⟨T, x, y, rfl, I.hok.fresh hT, rfl, fun l hl => by rw [sqB_inj I hl hqx]; exact hx, fun l hl => by rw [sqB_inj I hl hqy]; exact hy⟩, ⟨hz', hTI', hTO', h1'', h2''⟩, fun c hcm => ?_⟩
    rw [upd_ne (Nat.ne_of_lt (Nat.lt_of_lt_of_le (lt5 c hcm) hT))]
    exact (hf c hcm).1
  done := by
    intro X hP hw hK hc i pins s σ H E I hf st hg
    subst hP hw hK
    obtain ⟨xs, ys, hqx, hqy, hend⟩ := hg
    obtain ⟨its, rv, p, la⟩ := srB_of I hqx
    obtain ⟨its2, rv2, p2, lb⟩ := srB_of I hqy
    obtain ⟨hz, hTI, hTO, h1, h2⟩ := st
    have n1 := rv.length
    have n2 := rv2.length
    have hh : X.A.in1.handled = none := I.ok.hd hc
    have W := GoesN.zip2 (prog := X.prog) (w := X.w) (A := X.A) (elts := elts) (x1 := kk) (pos := tpos) S (drB hh l1 i1 a ne1 its.toArray) (drB hh l2 i2 b ne2 its2.toArray)
    have en : min its.toArray.size its2.toArray.size = i := by simp only [List.size_toArray]; omega
    rw [← en] at h1 h2
    exact W.stops s _ E ⟨hz, hTI, hTO, ⟨h1, p⟩, h2, p2⟩ fun h' tk hk htk => I.turnedL (t' := tk) (ch := [z, TI, TO, i1, i2]) (fun c o hb q => hk c o (fun m => hb (by simp only [List.mem_cons, List.not_mem_nil, or_false] at m ⊢; rcases m with m | m | m | m <;> simp [m])) q) hf
  self := fun A i s Q E st h => wpAny_pyIter_zip st.1 h
def iZipM (K : PySem.W.Frag) (ta : TA) : TI := fun σ H R => ta σ H fun vs H1 => ∃ l1 l2 a b xs ys, vs = [.ref a, .ref b] ∧ sqB l1 K H1 a xs ∧ sqB l2 K H1 b ys ∧ R (ItM K l1 l2 a b) H1
theorem pi_zipM {X : Cx} {e e2 : Expr} {ta : TA} {p pos tpos : Pos} {elts : List Expr} {kk : Nat} (hg : Gl X "zip") (hm : X.mg "zip" = none) (ha : PA X [e, e2] ta)
    (hs : starEach [e, e2] X.env = (false, eval e X.env) :: starEach [e2] X.env := by rfl) (hpl : (backTo pos (starEach [e2] X.env)).any (·.1) = false := by rfl) :
    PI X (.Tuple elts kk tpos) (.Call (.Name "zip" p) [e, e2] [] pos) (iZipM X.K ta) := by
  refine ⟨fun pins s σ H R I h => ?_⟩
  refine Call_ (ld_blt I hg hm PyProof.Rows.boot_zip (PyProof.Rows.callWith_type1 (thn (ha.run pos pins s σ H _ I h) fun us s1 ⟨vs, H1, I1, r1, q1⟩ => ?_) hs hpl))
  obtain ⟨l1, l2, a, b, xs, ys, ex, hqx, hqy, q⟩ := q1
  subst ex
  cases r1 with
  | cons r rr =>
    cases rr with
    | cons r' rr =>
      cases rr
      cases r
      cases r'
      obtain ⟨its, rv, p1, la⟩ := srB_of I1 hqx
      obtain ⟨its2, rv2, p2, lb⟩ := srB_of I1 hqy
      refine zip_begins2 (beB l1 a its.toArray) (beB l2 b its2.toArray) p1 p2 fun h' hz hTI hTO h1 h2 hsz hk => wpAny_pyIter_zip hz ?_
      have I2 : Inv X pins σ H1 { s1 with heap := h' } := I1.kept (t' := s1.toks) hk
      have S : ZipSep2 (s1.heap.objs.size + 4) (s1.heap.objs.size + 2) (s1.heap.objs.size + 3) s1.heap.objs.size (s1.heap.objs.size + 1) [s1.heap.objs.size, a] [s1.heap.objs.size + 1, b] :=
        zip_sep2 (N := s1.heap.objs.size) (fp1 := [a]) (fp2 := [b]) (fun c hc => by rw [List.mem_singleton] at hc; subst hc; exact la) (fun c hc => by rw [List.mem_singleton] at hc; subst hc; exact lb)
      refine ⟨s1.heap.objs.size + 4, [s1.heap.objs.size + 4, s1.heap.objs.size + 2, s1.heap.objs.size + 3, s1.heap.objs.size, s1.heap.objs.size + 1], _, _, H1, rfl, I2,
        turn_zipM (l1 := l1) (l2 := l2) S (Nat.ne_of_lt la) (Nat.ne_of_lt (Nat.lt_succ_of_lt lb)), ⟨hz, hTI, ⟨_, _, hTO⟩, itB_new h1, itB_new h2⟩, fun c hcm => ?_, q⟩
      have hle : s1.heap.objs.size ≤ c := by
        have e' : c = s1.heap.objs.size + 4 ∨ c = s1.heap.objs.size + 2 ∨ c = s1.heap.objs.size + 3 ∨ c = s1.heap.objs.size ∨ c = s1.heap.objs.size + 1 := by simpa using hcm
        rcases e' with z | z | z | z | z <;> rw [z] <;> first | exact Nat.le_refl _ | exact Nat.le_add_right _ _
      exact I1.fpOk hle (I1.hok.fresh hle)
theorem yl_zipM {K : PySem.W.Frag} {H0 : Hp} {N0 : Ns} {G0 : Gp} {l1 l2 : Bool} {a b : Addr} {ds es : List D} {gd : Gp → Prop} (h : ∀ H N G, Stp K H0 N0 G0 H N G → gd G → ∃ vs ws, sqB l1 K H a vs ∧ RDs K H N ds vs ∧ sqB l2 K H b ws ∧ RDs K H N es ws) : Yl K (ItM K l1 l2 a b) H0 N0 G0 (zipD ds es) gd := by
  refine ⟨fun i H N G d s g e => ?_, fun i H N G s g e => ?_⟩
  · obtain ⟨vs, ws, sq, r, sq', r'⟩ := h H N G s g
    rw [zipD_get] at e
    cases ed : ds[i]? with
    | none => rw [ed] at e; cases e
    | some d0 =>
      cases ee : es[i]? with
      | none => rw [ed, ee] at e; cases e
      | some e0 =>
        rw [ed, ee] at e
        cases e
        obtain ⟨v, hv, rv⟩ := r.get ed
        obtain ⟨u, hu, ru⟩ := r'.get ee
        refine ⟨⟨vs, ws, v, u, sq, sq', hv, hu⟩, fun x H' y => ?_⟩
        obtain ⟨T, x1, y1, rfl, nT, rfl, y, y'⟩ := y
        have e2 := y vs sq
        rw [hv] at e2; cases e2
        have e3 := y' ws sq'
        rw [hu] at e3; cases e3
        have s2 := Stp.new0 (u := .tup [v, u]) s.rel nT
        exact ⟨s2, RD.tup (.inl (.inl upd_same)) (RDs.cons (rv.le s2.kp) (RDs.cons (ru.le s2.kp) RDs.nil))⟩
  · obtain ⟨vs, ws, sq, r, sq', r'⟩ := h H N G s g
    rw [zipD_length] at e
    exact ⟨vs, ws, sq, sq', by rw [← r.length, ← r'.length]; exact e⟩
/-- a source, told by data -/
def srcD (G : Gp) : D → Option (Bool × List D × (Gp → Prop))
  | .tup ds => some (false, ds, fun _ => True)
  | .nt zs => some (false, zs.map .str, fun _ => True)
  | .lst ds => some (true, ds, fun _ => True)
  | .ref a => match G a with | some (.lst ds) => some (true, ds, fun G => G a = some (.lst ds)) | _ => none
  | _ => none
theorem srcD_ok {K : PySem.W.Frag} {H0 : Hp} {N0 : Ns} {G0 : Gp} {d : D} {v : V} {l : Bool} {ds : List D} {gd : Gp → Prop} (rg : RelG K H0 N0 G0) (rd : RD K H0 N0 d v) (h : srcD G0 d = some (l, ds, gd)) :
    ∃ a, v = .ref a ∧ (∃ vs, sqB l K H0 a vs) ∧ ∀ H N G, Stp K H0 N0 G0 H N G → gd G → ∃ vs, sqB l K H a vs ∧ RDs K H N ds vs := by
  unfold srcD at h
  split at h
  · cases h
    obtain ⟨p, vs, rfl, sq, r⟩ := rd.of_tup
    exact ⟨p, rfl, ⟨vs, sq⟩, fun H N G s _ => ⟨vs, SqT.le s.kp.kle sq, r.le s.kp⟩⟩
  · cases h
    obtain ⟨p, vs, rfl, sq, r⟩ := rd.nt_tup.of_tup
    exact ⟨p, rfl, ⟨vs, sq⟩, fun H N G s _ => ⟨vs, SqT.le s.kp.kle sq, r.le s.kp⟩⟩
  · cases h
    obtain ⟨p, vs, rfl, sq, r⟩ := rd.of_lst
    exact ⟨p, rfl, ⟨vs, sq.sq⟩, fun H N G s _ => ⟨vs, (sq.le s.kp).sq, r.le s.kp⟩⟩
  · split at h
    · rename_i e
      cases h
      obtain rfl := rd.of_ref
      obtain ⟨_, vs, hv, r⟩ := rg _ _ e
      refine ⟨_, rfl, ⟨vs, SqL.of hv⟩, fun H N G s g => ?_⟩
      obtain ⟨_, vs, hv, r⟩ := s.rel _ _ g
      exact ⟨vs, SqL.of hv, r⟩
    · cases h
  · cases h
def dZipM (ta : DA) : DI := fun σ G R => ta σ G fun ds G1 => match ds with
  | [x, y] => (match srcD G1 x, srcD G1 y with | some (_, xs, g1), some (_, ys, g2) => R (zipD xs ys) (fun G => g1 G ∧ g2 G) G1 | _, _ => False)
  | _ => False
theorem qi_zipM {X : Cx} {e e2 : Expr} {ta : DA} {p pos tpos : Pos} {elts : List Expr} {kk : Nat} (hg : Gl X "zip") (hm : X.mg "zip" = none) (ha : QA X [e, e2] ta)
    (hs : starEach [e, e2] X.env = (false, eval e X.env) :: starEach [e2] X.env := by rfl) (hpl : (backTo pos (starEach [e2] X.env)).any (·.1) = false := by rfl) :
    QI X (.Tuple elts kk tpos) (.Call (.Name "zip" p) [e, e2] [] pos) (dZipM ta) := pi_mono (pi_zipM hg hm ha hs hpl) fun τ H Q h => by
  obtain ⟨σ, G, N, R, hs, hg, ht, q⟩ := h
  refine ⟨σ, G, N, _, hs, hg, ht, fun ds G1 N1 vs H1 h1 s1 r1 => ?_⟩
  split at h1
  · rename_i x y
    split at h1
    · rename_i l1 xs g1 l2 ys g2 e1 e2
      obtain ⟨v, r, rfl, r2, r3⟩ := r1.of_cons
      obtain ⟨v', r', rfl, r4, r5⟩ := r3.of_cons
      rw [r5.of_nil]
      obtain ⟨a, rfl, ⟨vs, sq⟩, k1⟩ := srcD_ok s1.rel r2 e1
      obtain ⟨b, rfl, ⟨ws, sq'⟩, k2⟩ := srcD_ok s1.rel r4 e2
      refine ⟨l1, l2, a, b, vs, ws, rfl, sq, sq', q _ _ _ _ _ _ h1 s1 (yl_zipM fun H N G s g => ?_)⟩
      obtain ⟨vs, h1, h2⟩ := k1 H N G s g.1
      obtain ⟨ws, h3, h4⟩ := k2 H N G s g.2
      exact ⟨vs, ws, h1, h2, h3, h4⟩
    · exact h1.elim
  · exact h1.elim
end DL

set_option Elab.async false
set_option linter.all false
set_option maxRecDepth 100000
set_option maxHeartbeats 4000000
set_option autoImplicit false
namespace DL
open PySem PySem.Spec PyProof.Rows L2
/-! ### == of a dict and a text -/
theorem dict_no_str (l : Addr) (es : Array DictEntry) (n : Nat) (dd : Option Addr) (sl : Array (Option Value)) (b : Str) (u : Tok) :
    Meets (Builtin.«dict.__eq__» ⟨[.ref l, .str b u], []⟩) (fun _ R s => s.heap.get? l = some { cls := .type "dict", dict := dd, data := .dict es n, slots := sl } ∧ R (.ok (.ret .notImplemented)) s) :=
  .of_wp fun prog w A R s h => by obtain ⟨hp, g, d, tk, os⟩ := s; obtain ⟨hl, h⟩ := h; have f1 := PySem.F.sub_str_dict; wp_walk using wpAny_loadPart' hl; exact ⟨_, rfl, h⟩
theorem str_no_dict (b : Str) (u : Tok) (l : Addr) (c : Value) (es : Array DictEntry) (n : Nat) (dd : Option Addr) (sl : Array (Option Value)) :
    Meets (Builtin.«str.__eq__» ⟨[.str b u, .ref l], []⟩) (fun _ R s => s.heap.get? l = some { cls := c, dict := dd, data := .dict es n, slots := sl } ∧ R (.ok (.ret .notImplemented)) s) :=
  .of_wp fun prog w A R s h => by obtain ⟨hp, g, d, tk, os⟩ := s; obtain ⟨hl, h⟩ := h; wp_walk using wpAny_loadPart' hl, wpAny_load hl; exact ⟨_, rfl, h⟩
section
variable {A : Around} {s : Shared}
theorem rc_dict_str {l : Addr} {o : Obj} {es : Array DictEntry} {n : Nat} (b : Str) (u : Tok) (ho : s.heap.get? l = some o) (hx : o.ExactDict) (hd : o.data = .dict es n) (hu : A.units < cLine) : SeqAt.RcAt A s (.ref l) (.str b u) false := fun prog w E Q h => by
  obtain ⟨cls, dd, data, sl⟩ := o
  obtain ⟨hc, h2, h3⟩ := hx
  simp only at hc hd
  subst hc hd
  exact SeqAt.rc_eq_decline_or (k := false) ⟨_, ho, rfl⟩ (typeIs_str s b u) (by decide) PySem.F.sub_str_dict PySem.F.slot_dict_eq PySem.F.slot_str_eq_refl
    (fun _ hq => call_meets PySem.F.slot_dict_eq ⟨_, ho, rfl⟩ PySem.F.entry_dict_eq (PySem.F.args_dict_eq_2 _ _) (dict_no_str l es n dd sl b u) ⟨ho, hq⟩)
    (fun _ hq => call_meets PySem.F.slot_str_eq_refl (typeIs_str s b u) PySem.F.entry_str_eq (PySem.F.args_str_eq_2 _ _) (str_no_dict b u l (.type "dict") es n dd sl) ⟨ho, hq⟩)
    (fun _ hq => wpAny_of_eq (rfl : isSame (.ref l) (.str b u) = pure false) hq) (.inr hu) h
end
variable {X : Cx}
theorem dict_at {pins : List (Addr × Obj)} {σ : L2.St} {H : Hp} {s : Shared} {a : Addr} {u : HO} (I : Inv X pins σ H s) (h : H a = some u) (k : knd u = "dict") : ∃ o es n, s.heap.get? a = some o ∧ o.ExactDict ∧ o.data = .dict es n := by
  have aux : ∀ v : HO, ObjOk X.prog X.w H s.heap a v → (match v with | .dK _ => True | .dT _ => True | _ => False) → ∃ o es n, s.heap.get? a = some o ∧ o.ExactDict ∧ o.data = .dict es n := by
    intro v hv hk
    cases v with
    | dK kvs => obtain ⟨_, _, vs, _, o, es, ep, h1, h2, h3, _⟩ := hv; exact ⟨o, es, ep, h1, h2, h3⟩
    | dT kvs => obtain ⟨_, _, xs, _, o, es, ep, h1, h2, h3, _⟩ := hv; exact ⟨o, es, ep, h1, h2, h3⟩
    | _ => exact hk.elim
  have ho := I.hok a u h
  cases u with
  | dK kvs => exact aux _ ho True.intro
  | dT kvs => exact aux _ ho True.intro
  | frz o v =>
    cases v with
    | dK kvs => exact aux _ ho.2 True.intro
    | _ => simp [knd] at k
  | _ => simp [knd] at k
theorem op_eq_dictS (hu : X.A.units < cLine) : OpR X (compareOp .Eq) (fun x y H Q => ∃ a u z, x = .ref a ∧ H a = some u ∧ knd u = "dict" ∧ y = .str z ∧ Q (.bl false) H) := by
  intro pins s σ H x y v u Q I rx ry h
  obtain ⟨a, o, z, rfl, ho, hk, rfl, q⟩ := h
  obtain ⟨t, rfl⟩ := ry
  cases rx
  obtain ⟨o', es, n, h1, h2, h3⟩ := dict_at I ho hk
  exact PySem.EqBoolInt.of_rc (rc_dict_str z t h1 h2 h3 hu) ⟨.bl false, H, I, rfl, q⟩
theorem op_eq_seqS (hu : X.A.units < cLine) : OpR X (compareOp .Eq) (fun x y H Q => ∃ a xs z, x = .ref a ∧ (SqL X.K H a xs ∨ SqT X.K H a xs) ∧ y = .str z ∧ Q (.bl false) H) := by
  intro pins s σ H x y v u Q I rx ry h
  obtain ⟨a, xs, z, rfl, hq, rfl, q⟩ := h
  obtain ⟨t, rfl⟩ := ry
  cases rx
  rcases hq with hq | hq
  · obtain ⟨its, rv, p, _⟩ := I.list hq
    exact PySem.EqBoolInt.of_rc (SeqAt.RcAt.list_str z t p.isList hu) ⟨.bl false, H, I, rfl, q⟩
  · obtain ⟨its, rv, p, _⟩ := I.tuple hq
    exact PySem.EqBoolInt.of_rc (SeqAt.RcAt.tuple_str z t p hu) ⟨.bl false, H, I, rfl, q⟩
/-- == where the right is a text, the left anything -/
def dEqX : DR2 := fun x y G R => match x, y with
  | .any n, .str _ => n = "dict" ∧ R (.bl false) G
  | .tup _, .str _ => R (.bl false) G
  | .lst _, .str _ => R (.bl false) G
  | x, y => dEq x y G R
theorem od_eqX (hu : X.A.units + 64 < cLine) : OpD X (compareOp .Eq) dEqX := opr_mono ((op_eq_dictS (X := X) (by omega)).or ((op_eq_seqS (X := X) (by omega)).or (od_eq hu))) fun x y H Q h => by
  obtain ⟨c, d, G, N, R, r1, r2, rg, h, q⟩ := h
  unfold dEqX at h
  split at h
  · obtain ⟨rfl, h⟩ := h
    obtain ⟨a, u, rfl, hu, hk⟩ := r1.of_any
    obtain rfl := r2.of_str
    exact .inl ⟨a, u, _, rfl, hu, hk, rfl, q.at rg h (RD.bl _)⟩
  · obtain ⟨a, vs, rfl, sq, _⟩ := r1.of_tup
    obtain rfl := r2.of_str
    exact .inr (.inl ⟨a, vs, _, rfl, .inr sq, rfl, q.at rg h (RD.bl _)⟩)
  · obtain ⟨a, vs, rfl, sq, _⟩ := r1.of_lst
    obtain rfl := r2.of_str
    exact .inr (.inl ⟨a, vs, _, rfl, .inl sq.sq, rfl, q.at rg h (RD.bl _)⟩)
  · exact .inr (.inr ⟨c, d, G, N, R, r1, r2, rg, h, q⟩)
def eqS (x : D) (z : Str) : Bool := match x with | .str y => decide (y = z) | _ => false
theorem eqX_str {x : D} {z : Str} {G : Gp} {R : DK} (h : plD x = true) (hz : pyD (.str z) = true) : dEqX x (.str z) G R ↔ R (.bl (eqS x z)) G := by
  cases x with
  | str y => exact Iff.rfl
  | tup ds => exact Iff.rfl
  | lst ds => exact Iff.rfl
  | any n =>
    have : n = "dict" := by
      have h : plD (.any n) = true := h
      simp only [plD] at h
      simpa using h
    subst this
    exact ⟨fun z => z.2, fun z => ⟨rfl, z⟩⟩
  | int i => exact eq_pure (c := .int i) rfl hz (by simp [depD]) (by simp [depD])
  | bl i => exact eq_pure (c := .bl i) rfl hz (by simp [depD]) (by simp [depD])
  | non => exact eq_pure (c := .non) rfl hz (by simp [depD]) (by simp [depD])
  | ty n => simp [plD] at h
  | nt n => simp [plD] at h
  | ref a => simp [plD] at h
theorem in_names {z : Str} {zs : List Str} {G : Gp} {R : DK} : dIn (.str z) (.tup (zs.map D.str)) G R ↔ R (.bl (decide (z ∈ zs))) G := by
  have : dIn (.str z) (.tup (zs.map D.str)) G R = (flatD (.str z) = true ∧ (zs.map D.str).all flatD = true ∧ R (.bl (inF (.str z) (zs.map D.str))) G) := rfl
  rw [this, in_strs]
  exact ⟨fun h => h.2.2, fun h => ⟨rfl, flat_strs' zs, h⟩⟩
theorem in_namesL {z : Str} {zs : List Str} {G : Gp} {R : DK} : dIn (.str z) (.lst (zs.map D.str)) G R ↔ R (.bl (decide (z ∈ zs))) G := by
  have : dIn (.str z) (.lst (zs.map D.str)) G R = (flatD (.str z) = true ∧ (zs.map D.str).all flatD = true ∧ R (.bl (inF (.str z) (zs.map D.str))) G) := rfl
  rw [this, in_strs]
  exact ⟨fun h => h.2.2, fun h => ⟨rfl, flat_strs' zs, h⟩⟩
end DL

set_option Elab.async false
set_option linter.all false
set_option maxRecDepth 100000
set_option maxHeartbeats 4000000
set_option autoImplicit false
namespace DL
open PySem PySem.Spec PyProof.Rows L2
/-! ### steps in applied form -/
/-- what goes on, kept shut -/
def Kont (P : Sd → Gp → Prop) : Sd → Gp → Prop := P
theorem kont_go {P : Sd → Gp → Prop} {σ : Sd} {G : Gp} (h : P σ G) : Kont P σ G := h
def br (b : Bool) (A B : Prop) : Prop := match b with | true => A | false => B
def isB (x : D) (k : Bool → Prop) : Prop := match x with | .bl b => k b | _ => False
def isI (x : D) (k : Int → Prop) : Prop := match x with | .int b => k b | _ => False
def isN (x : Option D) (k : D → Prop) : Prop := match x with | some b => k b | none => False
def slo (x : Option (Option D)) (k : D → Prop) : Prop := match x with | some (some d) => k d | _ => False
section
variable {A B : Prop} {b c : Bool} {k : Bool → Prop} {ki : Int → Prop} {kd : D → Prop} {i : Int} {d : D}
theorem br_t : br true A B = A := rfl
theorem br_f : br false A B = B := rfl
theorem br_not : br (!b) A B = br b B A := by cases b <;> rfl
theorem br_dec {P : Prop} [Decidable P] : br (decide P) A B = if P then A else B := by
  by_cases h : P
  · rw [decide_eq_true h, if_pos h]; rfl
  · rw [decide_eq_false h, if_neg h]; rfl
theorem br_and : br (b && c) A B = br b (br c A B) B := by cases b <;> rfl
theorem br_or : br (b || c) A B = br b A (br c A B) := by cases b <;> rfl
theorem isB_bl : isB (.bl b) k = k b := rfl
theorem isI_int : isI (.int i) ki = ki i := rfl
theorem isN_some : isN (some d) kd = kd d := rfl
theorem isN_none : isN none kd = False := rfl
theorem slo_some : slo (some (some d)) kd = kd d := rfl
end
section
variable {σ : Sd} {G : Gp} {R : DK} {Rb : Bool → Gp → Prop} {Ra : List D → Gp → Prop} {Rg : Sd → Gp → Prop} {E : DEnds} {i : Nat} {d : D} {ta tb tc : DE} {c c' : DT} {tr : DA} {r r' : DR2} {r1 : DR1} {s t u : DS} {g : DG} {ti : DI} {mk : Bool} {rn : DRn} {sp : DSp}
theorem x_var : dVar i σ G R = slo σ[i]? fun d => R d G := rfl
theorem x_c : dC d σ G R = R d G := rfl
theorem x_op : dOp r ta tb σ G R = ta σ G fun x G1 => tb σ G1 fun y G2 => r x y G2 R := rfl
theorem x_un : dUn r1 ta σ G R = ta σ G fun x G1 => r1 x G1 R := rfl
theorem x_b : dB ta σ G Rb = ta σ G fun x G1 => isB x fun b => Rb b G1 := rfl
theorem x_and : dAnd c c' σ G Rb = c σ G fun b G1 => br b (c' σ G1 Rb) (Rb false G1) := rfl
theorem x_or : dOr c c' σ G Rb = c σ G fun b G1 => br b (Rb true G1) (c' σ G1 Rb) := rfl
theorem x_not : dNot c σ G Rb = c σ G fun b G1 => Rb (!b) G1 := rfl
def isBB (x : D) (A B : Prop) : Prop := match x with | .bl true => A | .bl false => B | _ => False
theorem isBB_bl {b : Bool} {A B : Prop} : isBB (.bl b) A B = br b A B := by cases b <;> rfl
theorem x_chain : dChain r r' ta tb tc σ G R = ta σ G fun x G1 => tb σ G1 fun y G2 => r x y G2 fun z G3 => isBB z (tc σ G3 fun w G4 => r' y w G4 R) (R (.bl false) G3) := rfl
theorem x_andV : dAndV ta tb σ G R = ta σ G fun x G1 => isBB x (tb σ G1 R) (R (.bl false) G1) := rfl
theorem x_orV : dOrV ta tb σ G R = ta σ G fun x G1 => isBB x (R (.bl true) G1) (tb σ G1 R) := rfl
theorem x_notV : dNotV ta σ G R = ta σ G fun x G1 => isB x fun b => R (.bl (!b)) G1 := rfl
theorem x_if : dIf c ta tb σ G R = c σ G fun b G1 => br b (ta σ G1 R) (tb σ G1 R) := rfl
theorem x_nil : dNil σ G Ra = Ra [] G := rfl
theorem x_cons : dCons ta tr σ G Ra = ta σ G fun x G1 => tr σ G1 fun xs G2 => Ra (x :: xs) G2 := rfl
theorem x_tup : dTup tr σ G R = tr σ G fun ds G1 => ds.length ≤ sizeLine ∧ R (.tup ds) G1 := rfl
theorem x_lst0 : dLst false tr σ G R = tr σ G fun ds G1 => ds.length ≤ sizeLine ∧ R (.lst ds) G1 := rfl
theorem x_lst1 : dLst true tr σ G R = tr σ G fun ds G1 => ds.length ≤ sizeLine ∧ ∀ p, G1 p = none → R (.ref p) (gup G1 p (.lst ds)) := rfl
theorem x_callB : dCallB rn tr σ G R = tr σ G fun ds G1 => rn ds G1 R := rfl
theorem x_call : dCall sp tr σ G R = tr σ G fun ds G1 => sp ds G1 R := rfl
theorem x_callK {f : List D → List D} {n : Nat} : dCallK sp f n tr σ G R = tr σ G fun ds G1 => ds.length = n ∧ sp (f ds) G1 R := rfl
theorem x_next : dNext E σ G = E.nx σ G := rfl
theorem x_seq : dSeq t u E σ G = t { E with nx := Kont (u E) } σ G := rfl
theorem x_break : dBreak E σ G = E.bk σ G := rfl
theorem x_cont : dCont E σ G = E.ct σ G := rfl
theorem x_drop : dDrop ta E σ G = ta σ G fun _ G1 => E.nx σ G1 := rfl
/-- what is told, with what is still known: Wk -/
def Rt (R : DK) (d : D) (G : Gp) : Prop := ∃ d' G', Wk G d d' G' ∧ R d' G'
theorem rt_same {R : DK} {d : D} {G : Gp} (h : R d G) : Rt R d G := ret_same h
theorem x_ret : dRet ta E σ G = ta σ G fun d G1 => Rt E.rt d G1 := rfl
theorem x_ifS : dIfS c t u E σ G = c σ G fun b G1 => br b (t E σ G1) (u E σ G1) := rfl
theorem x_asg : dAsg ta g E σ G = ta σ G fun x G1 => g x σ G1 E.nx := rfl
theorem x_name : dName i d σ G Rg = Rg (σ.set i (some d)) G := rfl
theorem x_names {is : List Nat} {ds : List D} : dNames is (.tup ds) σ G Rg = (ds.length = is.length ∧ Rg (setAll σ is ds) G) := rfl
theorem x_sub {rs : DSet} : dSub ta tb rs d σ G Rg = ta σ G fun o G1 => tb σ G1 fun i G2 => rs o i d G2 fun G3 => Rg σ G3 := rfl
theorem x_aug : dAug i ta r E σ G = slo σ[i]? fun x => ta σ G fun y G1 => r x y G1 fun z G2 => E.nx (σ.set i (some z)) G2 := rfl
theorem x_augS {rs : DSet} : dAugS ta tb tc r r' rs E σ G = ta σ G fun o G1 => tb σ G1 fun i G2 => r o i G2 fun x G3 => tc σ G3 fun y G4 => r' x y G4 fun z G5 => rs o i z G5 fun G6 => E.nx σ G6 := rfl
theorem x_for : dFor ti g t E σ G = ti σ G fun xs gd G1 => dForGo g t gd E xs σ G1 := rfl
theorem x_lc0 {ws : List Nat} : dLc false ti g c tb ws σ G R = ti σ G fun xs gd G1 => xs.length ≤ sizeLine ∧ dLcGo g c tb gd (wipeD σ ws) xs [] G1 fun ds G2 => R (.lst ds) G2 := rfl
theorem x_lc1 {ws : List Nat} : dLc true ti g c tb ws σ G R = ti σ G fun xs gd G1 => xs.length ≤ sizeLine ∧ dLcGo g c tb gd (wipeD σ ws) xs [] G1 fun ds G2 => ∀ p, G2 p = none → R (.ref p) (gup G2 p (.lst ds)) := rfl
theorem x_yes : dYes σ G Rb = Rb true G := rfl
theorem x_noPart {Ro : Option Int → Gp → Prop} : dNoPart σ G Ro = Ro none G := rfl
theorem x_part {Ro : Option Int → Gp → Prop} : dPart ta σ G Ro = ta σ G fun x G1 => isI x fun i => Ro (some i) G1 := rfl
theorem x_slice {tl th : DO} : dSlice mk ta tl th σ G R = ta σ G fun x G1 => tl σ G1 fun l G2 => th σ G2 fun u G3 => dSl mk x l u G3 R := rfl
abbrev DIk := List D → (Gp → Prop) → Gp → Prop
/-- what is gone through: lists that nobody changes, texts, known lists -/
def itD (x : D) (G1 : Gp) (R : DIk) : Prop := match x with
  | .tup ds => R ds (fun _ => True) G1
  | .nt zs => R (zs.map .str) (fun _ => True) G1
  | .lst ds => R ds (fun _ => True) G1
  | .str z => R (signsD z) (fun _ => True) G1
  | .ref a => match G1 a with | some (.lst ds) => R ds (fun G => G a = some (.lst ds)) G1 | _ => False
  | _ => False
variable {Ri : DIk}
theorem x_iter : dIter ta σ G Ri = ta σ G fun x G1 => itD x G1 Ri := rfl
theorem it_t {ds : List D} : itD (.tup ds) G Ri = Ri ds (fun _ => True) G := rfl
theorem it_n {zs : List Str} : itD (.nt zs) G Ri = Ri (zs.map .str) (fun _ => True) G := rfl
theorem it_l {ds : List D} : itD (.lst ds) G Ri = Ri ds (fun _ => True) G := rfl
theorem it_s {z : Str} : itD (.str z) G Ri = Ri (signsD z) (fun _ => True) G := rfl
/-- a list that is known, by what it holds -/
def atL (o : Option GO) (k : List D → Prop) : Prop := match o with | some (.lst ds) => k ds | _ => False
theorem atL_lst {ds : List D} {k : List D → Prop} : atL (some (.lst ds)) k = k ds := rfl
theorem it_r {a : Addr} : itD (.ref a) G Ri = atL (G a) fun ds => Ri ds (fun G => G a = some (.lst ds)) G := rfl
theorem x_rng1 : dRng1 tr σ G Ri = tr σ G fun ds G1 => match ds with | [.int j] => -(2 ^ 62) ≤ j ∧ j < 2 ^ 62 ∧ Ri (rng 0 j.toNat) (fun _ => True) G1 | _ => False := rfl
theorem x_enum : dEnum tr σ G Ri = tr σ G fun ds G1 => match ds with
  | [.lst xs] => Ri (enumD 0 xs) (fun _ => True) G1
  | [.ref a] => (match G1 a with | some (.lst xs) => Ri (enumD 0 xs) (fun G => G a = some (.lst xs)) G1 | _ => False)
  | _ => False := rfl
theorem x_rev : dRev mk ta σ G R = ta σ G fun x G1 => match x with
  | .tup ds => R (.tup ds.reverse) G1
  | x => match lstOf G1 x with | some ds => newL mk ds.reverse G1 R | none => False := rfl
theorem x_m {T : String} {r : D → List D → Gp → DK → Prop} : dM T r ta tr σ G R = ta σ G fun x G1 => mty G1 x = some T ∧ tr σ G1 fun ds G2 => r x ds G2 R := rfl
theorem x_m0 {T : String} {r : D → List D → Gp → DK → Prop} : dM0 T r ta σ G R = ta σ G fun x G1 => mty G1 x = some T ∧ r x [] G1 R := rfl
theorem x_zip : dZipM tr σ G Ri = tr σ G fun ds G1 => match ds with
  | [x, y] => (match srcD G1 x, srcD G1 y with | some (_, xs, g1), some (_, ys, g2) => Ri (zipD xs ys) (fun G => g1 G ∧ g2 G) G1 | _, _ => False)
  | _ => False := rfl
theorem x_star_t {n j : Nat} {is : List Nat} {ds : List D} : dStar n j is (.tup ds) σ G Rg = (n ≤ ds.length + 1 ∧ Rg (setAll σ is (starD n j ds)) G) := rfl
theorem x_star_l {n j : Nat} {is : List Nat} {ds : List D} : dStar n j is (.lst ds) σ G Rg = (n ≤ ds.length + 1 ∧ Rg (setAll σ is (starD n j ds)) G) := rfl
theorem x_lenSet : dLenSet ta σ G R = ta σ G fun x G1 => match (seqOf G1 x).bind keysD with | some ks => ks.length + 1 < scanBound ∧ R (.int (uniq ks).length) G1 | none => False := rfl
theorem x_while : dWhile c t E σ G = ∃ n, dWhN c t E n σ G := rfl
theorem x_forgo0 {gd : Gp → Prop} : dForGo g t gd E [] σ G = (gd G ∧ E.nx σ G) := rfl
theorem x_lcgo0 {gd : Gp → Prop} {acc : List D} {Q : List D → Gp → Prop} : dLcGo g c ta gd σ [] acc G Q = (gd G ∧ Q acc G) := rfl
theorem x_forgo1 {gd : Gp → Prop} {x : D} {xs : List D} : dForGo g t gd E (x :: xs) σ G = (gd G ∧ g x σ G fun σ2 G2 => t { E with nx := Kont (dForGo g t gd E xs), ct := Kont (dForGo g t gd E xs), bk := E.nx } σ2 G2) := rfl
theorem x_lcgo1 {gd : Gp → Prop} {x : D} {xs acc : List D} {Q : List D → Gp → Prop} : dLcGo g c ta gd σ (x :: xs) acc G Q = (gd G ∧ g x σ G fun σ2 G2 => c σ2 G2 fun b G3 => br b (ta σ2 G3 fun y G4 => dLcGo g c ta gd σ xs (acc ++ [y]) G4 Q) (dLcGo g c ta gd σ xs acc G3 Q)) := rfl
/-- things at places -/
theorem ix_t {as : List D} {i : Int} : dIx (.tup as) (.int i) G R = isN (atI as i) fun d => R d G := rfl
theorem ix_l {as : List D} {i : Int} : dIx (.lst as) (.int i) G R = isN (atI as i) fun d => R d G := rfl
theorem ix_r {a : Addr} {i : Int} : dIx (.ref a) (.int i) G R = atL (G a) fun ds => isN (atI ds i) fun d => R d G := by
  cases e : G a with
  | none => simp only [dIx, seqOf, lstOf, atL, e]
  | some o =>
    cases o with
    | lst ds => simp only [dIx, seqOf, lstOf, atL, isN, e] <;> rfl
    | _ => simp only [dIx, seqOf, lstOf, atL, e]
end
theorem at_0 {α : Type} {a : α} {xs : List α} : atI (a :: xs) 0 = some a := atI_nat (xs := a :: xs) (j := 0) (v := a) rfl
theorem at_1 {α : Type} {a b : α} {xs : List α} : atI (a :: b :: xs) 1 = some b := atI_nat (xs := a :: b :: xs) (j := 1) (v := b) rfl
theorem at_2 {α : Type} {a b c : α} {xs : List α} : atI (a :: b :: c :: xs) 2 = some c := atI_nat (xs := a :: b :: c :: xs) (j := 2) (v := c) rfl
theorem at_3 {α : Type} {a b c d : α} {xs : List α} : atI (a :: b :: c :: d :: xs) 3 = some d := atI_nat (xs := a :: b :: c :: d :: xs) (j := 3) (v := d) rfl
theorem at_4 {α : Type} {a b c d e : α} {xs : List α} : atI (a :: b :: c :: d :: e :: xs) 4 = some e := atI_nat (xs := a :: b :: c :: d :: e :: xs) (j := 4) (v := e) rfl
theorem at_5 {α : Type} {a b c d e f : α} {xs : List α} : atI (a :: b :: c :: d :: e :: f :: xs) 5 = some f := atI_nat (xs := a :: b :: c :: d :: e :: f :: xs) (j := 5) (v := f) rfl
end DL

set_option Elab.async false
set_option linter.all false
set_option maxRecDepth 100000
set_option maxHeartbeats 4000000
set_option autoImplicit false
namespace DL
open PySem PySem.Spec PyProof.Rows L2
/-! ### sorted(xs, key=f), f a def -/
section
variable {prog : Program} {w : World} {A : Around} {E : Value → Shared → Prop} {s : Shared} {a kS : Addr} {vs : List Value} {keys : Array Value} {e e1 : Nat} {P : PySem.Fin → Shared → Prop}
/-- the last steps: the keys go, the list gets what is sorted -/
theorem own_tail {z : SortSt} {ws : List Value} (hk : s.heap.get? kS = some (seqObj "list" keys e)) (hl : s.heap.get? a = some (seqObj "list" #[] e1)) (ne : kS ≠ a) (few : keys.size ≤ sizeLine) (few' : ws.length ≤ sizeLine)
    (calm : failedOf z = none) (told : (arrOf z).toList.map Prod.snd = ws)
    (next : ∀ (g g' : Heap) (c : Nat), (∀ b o, b ≠ kS → s.heap.get? b = some o → g.get? b = some o) → (∀ b o, b ≠ a → g.get? b = some o → g'.get? b = some o) → g'.get? a = some (seqObj "list" ws.toArray c) → P (.done (.ret .none)) { s with heap := g' }) :
    wpAny (model prog w) A (ksk_tail a false e1 (.ref kS) z) P E s := by
  have out : (arrOf z).map Prod.snd = ws.toArray := Array.toList_inj.mp (by rw [Array.toList_map, told])
  have u1 := (Heap.SameBut.update s.heap kS (Obj.mapSeq fun _ => (#[] : Array Value))).2
  have l1 := (u1 a ne.symm).trans hl
  have u2 := (Heap.SameBut.update (s.heap.update kS (Obj.mapSeq fun _ => (#[] : Array Value))) a (Obj.mapSeq fun _ => ws.toArray)).2
  show wpAny _ _ (do
    Builtin.List.listUpdate (.ref kS) fun _ => #[]
    letGo ((arrOf z).map Prod.fst).toList (failedOf z).toList
    let n ← seqEpoch a
    Builtin.List.listUpdate (.ref a) fun _ => (arrOf z).map Prod.snd
    if let some x := failedOf z then rule "list.sort.comparison-raised"; throw x
    if (n != e1) = true then rule "list.sort.modified"; raiseError "ValueError" "list modified during sort"
    ret .none) P E s
  rw [out, calm]
  refine wpAny_bind (listUpdate_at hk rfl (wpAny_bind (wpAny_letGo (wpAny_bind (seqEpoch_at l1 rfl (wpAny_bind (listUpdate_at l1 rfl ?_ (Nat.zero_le _) ?_)))))) few (Nat.zero_le _))
  · have same : (e1 != e1) = false := by simp
    simp only [same, Bool.false_eq_true, if_false]
    exact wpAny_pure (next _ _ _ (fun b o hb q => (u1 b hb).trans q) (fun b o hb q => (u2 b hb).trans q) (get?_update_seq l1 fun _ => ws.toArray))
  · rw [List.size_toArray]; omega
/-- keys that can be sorted: the items come out by them -/
theorem own_end {κ : PyProof.Rows.KeyKind} (hk : s.heap.get? kS = some (seqObj "list" keys e)) (hl : s.heap.get? a = some (seqObj "list" #[] e1)) (ne : kS ≠ a) (S : PySem.W.SortsAt prog w A s κ keys.toList) (hn : keys.size = vs.length) (few : vs.length ≤ sizeLine)
    (next : ∀ (g g' : Heap) (c : Nat), (∀ b o, b ≠ kS → s.heap.get? b = some o → g.get? b = some o) → (∀ b o, b ≠ a → g.get? b = some o → g'.get? b = some o) → g'.get? a = some (seqObj "list" (PySem.W.sortVals κ false keys.toList vs).toArray c) → P (.done (.ret .none)) { s with heap := g' }) :
    wpAny (model prog w) A (ksk_end a false vs.toArray e1 (.ref kS) keys) P E s := by
  have kz : PyProof.Rows.KeysOf κ (keys.zip vs.toArray) := PySem.W.keysOf_zip S.keys
  have len : (keys.zip vs.toArray).size = vs.length := by
    have h8 : vs.toArray.size = vs.length := List.size_toArray ..
    rw [Array.size_zip, h8, hn]
    exact Nat.min_self _
  have many : (PySem.W.sortVals κ false keys.toList vs).length ≤ sizeLine := by rw [PySem.W.sortVals_length false (by simpa using hn)]; exact few
  have fin : ∀ z : SortSt, failedOf z = none → (arrOf z).Perm (keys.zip vs.toArray) → SortedToK κ (arrOf z) vs.length → Stable κ (arrOf z) (keys.zip vs.toArray) → wpAny (model prog w) A (ksk_tail a false e1 (.ref kS) z) P E s := by
    intro z h0 h1 h2 h3
    refine own_tail hk hl ne (by omega) many h0 ?_ next
    have o := PySem.W.sort_out (rev := false) (κ := κ) (keys := keys) (items := vs.toArray) (xs := arrOf z) kz h1 (by rw [← len] at h2; exact h2) h3
    simpa using o
  show wpAny _ _ (do
    let kind ← if vs.toArray.size < 2 then pure general' else keyKind' keys
    let r ← (if vs.toArray.size < 2 then pure () else sortRuns').run (SortSt.mk' kind (keys.zip vs.toArray) #[] 7 none)
    ksk_tail a false e1 (.ref kS) r.2) P E s
  obtain ⟨kd, g1, g2⟩ := S.kind
  cases Nat.lt_or_ge vs.length 2 with
  | inl two =>
    have c : vs.toArray.size < 2 := by simpa using two
    simp only [c, if_true, pure_bind, StateT.run_pure]
    refine fin (SortSt.mk' general' (keys.zip vs.toArray) #[] 7 none) rfl (Array.Perm.refl _) (fun i j h1 h2 => ?_) (Stable.refl _)
    obtain rfl : i = j := by omega
    exact KeyOrd.kle_refl _
  | inr two =>
    have c : ¬ vs.toArray.size < 2 := by simpa using two
    simp only [c, if_false]
    refine wpAny_bind (g2 (by simpa [hn] using two) _ (wpAny_bind (wpAny_mono (H.wpS_sortRunsSt (κ := κ) (kd := kd) (a₀ := keys.zip vs.toArray) (st := SortSt.mk' kd (keys.zip vs.toArray) #[] 7 none)
      (Q := fun _ z => failedOf z = none ∧ (arrOf z).Perm (keys.zip vs.toArray) ∧ SortedToK κ (arrOf z) vs.length ∧ Stable κ (arrOf z) (keys.zip vs.toArray)) g1 kz ⟨Array.Perm.refl _, rfl, rfl⟩ rfl (Stable.refl _) (by omega)
      fun z p1 p2 p3 p4 => ⟨p2, p1, by rw [← len]; exact p3, p4⟩) (fun r s' q => ?_) fun _ _ x => x)))
    obtain ⟨⟨⟩, z⟩ := r
    obtain ⟨rfl, q0, q1, q2, q3⟩ := q
    exact fin z q0 q1 q2 q3
end
/-- an object of ours that was not told is told from now on -/
theorem inv_know {X : Cx} {pins : List (Addr × Obj)} {σ : L2.St} {H : Hp} {s : Shared} {a : Addr} {o : HO} (I : Inv X pins σ H s) (hn : H a = none) (hL : a ≠ X.env.locals) (h1 : X.s_0.heap.objs.size ≤ a) (h2 : ∀ x c, X.env.cells.lookup x = some c → c ≠ a) (h3 : ∀ p ∈ X.pn ++ pins, p.1 ≠ a)
    (new : ObjOk X.prog X.w (upd H a o) s.heap a o) : Inv X pins σ (upd H a o) s := by
  have ne : ∀ b u, H b = some u → b ≠ a := fun b u e z => by rw [z, hn] at e; cases e
  have st : ∀ b u, H b = some u → upd H a o b = some u := fun b u e => by rw [upd_ne (ne b u e)]; exact e
  have hok : HOk X.prog X.w (upd H a o) s.heap := fun b u e => by
    by_cases z : b = a
    · subst z; rw [upd_same] at e; cases e; exact new
    · rw [upd_ne z] at e
      exact (I.hok b u e).stay (fun c v _ q => q) (fun c q => st c _ q) fun c _ q => st c _ q
  have hch : ∀ b ∈ [a], (b ∈ X.ex ∨ X.s_0.heap.objs.size ≤ b) ∧ b ≠ X.env.locals ∧ (∀ x c, X.env.cells.lookup x = some c → c ≠ b) ∧ ∀ p ∈ X.pn ++ pins, p.1 ≠ b := fun b hb => by
    have e : b = a := by simpa using hb
    subst e
    exact ⟨.inr h1, hL, h2, h3⟩
  exact I.step (h' := s.heap) (H' := upd H a o) (g' := s.gens) (d' := s.drawn) (t' := s.toks) (ch := [a]) hch
    (fun b o _ _ _ e _ => e) (fun b o _ _ _ e _ => ⟨o.slots, e⟩) (fun b o' hc e n => by rw [upd_ne (fun z => hc (by simp [z]))]; exact n) (fun b o _ e => ⟨o, e⟩)
    (fun b xs e => st b _ e) (fun b _ _ e => st b _ e) (fun b ps e => ⟨#[], by rw [st b _ e]; simp⟩) (fun m hm => hm) hok I.bare
def tKeys (sp : Sp) : List V → List V → Hp → (List V → Hp → Prop) → Prop
  | [], ks, H, Q => Q ks H
  | x :: xs, ks, H, Q => sp [x] H (fun k H1 => tKeys sp xs (ks ++ [k]) H1 Q) E0
def keyOut (xs : List V) (kz : List PyData) : List V := ((xs.zip kz).mergeSort (PySem.W.dataLe false (·.2))).map (·.1)
def rSortK (K : PySem.W.Frag) (f : Addr) (sp : Sp) : List V → List V → Hp → VK → Prop := fun vs zs H Q => ∃ a xs, vs = [.ref a] ∧ zs = [.ref f] ∧ (SqL K H a xs ∨ SqT K H a xs) ∧
  tKeys sp xs [] H fun ks H1 => ∃ kz, DpAll K H1 ks kz ∧ PySem.W.AllAlike kz ∧ PySem.W.Sortable kz ∧ (∀ d ∈ kz, d.depth ≤ 8) ∧ ∀ p, H1 p = none → Q (.ref p) (upd H1 p (.lst (keyOut xs kz)))
theorem each_of_reads {h : Heap} : ∀ {us : List Value} {ds : List PyData} {as : List Addr}, ReadsAll h us ds as → PySem.W.EachIs (fun v d => ∃ as, Reads h v d as) us ds
  | _, _, _, .nil => .nil
  | _, _, _, .cons r t => .cons ⟨_, r⟩ (each_of_reads t)
theorem each_zip {xs : List V} {kz : List PyData} : ∀ {us : List Value}, Vals xs us → xs.length = kz.length → PySem.W.EachIs (fun u (p : V × PyData) => RelV p.1 u) us (xs.zip kz) := by
  induction xs generalizing kz with
  | nil => intro us r _; cases r; exact .nil
  | cons x xs ih =>
    intro us r hl
    cases r with
    | cons r1 r2 =>
      cases kz with
      | nil => simp at hl
      | cons k kz => exact .cons r1 (ih r2 (by simpa using hl))
theorem vals_each : ∀ {us : List Value} {ps : List (V × PyData)}, PySem.W.EachIs (fun u (p : V × PyData) => RelV p.1 u) us ps → Vals (ps.map (·.1)) us
  | _, _, .nil => .nil
  | _, _, .cons h t => .cons h (vals_each t)
section
variable {X : Cx} {f : Addr} {fd : FuncData} {pr : Str} {sp : Sp} {k : Nat}
theorem run_fn2 {pins : List (Addr × Obj)} {σ : L2.St} {H : Hp} {s : Shared} {Q : VK} {us : List Value} {vs : List V} {ps : List Str} (F : FnOk X.prog X.w X.K X.mg X.base CX0 k f fd ps sp) (hr : Room (k + 2) X.A) (hb : Binds X.K fd ps []) (I : Inv X pins σ H s) (r : Vals vs us) (h : sp vs H Q E0) {E : Value → Shared → Prop} :
    wpAny (model X.prog X.w) X.A.in1.in1 (call (.ref f) us) (EP X pins σ Q) E s := by
  have hl : (us ++ []).length = ps.length := by rw [List.append_nil, ← r.length]; exact F.len _ _ _ _ h
  have hb' := hb s us I.kIn hl
  rw [List.append_nil] at hb'
  refine wpAny_call (codeAny_mono (F.run X.A.in1.in1 X.stack s H ⟨us, []⟩ us vs Q E0 (Room.in1 (Room.in1 hr)) I.env0.in1.in1 hb' r h) fun r s' hq => ?_)
  cases r with
  | error e => exact hq.elim
  | ok fl =>
    cases fl with
    | ret u => exact I.after hq
    | next => exact False.elim hq
    | brk => exact False.elim hq
    | cont => exact False.elim hq
/-- sorted of a list or a tuple: a new list is sorted -/
theorem own_sorted {prog : Program} {w : World} {A : Around} {E : Value → Shared → Prop} {s : Shared} {l : Addr} {vs : List Value} {T : String} {o : Obj} {n : Nat} {kw : List (Str × Value)} {Q : Value → Shared → Prop} (hT : T = "list" ∨ T = "tuple") (ho : s.heap.get? l = some o) (hc : o.cls = .type T) (hd : o.data = .seq vs.toArray n) (few : vs.length ≤ sizeLine)
    (h1 : argsOk "sorted" ⟨[.ref l], kw⟩) (h2 : ∀ x, argsOk "list.sort" ⟨[.ref x], kw⟩)
    (go : ∀ (g : Heap) (E' : Value → Shared → Prop), (∀ b o', s.heap.get? b = some o' → g.get? b = some o') → wpAny (model prog w) A.in1.in1 (Builtin.«list.sort» ⟨[.ref g.objs.size], kw⟩) (fun f s' => f = .done (.ret .none) ∧ Q (.ref g.objs.size) s') E' { s with heap := g.push (seqObj "list" vs.toArray 0) }) :
    wpAny (model prog w) A (call (.builtin "sorted") [.ref l] kw) Q E s := by
  refine PyProof.Rows.call_function_entry_kw kind_sorted plain_sorted entry_sorted h1 ?_
  unfold Builtin.«sorted»; refine wpAny_bind (m := checkCount "sorted" 1 1 _) (wpAny_pure ?_)
  refine wpAny_bind (wpAny_collect_seq l hT ho hc hd (fun g hg => ?_) (by rw [List.size_toArray]; exact few))
  refine wpAny_bind (wpAny_newList ?_ few)
  refine wpAny_bind (wpAny_holding (PyProof.Rows.wpAny_call_entry_kw slot_list_sort ⟨_, Heap.get?_push_size _ rfl, rfl⟩ entry_list_sort ?b (h2 _)))
  case b => exact wpAny_mono (go g _ hg) (fun f s' hf => by obtain ⟨rfl, hq⟩ := hf; exact ⟨_, rfl, wpAny_pure ⟨_, rfl, hq⟩⟩) fun _ _ e => e
/-- the sorting itself, on a new list -/
theorem sortK_core {pins : List (Addr × Obj)} {σ : L2.St} {H : Hp} {s : Shared} {Q : VK} {xs : List V} {its : List Value} {E' : Value → Shared → Prop} (F : FnOk X.prog X.w X.K X.mg X.base CX0 k f fd [pr] sp) (hr : Room (k + 2) X.A) (hb : Binds X.K fd [pr] []) (I : Inv X pins σ H s) (rv : Vals xs its) (hz' : its.length ≤ sizeLine)
    (h : tKeys sp xs [] H fun ks H1 => ∃ kz, DpAll X.K H1 ks kz ∧ PySem.W.AllAlike kz ∧ PySem.W.Sortable kz ∧ (∀ d ∈ kz, d.depth ≤ 8) ∧ ∀ p, H1 p = none → Q (.ref p) (upd H1 p (.lst (keyOut xs kz)))) :
    wpAny (model X.prog X.w) X.A.in1.in1 (Builtin.«list.sort» ⟨[.ref s.heap.objs.size], [(Str.ofString "key", Value.ref f)]⟩) (fun r s' => r = .done (.ret .none) ∧ EP X pins σ Q (.ref s.heap.objs.size) s') E' { s with heap := s.heap.push (seqObj "list" its.toArray 0) } := by
  rw [ksk_t1]
  have hold : ∀ b o, s.heap.get? b = some o → (s.heap.push (seqObj "list" its.toArray 0)).get? b = some o := fun _ _ q => Heap.get?_push_of_some _ q
  have hna : (s.heap.push (seqObj "list" its.toArray 0)).get? s.heap.objs.size = some (seqObj "list" its.toArray 0) := Heap.get?_push_size _ rfl
  have hca : (s.heap.push (seqObj "list" its.toArray 0)).objs.size = s.heap.objs.size + 1 := size_push' ..
  generalize hA : s.heap.objs.size = a at hna ⊢
  generalize s.heap.push (seqObj "list" its.toArray 0) = hc at hold hna hca ⊢
  have s1 := Heap.SameBut.update hc a (Obj.mapSeq fun _ => (#[] : Array Value))
  obtain ⟨e1, ho1⟩ : ∃ e1, (hc.update a (Obj.mapSeq fun _ => (#[] : Array Value))).get? a = some (seqObj "list" #[] e1) := ⟨_, get?_update_seq hna fun _ => #[]⟩
  unfold ksk_tree
  refine wpAny_bind (listItems_at hna rfl ?_)
  refine wpAny_bind (listUpdate_at hna rfl ?_ (by rw [List.size_toArray]; exact hz') (Nat.zero_le _))
  refine wpAny_bind (seqEpoch_at ho1 rfl ?_)
  refine wpAny_bind (wpAny_newTuple ?_ (by exact hz'))
  refine wpAny_bind (wpAny_newList ?_ (Nat.zero_le _))
  refine wpAny_holding ?_
  have hkS : ((hc.update a (Obj.mapSeq fun _ => (#[] : Array Value))).push (seqObj "tuple" its.toArray 0)).objs.size = s.heap.objs.size + 2 := by rw [size_push', Heap.size_update, hca]
  show wpAny _ _ (ksk_rest a (.ref f) false its.toArray e1 (.ref ((hc.update a (Obj.mapSeq fun _ => (#[] : Array Value))).push (seqObj "tuple" its.toArray 0)).objs.size)) _ _ { s with heap := (((hc.update a (Obj.mapSeq fun _ => (#[] : Array Value))).push (seqObj "tuple" its.toArray 0)).push (seqObj "list" #[] 0)) }
  have hkA : (((hc.update a (Obj.mapSeq fun _ => (#[] : Array Value))).push (seqObj "tuple" its.toArray 0)).push (seqObj "list" #[] 0)).get? (s.heap.objs.size + 2) = some (seqObj "list" #[] 0) := by
    rw [← hkS]; exact Heap.get?_push_size _ rfl
  have hAa : (((hc.update a (Obj.mapSeq fun _ => (#[] : Array Value))).push (seqObj "tuple" its.toArray 0)).push (seqObj "list" #[] 0)).get? a = some (seqObj "list" #[] e1) :=
    Heap.get?_push_of_some _ (Heap.get?_push_of_some _ ho1)
  have hO : ∀ b o, s.heap.get? b = some o → (((hc.update a (Obj.mapSeq fun _ => (#[] : Array Value))).push (seqObj "tuple" its.toArray 0)).push (seqObj "list" #[] 0)).get? b = some o := fun b o q =>
    Heap.get?_push_of_some _ (Heap.get?_push_of_some _ ((s1.2 b (Nat.ne_of_lt (by have := Heap.lt_size q; rw [← hA]; exact this))).trans (hold b o q)))
  rw [hkS]
  generalize (((hc.update a (Obj.mapSeq fun _ => (#[] : Array Value))).push (seqObj "tuple" its.toArray 0)).push (seqObj "list" #[] 0)) = h1 at hkA hAa hO ⊢
  generalize hK : s.heap.objs.size + 2 = kS at hkA ⊢
  have hka : kS ≠ a := by omega
  have young : ∀ c, s.heap.objs.size ≤ c → c ≠ X.env.locals ∧ X.s_0.heap.objs.size ≤ c ∧ (∀ x d, X.env.cells.lookup x = some d → d ≠ c) ∧ (∀ p ∈ X.pn ++ pins, p.1 ≠ c) ∧ c ∉ X.fs := fun c hc => by
    refine ⟨Nat.ne_of_gt (Nat.lt_of_lt_of_le I.lt hc), Nat.le_trans I.sz hc, fun x d e z => ?_, fun p hp z => ?_, I.nofs hc⟩
    · obtain ⟨v, o, ho, _⟩ := I.cell x d e
      have := Heap.lt_size ho
      rw [z] at this
      exact absurd this (Nat.not_lt.mpr hc)
    · have := Heap.lt_size (I.pin p hp).1
      rw [z] at this
      exact absurd this (Nat.not_lt.mpr hc)
  have ya := young a (by omega)
  have yk := young kS (by omega)
  have I1 : Inv X pins σ H { s with heap := h1 } := I.kept (t' := s.toks) hO
  have Ha : H a = none := I.hok.fresh (by omega)
  have Hk : H kS = none := I.hok.fresh (by omega)
  unfold ksk_rest
  refine wpAny_bind (wpAny_rule ?_)
  first
    | rw [List.forIn_toArray]
    | (rw [← Array.forIn_toList]; simp only [List.toList_toArray])
    | rw [← Array.forIn_toList]
  refine wpAny_bind (ksk_fold (fun i s' => ∃ H' kA e ks, Inv X ((a, seqObj "list" #[] e1) :: (kS, seqObj "list" kA e) :: pins) σ H' s' ∧ Vals ks kA.toList ∧ ks.length = i ∧ tKeys sp (xs.drop i) ks H' fun ks H1 => ∃ kz, DpAll X.K H1 ks kz ∧ PySem.W.AllAlike kz ∧ PySem.W.Sortable kz ∧ (∀ d ∈ kz, d.depth ≤ 8) ∧ ∀ p, H1 p = none → Q (.ref p) (upd H1 p (.lst (keyOut xs kz)))) its 0 { s with heap := h1 }
    ⟨H, #[], 0, [], ?init, .nil, rfl, by simpa using h⟩ ?step ?done)
  case init =>
    refine I1.pins_of fun p hp => ?_
    rcases List.mem_cons.mp hp with rfl | hp
    · exact ⟨hAa, Ha, ya.1, ya.2.2.2.2, fun v hv => by cases hv⟩
    · rcases List.mem_cons.mp hp with rfl | hp
      · exact ⟨hkA, Hk, yk.1, yk.2.2.2.2, fun v hv => by cases hv⟩
      · exact I1.pin p (List.mem_append_right _ hp)
  case step =>
    rintro j x s' hx ⟨H', kA, e, ks, I', rk, hkl, ht⟩
    simp only [Nat.zero_add] at hkl ht ⊢
    have hjl : j < xs.length := by rw [rv.length]; exact (List.getElem?_eq_some_iff.mp hx).1
    obtain ⟨y, hy⟩ : ∃ y, xs[j]? = some y := ⟨_, List.getElem?_eq_getElem hjl⟩
    obtain ⟨u0, hu0, ry⟩ := rv.get hy
    rw [hx] at hu0
    cases hu0
    have ed : xs.drop j = y :: xs.drop (j + 1) := by
      rw [List.drop_eq_getElem_cons (List.getElem?_eq_some_iff.mp hy).1, (List.getElem?_eq_some_iff.mp hy).2]
    rw [ed] at ht
    refine wpAny_bind (wpAny_attempt (wpAny_mono (run_fn2 (E := fun _ _ => False) F hr hb I' (.cons ry .nil) ht) (fun v s'' he => ?_) fun _ _ hF => hF.elim))
    obtain ⟨kv, H2, I2, rkv, ht2⟩ := he
    try dsimp only
    have pa := I2.pin (a, seqObj "list" #[] e1) (List.mem_append_right _ (.head _))
    have pk := I2.pin (kS, seqObj "list" kA e) (List.mem_append_right _ (.tail _ (.head _)))
    have s1 := Heap.SameBut.update s''.heap kS (Obj.mapSeq (·.push v))
    obtain ⟨c2, hc2⟩ : ∃ c2, (s''.heap.update kS (Obj.mapSeq (·.push v))).get? kS = some (seqObj "list" (kA.push v) c2) := ⟨_, get?_update_seq pk.1 (·.push v)⟩
    have hjx : j < its.length := (List.getElem?_eq_some_iff.mp hx).1
    have hks : kA.size = j := by
      have h9 : ks.length = kA.toList.length := rk.length
      rw [Array.length_toList] at h9
      exact h9.symm.trans hkl
    refine wpAny_bind (listUpdate_at pk.1 rfl ?_ (by omega) (Nat.le_trans (Nat.le_of_eq (Array.size_push ..)) (by omega)))
    refine wpAny_pure ⟨rfl, H2, kA.push v, c2, ks ++ [kv], ?_, by rw [Array.toList_push]; exact rk.append (.cons rkv .nil), by simp [hkl], ht2⟩
    have I3 : Inv X pins σ H2 s'' := I2.pins_of fun p hp => I2.pin p (List.mem_append_right _ (.tail _ (.tail _ hp)))
    have I4 : Inv X pins σ H2 { s'' with heap := s''.heap.update kS (Obj.mapSeq (·.push v)) } := I3.turned (t' := s''.toks) (it := kS) (fun b o hb q => (s1.2 b hb).trans q) pk.2.1 yk.1 (.inr yk.2.1) yk.2.2.1 yk.2.2.2.1
    refine I4.pins_of fun p hp => ?_
    rcases List.mem_cons.mp hp with rfl | hp
    · exact ⟨(s1.2 a hka.symm).trans pa.1, pa.2⟩
    · rcases List.mem_cons.mp hp with rfl | hp
      · exact ⟨hc2, pk.2.1, yk.1, yk.2.2.2.2, fun v hv => by cases hv⟩
      · exact I4.pin p (List.mem_append_right _ hp)
  case done =>
    rintro s' ⟨H', kA, e, ks, I', rk, hkl, ht⟩
    have hxl : xs.length = its.length := rv.length
    rw [show xs.drop (0 + its.length) = [] by rw [List.drop_eq_nil_iff]; omega] at ht
    obtain ⟨kz, hd, hal, hsk, hdp, q⟩ := ht
    have pa := I'.pin (a, seqObj "list" #[] e1) (List.mem_append_right _ (.head _))
    have pk := I'.pin (kS, seqObj "list" kA e) (List.mem_append_right _ (.tail _ (.head _)))
    obtain ⟨as, hr2⟩ := Dp.readsAll I' kz ks kA.toList hd rk
    have hE := each_of_reads hr2
    have hks : kA.size = its.length := by
      have h9 : ks.length = kA.toList.length := rk.length
      rw [Array.length_toList] at h9
      exact h9.symm.trans (hkl.trans (Nat.zero_add _))
    have hkz : xs.length = kz.length := by
      have h1 := hE.length
      rw [Array.length_toList] at h1
      omega
    refine wpAny_bind (listItems_at pk.1 rfl ?_)
    refine own_end (κ := PySem.W.dataKind s'.heap kz) pk.1 pa.1 hka (PySem.W.SortsAt.data hE hal hsk fun d hdm => ?_) hks hz' fun h2 h3 c k2 k3 ha3 => ⟨rfl, ?_⟩
    · have := hdp d hdm
      have := hr.un
      show X.A.units + 1 + 1 + d.depth < cLine
      omega
    · have I3 : Inv X pins σ H' s' := I'.pins_of fun p hp => I'.pin p (List.mem_append_right _ (.tail _ (.tail _ hp)))
      have I4 : Inv X pins σ H' { s' with heap := h2 } := I3.turned (t' := s'.toks) (it := kS) k2 pk.2.1 yk.1 (.inr yk.2.1) yk.2.2.1 yk.2.2.2.1
      have I5 : Inv X pins σ H' { s' with heap := h3 } := Inv.turned (s := { s' with heap := h2 }) (h' := h3) I4 (t' := s'.toks) (it := a) k3 pa.2.1 ya.1 (.inr ya.2.1) ya.2.2.1 ya.2.2.2.1
      have hout := PySem.W.keyedOut_each (β := V × PyData) (R := fun u p => RelV p.1 u) (bs := xs.zip kz) (rev := false) (vs := its) (out := PySem.W.sortVals (PySem.W.dataKind s'.heap kz) false kA.toList its) (·.2)
        (by rw [List.map_snd_zip (by omega)]; exact ⟨s'.heap, kA.toList, hal, rfl, hE⟩) (each_zip rv hkz)
      have hv := vals_each hout
      have hlen : (keyOut xs kz).length ≤ sizeLine := by
        unfold keyOut
        rw [List.length_map, List.length_mergeSort, List.length_zip]
        omega
      exact ⟨.ref a, upd H' a (.lst (keyOut xs kz)), inv_know I5 pa.2.1 ya.1 ya.2.1 ya.2.2.1 ya.2.2.2.1 ⟨hlen, _, c, hv, ha3⟩, rfl, q a pa.2.1⟩
theorem cr_sortK (F : FnOk X.prog X.w X.K X.mg X.base CX0 k f fd [pr] sp) (hr : Room (k + 2) X.A) (hb : Binds X.K fd [pr] []) : CallRK X (.builtin "sorted") [Str.ofString "key"] (rSortK X.K f sp) := by
  intro pins s σ H vs zs us ws Q I r rz h
  obtain ⟨l, xs, rfl, rfl, hs, h⟩ := h
  obtain rfl := Vals.ref1 r
  obtain rfl := Vals.ref1 rz
  obtain ⟨its, rv, T, o, n, hT, ho, hc, hd, hz⟩ : ∃ its, Vals xs its ∧ ∃ T o n, (T = "list" ∨ T = "tuple") ∧ s.heap.get? l = some o ∧ o.cls = .type T ∧ o.data = .seq its.toArray n ∧ its.length ≤ sizeLine := by
    rcases hs with hs | hs
    · obtain ⟨its, rv, hl, hz⟩ := I.list hs
      obtain ⟨o, ho, hc, n, hd⟩ := hl.isList
      exact ⟨its, rv, "list", o, n, .inl rfl, ho, hc, hd, by rw [← rv.length]; exact hz⟩
    · obtain ⟨its, rv, ⟨o, ho, hc, n, hd⟩, hz⟩ := I.tuple hs
      exact ⟨its, rv, "tuple", o, n, .inr rfl, ho, hc, hd, by rw [← rv.length]; exact hz⟩
  refine own_sorted hT ho hc hd hz (ksk_s1 _ _) (fun x => ksk_l1 _ _) fun g E' hg => ?_
  exact sortK_core (s := { s with heap := g }) F hr hb (I.kept (t' := s.toks) hg) rv hz h
end
end DL

set_option Elab.async false
set_option linter.all false
set_option maxRecDepth 100000
set_option maxHeartbeats 4000000
set_option autoImplicit false
namespace DL
open PySem PySem.Spec PyProof.Rows L2
/-! ### sorted(xs, key=f), by data: keys that are a number and a text -/
def ltK (a b : Int × Str) : Bool := decide (a.1 < b.1) || (decide (a.1 = b.1) && sLt a.2 b.2)
def leK (a b : Int × Str) : Bool := !ltK b a
def keyP : D → Option (Int × Str)
  | .tup [.int i, .str x] => some (i, x)
  | _ => none
def keysP : List D → Option (List (Int × Str))
  | [] => some []
  | d :: ds => match keyP d, keysP ds with | some k, some ks => some (k :: ks) | _, _ => none
def pyK (k : Int × Str) : PyData := .tuple [.int k.1, .str k.2]
theorem keyP_some {d : D} {k : Int × Str} (h : keyP d = some k) : d = .tup [.int k.1, .str k.2] := by
  unfold keyP at h
  split at h
  · cases h; rfl
  · cases h
theorem keysP_py : ∀ {ds : List D} {ks : List (Int × Str)}, keysP ds = some ks → toPys ds = some (ks.map pyK)
  | [], ks, h => by simp only [keysP] at h; cases h; rfl
  | d :: ds, ks, h => by
    simp only [keysP] at h
    split at h
    · rename_i k ks' e1 e2
      cases h
      rw [keyP_some e1]
      simp only [toPys, toPy, keysP_py e2, Option.map_some, List.map_cons, pyK]
    · cases h
theorem keysP_len : ∀ {ds : List D} {ks : List (Int × Str)}, keysP ds = some ks → ks.length = ds.length
  | [], ks, h => by simp only [keysP] at h; cases h; rfl
  | d :: ds, ks, h => by
    simp only [keysP] at h
    split at h
    · rename_i k ks' e1 e2
      cases h
      simp only [List.length_cons, keysP_len e2]
    · cases h
theorem lex_pyK (a b : Int × Str) : PyProof.Rows.lexLt itemOrd (PySem.W.keyToks (pyK a)) (PySem.W.keyToks (pyK b)) = ltK a b := by
  obtain ⟨i, x⟩ := a
  obtain ⟨j, y⟩ := b
  have e : PyProof.Rows.lexLt itemOrd (PySem.W.keyToks (pyK (i, x))) (PySem.W.keyToks (pyK (j, y))) = (decide ((1:Int) < 1) || (!decide ((1:Int) < 1) && (decide (i < j) || (!decide (j < i) && (decide ((1:Int) < 1) || (!decide ((1:Int) < 1) && (decide (x.cps.toList < y.cps.toList) || (!decide (y.cps.toList < x.cps.toList) && (decide ((0:Int) < 0) || (!decide ((0:Int) < 0) && false)))))))))) := rfl
  rw [e]
  simp only [ltK, sLt]
  by_cases h1 : i < j
  · simp [h1]
  · by_cases h2 : i = j
    · subst h2
      simp
    · have : j < i := by omega
      simp [h1, h2, this]
theorem dataLe_pyK {α : Type} (p q : α × (Int × Str)) : PySem.W.dataLe false (fun z : α × PyData => z.2) (p.1, pyK p.2) (q.1, pyK q.2) = leK p.2 q.2 := by
  show (!(PyProof.Rows.lexLt itemOrd (PySem.W.keyToks (pyK q.2)) (PySem.W.keyToks (pyK p.2)))) = _
  rw [lex_pyK]
  rfl
def sortK {α : Type} (xs : List α) (kz : List (Int × Str)) : List α := ((xs.zip kz).mergeSort fun p q => leK p.2 q.2).map (·.1)
theorem zip_map_r {α β γ : Type} (f : β → γ) : ∀ (xs : List α) (ys : List β), xs.zip (ys.map f) = (xs.zip ys).map fun p => (p.1, f p.2)
  | [], _ => by simp
  | _ :: _, [] => by simp
  | x :: xs, y :: ys => by simp [zip_map_r f xs ys]
theorem keyOut_eq (xs : List V) (kz : List (Int × Str)) : keyOut xs (kz.map pyK) = sortK xs kz := by
  unfold keyOut sortK
  rw [zip_map_r, ← List.map_mergeSort (r := fun p q => leK p.2 q.2) (f := fun p : V × (Int × Str) => (p.1, pyK p.2)) (fun a _ b _ => (dataLe_pyK a b).symm), List.map_map]
  rfl
theorem rds_pairs {K : PySem.W.Frag} {H : Hp} {N : Ns} {α : Type} (f : α → D) (g : α → V) : ∀ L : List α, (∀ p ∈ L, RD K H N (f p) (g p)) → RDs K H N (L.map f) (L.map g)
  | [], _ => RDs.nil
  | p :: L, h => RDs.cons (h p (List.mem_cons_self ..)) (rds_pairs f g L fun q hq => h q (List.mem_cons_of_mem _ hq))
theorem rds_zip {K : PySem.W.Frag} {H : Hp} {N : Ns} : ∀ {ds : List D} {vs : List V}, RDs K H N ds vs → ∀ p ∈ ds.zip vs, RD K H N p.1 p.2
  | [], _, _, p, hp => by cases hp
  | d :: ds, _, r, p, hp => by
    obtain ⟨v, vs, rfl, r1, r2⟩ := r.of_cons
    rcases List.mem_cons.mp hp with rfl | hp
    · exact r1
    · exact rds_zip r2 p hp
theorem sortK_proj {α β : Type} (f : α → β) (L : List α) (kz : List (Int × Str)) : (sortK L kz).map f = sortK (L.map f) kz := by
  unfold sortK
  rw [List.map_map]
  have : (L.map f).zip kz = (L.zip kz).map fun p => (f p.1, p.2) := by
    rw [List.zip_map_left]; rfl
  rw [this, ← List.map_mergeSort (r := fun p q : α × (Int × Str) => leK p.2 q.2) (f := fun p : α × (Int × Str) => (f p.1, p.2)) (fun a _ b _ => rfl), List.map_map]
  rfl
theorem sortK_perm {α : Type} {xs : List α} {kz : List (Int × Str)} (h : xs.length ≤ kz.length) : (sortK xs kz).Perm xs := by
  unfold sortK
  refine ((List.mergeSort_perm _ _).map _).trans ?_
  rw [List.map_fst_zip h]
theorem rds_sortK {K : PySem.W.Frag} {H : Hp} {N : Ns} {ds : List D} {vs : List V} {kz : List (Int × Str)} (r : RDs K H N ds vs) (hl : ds.length ≤ kz.length) : RDs K H N (sortK ds kz) (sortK vs kz) := by
  have h1 : (ds.zip vs).map (·.1) = ds := List.map_fst_zip (Nat.le_of_eq r.length)
  have h2 : (ds.zip vs).map (·.2) = vs := List.map_snd_zip (Nat.le_of_eq r.length.symm)
  have e1 := sortK_proj (·.1) (ds.zip vs) kz
  have e2 := sortK_proj (·.2) (ds.zip vs) kz
  rw [h1] at e1
  rw [h2] at e2
  rw [← e1, ← e2]
  refine rds_pairs _ _ _ fun p hp => rds_zip r p ?_
  refine (sortK_perm ?_).mem_iff.mp hp
  rw [List.length_zip]
  omega
def dKeys (sp : DSp) : List D → List D → Gp → (List D → Gp → Prop) → Prop
  | [], ks, G, Q => Q ks G
  | x :: xs, ks, G, Q => sp [x] G (fun k G1 => dKeys sp xs (ks ++ [k]) G1 Q)
theorem keys_up {K : PySem.W.Frag} {sp : DSp} {Q : List D → Gp → Prop} {Q' : List V → Hp → Prop} {H0 : Hp} {N0 : Ns} {G0 : Gp} (q : ∀ kd kv G' N' H', Q kd G' → Stp K H0 N0 G0 H' N' G' → RDs K H' N' kd kv → Q' kv H') :
    ∀ (ds : List D) (vs : List V) (kd : List D) (kv : List V) (H : Hp) (N : Ns) (G : Gp), Stp K H0 N0 G0 H N G → RDs K H N ds vs → RDs K H N kd kv → dKeys sp ds kd G Q → tKeys (upSp K sp) vs kv H Q'
  | [], vs, kd, kv, H, N, G, st, r, rk, h => by
    rw [r.of_nil]
    exact q kd kv G N H h st rk
  | d :: ds, vs, kd, kv, H, N, G, st, r, rk, h => by
    obtain ⟨v, vs, rfl, r1, r2⟩ := r.of_cons
    refine ⟨[d], G, N, _, RDs.cons r1 RDs.nil, st.rel, h, fun k G1 N1 u H1 h1 s1 r3 => ?_⟩
    exact keys_up q ds vs (kd ++ [k]) (kv ++ [u]) H1 N1 G1 (st.trans s1) (r2.le s1.kp) ((rk.le s1.kp).append (RDs.cons r3 RDs.nil)) h1
theorem seqOf_of_lst {G : Gp} {x : D} {ds : List D} (h : lstOf G x = some ds) : seqOf G x = some ds := by
  cases x <;> first | exact h | (simp [lstOf] at h)
def dSortK1 (mk : Bool) (sp : DSp) (x : D) (G1 : Gp) (R : DK) : Prop := match seqOf G1 x with
  | some ds => dKeys sp ds [] G1 fun ks G2 => (match keysP ks with | some kz => ks.length = ds.length ∧ newL mk (sortK ds kz) G2 R | none => False)
  | none => False
def dSortK (mk : Bool) (sp : DSp) (te : DE) : DE := fun σ G R => te σ G fun x G1 => dSortK1 mk sp x G1 R
theorem qe_sortK (mk : Bool) {X : Cx} {f : Addr} {fd : FuncData} {pr fx : Str} {sp : DSp} {k : Nat} {e : Expr} {te : DE} {p p2 p3 pos : Pos} (F : FnD X.prog X.w X.K X.mg X.base k f fd [pr] sp) (hr : Room (k + 2) X.A) (hb : Binds X.K fd [pr] [])
    (hg : Gl X "sorted") (hm : X.mg "sorted" = none) (hgf : Gl X fx) (hmf : X.mg fx = some (.ref f)) (he : QE X e te) (hs : starEach [e] X.env = (false, eval e X.env) :: starEach [] X.env := by rfl)
    (he1 : backTo pos (starEach [e] X.env) = (false, eval e X.env) :: backTo pos (starEach [] X.env) := by rfl) (hpl : (backTo pos (starEach [e] X.env)).any (·.1) = false := by rfl) (hdf : (fx == ("__debug__" : Str)) = false := by decide) :
    QE X (.Call (.Name "sorted" p) [e] [⟨some "key", .Name fx p2, p3⟩] pos) (dSortK mk sp te) := by
  refine pe_mono (pe_callBK (cr_sortK F hr hb) hg hm (by decide +kernel) (qa_cons he qa_nil hs) (pk_cons (pe_glob (v := .ref f) hgf hmf rfl hdf) pk_nil) (he := he1) (hpl := hpl)) fun τ H Q h => ?_
  obtain ⟨σ, G, N, R, hs, hgg, ht, q⟩ := h
  refine ⟨σ, G, N, fun ds G1 => (match ds with | [x] => dSortK1 mk sp x G1 R | _ => False), hs, hgg, ht, fun ds G1 N1 vs H1 h1 s1 r1 => ?_⟩
  dsimp only at h1 ⊢
  split at h1
  · rename_i x
    obtain ⟨v, vs, rfl, r2, r3⟩ := r1.of_cons
    rw [r3.of_nil]
    unfold dSortK1 at h1
    split at h1
    · rename_i ds e
      obtain ⟨a, us, rfl, sq, rd⟩ := seqOf_ok s1.rel r2 e
      refine ⟨a, us, rfl, rfl, sq, ?_⟩
      refine keys_up (H0 := H1) (N0 := N1) (G0 := G1) (fun kd kv G2 N2 H2 h2 s2 rk => ?_) ds us [] [] H1 N1 G1 (Stp.refl s1.rel) rd RDs.nil h1
      split at h2
      · rename_i kz ek
        obtain ⟨hl, h2⟩ := h2
        have hkl := keysP_len ek
        refine ⟨kz.map pyK, toPys_ok rk (keysP_py ek), fun d hd d' hd' => ?_, .inl fun d hd => ?_, fun d hd => ?_, fun p np => ?_⟩
        · obtain ⟨k1, _, rfl⟩ := List.mem_map.mp hd
          obtain ⟨k2, _, rfl⟩ := List.mem_map.mp hd'
          rfl
        · obtain ⟨k1, _, rfl⟩ := List.mem_map.mp hd
          exact ⟨_, _, rfl⟩
        · obtain ⟨k1, _, rfl⟩ := List.mem_map.mp hd
          simp only [pyK, PyData.depth, PyData.depthAll]
          omega
        · rw [keyOut_eq]
          exact newL_ok s2.rel (rds_sortK (rd.le s2.kp) (by omega)) h2 (q.le (s1.trans s2)) np
      · exact h2.elim
    · exact h1.elim
  · exact h1.elim
end DL

set_option Elab.async false
set_option linter.all false
set_option maxRecDepth 100000
set_option maxHeartbeats 4000000
set_option autoImplicit false
namespace DL
open PySem PySem.Spec PyProof.Rows L2
/-! ### methods, of tuples of texts too -/
theorem room100 {k : Nat} {A : Around} (r : Room k A) : A.units + 100 < cLine := by have := r.un; omega
section
variable {X : Cx}
def tyW (K : PySem.W.Frag) (T : String) (x : V) (H : Hp) : Prop := tyV K T x H ∨ (T = "tuple" ∧ ∃ p zs, x = .ref p ∧ NtAt K H p zs)
theorem tyW_is {pins : List (Addr × Obj)} {σ : L2.St} {H : Hp} {s : Shared} {T : String} {x : V} {v : Value} (I : L2.Inv X pins σ H s) (r : RelV x v) (ty : tyW X.K T x H) :
    s.TypeIs v T ∧ ∀ a, v = .ref a → ∃ ob, s.heap.get? a = some ob ∧ ob.dict = none := by
  rcases ty with ty | ⟨rfl, p, zs, rfl, h⟩
  · exact tyV_is I r ty
  · cases r
    rcases h with ⟨o, h, hc, hd⟩ | ⟨o, its, n, h, hc, hd, _⟩
    · have ho := (I.hok p _ h).1
      exact ⟨⟨o, ho, hc⟩, fun a e => by cases e; exact ⟨o, ho, hd⟩⟩
    · have ho := I.kIn p o h
      exact ⟨⟨o, ho, hc⟩, fun a e => by cases e; exact ⟨o, ho, hd⟩⟩
def mtyX (G : Gp) : D → Option String
  | .nt _ => some "tuple"
  | d => mty G d
theorem tyW_of {K : PySem.W.Frag} {H : Hp} {N : Ns} {G : Gp} {d : D} {v : V} {T : String} (rg : RelG K H N G) (rd : RD K H N d v) (h : mtyX G d = some T) : tyW K T v H := by
  unfold mtyX at h
  split at h
  · cases h
    obtain ⟨p, rfl, s⟩ := rd.of_nt
    exact .inr ⟨rfl, p, _, rfl, s⟩
  · exact .inl (tyV_of rg rd h)
variable {o e : Expr} {es : List Expr} {to : DE} {t : DA} {name : Str} {apos cpos : Pos} {T id : String} {r : D → List D → Gp → DK → Prop}
def dMX (T : String) (r : D → List D → Gp → DK → Prop) (to : DE) (t : DA) : DE := fun σ G R => to σ G fun x G1 => mtyX G1 x = some T ∧ t σ G1 fun xs G2 => r x xs G2 R
theorem qe_mX (pa : PlainAttrs T) (slot : Slot T name id) (hty : typeOf (.builtin id) = pure (.type "method_descriptor")) (hm : MtD X id r) (ho : QE X o to) (ha : QA X (e :: es) t)
    (hbase : attributeBase o name X.env (eval o X.env) = eval o X.env := by rfl)
    (hfew : ((backTo cpos (starEach (e :: es) X.env)).all (fun x => !x.1) && (backToKw cpos (keywordEach [] X.env)).all (fun x => x.1.isSome)
      && decide ((e :: es).length + ([] : List Keyword).length + (if ([] : List Keyword).isEmpty then 0 else 1) < 30)) = true := by rfl)
    (hline : (apos.endLine == cpos.line) = true := by rfl) (hs : starEach (e :: es) X.env = (false, eval e X.env) :: starEach es X.env := by rfl) (hplain : (backTo cpos (starEach es X.env)).any (·.1) = false := by rfl) :
    QE X (.Call (.Attribute o name apos) (e :: es) [] cpos) (dMX T r to t) := by
  refine ⟨fun pins s τ H Q I h => ?_⟩
  obtain ⟨σ, G, N, R, hst, hg, ht, q⟩ := h
  refine wpAny_Call_method_late hbase hfew hline rfl (thn (ho.run pins s τ H (fun v H1 => ∃ d G1 N1, Stp X.K H N G H1 N1 G1 ∧ RD X.K H1 N1 d v ∧ mtyX G1 d = some T ∧ t σ G1 fun xs G2 => r d xs G2 R) I ⟨σ, G, N, _, hst, hg, ht, fun d G1 N1 v1 H1 h1 s1 r1 => ⟨d, G1, N1, s1, r1, h1⟩⟩) fun v s1 ⟨x, H1, I1, r1, d, G1, N1, st1, rd1, ty, q1⟩ => ?_)
  obtain ⟨h1, h2⟩ := tyW_is I1 r1 (tyW_of st1.rel rd1 ty)
  refine ⟨T, id, pa, slot, hty, h1, h2, ?_⟩
  have hA := ha.run cpos pins s1 τ H1 (fun vs H2 => upM X.K r x vs H2 Q) I1 ⟨σ, G1, N1, _, hst.le st1.kp, st1.rel, q1, fun xs G2 N2 vs H2 h3 s2 r2 => ⟨d, xs, G2, N2, R, rd1.le s2.kp, r2, s2.rel, h3, q.le (st1.trans s2)⟩⟩
  rw [hs] at hA ⊢
  refine Calls.callWith_builtin (by show (false || (backTo cpos (starEach es X.env)).any (·.1)) = false; rw [hplain] <;> rfl) (Calls.evalArgs_plain ?_)
  exact thn hA fun us s2 ⟨vs, H2, I2, r2, q2⟩ => hm pins s2 τ H2 x vs v us Q I2 r1 r2 q2
end
section
variable {X : Cx}
theorem pure_list {ds : List D} (h : pyDs ds = true) : ∃ as, toPys ds = some as ∧ PyData.plainAll as = true := by
  obtain ⟨as, h1, h2, _⟩ := toPys_pure h
  exact ⟨as, h1, PyData.plainAll_of_canLay0 as h2⟩
theorem pure_one {d : D} (h : pyD d = true) : ∃ a, toPy d = some a ∧ a.plain = true ∧ a.depth = depD d := by
  obtain ⟨a, h1, h2, h3⟩ := toPy_pure h
  exact ⟨a, h1, PyData.plain_of_canLay0 a h2, h3⟩
theorem toPys_map {ds : List D} {as : List PyData} (h : toPys ds = some as) : ∀ {x : D} {a : PyData} (f : Bool → Nat), toPy x = some a → as.map (fun z => PyData.eqv z a) = ds.map fun z => eqD z x := by
  induction ds generalizing as with
  | nil => intro x a f hx; simp only [toPys] at h; cases h; rfl
  | cons d ds ih =>
    intro x a f hx
    simp only [toPys] at h
    split at h
    · rename_i b bs e1 e2
      cases h
      simp only [List.map_cons, ih e2 f hx, eqv_eqD e1 hx]
    · cases h
theorem any_map' {α : Type} (p : α → Bool) (l : List α) : l.any p = (l.map p).any id := by rw [List.any_map]; rfl
theorem findIdx?_map' {α : Type} (p : α → Bool) (l : List α) : l.findIdx? p = (l.map p).findIdx? id := by rw [List.findIdx?_map]; rfl
theorem countP_map' {α : Type} (p : α → Bool) (l : List α) : l.countP p = (l.map p).countP id := by rw [List.countP_map]; rfl
/-! ### in, of data -/
def dInE (f : Bool → Bool) : DR2 := fun x y G R => match x, y with
  | .str a, .str b => dInW f (.str a) (.str b) G R
  | x, y => match seqOf G y with | some ds => pyD x = true ∧ pyDs ds = true ∧ depD x ≤ 60 ∧ R (.bl (f (ds.any fun z => eqD z x))) G | none => False
theorem in_dataV {op : CmpOp} {f : Bool → Bool} (hu : X.A.units + 100 < cLine)
    (hL : ∀ {s : Shared} {c x : Value} {xs : List PyData} {d : PyData} {as bs : List Addr} {Q : Value → Shared → Prop}, Reads s.heap c (.list xs) as → Reads s.heap x d bs → PyData.plainAll xs = true → d.plain = true → X.A.units + 1 + min (PyData.depthAll xs) d.depth < cLine → Q (.bool (f (xs.any fun y => PyData.eqv y d))) s → wpAny (model X.prog X.w) X.A (compareOp op x c) Q X.xe s)
    (hT : ∀ {s : Shared} {c x : Value} {xs : List PyData} {d : PyData} {as bs : List Addr} {Q : Value → Shared → Prop}, Reads s.heap c (.tuple xs) as → Reads s.heap x d bs → PyData.plainAll xs = true → d.plain = true → X.A.units + 1 + min (PyData.depthAll xs) d.depth < cLine → Q (.bool (f (xs.any fun y => PyData.eqv y d))) s → wpAny (model X.prog X.w) X.A (compareOp op x c) Q X.xe s) :
    OpR X (compareOp op) (upR2 X.K fun x y G R => match seqOf G y with | some ds => pyD x = true ∧ pyDs ds = true ∧ depD x ≤ 60 ∧ R (.bl (f (ds.any fun z => eqD z x))) G | none => False) := by
  intro pins s σ H x y v u Q I rx ry h
  obtain ⟨c, d, G, N, R, r1, r2, rg, h, q⟩ := h
  split at h
  · rename_i ds e
    obtain ⟨h1, h2, h3, h4⟩ := h
    obtain ⟨a, ea, pa, da⟩ := pure_one h1
    obtain ⟨as, es, ps⟩ := pure_list h2
    obtain ⟨_, rx'⟩ := Dp.reads I a x v (toPy_ok r1 ea) rx
    obtain ⟨p, vs, rfl, sq, rds⟩ := seqOf_ok rg r2 e
    have hroom : X.A.units + 1 + min (PyData.depthAll as) a.depth < cLine := by have := Nat.min_le_right (PyData.depthAll as) a.depth; omega
    have hres : (as.any fun y => PyData.eqv y a) = ds.any fun z => eqD z c := by rw [any_map', toPys_map es (fun _ => 0) ea, ← any_map']
    have fin : EP X pins σ Q (.bool (f (as.any fun y => PyData.eqv y a))) s := ⟨.bl _, H, I, rfl, by rw [hres]; exact q.at rg h4 (RD.bl _)⟩
    rcases sq with sq | sq
    · obtain ⟨_, ry'⟩ := Dp.reads I (.list as) (.ref p) u (.lst sq (toPys_ok rds es)) ry
      exact hL ry' rx' ps pa hroom fin
    · obtain ⟨_, ry'⟩ := Dp.reads I (.tuple as) (.ref p) u (.tup sq (toPys_ok rds es)) ry
      exact hT ry' rx' ps pa hroom fin
  · exact h.elim
theorem inE_of {f : Value → Value → Sem Value} {g : Bool → Bool} (h1 : OpD X f (dInW g)) (h2 : OpR X f (upR2 X.K fun x y G R => match seqOf G y with | some ds => pyD x = true ∧ pyDs ds = true ∧ depD x ≤ 60 ∧ R (.bl (g (ds.any fun z => eqD z x))) G | none => False)) : OpD X f (dInE g) :=
  opr_mono (OpR.or h1 h2) fun x y H Q h => by
    obtain ⟨c, d, G, N, R, r1, r2, rg, h, q⟩ := h
    unfold dInE at h
    split at h
    · exact .inl ⟨_, _, G, N, R, r1, r2, rg, h, q⟩
    · exact .inr ⟨c, d, G, N, R, r1, r2, rg, h, q⟩
theorem od_inE (hu : X.A.units + 100 < cLine) : OpD X (compareOp .In) (dInE id) := inE_of od_in (in_dataV hu (fun a b c d e h => SeqAt.in_list_data a b c d e h) fun a b c d e h => SeqAt.in_tuple_data a b c d e h)
theorem od_notInE (hu : X.A.units + 100 < cLine) : OpD X (compareOp .NotIn) (dInE not) := inE_of od_notIn (in_dataV hu (fun a b c d e h => SeqAt.notIn_list_data a b c d e h) fun a b c d e h => SeqAt.notIn_tuple_data a b c d e h)
/-! ### the order of data -/
def dCmpE (pi : Int → Int → Bool) (ps : Str → Str → Bool) (pk : Bool → Bool → Bool) : DR2 := fun x y G R => match x, y with
  | .int i, .int j => R (.bl (pi i j)) G
  | .str a, .str b => R (.bl (ps a b)) G
  | x, y => match toPy x, toPy y with | some a, some b => PySem.W.alike a b = true ∧ a ≠ .none ∧ a.depth ≤ 60 ∧ R (.bl (pk (PySem.W.dataLt a b) (PySem.W.dataLt b a))) G | _, _ => False
theorem cmpE_of {f : Value → Value → Sem Value} {pi : Int → Int → Bool} {ps : Str → Str → Bool} {pk : Bool → Bool → Bool} (hu : X.A.units + 100 < cLine) (h1 : OpD X f (dOrd pi ps))
    (h2 : ∀ {s : Shared} {a b : Value} {da db : PyData} {as bs : List Addr} {Q : Value → Shared → Prop}, Reads s.heap a da as → Reads s.heap b db bs → PySem.W.alike da db = true → da ≠ .none → X.A.units + min da.depth db.depth < cLine → Q (.bool (pk (PySem.W.dataLt da db) (PySem.W.dataLt db da))) s → wpAny (model X.prog X.w) X.A (f a b) Q X.xe s) : OpD X f (dCmpE pi ps pk) := by
  have h3 : OpR X f (upR2 X.K fun x y G R => match toPy x, toPy y with | some a, some b => PySem.W.alike a b = true ∧ a ≠ .none ∧ a.depth ≤ 60 ∧ R (.bl (pk (PySem.W.dataLt a b) (PySem.W.dataLt b a))) G | _, _ => False) := by
    intro pins s σ H x y v u Q I rx ry h
    obtain ⟨c, d, G, N, R, r1, r2, rg, h, q⟩ := h
    split at h
    · rename_i a b ea eb
      obtain ⟨h4, h5, h6, h7⟩ := h
      obtain ⟨_, rx'⟩ := Dp.reads I a x v (toPy_ok r1 ea) rx
      obtain ⟨_, ry'⟩ := Dp.reads I b y u (toPy_ok r2 eb) ry
      exact h2 rx' ry' h4 h5 (by have := Nat.min_le_left a.depth b.depth; omega) ⟨.bl _, H, I, rfl, q.at rg h7 (RD.bl _)⟩
    · exact h.elim
  exact opr_mono (OpR.or h1 h3) fun x y H Q h => by
    obtain ⟨c, d, G, N, R, r1, r2, rg, h, q⟩ := h
    unfold dCmpE at h
    split at h
    · exact .inl ⟨_, _, G, N, R, r1, r2, rg, h, q⟩
    · exact .inl ⟨_, _, G, N, R, r1, r2, rg, h, q⟩
    · exact .inr ⟨c, d, G, N, R, r1, r2, rg, h, q⟩
def dLtE : DR2 := dCmpE (fun i j => decide (i < j)) (fun a b => sLt a b) fun l _ => l
theorem od_ltE (hu : X.A.units + 100 < cLine) : OpD X (compareOp .Lt) dLtE := cmpE_of hu od_lt fun a b c d e h => PySem.W.lt_data a b c d e h
theorem ltE_key {i j : Int} {x y : Str} {G : Gp} {R : DK} : dLtE (.tup [.int i, .str x]) (.tup [.int j, .str y]) G R = R (.bl (ltK (i, x) (j, y))) G := by
  have e := lex_pyK (i, x) (j, y)
  show (PySem.W.alike _ _ = true ∧ _ ∧ _ ∧ R (.bl (PySem.W.dataLt (pyK (i, x)) (pyK (j, y)))) G) = _
  rw [show PySem.W.dataLt (pyK (i, x)) (pyK (j, y)) = ltK (i, x) (j, y) from e]
  refine propext ⟨fun h => h.2.2.2, fun h => ⟨rfl, by simp, ?_, h⟩⟩
  simp only [pyK, PyData.depth, PyData.depthAll]
  omega
theorem ltE_ii {i j : Int} {G : Gp} {R : DK} : dLtE (.int i) (.int j) G R = R (.bl (decide (i < j))) G := rfl
theorem ltE_ss {i j : Str} {G : Gp} {R : DK} : dLtE (.str i) (.str j) G R = R (.bl (sLt i j)) G := rfl
/-! ### count, index, remove .. -/
def dCount : D → List D → Gp → DK → Prop := fun x xs G R => match xs with
  | [y] => (match lstOf G x with | some ds => pyD y = true ∧ pyDs ds = true ∧ depD y ≤ 60 ∧ R (.int (ds.countP fun z => eqD z y : Nat)) G | none => False)
  | _ => False
theorem md_count (hu : X.A.units + 100 < cLine) : MtD X "list.count" dCount := by
  intro pins s σ H x xs v us Q I rx rxs h
  obtain ⟨c, cs, G, N, R, r1, r2, rg, h, q⟩ := h
  unfold dCount at h
  split at h
  · rename_i y
    split at h
    · rename_i ds e
      obtain ⟨h1, h2, h3, h4⟩ := h
      obtain ⟨vy, r, rfl, r3, r4⟩ := r2.of_cons
      obtain rfl := r4.of_nil
      obtain ⟨uy, rfl, ruy⟩ := vals1 rxs
      obtain ⟨p, vs, rfl, sq, rds⟩ := lstOf_ok rg r1 e
      cases rx
      obtain ⟨a, ea, pa, da⟩ := pure_one h1
      obtain ⟨as, es, ps⟩ := pure_list h2
      obtain ⟨_, ry⟩ := Dp.reads I a vy uy (toPy_ok r3 ea) ruy
      obtain ⟨its, rv, hl, hz⟩ := I.list sq
      obtain ⟨_, rl⟩ := Dp.readsAll I as vs its (toPys_ok rds es) rv
      have hroom : X.A.units + 1 + min (PyData.depthAll as) a.depth < cLine := by have := Nat.min_le_right (PyData.depthAll as) a.depth; omega
      refine SeqAt.count_list_data hl.isList (by simpa using rl) ry ps pa hroom ⟨.int _, H, I.tok _, ⟨_, rfl⟩, ?_⟩
      rw [countP_map', toPys_map es (fun _ => 0) ea, ← countP_map']
      exact q.at rg h4 (RD.int _)
    · exact h.elim
  · exact h.elim
/-- the first place of a thing -/
def dIndexT : D → List D → Gp → DK → Prop := fun x xs G R => match x, xs with
  | .nt zs, [.str z] => z ∈ zs ∧ R (.int (zs.idxOf z : Nat)) G
  | _, _ => False
theorem md_indexT : MtD X "tuple.index" dIndexT := md_of mt_tup_index fun c cs G N R x xs H Q r0 r1 rg h q => by
  unfold dIndexT at h
  split at h
  · rename_i zs z
    obtain ⟨p, rfl, s⟩ := r0.of_nt
    obtain ⟨vy, r, rfl, r3, r4⟩ := r1.of_cons
    obtain rfl := r4.of_nil
    obtain rfl := r3.of_str
    have hl := List.idxOf_lt_length_of_mem h.1
    refine ⟨p, zs, z, zs.idxOf z, rfl, rfl, s.sq, ?_, fun m hm e => ?_, q.at rg h.2 (RD.int _)⟩
    · rw [List.getElem?_eq_getElem hl, List.getElem_idxOf hl]
    · have hml : m < zs.length := by omega
      rw [List.getElem?_eq_getElem hml] at e
      have e' := Option.some.inj e
      have := List.not_of_lt_findIdx (p := fun y => y == z) (xs := zs) (i := m) hm
      rw [e'] at this
      simp at this
  · exact h.elim
def dIndexL : D → List D → Gp → DK → Prop := fun x xs G R => match xs with
  | [y] => (match lstOf G x with | some ds => pyD y = true ∧ pyDs ds = true ∧ depD y ≤ 60 ∧ (ds.any fun z => eqD z y) = true ∧ R (.int (ds.findIdx fun z => eqD z y : Nat)) G | none => False)
  | _ => False
theorem findIdx_of {α : Type} (p : α → Bool) (l : List α) : (l.map p).findIdx id = l.findIdx p := by rw [List.findIdx_map]; rfl
theorem md_indexL (hu : X.A.units + 100 < cLine) : MtD X "list.index" dIndexL := by
  intro pins s σ H x xs v us Q I rx rxs h
  obtain ⟨c, cs, G, N, R, r1, r2, rg, h, q⟩ := h
  unfold dIndexL at h
  split at h
  · rename_i y
    split at h
    · rename_i ds e
      obtain ⟨h1, h2, h3, h5, h4⟩ := h
      obtain ⟨vy, r, rfl, r3, r4⟩ := r2.of_cons
      obtain rfl := r4.of_nil
      obtain ⟨uy, rfl, ruy⟩ := vals1 rxs
      obtain ⟨p, vs, rfl, sq, rds⟩ := lstOf_ok rg r1 e
      cases rx
      obtain ⟨a, ea, pa, da⟩ := pure_one h1
      obtain ⟨as, es, ps⟩ := pure_list h2
      obtain ⟨_, ry⟩ := Dp.reads I a vy uy (toPy_ok r3 ea) ruy
      obtain ⟨its, rv, ⟨⟨cls, dd, data, sls⟩, n, ho, hc, hdn, hdt⟩, hz⟩ := I.list sq
      simp only at hc hdt
      subst hc hdt
      obtain ⟨az, rl⟩ := Dp.readsAll I as vs its (toPys_ok rds es) rv
      have rl' : ReadsAll s.heap its.toArray.toList as az := by simpa using rl
      have hroom : X.A.units + 1 + min (PyData.depthAll as) a.depth < cLine := by have := Nat.min_le_right (PyData.depthAll as) a.depth; omega
      have hmm := toPys_map es (fun _ => 0) ea
      have hf : as.findIdx (fun z => PyData.eqv z a) = ds.findIdx fun z => eqD z y := by rw [← findIdx_of, hmm, findIdx_of]
      have hany : (as.any fun z => PyData.eqv z a) = true := by rw [any_map', hmm, ← any_map']; exact h5
      have hp : SeqAt.dataPlace as a = some (ds.findIdx fun z => eqD z y) := by
        unfold SeqAt.dataPlace
        rw [← hf, List.findIdx?_eq_some_iff_findIdx_eq]
        refine ⟨List.findIdx_lt_length_of_exists ?_, rfl⟩
        simpa using hany
      obtain ⟨hj, hit, hno⟩ := SeqAt.hit_at rl' ps hp
      have hsl := sizeLine_eq
      refine call_meets PySem.F.slot_list_index ⟨_, ho, rfl⟩ PySem.F.entry_list_index (PySem.F.args_list_index_2 _ _) (SeqAt.list_indexAt p its.toArray n dd sls uy (fun u => PyData.eqv (SeqAt.readOf s.heap u) a) _ hj ?_ hit hno) ⟨ho, SeqAt.items_plain rl' ry ps pa hroom, ⟨.int _, H, I.tok _, ⟨_, rfl⟩, q.at rg h4 (RD.int _)⟩⟩
      have : its.toArray.size ≤ sizeLine := by rw [List.size_toArray, ← rv.length]; exact hz
      omega
    · exact h.elim
  · exact h.elim
end
end DL

set_option Elab.async false
set_option linter.all false
set_option maxRecDepth 100000
set_option maxHeartbeats 4000000
set_option autoImplicit false
namespace DL
open PySem PySem.Spec PyProof.Rows L2
section
variable {X : Cx}
/-! ### what changes lists -/
theorem UpQ.wr {K : PySem.W.Frag} {H : Hp} {N : Ns} {G : Gp} {R : DK} {Q : VK} (q : UpQ K H N G R Q) (rg : RelG K H N G) {a : Addr} {ds es : List D} {vs us : List V} {d : D} {v : V} (e : G a = some (.lst ds)) (hv : H a = some (.lst vs)) (rd : RDs K H N es us) (rv : RD K H N d v) (h : R d (gup G a (.lst es))) : Q v (upd H a (.lst us)) := by
  have kw := Kp.write (u := .lst us) (rg a _ e).1 hv rfl rfl
  exact q _ _ N _ _ h (Stp.write (u := .lst us) rg e hv rfl rfl ⟨_, upd_same, rd.le kw⟩) (rv.le kw)
def dPop : D → List D → Gp → DK → Prop := fun x xs G R => match x, xs with
  | .ref a, [] => atL (G a) fun ds => isN ds.getLast? fun d => R d (gup G a (.lst ds.dropLast))
  | _, _ => False
theorem last_get {α : Type} {xs : List α} {x : α} (h : xs.getLast? = some x) : xs[xs.length - 1]? = some x := by rw [← List.getLast?_eq_getElem?]; exact h
theorem md_pop : MtD X "list.pop" dPop := md_of (rv := rPop) (fun pins s σ H x xs v us Q I rx rxs q => mt_pop pins s σ H x xs v us Q I rx rxs q) fun c cs G N R x xs H Q r0 r1 rg h q => by
  unfold dPop at h
  split at h
  · rename_i a
    obtain rfl := r0.of_ref
    rw [r1.of_nil]
    unfold atL at h
    split at h
    · rename_i ds e
      unfold isN at h
      split at h
      · rename_i d ed
        obtain ⟨_, vs, hv, rd⟩ := rg a _ e
        obtain ⟨v, hvg, rv⟩ := rd.get (last_get ed)
        refine ⟨a, vs, v, rfl, rfl, hv, by rw [← rd.length]; exact hvg, q.wr rg e hv rd.dropLast rv h⟩
      · exact h.elim
    · exact h.elim
  · exact h.elim
def dPopAt : D → List D → Gp → DK → Prop := fun x xs G R => match x, xs with
  | .ref a, [.int i] => atL (G a) fun ds => 0 ≤ i ∧ i < 2 ^ 62 ∧ isN ds[i.toNat]? fun d => R d (gup G a (.lst (ds.eraseIdx i.toNat)))
  | _, _ => False
theorem md_popAt : MtD X "list.pop" dPopAt := md_of (rv := rPopAt) (fun pins s σ H x xs v us Q I rx rxs q => mt_popAt pins s σ H x xs v us Q I rx rxs q) fun c cs G N R x xs H Q r0 r1 rg h q => by
  unfold dPopAt at h
  split at h
  · rename_i a i
    obtain rfl := r0.of_ref
    obtain ⟨v, r, rfl, rv, rr⟩ := r1.of_cons
    rw [rr.of_nil, rv.of_int]
    unfold atL at h
    split at h
    · rename_i ds e
      obtain ⟨h1, h2, h⟩ := h
      unfold isN at h
      split at h
      · rename_i d ed
        obtain ⟨_, vs, hv, rd⟩ := rg a _ e
        obtain ⟨v, hvg, rv⟩ := rd.get ed
        have hl := (List.getElem?_eq_some_iff.mp hvg).1
        refine ⟨a, vs, i, i.toNat, v, rfl, rfl, hv, by omega, by omega, ?_, hvg, q.wr rg e hv (rd.eraseIdx _) rv h⟩
        unfold seqIndex?
        first
          | (simp; omega)
          | (split <;> simp_all <;> omega)
      · exact h.elim
    · exact h.elim
  · exact h.elim
def dReverse : D → List D → Gp → DK → Prop := fun x xs G R => match x, xs with
  | .ref a, [] => atL (G a) fun ds => R .non (gup G a (.lst ds.reverse))
  | _, _ => False
theorem md_reverse : MtD X "list.reverse" dReverse := md_of (rv := rReverse) (fun pins s σ H x xs v us Q I rx rxs q => mt_reverse pins s σ H x xs v us Q I rx rxs q) fun c cs G N R x xs H Q r0 r1 rg h q => by
  unfold dReverse at h
  split at h
  · rename_i a
    obtain rfl := r0.of_ref
    rw [r1.of_nil]
    unfold atL at h
    split at h
    · rename_i ds e
      obtain ⟨_, vs, hv, rd⟩ := rg a _ e
      exact ⟨a, vs, rfl, rfl, hv, q.wr rg e hv rd.reverse RD.non h⟩
    · exact h.elim
  · exact h.elim
def dClear : D → List D → Gp → DK → Prop := fun x xs G R => match x, xs with
  | .ref a, [] => atL (G a) fun _ => R .non (gup G a (.lst []))
  | _, _ => False
theorem md_clear : MtD X "list.clear" dClear := md_of (rv := rClear) (fun pins s σ H x xs v us Q I rx rxs q => mt_clear pins s σ H x xs v us Q I rx rxs q) fun c cs G N R x xs H Q r0 r1 rg h q => by
  unfold dClear at h
  split at h
  · rename_i a
    obtain rfl := r0.of_ref
    rw [r1.of_nil]
    unfold atL at h
    split at h
    · rename_i ds e
      obtain ⟨_, vs, hv, rd⟩ := rg a _ e
      exact ⟨a, vs, rfl, rfl, hv, q.wr rg e hv RDs.nil RD.non h⟩
    · exact h.elim
  · exact h.elim
def dInsert : D → List D → Gp → DK → Prop := fun x xs G R => match x, xs with
  | .ref a, [.int i, y] => atL (G a) fun ds => ds.length < sizeLine ∧ 0 ≤ i ∧ i < 2 ^ 63 ∧ R .non (gup G a (.lst (ds.take i.toNat ++ [y] ++ ds.drop i.toNat)))
  | _, _ => False
theorem md_insert : MtD X "list.insert" dInsert := md_of mt_insert fun c cs G N R x xs H Q r0 r1 rg h q => by
  unfold dInsert at h
  split at h
  · rename_i a i y
    obtain rfl := r0.of_ref
    obtain ⟨v, r, rfl, rv, rr⟩ := r1.of_cons
    obtain ⟨v2, r2, rfl, rv2, rr2⟩ := rr.of_cons
    rw [rr2.of_nil, rv.of_int]
    unfold atL at h
    split at h
    · rename_i ds e
      obtain ⟨h0, h1, h2, h⟩ := h
      obtain ⟨_, vs, hv, rd⟩ := rg a _ e
      exact ⟨a, vs, i, v2, rfl, rfl, hv, by rw [← rd.length]; exact h0, h1, h2, q.wr rg e hv (((rd.take _).append (RDs.cons rv2 RDs.nil)).append (rd.drop _)) RD.non h⟩
    · exact h.elim
  · exact h.elim
/-- the first thing that is the same goes -/
def dRemove : D → List D → Gp → DK → Prop := fun x xs G R => match x, xs with
  | .ref p, [y] => atL (G p) fun ds => pyD y = true ∧ pyDs ds = true ∧ depD y ≤ 60 ∧ (ds.any fun z => eqD z y) = true ∧ R .non (gup G p (.lst (ds.eraseIdx (ds.findIdx fun z => eqD z y))))
  | _, _ => False
theorem md_remove (hu : X.A.units + 100 < cLine) : MtD X "list.remove" dRemove := by
  intro pins s σ H x xs v us Q I rx rxs h
  obtain ⟨c, cs, G, N, R, r1, r2, rg, h, q⟩ := h
  unfold dRemove at h
  split at h
  · rename_i p y
    unfold atL at h
    split at h
    · rename_i ds e
      obtain ⟨h1, h2, h3, h5, h4⟩ := h
      obtain ⟨vy, r, rfl, r3, r4⟩ := r2.of_cons
      obtain rfl := r4.of_nil
      obtain ⟨uy, rfl, ruy⟩ := vals1 rxs
      obtain rfl := r1.of_ref
      cases rx
      obtain ⟨_, vs, hv, rds⟩ := rg p _ e
      obtain ⟨a, ea, pa, da⟩ := pure_one h1
      obtain ⟨as, es, ps⟩ := pure_list h2
      obtain ⟨_, ry⟩ := Dp.reads I a vy uy (toPy_ok r3 ea) ruy
      obtain ⟨hz, its, n, rv, ho⟩ := I.hok p _ hv
      obtain ⟨az, rl⟩ := Dp.readsAll I as vs its (toPys_ok rds es) rv
      have rl' : ReadsAll s.heap its.toArray.toList as az := by simpa using rl
      have hroom : X.A.units + 1 + min (PyData.depthAll as) a.depth < cLine := by have := Nat.min_le_right (PyData.depthAll as) a.depth; omega
      have hmm := toPys_map es (fun _ => 0) ea
      have hf : as.findIdx (fun z => PyData.eqv z a) = ds.findIdx fun z => eqD z y := by rw [← findIdx_of, hmm, findIdx_of]
      have hany : (as.any fun z => PyData.eqv z a) = true := by rw [any_map', hmm, ← any_map']; exact h5
      have hp : SeqAt.dataPlace as a = some (ds.findIdx fun z => eqD z y) := by
        unfold SeqAt.dataPlace
        rw [← hf, List.findIdx?_eq_some_iff_findIdx_eq]
        refine ⟨List.findIdx_lt_length_of_exists ?_, rfl⟩
        simpa using hany
      generalize (ds.findIdx fun z => eqD z y) = j at hp h4
      have hisz : its.length ≤ sizeLine := by rw [← rv.length]; exact hz
      refine SeqAt.remove_list_data (j := j) ⟨_, ho, rfl, n, rfl⟩ rl' ry ps pa hroom hp (by rw [List.size_toArray]; exact hisz) ?_
      have hs2 := Heap.SameBut.update s.heap p (Obj.mapSeq fun ys => ys.eraseIdxIfInBounds j)
      obtain ⟨c2, hc2⟩ : ∃ c2, (s.heap.update p (Obj.mapSeq fun ys => ys.eraseIdxIfInBounds j)).get? p = some (seqObj "list" (its.toArray.eraseIdxIfInBounds j) c2) := ⟨_, get?_update_seq ho (fun ys => ys.eraseIdxIfInBounds j)⟩
      have e2 : its.toArray.eraseIdxIfInBounds j = (its.eraseIdx j).toArray := by simp
      rw [e2] at hc2
      have rv2 : Vals (vs.eraseIdx j) (its.eraseIdx j) := by
        have : ∀ {as : List V} {bs : List Value} (j : Nat), Vals as bs → Vals (as.eraseIdx j) (bs.eraseIdx j) := by
          intro as
          induction as with
          | nil => intro bs j r; cases r; exact .nil
          | cons a as ih =>
            intro bs j r
            cases r with
            | cons r1 r2 =>
              cases j with
              | zero => exact r2
              | succ j => exact .cons r1 (ih j r2)
        exact this j rv
      have hz2 : (vs.eraseIdx j).length ≤ sizeLine := Nat.le_trans (List.length_eraseIdx_le ..) hz
      refine ⟨.non, upd H p (.lst (vs.eraseIdx j)), I.write (t' := s.toks) (e := p) (x := p) (by rw [hv]; trivial) (.inl rfl) (fun b o hb hq => (hs2.2 b hb).trans hq) ⟨_, hc2⟩ ⟨hz2, _, c2, rv2, hc2⟩, rfl, ?_⟩
      exact q.wr rg e hv (rds.eraseIdx j) RD.non h4
    · exact h.elim
  · exact h.elim
/-! ### a new tuple of texts -/
def dTupleN : DRn := fun cs G R => match cs with | [x] => (match (lstOf G x).bind strsOf with | some zs => R (.nt zs) G | none => False) | _ => False
theorem cd_tupleN : CallD X (.type "tuple") dTupleN := by
  intro pins s σ H xs us Q I r h
  obtain ⟨cs, G, N, R, r1, rg, h, q⟩ := h
  unfold dTupleN at h
  split at h
  · rename_i x
    split at h
    · rename_i zs e
      obtain ⟨v, r', rfl, rx, rn⟩ := r1.of_cons
      obtain rfl := rn.of_nil
      obtain ⟨u, rfl, ru⟩ := vals1 r
      cases ex : lstOf G x with
      | none => rw [ex] at e; cases e
      | some ds =>
        rw [ex] at e
        obtain ⟨p, vs, rfl, sq, rds⟩ := lstOf_ok rg rx ex
        cases ru
        have hds := strsOf_ok e
        subst hds
        obtain rfl := rds.of_strs
        obtain ⟨its, rv, pl, hz⟩ := I.list sq
        have hlen := rv.length
        refine call_tuple_list pl.isList (fun h' kp => ?_) (by simp only [List.size_toArray] <;> omega)
        have I1 : L2.Inv X pins σ H { s with heap := h' } := I.kept (t' := s.toks) kp
        have hn : H h'.objs.size = none := I1.hok.fresh (Nat.le_refl _)
        have I2 : L2.Inv X pins σ (upd H h'.objs.size (.frz { cls := .type "tuple", data := .seq its.toArray } (.tup (zs.map V.str)))) { s with heap := h'.push { cls := .type "tuple", data := .seq its.toArray } } :=
          I1.laid (t' := s.toks) (fun b o e => Heap.get?_push_of_some _ e) (Nat.le_refl _) ⟨Heap.get?_push_size _ rfl, show ObjOk X.prog X.w _ _ _ (.tup _) from ⟨hz, its, rv, IsTup.new _ _⟩⟩
        refine ⟨.ref h'.objs.size, _, I2, rfl, q _ _ _ _ _ h (Stp.new0 rg hn) ?_⟩
        simp only [RD]
        exact ⟨_, rfl, .inl ⟨_, upd_same, rfl, rfl⟩⟩
    · exact h.elim
  · exact h.elim
/-- a module's tuple of texts -/
theorem kc_nt {K : PySem.W.Frag} {p : Addr} {its : Array Value} {n : Nat} {sl : Array (Option Value)} (zs : List Str) (l : K.lookup p = some ⟨.type "tuple", none, .seq its n, sl⟩) (h : Vals (zs.map V.str) its.toList) (hz : its.size ≤ sizeLine) : Kc K (.nt zs) (.ref p) :=
  ⟨.ref p, rfl, fun H N => by simp only [RD]; exact ⟨_, rfl, .inr ⟨_, its, n, l, rfl, rfl, rfl, hz, h⟩⟩⟩
/-! ### a def in a local name, one of several -/
variable {x : Str} {i k : Nat} {e : Expr} {es : List Expr} {t : DA} {p pos : Pos}
def dCallA (i : Nat) (S : Addr → Option DSp) (t : DA) : DE := fun σ G R => match σ[i]? with | some (some (.ref f)) => (match S f with | some sp => t σ G fun ds G1 => sp ds G1 R | none => False) | _ => False
theorem qe_callA {S : Addr → Option DSp} (A : ∀ f sp, S f = some sp → Held X.prog X.w X.K X.mg X.base k f (upSp X.K sp)) (hr : Room k X.A) (hN : X.N[i]? = some x) (hv : Vis X.env.scope x) (ha : QA X (e :: es) t)
    (hdb : (x == ("__debug__" : Str)) = false := by decide) (hcd : (x == ("__classdict__" : Str)) = false := by decide)
    (he : starEach (e :: es) X.env = (false, eval e X.env) :: starEach es X.env := by rfl) (hpl : (backTo pos (starEach es X.env)).any (·.1) = false := by rfl) : QE X (.Call (.Name x p) (e :: es) [] pos) (dCallA i S t) := by
  refine pe_mono (pe_callA (S := fun f => (S f).map (upSp X.K)) (fun f sp h => ?_) hr hN hv ha hdb hcd he hpl) fun τ H Q h => ?_
  · cases es : S f with
    | none => rw [es] at h; cases h
    | some sp' => rw [es] at h; cases h; exact A f sp' es
  · obtain ⟨σ, G, N, R, hs, hg, ht, q⟩ := h
    unfold dCallA at ht
    split at ht
    · rename_i f e
      obtain ⟨v, h1, h2⟩ := hs.2 i _ e
      obtain rfl := h2.of_ref
      split at ht
      · rename_i sp es
        refine ⟨f, upSp X.K sp, h1, by simp only [es, Option.map_some], σ, G, N, _, hs, hg, ht, fun ds G1 N1 vs H1 h3 s1 r1 => ?_⟩
        exact ⟨ds, G1, N1, R, r1, s1.rel, h3, q.le s1⟩
      · exact ht.elim
    · exact ht.elim
end
end DL

set_option Elab.async false
set_option linter.all false
set_option maxRecDepth 100000
set_option maxHeartbeats 4000000
set_option autoImplicit false
namespace DL
open PySem PySem.Spec PyProof.Rows L2
section
variable {σ : Sd} {G : Gp} {R : DK} {ta : DE} {tr : DA}
theorem x_mX {T : String} {r : D → List D → Gp → DK → Prop} : dMX T r ta tr σ G R = ta σ G fun x G1 => mtyX G1 x = some T ∧ tr σ G1 fun ds G2 => r x ds G2 R := rfl
theorem ix_n {zs : List Str} {i : Int} : dIx (.nt zs) (.int i) G R = isN (atI (zs.map .str) i) fun d => R d G := rfl
theorem x_sortK {mk : Bool} {sp : DSp} : dSortK mk sp ta σ G R = ta σ G fun x G1 => dSortK1 mk sp x G1 R := rfl
theorem len_nt {zs : List Str} : dLen [.nt zs] G R = R (.int zs.length) G := by
  show R (.int (zs.map D.str).length) G = _
  rw [List.length_map]
theorem app_r {a : Addr} {y : D} : dAppend (.ref a) [y] G R = atL (G a) fun ds => ds.length < sizeLine ∧ R .non (gup G a (.lst (ds ++ [y]))) := rfl
theorem int_b {b : Bool} : dInt [.bl b] G R = R (.int (if b then 1 else 0)) G := rfl
theorem int_i {i : Int} : dInt [.int i] G R = R (.int i) G := rfl
theorem strI_i {i : Int} : dStrI [.int i] G R = (i.natAbs.log2 < 1920 ∧ R (.str (toString i)) G) := rfl
def dStrX : DRn := fun cs G R => match cs with | [.str z] => R (.str z) G | cs => dStrI cs G R
theorem strX_i {i : Int} : dStrX [.int i] G R = (i.natAbs.log2 < 1920 ∧ R (.str (toString i)) G) := rfl
theorem strX_s {z : Str} : dStrX [.str z] G R = R (.str z) G := rfl
theorem callr_or {X : Cx} {f : Value} {r1 r2 : List V → Hp → VK → Prop} (h1 : CallR X f r1) (h2 : CallR X f r2) : CallR X f fun xs H Q => r1 xs H Q ∨ r2 xs H Q := fun pins s σ H xs us Q I r h => h.elim (h1 pins s σ H xs us Q I r) (h2 pins s σ H xs us Q I r)
theorem cd_strX {X : Cx} : CallD X (.type "str") dStrX := callr_mono (callr_or (cd_strI (X := X)) (SkE.call_str_str (X := X))) fun xs H Q h => by
  obtain ⟨cs, G, N, R, r1, rg, h, q⟩ := h
  unfold dStrX at h
  split at h
  · obtain ⟨v, r, rfl, r2, r3⟩ := r1.of_cons
    rw [r3.of_nil, r2.of_str]
    exact .inr ⟨_, rfl, q.at rg h (RD.str _)⟩
  · exact .inl ⟨cs, G, N, R, r1, rg, h, q⟩
theorem log_small {k : Nat} (h : k ≤ 100000) : ((k : Int).natAbs).log2 < 1920 := by
  rw [Int.natAbs_natCast]
  by_cases e : k = 0
  · subst e; decide
  · have h1 : k < 2 ^ 1920 := Nat.lt_of_le_of_lt h (by decide +kernel)
    exact (Nat.log2_lt e).mpr h1
end
theorem ofString_inj {a b : String} : (Str.ofString a = Str.ofString b) = (a = b) := by
  refine propext ⟨fun h => ?_, fun h => by rw [h]⟩
  rw [Str.ofString_eq_toList, Str.ofString_eq_toList] at h
  have h1 : a.toList.map Char.toNat = b.toList.map Char.toNat := congrArg (fun s : Str => s.cps.toList) h
  have inj : ∀ l m : List Char, l.map Char.toNat = m.map Char.toNat → l = m := by
    intro l
    induction l with
    | nil => intro m e; cases m <;> simp_all
    | cons c l ih =>
      intro m e
      cases m with
      | nil => simp at e
      | cons d m =>
        simp only [List.map_cons, List.cons.injEq] at e
        have : c = d := Char.toNat_inj.mp e.1
        rw [this, ih m e.2]
  exact String.toList_inj.mp (inj _ _ h1)
theorem len_lit {a : String} : (Str.ofString a).length = a.length := by
  rw [Str.ofString_eq_toList]
  unfold Str.length
  simp [String.length_toList]
theorem len_num {k : Nat} (h : k ≤ 1000) : (Str.ofString (toString (k : Int))).length ≤ 5 := by
  rw [len_lit]
  exact int_text_length_le10 (a := (k : Int)) (k := 4) (by decide) (by rw [Int.natAbs_natCast]; omega)
theorem len_app (a b : Str) : (a ++ b).length = a.length + b.length := by
  rw [← cds_len, ← cds_len, ← cds_len, cds_app, List.length_append]
theorem lc_cons {g : DG} {c : DT} {ta : DE} {σ : Sd} {gd : Gp → Prop} {x : D} {xs acc : List D} {G : Gp} {Q : List D → Gp → Prop} (h : gd G ∧ g x σ G fun σ2 G2 => c σ2 G2 fun b G3 => br b (ta σ2 G3 fun y G4 => dLcGo g c ta gd σ xs (acc ++ [y]) G4 Q) (dLcGo g c ta gd σ xs acc G3 Q)) : dLcGo g c ta gd σ (x :: xs) acc G Q := h
theorem for_cons {g : DG} {t : DS} {gd : Gp → Prop} {E : DEnds} {x : D} {xs : List D} {σ : Sd} {G : Gp} (h : gd G ∧ g x σ G fun σ2 G2 => t { E with nx := Kont (dForGo g t gd E xs), ct := Kont (dForGo g t gd E xs), bk := E.nx } σ2 G2) : dForGo g t gd E (x :: xs) σ G := h
theorem join_l {sep : Str} {G : Gp} {R : DK} {ds : List D} {zs : List Str} (e : strsOf ds = some zs) : dJoin (.str sep) [.lst ds] G R = ((zs.map fun z : Str => z.length).sum + zs.length * sep.length ≤ 16777216 ∧ R (.str (Txt.join sep zs)) G) := by
  show (match (seqOf G (.lst ds)).bind strsOf with | some ys => (ys.map fun z : Str => z.length).sum + ys.length * sep.length ≤ 16777216 ∧ R (.str (Txt.join sep ys)) G | none => False) = _
  have : (seqOf G (.lst ds)).bind strsOf = some zs := e
  rw [this]
theorem join_go {sep : Str} {G : Gp} {R : DK} {ds : List D} {zs : List Str} (e : strsOf ds = some zs) (hl : (zs.map fun z : Str => z.length).sum + zs.length * sep.length ≤ 16777216) (h : R (.str (Txt.join sep zs)) G) : dJoin (.str sep) [.lst ds] G R := by
  rw [join_l e]; exact ⟨hl, h⟩
theorem strsOf_strs (zs : List Str) : strsOf (zs.map D.str) = some zs := by
  induction zs with
  | nil => rfl
  | cons z zs ih => simp only [List.map_cons, strsOf, ih]
end DL

set_option Elab.async false
set_option linter.all false
set_option maxRecDepth 100000
set_option maxHeartbeats 4000000
set_option autoImplicit false
namespace DL
open PySem PySem.Spec PyProof.Rows L2
section
variable {X : Cx}
/-! ### isinstance(x, (a, b)) -/
def dIsiX : DRn := fun cs G R => match cs with
  | [x, .tup [.ty m, .ty n]] => m ∈ knownTy ∧ n ∈ knownTy ∧ (match tyD G x with | some t => R (.bl (isTy t m || isTy t n)) G | none => False)
  | cs => dIsi cs G R
theorem cd_isiX : CallD X (.builtin "isinstance") dIsiX := by
  intro pins s σ H xs us Q I r h
  obtain ⟨cs, G, N, R, rd, rg, h, q⟩ := h
  unfold dIsiX at h
  split at h
  · rename_i x m n
    obtain ⟨hm, hn, h⟩ := h
    obtain ⟨v, r', rfl, r1, r2⟩ := rd.of_cons
    obtain ⟨v', r'', rfl, r3, r4⟩ := r2.of_cons
    obtain rfl := r4.of_nil
    split at h
    · rename_i t et
      obtain ⟨ty, mt⟩ := tyD_ok rg r1 et
      obtain ⟨u1, u2, rfl, ru1, ru2⟩ := vals2 r
      obtain ⟨tp, vs, rfl, sq, rvs⟩ := r3.of_tup
      cases (show u2 = Value.ref tp from ru2)
      obtain ⟨a1, r5, rfl, e1, r6⟩ := rvs.of_cons
      obtain ⟨a2, r7, rfl, e2, r8⟩ := r6.of_cons
      obtain rfl := r8.of_nil
      obtain rfl := e1.of_ty
      obtain rfl := e2.of_ty
      obtain ⟨P, Z, p, hx⟩ := kit_of I ru1 ty
      obtain ⟨its, rv, ⟨o, h1, h2, k, h3⟩, _⟩ := I.tuple sq
      have e3 := ClsV.all (.cons (.ty m) (.cons (.ty n) .nil)) rv
      subst e3
      obtain ⟨oc, od, dt, sl⟩ := o
      simp only at h2 h3
      subst h2 h3
      have k1 := kit_ty (K := X.K) (kits t mt m hm)
      have k2 := kit_ty (K := X.K) (kits t mt n hn)
      refine PySem.W.kia_tup Z I.kIn p h1 (b := isTy t m || isTy t n) ?_ hx fun tk => ⟨.bl _, H, I.tok tk, rfl, q.at rg h (RD.bl _)⟩
      simp only [PySem.W.kitAny, k1, k2]
      cases isTy t m <;> cases isTy t n <;> rfl
    · exact h.elim
  · exact cd_isi pins s σ H xs us Q I r ⟨cs, G, N, R, rd, rg, h, q⟩
variable {G : Gp} {R : DK} {n m : String} {i : Int} {z : Str} {b : Bool} {ds : List D} {zs : List Str} {p : Addr}
theorem isi_i : dIsiX [.int i, .ty n] G R = (n ∈ knownTy ∧ R (.bl (isTy "int" n)) G) := rfl
theorem isi_s : dIsiX [.str z, .ty n] G R = (n ∈ knownTy ∧ R (.bl (isTy "str" n)) G) := rfl
theorem isi_b : dIsiX [.bl b, .ty n] G R = (n ∈ knownTy ∧ R (.bl (isTy "bool" n)) G) := rfl
theorem isi_n : dIsiX [.non, .ty n] G R = (n ∈ knownTy ∧ R (.bl (isTy "NoneType" n)) G) := rfl
theorem isi_t : dIsiX [.tup ds, .ty n] G R = (n ∈ knownTy ∧ R (.bl (isTy "tuple" n)) G) := rfl
theorem isi_nt : dIsiX [.nt zs, .ty n] G R = (n ∈ knownTy ∧ R (.bl (isTy "tuple" n)) G) := rfl
theorem isi_l : dIsiX [.lst ds, .ty n] G R = (n ∈ knownTy ∧ R (.bl (isTy "list" n)) G) := rfl
theorem isi2_i : dIsiX [.int i, .tup [.ty m, .ty n]] G R = (m ∈ knownTy ∧ n ∈ knownTy ∧ R (.bl (isTy "int" m || isTy "int" n)) G) := rfl
theorem isi2_s : dIsiX [.str z, .tup [.ty m, .ty n]] G R = (m ∈ knownTy ∧ n ∈ knownTy ∧ R (.bl (isTy "str" m || isTy "str" n)) G) := rfl
theorem isi2_b : dIsiX [.bl b, .tup [.ty m, .ty n]] G R = (m ∈ knownTy ∧ n ∈ knownTy ∧ R (.bl (isTy "bool" m || isTy "bool" n)) G) := rfl
theorem isi2_n : dIsiX [.non, .tup [.ty m, .ty n]] G R = (m ∈ knownTy ∧ n ∈ knownTy ∧ R (.bl (isTy "NoneType" m || isTy "NoneType" n)) G) := rfl
theorem isi2_t : dIsiX [.tup ds, .tup [.ty m, .ty n]] G R = (m ∈ knownTy ∧ n ∈ knownTy ∧ R (.bl (isTy "tuple" m || isTy "tuple" n)) G) := rfl
theorem isi2_nt : dIsiX [.nt zs, .tup [.ty m, .ty n]] G R = (m ∈ knownTy ∧ n ∈ knownTy ∧ R (.bl (isTy "tuple" m || isTy "tuple" n)) G) := rfl
theorem isi2_l : dIsiX [.lst ds, .tup [.ty m, .ty n]] G R = (m ∈ knownTy ∧ n ∈ knownTy ∧ R (.bl (isTy "list" m || isTy "list" n)) G) := rfl
theorem kt1 : ("int" ∈ knownTy) = True := by decide
theorem kt2 : ("bool" ∈ knownTy) = True := by decide
theorem kt3 : ("str" ∈ knownTy) = True := by decide
theorem kt4 : ("tuple" ∈ knownTy) = True := by decide
theorem kt5 : ("list" ∈ knownTy) = True := by decide
theorem kt6 : ("dict" ∈ knownTy) = True := by decide
end
/-! ### slices by numbers -/
theorem cut1 {α : Type} {a : α} {xs : List α} : cutL (a :: xs) (some 1) none = xs := by
  unfold cutL; simp [HT.sIx]
theorem cut2 {α : Type} {a b : α} {xs : List α} : cutL (a :: b :: xs) (some 2) none = xs := by
  unfold cutL; simp [HT.sIx]
/-! ### local lists -/
section
variable {G : Gp} {R : DK} {p : Addr} {d : D} {o : GO} {ds : List D}
theorem rt_drop (hp : G p = none) (h : R d G) : Rt R d (gup G p o) := ret_sub (Sub.new hp) h
theorem mty_up : mty (gup G p (.lst ds)) (.ref p) = some "list" := by unfold mty; simp only [gup_same]
theorem mty_at (e : G p = some (.lst ds)) : mty G (.ref p) = some "list" := by unfold mty; simp only [e]
theorem rt_lst (hp : G p = none) (h : R (.lst ds) G) : Rt R (.ref p) (gup G p (.lst ds)) := ret_lst gup_same (Sub.new hp) hp h
theorem join_gor {sep : Str} {zs : List Str} (e : G p = some (.lst ds)) (e2 : strsOf ds = some zs) (hl : (zs.map fun z : Str => z.length).sum + zs.length * sep.length ≤ 16777216) (h : R (.str (Txt.join sep zs)) G) : dJoin (.str sep) [.ref p] G R := by
  have : (seqOf G (.ref p)).bind strsOf = some zs := by
    have e3 : seqOf G (.ref p) = some ds := by unfold seqOf lstOf; simp only [e]
    rw [e3]; exact e2
  show (match (seqOf G (.ref p)).bind strsOf with | some ys => (ys.map fun z : Str => z.length).sum + ys.length * sep.length ≤ 16777216 ∧ R (.str (Txt.join sep ys)) G | none => False)
  rw [this]
  exact ⟨hl, h⟩
end
end DL

set_option Elab.async false
set_option linter.all false
set_option maxRecDepth 100000
set_option maxHeartbeats 4000000
set_option autoImplicit false
namespace DL
open PySem PySem.Spec PyProof.Rows L2
/-! ### the order of keys -/
theorem sLt_irrefl (a : Str) : sLt a a = false := by unfold sLt; simp [List.lt_irrefl]
theorem sLt_trans {a b c : Str} (h1 : sLt a b = true) (h2 : sLt b c = true) : sLt a c = true := by
  unfold sLt at *
  simp only [decide_eq_true_eq] at *
  exact List.lt_trans h1 h2
theorem sLt_tri (a b : Str) : sLt a b = true ∨ a = b ∨ sLt b a = true := by
  unfold sLt
  simp only [decide_eq_true_eq]
  by_cases h1 : a.cps.toList < b.cps.toList
  · exact .inl h1
  · by_cases h2 : b.cps.toList < a.cps.toList
    · exact .inr (.inr h2)
    · refine .inr (.inl (cds_inj ?_))
      exact List.le_antisymm (List.not_lt.mp h2) (List.not_lt.mp h1)
theorem ltK_irrefl (a : Int × Str) : ltK a a = false := by unfold ltK; simp [sLt_irrefl]
theorem ltK_iff {a b : Int × Str} : ltK a b = true ↔ a.1 < b.1 ∨ (a.1 = b.1 ∧ sLt a.2 b.2 = true) := by
  unfold ltK; simp
theorem ltK_trans {a b c : Int × Str} (h1 : ltK a b = true) (h2 : ltK b c = true) : ltK a c = true := by
  rw [ltK_iff] at *
  rcases h1 with h1 | ⟨e1, h1⟩
  · rcases h2 with h2 | ⟨e2, h2⟩
    · left; omega
    · left; omega
  · rcases h2 with h2 | ⟨e2, h2⟩
    · left; omega
    · right; exact ⟨by omega, sLt_trans h1 h2⟩
theorem ltK_tri (a b : Int × Str) : ltK a b = true ∨ a = b ∨ ltK b a = true := by
  rw [ltK_iff, ltK_iff]
  rcases Int.lt_trichotomy a.1 b.1 with h | h | h
  · exact .inl (.inl h)
  · rcases sLt_tri a.2 b.2 with h2 | h2 | h2
    · exact .inl (.inr ⟨h, h2⟩)
    · exact .inr (.inl (Prod.ext h h2))
    · exact .inr (.inr (.inr ⟨h.symm, h2⟩))
  · exact .inr (.inr (.inl h))
theorem leK_trans {a b c : Int × Str} (h1 : leK a b = true) (h2 : leK b c = true) : leK a c = true := by
  unfold leK at *
  simp only [Bool.not_eq_true'] at *
  cases h : ltK c a with
  | false => rfl
  | true =>
    rcases ltK_tri a b with h3 | h3 | h3
    · rw [ltK_trans h h3] at h2; cases h2
    · rw [h3] at h; rw [h] at h2; cases h2
    · rw [h3] at h1; cases h1
theorem leK_total (a b : Int × Str) : (leK a b || leK b a) = true := by
  unfold leK
  cases h1 : ltK b a with
  | false => rfl
  | true =>
    cases h2 : ltK a b with
    | false => rfl
    | true => have := ltK_trans h1 h2; rw [ltK_irrefl] at this; cases this
/-! ### choosing the first least one, again and again, sorts -/
section
variable {α : Type} {le : α → α → Bool} (tr : ∀ a b c, le a b = true → le b c = true → le a c = true) (to : ∀ a b, (le a b || le b a) = true)
theorem split_eq {p : α → Bool} : ∀ {A B C E : List α}, A ++ B = C ++ E → (∀ x ∈ A, p x = true) → (∀ x ∈ C, p x = true) → (∀ x ∈ B, p x = false) → (∀ x ∈ E, p x = false) → A = C ∧ B = E
  | [], B, [], E, h, _, _, _, _ => ⟨rfl, h⟩
  | [], B, c :: C, E, h, _, hC, hB, _ => by
    have e : B = c :: (C ++ E) := h
    have h1 := hB c (by rw [e]; simp)
    rw [hC c (by simp)] at h1; cases h1
  | a :: A, B, [], E, h, hA, _, _, hE => by
    have e : a :: (A ++ B) = E := h
    have h1 := hE a (by rw [← e]; simp)
    rw [hA a (by simp)] at h1; cases h1
  | a :: A, B, c :: C, E, h, hA, hC, hB, hE => by
    have e := List.cons.inj (show a :: (A ++ B) = c :: (C ++ E) from h)
    obtain ⟨h1, h2⟩ := split_eq e.2 (fun x hx => hA x (List.mem_cons_of_mem _ hx)) (fun x hx => hC x (List.mem_cons_of_mem _ hx)) hB hE
    exact ⟨by rw [e.1, h1], h2⟩
include tr to in
theorem sort_least {m : α} {l2 : List α} (h2 : ∀ x ∈ l2, le m x = true) : ∀ (l1 : List α), (∀ x ∈ l1, le x m = false) → (l1 ++ m :: l2).mergeSort le = m :: (l1 ++ l2).mergeSort le
  | [], _ => by
    obtain ⟨A, B, e1, e2, h3⟩ := List.mergeSort_cons (le := le) tr to m l2
    have : A = [] := by
      cases A with
      | nil => rfl
      | cons a A =>
        have hm : a ∈ l2 := by
          have : a ∈ l2.mergeSort le := by rw [e2]; simp
          exact (List.mergeSort_perm l2 le).mem_iff.mp this
        have := h3 a (by simp)
        rw [h2 a hm] at this; cases this
    subst this
    rw [List.nil_append, List.nil_append, e1, e2]; rfl
  | x :: l1, h1 => by
    have hx := h1 x (by simp)
    have ih := sort_least h2 l1 fun y hy => h1 y (List.mem_cons_of_mem _ hy)
    obtain ⟨A, B, e1, e2, h3⟩ := List.mergeSort_cons (le := le) tr to x (l1 ++ m :: l2)
    obtain ⟨C, E, e3, e4, h4⟩ := List.mergeSort_cons (le := le) tr to x (l1 ++ l2)
    have srt := List.pairwise_mergeSort tr to (x :: (l1 ++ m :: l2))
    have srt2 := List.pairwise_mergeSort tr to (x :: (l1 ++ l2))
    rw [e1] at srt
    rw [e3] at srt2
    rw [ih] at e2
    cases A with
    | nil =>
      simp only [List.nil_append] at e2 srt
      rw [← e2] at srt
      have := (List.pairwise_cons.mp srt).1 m (by simp)
      rw [hx] at this; cases this
    | cons a A =>
      have ea := List.cons.inj (show m :: (l1 ++ l2).mergeSort le = a :: (A ++ B) from e2)
      have hp : ∀ y, (!le x y) = true ↔ le x y = false := fun y => by cases le x y <;> simp
      obtain ⟨s1, s2⟩ := split_eq (p := fun y => !le x y) (ea.2.symm.trans e4) (fun y hy => h3 y (List.mem_cons_of_mem _ hy)) h4
        (fun y hy => by
          have := (List.pairwise_append.mp srt).2.1
          have := (List.pairwise_cons.mp this).1 y hy
          simp [this])
        (fun y hy => by
          have := (List.pairwise_append.mp srt2).2.1
          have := (List.pairwise_cons.mp this).1 y hy
          simp [this])
      show (x :: (l1 ++ m :: l2)).mergeSort le = m :: (x :: (l1 ++ l2)).mergeSort le
      rw [e1, e3, ← ea.1, s1, s2]; rfl
end
end DL

set_option Elab.async false
set_option linter.all false
set_option maxRecDepth 100000
set_option maxHeartbeats 4000000
set_option autoImplicit false
namespace DL
open PySem PySem.Spec PyProof.Rows L2
section
variable {G : Gp} {R : DK} {p q s : Addr} {d : D} {o o' u : GO} {ds es : List D} {mk : Bool}
theorem fresh_ne (h : gup G s o p = none) : s ≠ p := fun z => by subst z; rw [gup_same] at h; cases h
theorem fresh_none (h : gup G s o p = none) : G p = none := by have := fresh_ne h; rwa [gup_ne this.symm] at h
theorem gup_swap (h : s ≠ p) : gup (gup (gup G s o) p u) s o' = gup (gup G s o') p u := by rw [gup_comm h, gup_gup, gup_comm h.symm]
theorem newL_t : newL true ds G R = ∀ p, G p = none → R (.ref p) (gup G p (.lst ds)) := rfl
theorem lstOf_r (e : G p = some (.lst ds)) : lstOf G (.ref p) = some ds := by unfold lstOf; simp only [e]
theorem seqOf_r (e : G p = some (.lst ds)) : seqOf G (.ref p) = some ds := by unfold seqOf; exact lstOf_r e
theorem list_r (e : G p = some (.lst ds)) : dList mk [.ref p] G R = newL mk ds G R := by
  show (match seqOf G (.ref p) with | some ds => newL mk ds G R | none => False) = _
  rw [seqOf_r e]
theorem tuple_r (e : G p = some (.lst ds)) : dTuple [.ref p] G R = R (.tup ds) G := by
  show (match seqOf G (.ref p) with | some ds => R (.tup ds) G | none => False) = _
  rw [seqOf_r e]
theorem atL_at {k : List D → Prop} (e : G p = some (.lst ds)) : atL (G p) k = k ds := by rw [e]; rfl
theorem gPy_r (e : G p = some (.lst ds)) : gPy G (.ref p) = gPy G (.lst ds) := by
  show (match G p with | some (.lst ds) => (toPys ds).map PyData.list | _ => none) = _
  rw [e]
  rfl
theorem eqW_lr {f : Bool → Bool} (e : G p = some (.lst es)) : dEqW f (.lst ds) (.ref p) G R = dEqW f (.lst ds) (.lst es) G R := by
  show (match gPy G (.lst ds), gPy G (.ref p) with | some a, some b => SeqAt.shaped a = true ∧ SeqAt.shaped b = true ∧ R (.bl (f (PyData.eqv a b))) G | _, _ => False) = _
  rw [gPy_r e]
  rfl
theorem eqW_rl {f : Bool → Bool} (e : G p = some (.lst es)) : dEqW f (.ref p) (.lst ds) G R = dEqW f (.lst es) (.lst ds) G R := by
  show (match gPy G (.ref p), gPy G (.lst ds) with | some a, some b => SeqAt.shaped a = true ∧ SeqAt.shaped b = true ∧ R (.bl (f (PyData.eqv a b))) G | _, _ => False) = _
  rw [gPy_r e]
  rfl
theorem ne_empty (h : pyDs ds = true) (hd : depDs ds ≤ 60) : dNe (.lst ds) (.lst []) G R = R (.bl (decide (ds ≠ []))) G := by
  refine propext ((ne_pure (by simpa only [pyD] using h) rfl (by simp only [depD]; omega) (by simp [depD, depDs])).trans ?_)
  cases ds with
  | nil => simp [eqD, eqDs]
  | cons d ds => simp [eqD, eqDs]
theorem ne_same (h : pyD d = true) (hd : depD d ≤ 64) (he : eqD d d = true) : dNe d d G R = R (.bl false) G := by
  refine propext ((ne_pure h h hd hd).trans ?_)
  rw [he]; rfl
theorem inE_l {f : Bool → Bool} (hp : pyD d = true) (hs : pyDs ds = true) (hd : depD d ≤ 60) (e : G p = some (.lst ds)) (h : R (.bl (f (ds.any fun z => eqD z d))) G) (hn : ∀ z, d ≠ .str z) : dInE f d (.ref p) G R := by
  unfold dInE
  split
  · rename_i a b _; exact absurd rfl (hn _)
  · rename_i x y hx
    rw [seqOf_r e]
    exact ⟨hp, hs, hd, h⟩
theorem sub_keep (h : s ≠ p) (hp : G p = none) : Sub (gup G s o) (gup (gup G p u) s o) := by
  rw [gup_comm h.symm]
  exact Sub.new (by rw [gup_ne h.symm]; exact hp)
end
end DL

set_option Elab.async false
set_option linter.all false
set_option maxRecDepth 100000
set_option maxHeartbeats 4000000
set_option autoImplicit false
namespace DL
open PySem PySem.Spec PyProof.Rows L2
/-! ### data that can be keys, nested: their hashes -/
mutual
def hasK : PyData → Bool
  | .int _ => true | .str _ => true | .bool _ => true
  | .tuple xs => hasKs xs
  | _ => false
def hasKs : List PyData → Bool
  | [] => true
  | x :: xs => hasK x && hasKs xs
end
mutual
def hshK (w : World) : PyData → Int
  | .int i => hashInt i
  | .str x => hashStr w x
  | .bool b => hashInt (if b then 1 else 0)
  | .tuple xs => reduceHash (Builtin.Tuple.tupleHashOf (hshKs w xs))
  | _ => 0
def hshKs (w : World) : List PyData → List Int
  | [] => []
  | x :: xs => hshK w x :: hshKs w xs
end
mutual
def drwK : PyData → Nat
  | .tuple xs => drwKs xs + 1
  | _ => 1
def drwKs : List PyData → Nat
  | [] => 0
  | x :: xs => drwK x + drwKs xs
end
theorem hshKs_app (w : World) : ∀ xs ys : List PyData, hshKs w (xs ++ ys) = hshKs w xs ++ hshKs w ys
  | [], _ => rfl
  | x :: xs, ys => by simp only [List.cons_append, hshKs, hshKs_app w xs ys]
theorem drwKs_app : ∀ xs ys : List PyData, drwKs (xs ++ ys) = drwKs xs + drwKs ys
  | [], _ => by simp [drwKs]
  | x :: xs, ys => by simp only [List.cons_append, drwKs, drwKs_app xs ys]; omega
section
variable {prog : Program} {w : World}
variable {A : Around} {E : Value → Shared → Prop} {s : Shared}
/-- a hash by its type's own slot -/
theorem hash_slot {T id : String} {f : Builtin} {v : Value} {Q : Int → Shared → Prop} (hT : s.TypeIs v T) (room : [v].any Value.onHeap = false ∨ A.units < cLine) (sl : Slot T "__hash__" id) (en : entryFor table id = some f) (ok : argsOk id ⟨[v], []⟩) (ns : ∀ x t, v ≠ .str x t)
    (run : wpAny (model prog w) A.in1 (f ⟨[v], []⟩) (fun r s' => ∃ i t, r = .done (.ret (.int i t)) ∧ Q (reduceHash i) s') E s) : wpAny (model prog w) A (pyHash v) Q E s := by
  have e : pyHash v = pyHashByItsType v := by
    cases v with
    | str x t => exact absurd rfl (ns x t)
    | _ => rfl
  have nn : (some (Value.builtin id) == some Value.none) = false := by rw [beq_builtin_none]
  rw [e]
  unfold pyHashByItsType
  refine wpAny_bind (wpAny_cRoomFor_or room (wpAny_bind (wpAny_specialOf hT sl.lookup ?_)))
  simp only [nn, Bool.false_eq_true, if_false]
  refine wpAny_bind (wpAny_specialOf hT sl.lookup ?_)
  simp only [Option.isNone_some, Bool.false_eq_true, if_false]
  refine wpAny_bind (wpAny_callSpecialIfBoundUnlessNone?_slot hT sl (wpAny_call_entry sl hT en (wpAny_mono run (fun r s' h => ?_) fun _ _ x => x) ok))
  obtain ⟨i, t, rfl, q⟩ := h
  refine ⟨_, rfl, ?_⟩
  show wpAny _ _ (pyHashByItsType.reduced i) Q E s'
  unfold pyHashByItsType.reduced
  unfold reduceHash at q
  cases c : (decide (-(2 ^ 63 : Int) ≤ i) && decide (i < 2 ^ 63)) with
  | true =>
    rw [c] at q
    simp only [if_true] at q ⊢
    exact wpAny_pure q
  | false =>
    rw [c] at q
    simp only [Bool.false_eq_true, if_false] at q ⊢
    exact wpAny_bind (wpAny_rule (wpAny_pure q))
theorem hash_bool {b : Bool} {Q : Int → Shared → Prop} (q : Q (hashInt (if b then 1 else 0)) { s with toks := s.toks + 1 }) : wpAny (model prog w) A (pyHash (.bool b)) Q E s := by
  refine hash_slot (T := "bool") (f := Builtin.«int.__hash__») rfl (.inl rfl) F.slot_bool_hash entry_int_hash (args_int_hash _) (fun x t h => by cases h) ?_
  have e : reduceHash (rawHash (if b then 1 else 0)) = hashInt (if b then 1 else 0) := by cases b <;> decide +kernel
  have run : wpAny (model prog w) A.in1 (do ret (← mkInt (rawHash (if b then 1 else 0)))) (fun r s' => ∃ i t, r = .done (.ret (.int i t)) ∧ Q (reduceHash i) s') E s := by
    refine wpAny_mono (wpAny_ret_mkInt (Q := fun v s' => ∃ i t, v = .int i t ∧ Q (reduceHash i) s') ⟨_, _, rfl, by rw [e]; exact q⟩) (fun r s' h => ?_) fun _ _ x => x
    obtain ⟨v, rfl, i, t, rfl, h⟩ := h
    exact ⟨i, t, rfl, h⟩
  cases b with
  | true => exact run
  | false => exact run
mutual
theorem hash_data : ∀ (d : PyData) {A : Around} {E : Value → Shared → Prop} {s : Shared} {v : Value} {as : List Addr} {Q : Int → Shared → Prop}, Reads s.heap v d as → hasK d = true → A.units + d.depth < cLine → Q (hshK w d) { s with toks := s.toks + drwK d } → wpAny (model prog w) A (pyHash v) Q E s
  | .int i, A, E, s, v, as, Q, r, _, _, q => by cases r; exact wpAny_pyHash_int (by simpa only [hshK, drwK] using q)
  | .str x, A, E, s, v, as, Q, r, _, _, q => by cases r; exact wpAny_pyHash_str (by simpa only [hshK, drwK] using q)
  | .bool b, A, E, s, v, as, Q, r, _, _, q => by cases r; exact hash_bool (by simpa only [hshK, drwK] using q)
  | .tuple xs, A, E, s, v, as, Q, r, hk, hu, q => by
    cases r with
    | tuple h1 h2 h3 h4 =>
      rename_i a o vs n
      simp only [hasK] at hk
      simp only [PyData.depth] at hu
      refine hash_slot (T := "tuple") (f := Builtin.«tuple.__hash__») ⟨o, h1, h2⟩ (.inr (by omega)) F.slot_tuple_hash F.entry_tuple_hash (F.args_tuple_hash_1 _) (fun x t h => by cases h) ?_
      show wpAny _ _ (do
        let mut hs : Array Int := #[]
        for x in ← Builtin.Tuple.tupleItemsOf (.ref a) do hs := hs.push (← pyHash x)
        retInt (Builtin.Tuple.tupleHashOf hs.toList)) _ E s
      refine wpAny_bind (wpAny_tupleItemsOf h1 h3 (wpAny_bind ?_))
      rw [← Array.forIn_toList]
      refine hash_all xs #[] h4 hk (by show A.units + 1 + PyData.depthAll xs < cLine; omega) ?_
      simp only [hshK, drwK] at q
      refine wpAny_mono (wpAny_ret_mkInt (Q := fun v s' => ∃ i t, v = .int i t ∧ Q (reduceHash i) s') ⟨_, _, rfl, ?_⟩) (fun r s' h => ?_) fun _ _ x => x
      · simpa [Nat.add_assoc] using q
      · obtain ⟨v, rfl, i, t, rfl, h⟩ := h
        exact ⟨i, t, rfl, h⟩
  | .none, _, _, _, _, _, _, _, hk, _, _ => by simp [hasK] at hk
  | .list _, _, _, _, _, _, _, _, hk, _, _ => by simp [hasK] at hk
  | .dict _, _, _, _, _, _, _, _, hk, _, _ => by simp [hasK] at hk
theorem hash_all : ∀ (xs : List PyData) (acc : Array Int) {A : Around} {E : Value → Shared → Prop} {s : Shared} {vs : List Value} {as : List Addr} {Q : Array Int → Shared → Prop}, ReadsAll s.heap vs xs as → hasKs xs = true → A.units + PyData.depthAll xs < cLine →
    Q (acc ++ (hshKs w xs).toArray) { s with toks := s.toks + drwKs xs } → wpAny (model prog w) A (forIn vs acc fun x r => do let h ← pyHash x; pure (ForInStep.yield (r.push h))) Q E s
  | [], acc, A, E, s, vs, as, Q, r, _, _, q => by
    cases r
    rw [List.forIn_nil]
    exact wpAny_pure (by simpa [hshKs, drwKs] using q)
  | d :: xs, acc, A, E, s, vs, as, Q, r, hk, hu, q => by
    cases r with
    | cons r1 r2 =>
      simp only [hasKs, Bool.and_eq_true] at hk
      simp only [PyData.depthAll] at hu
      rw [List.forIn_cons]
      refine wpAny_bind (wpAny_bind (hash_data d r1 hk.1 (by omega) (wpAny_pure ?_)))
      refine hash_all xs _ r2 hk.2 (by omega) ?_
      simpa [hshKs, drwKs, Nat.add_assoc] using q
end
end
end DL

set_option Elab.async false
set_option linter.all false
set_option maxRecDepth 100000
set_option maxHeartbeats 4000000
set_option autoImplicit false
namespace DL
open PySem PySem.Spec PyProof.Rows L2
section
variable {prog : Program} {w : World}
/-! ### such data compare quietly -/
mutual
theorem quiet_data : ∀ (d : PyData) (n : Nat) {A : Around} {E : Value → Shared → Prop} {s : Shared} {v : Value} {as : List Addr} {Q : Bool → Shared → Prop}, Reads s.heap v d as → hasK d = true → d.depth ≤ n → Q true s → wpAny (model prog w) A (eqIsQuiet n v) Q E s
  | .int i, n, A, E, s, v, as, Q, r, _, _, q => by cases r; rw [eqIsQuiet_byValue n rfl]; exact wpAny_pure q
  | .str x, n, A, E, s, v, as, Q, r, _, _, q => by cases r; rw [eqIsQuiet_byValue n rfl]; exact wpAny_pure q
  | .bool b, n, A, E, s, v, as, Q, r, _, _, q => by cases r; rw [eqIsQuiet_byValue n rfl]; exact wpAny_pure q
  | .tuple xs, 0, A, E, s, v, as, Q, r, hk, hu, q => by simp [PyData.depth] at hu
  | .tuple xs, n + 1, A, E, s, v, as, Q, r, hk, hu, q => by
    cases r with
    | tuple h1 h2 h3 h4 =>
      rename_i a o vs m
      simp only [hasK] at hk
      simp only [PyData.depth] at hu
      have ty : s.TypeIs (.ref a) "tuple" := ⟨o, h1, h2⟩
      unfold eqIsQuiet
      refine wpAny_bind (wpAny_specialOf ty F.slot_tuple_eq.lookup ?_)
      show wpAny _ _ (do
        if !(← isInstance (.ref a) (.type "tuple")) then return false
        for y in (← seqItems? (.ref a)).getD #[] do
          if !(← eqIsQuiet n y) then return false
        return true) Q E s
      refine wpAny_bind (wpAny_isInstance ty isSubtype_tuple_tuple ?_)
      simp only [Bool.not_true, Bool.false_eq_true, if_false]
      refine wpAny_bind (wpAny_seqItems h1 h3 (wpAny_bind ?_))
      show wpAny _ _ (forIn vs _ _) _ _ s
      rw [← Array.forIn_toList]
      refine quiet_all xs n h4 hk (by omega) ?_
      exact wpAny_pure q
  | .none, _, _, _, _, _, _, _, _, hk, _, _ => by simp [hasK] at hk
  | .list _, _, _, _, _, _, _, _, _, hk, _, _ => by simp [hasK] at hk
  | .dict _, _, _, _, _, _, _, _, _, hk, _, _ => by simp [hasK] at hk
theorem quiet_all : ∀ (xs : List PyData) (n : Nat) {A : Around} {E : Value → Shared → Prop} {s : Shared} {vs : List Value} {as : List Addr} {Q : Option Bool × Unit → Shared → Prop}, ReadsAll s.heap vs xs as → hasKs xs = true → PyData.depthAll xs ≤ n → Q (none, ()) s →
    wpAny (model prog w) A (forIn vs ((none, ()) : Option Bool × Unit) fun y r => do
      if (!(← eqIsQuiet n y)) = true then pure (ForInStep.done (some false, ())) else pure (ForInStep.yield (none, ()))) Q E s
  | [], n, A, E, s, vs, as, Q, r, _, _, q => by
    cases r
    rw [List.forIn_nil]
    exact wpAny_pure q
  | d :: xs, n, A, E, s, vs, as, Q, r, hk, hu, q => by
    cases r with
    | cons r1 r2 =>
      simp only [hasKs, Bool.and_eq_true] at hk
      simp only [PyData.depthAll] at hu
      rw [List.forIn_cons]
      refine wpAny_bind (wpAny_bind (quiet_data d n r1 hk.1 (by omega) ?_))
      simp only [Bool.not_true, Bool.false_eq_true, if_false]
      exact wpAny_pure (quiet_all xs n r2 hk.2 (by omega) q)
end
end
end DL

set_option Elab.async false
set_option linter.all false
set_option maxRecDepth 100000
set_option maxHeartbeats 4000000
set_option autoImplicit false
namespace DL
open PySem PySem.Spec PyProof.Rows L2
/-! ### what is the same, among such data -/
mutual
theorem eqv_sym : ∀ a b : PyData, PyData.eqv a b = PyData.eqv b a
  | .none, .none => rfl
  | .none, .bool b => rfl
  | .none, .int b => rfl
  | .none, .str b => rfl
  | .none, .list b => rfl
  | .none, .tuple b => rfl
  | .none, .dict b => rfl
  | .bool a, .none => rfl
  | .bool a, .bool b => by simp only [PyData.eqv]; exact Bool.beq_comm
  | .bool a, .int b => by simp only [PyData.eqv]; exact Bool.beq_comm
  | .bool a, .str b => rfl
  | .bool a, .list b => rfl
  | .bool a, .tuple b => rfl
  | .bool a, .dict b => rfl
  | .int a, .none => rfl
  | .int a, .bool b => by simp only [PyData.eqv]; exact Bool.beq_comm
  | .int a, .int b => by simp only [PyData.eqv]; exact Bool.beq_comm
  | .int a, .str b => rfl
  | .int a, .list b => rfl
  | .int a, .tuple b => rfl
  | .int a, .dict b => rfl
  | .str a, .none => rfl
  | .str a, .bool b => rfl
  | .str a, .int b => rfl
  | .str a, .str b => by simp only [PyData.eqv]; exact Bool.beq_comm
  | .str a, .list b => rfl
  | .str a, .tuple b => rfl
  | .str a, .dict b => rfl
  | .list a, .none => rfl
  | .list a, .bool b => rfl
  | .list a, .int b => rfl
  | .list a, .str b => rfl
  | .list a, .list b => by simp only [PyData.eqv]; exact eqvAll_sym a b
  | .list a, .tuple b => rfl
  | .list a, .dict b => rfl
  | .tuple a, .none => rfl
  | .tuple a, .bool b => rfl
  | .tuple a, .int b => rfl
  | .tuple a, .str b => rfl
  | .tuple a, .list b => rfl
  | .tuple a, .tuple b => by simp only [PyData.eqv]; exact eqvAll_sym a b
  | .tuple a, .dict b => rfl
  | .dict a, .none => rfl
  | .dict a, .bool b => rfl
  | .dict a, .int b => rfl
  | .dict a, .str b => rfl
  | .dict a, .list b => rfl
  | .dict a, .tuple b => rfl
  | .dict a, .dict b => rfl
theorem eqvAll_sym : ∀ xs ys : List PyData, PyData.eqvAll xs ys = PyData.eqvAll ys xs
  | [], [] => rfl
  | [], _ :: _ => rfl
  | _ :: _, [] => rfl
  | x :: xs, y :: ys => by simp only [PyData.eqvAll, eqv_sym x y, eqvAll_sym xs ys]
end
/-- the number of a whole number or a truth -/
def numK : PyData → Option Int
  | .int i => some i | .bool b => some (if b then 1 else 0) | _ => none
theorem eqv_num {a b : PyData} {i j : Int} (ha : numK a = some i) (hb : numK b = some j) : PyData.eqv a b = (i == j) := by
  cases a <;> cases b <;> simp only [numK, reduceCtorEq, Option.some.injEq] at ha hb <;> subst ha hb <;> simp only [PyData.eqv]
  rename_i a b
  cases a <;> cases b <;> rfl
mutual
theorem eqv_trs : ∀ a b c : PyData, hasK a = true → hasK b = true → hasK c = true → PyData.eqv a b = true → PyData.eqv b c = true → PyData.eqv a c = true
  | .tuple xs, .tuple ys, .tuple zs, h1, h2, h3, e1, e2 => by
    simp only [PyData.eqv, hasK] at *
    exact eqvAll_trs xs ys zs h1 h2 h3 e1 e2
  | .str x, .str y, .str z, _, _, _, e1, e2 => by
    simp only [PyData.eqv, beq_iff_eq] at *
    rw [e1, e2]
  | .int i, b, c, _, hb, hc, e1, e2 => by
    cases b <;> cases c <;> simp only [PyData.eqv, hasK, Bool.false_eq_true, beq_iff_eq] at * <;> simp_all
  | .bool i, b, c, _, hb, hc, e1, e2 => by
    cases b <;> cases c <;> simp only [PyData.eqv, hasK, Bool.false_eq_true, beq_iff_eq] at * <;> simp_all
    rename_i b c
    cases i <;> cases c <;> simp_all
  | .tuple _, .int _, _, _, _, _, e1, _ => by simp [PyData.eqv] at e1
  | .tuple _, .str _, _, _, _, _, e1, _ => by simp [PyData.eqv] at e1
  | .tuple _, .bool _, _, _, _, _, e1, _ => by simp [PyData.eqv] at e1
  | .tuple _, .tuple _, .int _, _, _, _, _, e2 => by simp [PyData.eqv] at e2
  | .tuple _, .tuple _, .str _, _, _, _, _, e2 => by simp [PyData.eqv] at e2
  | .tuple _, .tuple _, .bool _, _, _, _, _, e2 => by simp [PyData.eqv] at e2
  | .str _, .int _, _, _, _, _, e1, _ => by simp [PyData.eqv] at e1
  | .str _, .tuple _, _, _, _, _, e1, _ => by simp [PyData.eqv] at e1
  | .str _, .bool _, _, _, _, _, e1, _ => by simp [PyData.eqv] at e1
  | .str _, .str _, .int _, _, _, _, _, e2 => by simp [PyData.eqv] at e2
  | .str _, .str _, .tuple _, _, _, _, _, e2 => by simp [PyData.eqv] at e2
  | .str _, .str _, .bool _, _, _, _, _, e2 => by simp [PyData.eqv] at e2
  | .none, _, _, h, _, _, _, _ => by simp [hasK] at h
  | .list _, _, _, h, _, _, _, _ => by simp [hasK] at h
  | .dict _, _, _, h, _, _, _, _ => by simp [hasK] at h
  | .tuple _, .none, _, _, h, _, _, _ => by simp [hasK] at h
  | .tuple _, .list _, _, _, h, _, _, _ => by simp [hasK] at h
  | .tuple _, .dict _, _, _, h, _, _, _ => by simp [hasK] at h
  | .str _, .none, _, _, h, _, _, _ => by simp [hasK] at h
  | .str _, .list _, _, _, h, _, _, _ => by simp [hasK] at h
  | .str _, .dict _, _, _, h, _, _, _ => by simp [hasK] at h
  | .tuple _, .tuple _, .none, _, _, h, _, _ => by simp [hasK] at h
  | .tuple _, .tuple _, .list _, _, _, h, _, _ => by simp [hasK] at h
  | .tuple _, .tuple _, .dict _, _, _, h, _, _ => by simp [hasK] at h
  | .str _, .str _, .none, _, _, h, _, _ => by simp [hasK] at h
  | .str _, .str _, .list _, _, _, h, _, _ => by simp [hasK] at h
  | .str _, .str _, .dict _, _, _, h, _, _ => by simp [hasK] at h
theorem eqvAll_trs : ∀ xs ys zs : List PyData, hasKs xs = true → hasKs ys = true → hasKs zs = true → PyData.eqvAll xs ys = true → PyData.eqvAll ys zs = true → PyData.eqvAll xs zs = true
  | [], [], [], _, _, _, _, _ => rfl
  | x :: xs, y :: ys, z :: zs, h1, h2, h3, e1, e2 => by
    simp only [PyData.eqvAll, hasKs, Bool.and_eq_true] at *
    exact ⟨eqv_trs x y z h1.1 h2.1 h3.1 e1.1 e2.1, eqvAll_trs xs ys zs h1.2 h2.2 h3.2 e1.2 e2.2⟩
  | [], _ :: _, _, _, _, _, e1, _ => by simp [PyData.eqvAll] at e1
  | _ :: _, [], _, _, _, _, e1, _ => by simp [PyData.eqvAll] at e1
  | [], [], _ :: _, _, _, _, _, e2 => by simp [PyData.eqvAll] at e2
  | _ :: _, _ :: _, [], _, _, _, _, e2 => by simp [PyData.eqvAll] at e2
end
mutual
theorem eqv_hsh (w : World) : ∀ a b : PyData, hasK a = true → hasK b = true → PyData.eqv a b = true → hshK w a = hshK w b
  | .tuple xs, .tuple ys, h1, h2, e => by
    simp only [PyData.eqv, hasK] at *
    simp only [hshK, eqvAll_hsh w xs ys h1 h2 e]
  | .tuple xs, .int _, _, _, e => by simp [PyData.eqv] at e
  | .tuple xs, .str _, _, _, e => by simp [PyData.eqv] at e
  | .tuple xs, .bool _, _, _, e => by simp [PyData.eqv] at e
  | .tuple xs, .none, _, h, _ => by simp [hasK] at h
  | .tuple xs, .list _, _, h, _ => by simp [hasK] at h
  | .tuple xs, .dict _, _, h, _ => by simp [hasK] at h
  | .int i, b, _, hb, e => by cases b <;> simp only [PyData.eqv, hasK, hshK, Bool.false_eq_true, beq_iff_eq] at * <;> rw [e]
  | .bool i, b, _, hb, e => by cases b <;> simp only [PyData.eqv, hasK, hshK, Bool.false_eq_true, beq_iff_eq] at * <;> rw [e]
  | .str i, b, _, hb, e => by cases b <;> simp only [PyData.eqv, hasK, hshK, Bool.false_eq_true, beq_iff_eq] at * <;> rw [e]
  | .none, _, h, _, _ => by simp [hasK] at h
  | .list _, _, h, _, _ => by simp [hasK] at h
  | .dict _, _, h, _, _ => by simp [hasK] at h
theorem eqvAll_hsh (w : World) : ∀ xs ys : List PyData, hasKs xs = true → hasKs ys = true → PyData.eqvAll xs ys = true → hshKs w xs = hshKs w ys
  | [], [], _, _, _ => rfl
  | x :: xs, y :: ys, h1, h2, e => by
    simp only [PyData.eqvAll, hasKs, Bool.and_eq_true] at *
    simp only [hshKs, eqv_hsh w x y h1.1 h2.1 e.1, eqvAll_hsh w xs ys h1.2 h2.2 e.2]
  | [], _ :: _, _, _, e => by simp [PyData.eqvAll] at e
  | _ :: _, [], _, _, e => by simp [PyData.eqvAll] at e
end
mutual
theorem hasK_plain : ∀ a : PyData, hasK a = true → a.plain = true
  | .tuple xs, h => by simp only [hasK] at h; simp only [PyData.plain]; exact hasKs_plain xs h
  | .int _, _ => rfl
  | .str _, _ => rfl
  | .bool _, _ => rfl
  | .none, h => by simp [hasK] at h
  | .list _, h => by simp [hasK] at h
  | .dict _, h => by simp [hasK] at h
theorem hasKs_plain : ∀ xs : List PyData, hasKs xs = true → PyData.plainAll xs = true
  | [], _ => rfl
  | x :: xs, h => by simp only [hasKs, Bool.and_eq_true] at h; simp only [PyData.plainAll, hasK_plain x h.1, hasKs_plain xs h.2, Bool.and_self]
end
end DL

set_option Elab.async false
set_option linter.all false
set_option maxRecDepth 100000
set_option maxHeartbeats 4000000
set_option autoImplicit false
namespace DL
open PySem PySem.Spec PyProof.Rows L2
/-! ### dicts whose keys are such data -/
structure Ents (w : World) (h : Heap) (ks : List PyData) (es : Array DictEntry) : Prop where
  len : es.size = ks.length
  at_ : ∀ (i : Nat) (e : DictEntry) (k : PyData), es[i]? = some e → ks[i]? = some k → e.hash = hshK w k ∧ ∃ as, Reads h e.key k as
  has : ∀ k ∈ ks, hasK k = true ∧ k.depth ≤ 8
  uniq : ∀ (i j : Nat) (a b : PyData), i < j → ks[i]? = some a → ks[j]? = some b → PyData.eqv a b = false
section
variable {prog : Program} {w : World} {A : Around} {E : Value → Shared → Prop} {s : Shared} {d : Addr} {o : Obj} {es : Array DictEntry} {ep : Nat} {ks : List PyData} {key : Value} {k : PyData} {as : List Addr}
theorem Ents.get (X : Ents w s.heap ks es) {i : Nat} (hi : i < es.size) : ∃ e a, es[i]? = some e ∧ ks[i]? = some a ∧ e.hash = hshK w a ∧ (∃ as, Reads s.heap e.key a as) ∧ hasK a = true ∧ a.depth ≤ 8 := by
  have h2 : i < ks.length := by rw [← X.len]; exact hi
  have h3 := X.at_ i es[i] ks[i] (Array.getElem?_eq_getElem hi) (List.getElem?_eq_getElem h2)
  have h4 := X.has ks[i] (List.getElem_mem h2)
  exact ⟨_, _, Array.getElem?_eq_getElem hi, List.getElem?_eq_getElem h2, h3.1, h3.2, h4⟩
theorem Ents.same (X : Ents w s.heap ks es) {i j : Nat} {a b : PyData} (hi : ks[i]? = some a) (hj : ks[j]? = some b) (hk : hasK k = true) (h1 : PyData.eqv a k = true) (h2 : PyData.eqv b k = true) : i = j := by
  have ka := (X.has a (List.mem_of_getElem? hi)).1
  have kb := (X.has b (List.mem_of_getElem? hj)).1
  have e : PyData.eqv a b = true := eqv_trs a k b ka hk kb h1 (by rw [eqv_sym]; exact h2)
  rcases Nat.lt_trichotomy i j with h | h | h
  · rw [X.uniq i j a b h hi hj] at e; cases e
  · exact h
  · rw [eqv_sym, X.uniq j i b a h hj hi] at e; cases e
theorem find_at {i : Nat} {a : PyData} (X : Ents w s.heap ks es) (hk : hasK k = true) (hi : ks[i]? = some a) (h : PyData.eqv a k = true) : ks.findIdx? (fun z => PyData.eqv z k) = some i := by
  rw [List.findIdx?_eq_some_iff_getElem]
  have hl := (List.getElem?_eq_some_iff.mp hi).1
  have he := (List.getElem?_eq_some_iff.mp hi).2
  refine ⟨hl, by rw [he]; exact h, fun j hj => ?_⟩
  intro c
  have hj2 : j < ks.length := by omega
  have := X.same (List.getElem?_eq_getElem hj2) hi hk c h
  omega
/-- going through places of which one at most is right -/
theorem scan_go {M : Model} {yes : Nat → Bool} {few : Bool} {f : Nat → Option (Option Nat) × Option Nat → Sem (ForInStep (Option (Option Nat) × Option Nat))} :
    ∀ (ps : List Nat), (∀ i ∈ ps, yes i = true → ∀ (R : ForInStep (Option (Option Nat) × Option Nat) → Shared → Prop), R (if few then .done (some (some i), none) else .yield (none, some i)) s → wpAny M A (f i (none, none)) R E s) →
      (∀ i ∈ ps, yes i = false → ∀ st (R : ForInStep (Option (Option Nat) × Option Nat) → Shared → Prop), R (.yield (none, st)) s → wpAny M A (f i (none, st)) R E s) → (ps.Pairwise fun i j => yes i = true → yes j = false) →
      ∀ (st : Option Nat), (st ≠ none → ∀ i ∈ ps, yes i = false) → ∀ (Q : Option (Option Nat) × Option Nat → Shared → Prop), (∀ r, (match r.1 with | some x => x | none => r.2) = (match st with | some x => some x | none => ps.find? yes) → Q r s) → wpAny M A (forIn ps ((none, st) : Option (Option Nat) × Option Nat) f) Q E s
  | [], _, _, _, st, _, Q, q => by
    rw [List.forIn_nil]
    refine wpAny_pure (q _ ?_)
    cases st <;> rfl
  | i :: ps, hit, miss, pw, st, hst, Q, q => by
    rw [List.forIn_cons]
    have pw2 := (List.pairwise_cons.mp pw)
    cases hy : yes i with
    | true =>
      have es : st = none := by
        cases st with
        | none => rfl
        | some x => have := hst (by simp) i (by simp); rw [hy] at this; cases this
      subst es
      refine wpAny_bind (hit i (by simp) hy _ ?_)
      cases few with
      | true => exact wpAny_pure (q _ (by simp [hy]))
      | false =>
        refine scan_go ps (fun j hj => hit j (List.mem_cons_of_mem _ hj)) (fun j hj => miss j (List.mem_cons_of_mem _ hj)) pw2.2 (some i) (fun _ j hj => pw2.1 j hj hy) Q fun r hr => q r ?_
        rw [hr]; simp [hy]
    | false =>
      refine wpAny_bind (miss i (by simp) hy st _ ?_)
      refine scan_go ps (fun j hj => hit j (List.mem_cons_of_mem _ hj)) (fun j hj => miss j (List.mem_cons_of_mem _ hj)) pw2.2 st (fun h j hj => hst h j (List.mem_cons_of_mem _ hj)) Q fun r hr => q r ?_
      rw [hr]; cases st <;> simp [hy]
theorem walk_go {M : Model} {yes : Nat → Bool} {f : Nat → Option (Option Nat) × Unit → Sem (ForInStep (Option (Option Nat) × Unit))} :
    ∀ (ps : List Nat), (∀ i ∈ ps, yes i = true → ∀ (R : ForInStep (Option (Option Nat) × Unit) → Shared → Prop), R (.done (some (some i), ())) s → wpAny M A (f i (none, ())) R E s) →
      (∀ i ∈ ps, yes i = false → ∀ (R : ForInStep (Option (Option Nat) × Unit) → Shared → Prop), R (.yield (none, ())) s → wpAny M A (f i (none, ())) R E s) →
      ∀ (Q : Option (Option Nat) × Unit → Shared → Prop), (∀ r, (match r.1 with | some x => x | none => none) = ps.find? yes → Q r s) → wpAny M A (forIn ps ((none, ()) : Option (Option Nat) × Unit) f) Q E s
  | [], _, _, Q, q => by
    rw [List.forIn_nil]
    exact wpAny_pure (q _ rfl)
  | i :: ps, hit, miss, Q, q => by
    rw [List.forIn_cons]
    cases hy : yes i with
    | true => exact wpAny_bind (hit i (by simp) hy _ (wpAny_pure (q _ (by simp [hy]))))
    | false =>
      refine wpAny_bind (miss i (by simp) hy _ (walk_go ps (fun j hj => hit j (List.mem_cons_of_mem _ hj)) (fun j hj => miss j (List.mem_cons_of_mem _ hj)) Q fun r hr => q r ?_))
      rw [hr]; simp [hy]
/-- the places with a hash -/
theorem places_mem (X : Ents w s.heap ks es) {i : Nat} {z : Int} : i ∈ placesWithHash es.size (fun i => es[i]?.map (·.hash)) z ↔ ∃ e a, es[i]? = some e ∧ ks[i]? = some a ∧ e.hash = z := by
  unfold placesWithHash
  rw [List.mem_filter, List.mem_range]
  constructor
  · rintro ⟨h1, h2⟩
    obtain ⟨e, a, h3, h4, _⟩ := X.get h1
    refine ⟨e, a, h3, h4, ?_⟩
    simp only [h3, Option.map_some] at h2
    simpa using h2
  · rintro ⟨e, a, h3, h4, h5⟩
    refine ⟨(Array.getElem?_eq_some_iff.mp h3).1, ?_⟩
    simp only [h3, Option.map_some]
    simp [h5]
theorem places_find (X : Ents w s.heap ks es) (hk : hasK k = true) : (placesWithHash es.size (fun i => es[i]?.map (·.hash)) (hshK w k)).find? (fun i => match ks[i]? with | some a => PyData.eqv a k | none => false) = ks.findIdx? fun z => PyData.eqv z k := by
  cases h : (placesWithHash es.size (fun i => es[i]?.map (·.hash)) (hshK w k)).find? (fun i => match ks[i]? with | some a => PyData.eqv a k | none => false) with
  | some i =>
    have h1 := List.find?_some h
    split at h1
    · rename_i a ha
      exact (find_at X hk ha h1).symm
    · cases h1
  | none =>
    symm
    rw [List.findIdx?_eq_none_iff]
    intro a ha
    cases c : PyData.eqv a k with
    | false => rfl
    | true =>
      obtain ⟨i, hi, rfl⟩ := List.mem_iff_getElem.mp ha
      have hi2 : i < es.size := by rw [X.len]; exact hi
      obtain ⟨e, b, h3, h4, h5, _, h6, _⟩ := X.get hi2
      have eb : b = ks[i] := by rw [List.getElem?_eq_getElem hi] at h4; exact (Option.some.inj h4).symm
      subst eb
      have := List.find?_eq_none.mp h i ((places_mem X).mpr ⟨e, _, h3, h4, by rw [h5, eqv_hsh w _ k h6 hk c]⟩)
      rw [h4] at this
      exact absurd c this
theorem calm_all {M : Model} {σ : Type} {x0 : σ} {f : Value → σ → Sem (ForInStep σ)} {Q : σ → Shared → Prop} : ∀ (vs : List Value), (∀ v ∈ vs, ∀ (R : ForInStep σ → Shared → Prop), R (.yield x0) s → wpAny M A (f v x0) R E s) → Q x0 s → wpAny M A (forIn vs x0 f) Q E s
  | [], _, q => by rw [List.forIn_nil]; exact wpAny_pure q
  | v :: vs, h, q => by
    rw [List.forIn_cons]
    exact wpAny_bind (h v (by simp) _ (calm_all vs (fun u hu => h u (List.mem_cons_of_mem _ hu)) q))
theorem may_no {stored : List Value} {R : Bool → Shared → Prop} (rk : Reads s.heap key k as) (hk : hasK k = true) (hkd : k.depth ≤ 8) (hs : ∀ v ∈ stored, ∃ a as, Reads s.heap v a as ∧ hasK a = true ∧ a.depth ≤ 8) (q : R false s) :
    wpAny (model prog w) A (tableMayTell key stored) R E s := by
    unfold tableMayTell
    split
    · exact wpAny_pure q
    · refine wpAny_bind (quiet_data k 8 rk hk hkd ?_)
      simp only [Bool.not_true, Bool.false_eq_true, if_false]
      refine wpAny_bind (calm_all stored (fun v hv R' h => ?_) ?_)
      · obtain ⟨a, as', r, h1, h2⟩ := hs v hv
        refine wpAny_bind (quiet_data a 8 r h1 h2 ?_)
        simp only [Bool.not_true, Bool.false_eq_true, if_false]
        exact wpAny_pure h
      · exact wpAny_pure q
theorem find_pair {α β : Type} {p : α → Bool} {p' : β → Bool} {l : List α} {m : List β} (hl : l.length = m.length) (h : ∀ (i : Nat) (a : α) (b : β), l[i]? = some a → m[i]? = some b → p a = p' b) : l.findIdx? p = m.findIdx? p' := by
  rw [findIdx?_map', findIdx?_map' p' m]
  congr 1
  refine List.ext_getElem? fun i => ?_
  rw [List.getElem?_map, List.getElem?_map]
  cases c : l[i]? with
  | none =>
    have : m[i]? = none := by rw [List.getElem?_eq_none_iff] at c ⊢; omega
    rw [this]; rfl
  | some a =>
    have hi := (List.getElem?_eq_some_iff.mp c).1
    have c2 : m[i]? = some m[i] := List.getElem?_eq_getElem (by omega)
    rw [c2]
    simp only [Option.map_some, h i a _ c c2]
theorem find_data {Q : Option Nat → Shared → Prop} (ho : s.heap.get? d = some o) (hd : o.data = .dict es ep) (X : Ents w s.heap ks es) (rk : Reads s.heap key k as) (hk : hasK k = true) (hkd : k.depth ≤ 8) (hu : A.units + 10 < cLine)
    (q : Q (ks.findIdx? fun z => PyData.eqv z k) s) : wpAny (model prog w) A (dictFind d key (hshK w k)) Q E s := by
  have eq : ∀ (i : Nat) (e : DictEntry) (a : PyData), es[i]? = some e → ks[i]? = some a → SeqAt.EqAt A s e.key key (PyData.eqv a k) := fun i e a h1 h2 => by
    obtain ⟨_, _, r⟩ := X.at_ i e a h1 h2
    obtain ⟨h3, h4⟩ := X.has a (List.mem_of_getElem? h2)
    exact SeqAt.eqAt_plain a k A s e.key key _ _ r rk (hasK_plain a h3) (hasK_plain k hk) (by have := Nat.min_le_left a.depth k.depth; omega)
  have hst : ∀ v ∈ (placesWithHash es.size (fun i => es[i]?.map (·.hash)) (hshK w k)).filterMap (fun i => es[i]?.map (·.key)), ∃ a as, Reads s.heap v a as ∧ hasK a = true ∧ a.depth ≤ 8 := by
    intro v hv
    obtain ⟨i, hi, hv⟩ := List.mem_filterMap.mp hv
    obtain ⟨e, a, h1, h2, _⟩ := (places_mem X).mp hi
    rw [h1] at hv
    cases hv
    obtain ⟨_, as', r⟩ := X.at_ i e a h1 h2
    exact ⟨a, as', r, X.has a (List.mem_of_getElem? h2)⟩
  have pw : (placesWithHash es.size (fun i => es[i]?.map (·.hash)) (hshK w k)).Pairwise fun i j => (match ks[i]? with | some a => PyData.eqv a k | none => false) = true → (match ks[j]? with | some a => PyData.eqv a k | none => false) = false := by
    have nd : (placesWithHash es.size (fun i => es[i]?.map (·.hash)) (hshK w k)).Nodup := List.Nodup.sublist List.filter_sublist List.nodup_range
    refine List.Pairwise.imp (fun {i j} hne h => ?_) nd
    cases c : (match ks[j]? with | some a => PyData.eqv a k | none => false) with
    | false => rfl
    | true =>
      split at h
      · rename_i a ha
        split at c
        · rename_i b hb
          exact absurd (X.same ha hb hk h c) hne
        · cases c
      · cases h
  have pf := places_find (k := k) X hk
  have pm : ∀ i, i ∈ placesWithHash es.size (fun i => es[i]?.map (·.hash)) (hshK w k) → ∃ e a, es[i]? = some e ∧ ks[i]? = some a ∧ (e.hash == hshK w k) = true := fun i hi => by
    obtain ⟨e, a, h1, h2, h3⟩ := (places_mem X).mp hi
    exact ⟨e, a, h1, h2, by rw [h3]; simp⟩
  have any0 : (es.any fun e => e.key == key && e.hash != hshK w k) = false := by
    rw [Bool.eq_false_iff]
    intro c
    obtain ⟨i, hi, c⟩ := Array.any_eq_true.mp c
    obtain ⟨e, a, h1, h2, h3, ⟨as', r⟩, h5, h6⟩ := X.get hi
    rw [Array.getElem?_eq_getElem hi] at h1
    cases h1
    simp only [Bool.and_eq_true, beq_iff_eq, bne_iff_ne, ne_eq] at c
    obtain ⟨c1, c2⟩ := c
    rw [c1] at r
    have := SeqAt.readOf_plain (hasK_plain a h5) r
    have h7 := SeqAt.readOf_plain (hasK_plain k hk) rk
    rw [← this, h7] at h3
    exact c2 h3
  have rk' := rk
  unfold dictFind
  refine wpAny_holding (wpAny_bind (wpAny_dictEntries ho hd ?_))
  generalize hpl : placesWithHash es.size (fun i => es[i]?.map (·.hash)) (hshK w k) = places at *
  cases rk with
  | tuple h1 h2 h3 h4 =>
    dsimp only
    simp only [hpl, List.all_cons, carriedByValue, Bool.false_and, Bool.false_eq_true, if_false]
    rw [any0]
    simp only [Bool.false_eq_true, if_false]
    split
    all_goals first | refine wpAny_bind (wpAny_pure ?_) | refine wpAny_bind (may_no rk' hk hkd hst ?_)
    all_goals
      simp only [Bool.false_and, Bool.and_false, Bool.false_eq_true, if_false]
      refine wpAny_bind (scan_go (few := decide ((places.filterMap fun i => es[i]?.map (·.key)).length < 2)) places (fun i hi hy R hR => ?_) (fun i hi hy st R hR => ?_) pw none (fun h => absurd rfl h) _ fun r hr => ?_)
      · obtain ⟨e, a, g1, g2, g3⟩ := pm i hi
        simp only [g2] at hy
        simp only [g1, g3, if_true]
        refine wpAny_bind (wpAny_dictEpoch ho hd (wpAny_bind (eq i e a g1 g2 prog w E _ (wpAny_bind (wpAny_dictEpoch ho hd ?_)))))
        simp only [bne_self_eq_false, Bool.false_eq_true, if_false, hy, if_true, Option.isSome_none]
        refine wpAny_bind (wpAny_rule ?_)
        split
        · rename_i c; exact wpAny_pure (by simpa only [decide_eq_true c, if_true] using hR)
        · rename_i c; exact wpAny_pure (by simpa only [decide_eq_false c, Bool.false_eq_true, if_false] using hR)
      · obtain ⟨e, a, g1, g2, g3⟩ := pm i hi
        simp only [g2] at hy
        simp only [g1, g3, if_true]
        refine wpAny_bind (wpAny_dictEpoch ho hd (wpAny_bind (eq i e a g1 g2 prog w E _ (wpAny_bind (wpAny_dictEpoch ho hd ?_)))))
        simp only [bne_self_eq_false, Bool.false_eq_true, if_false, hy]
        exact wpAny_bind (wpAny_rule (wpAny_pure hR))
      · obtain ⟨r1, r2⟩ := r
        simp only at hr
        cases r1 with
        | none => simp only at hr ⊢; exact wpAny_pure (by rw [hr, pf]; exact q)
        | some r1 => simp only at hr ⊢; exact wpAny_pure (by rw [hr, pf]; exact q)
  | int i t =>
    dsimp only
    by_cases c : ((Value.int i t :: places.filterMap fun i => es[i]?.map (·.key)).all carriedByValue) = true
    · rw [if_pos c]
      refine wpAny_bind (walk_go (yes := fun j => match ks[j]? with | some a => PyData.eqv a (.int i) | none => false) places (fun i hi hy R hR => ?_) (fun i hi hy R hR => ?_) _ fun r hr => ?_)
      rotate_right 1
      · obtain ⟨r1, r2⟩ := r
        rw [pf] at hr
        cases r1 with
        | none => simp only at hr ⊢; exact wpAny_pure (by rw [hr]; exact q)
        | some r1 => simp only at hr ⊢; exact wpAny_pure (by rw [hr]; exact q)
      · obtain ⟨e, a, g1, g2, g3⟩ := pm i hi
        simp only [g2] at hy
        simp only [g1, g3, if_true]
        refine wpAny_bind (wpAny_dictEpoch ho hd (wpAny_bind (eq i e a g1 g2 prog w E _ (wpAny_bind (wpAny_dictEpoch ho hd ?_)))))
        simp only [bne_self_eq_false, Bool.false_eq_true, if_false, hy, if_true]
        exact wpAny_bind (wpAny_rule (wpAny_pure hR))
      · obtain ⟨e, a, g1, g2, g3⟩ := pm i hi
        simp only [g2] at hy
        simp only [g1, g3, if_true]
        refine wpAny_bind (wpAny_dictEpoch ho hd (wpAny_bind (eq i e a g1 g2 prog w E _ (wpAny_bind (wpAny_dictEpoch ho hd ?_)))))
        simp only [bne_self_eq_false, Bool.false_eq_true, if_false, hy]
        exact wpAny_bind (wpAny_rule (wpAny_pure hR))
    rw [if_neg c]
    by_cases c2 : ((places.filterMap fun i => es[i]?.map (·.key)) == [Value.int i t]) = true
    rw [if_pos c2]
    rotate_left
    rw [if_neg c2]
    all_goals first | refine wpAny_bind (wpAny_pure ?_) | refine wpAny_bind (may_no rk' hk hkd hst ?_)
    all_goals
      simp only [Bool.false_and, Bool.and_false, Bool.false_eq_true, if_false]
      refine wpAny_bind (scan_go (few := decide ((places.filterMap fun i => es[i]?.map (·.key)).length < 2)) places (fun i hi hy R hR => ?_) (fun i hi hy st R hR => ?_) pw none (fun h => absurd rfl h) _ fun r hr => ?_)
      · obtain ⟨e, a, g1, g2, g3⟩ := pm i hi
        simp only [g2] at hy
        simp only [g1, g3, if_true]
        refine wpAny_bind (wpAny_dictEpoch ho hd (wpAny_bind (eq i e a g1 g2 prog w E _ (wpAny_bind (wpAny_dictEpoch ho hd ?_)))))
        simp only [bne_self_eq_false, Bool.false_eq_true, if_false, hy, if_true, Option.isSome_none]
        refine wpAny_bind (wpAny_rule ?_)
        split
        · rename_i c; exact wpAny_pure (by simpa only [decide_eq_true c, if_true] using hR)
        · rename_i c; exact wpAny_pure (by simpa only [decide_eq_false c, Bool.false_eq_true, if_false] using hR)
      · obtain ⟨e, a, g1, g2, g3⟩ := pm i hi
        simp only [g2] at hy
        simp only [g1, g3, if_true]
        refine wpAny_bind (wpAny_dictEpoch ho hd (wpAny_bind (eq i e a g1 g2 prog w E _ (wpAny_bind (wpAny_dictEpoch ho hd ?_)))))
        simp only [bne_self_eq_false, Bool.false_eq_true, if_false, hy]
        exact wpAny_bind (wpAny_rule (wpAny_pure hR))
      · obtain ⟨r1, r2⟩ := r
        simp only at hr
        cases r1 with
        | none => simp only at hr ⊢; exact wpAny_pure (by rw [hr, pf]; exact q)
        | some r1 => simp only at hr ⊢; exact wpAny_pure (by rw [hr, pf]; exact q)
  | bool b =>
    dsimp only
    by_cases c : ((Value.bool b :: places.filterMap fun i => es[i]?.map (·.key)).all carriedByValue) = true
    · rw [if_pos c]
      refine wpAny_bind (walk_go (yes := fun j => match ks[j]? with | some a => PyData.eqv a (.bool b) | none => false) places (fun i hi hy R hR => ?_) (fun i hi hy R hR => ?_) _ fun r hr => ?_)
      rotate_right 1
      · obtain ⟨r1, r2⟩ := r
        rw [pf] at hr
        cases r1 with
        | none => simp only at hr ⊢; exact wpAny_pure (by rw [hr]; exact q)
        | some r1 => simp only at hr ⊢; exact wpAny_pure (by rw [hr]; exact q)
      · obtain ⟨e, a, g1, g2, g3⟩ := pm i hi
        simp only [g2] at hy
        simp only [g1, g3, if_true]
        refine wpAny_bind (wpAny_dictEpoch ho hd (wpAny_bind (eq i e a g1 g2 prog w E _ (wpAny_bind (wpAny_dictEpoch ho hd ?_)))))
        simp only [bne_self_eq_false, Bool.false_eq_true, if_false, hy, if_true]
        exact wpAny_bind (wpAny_rule (wpAny_pure hR))
      · obtain ⟨e, a, g1, g2, g3⟩ := pm i hi
        simp only [g2] at hy
        simp only [g1, g3, if_true]
        refine wpAny_bind (wpAny_dictEpoch ho hd (wpAny_bind (eq i e a g1 g2 prog w E _ (wpAny_bind (wpAny_dictEpoch ho hd ?_)))))
        simp only [bne_self_eq_false, Bool.false_eq_true, if_false, hy]
        exact wpAny_bind (wpAny_rule (wpAny_pure hR))
    rw [if_neg c]
    by_cases c2 : ((places.filterMap fun i => es[i]?.map (·.key)) == [Value.bool b]) = true
    rw [if_pos c2]
    rotate_left
    rw [if_neg c2]
    all_goals first | refine wpAny_bind (wpAny_pure ?_) | refine wpAny_bind (may_no rk' hk hkd hst ?_)
    all_goals
      simp only [Bool.false_and, Bool.and_false, Bool.false_eq_true, if_false]
      refine wpAny_bind (scan_go (few := decide ((places.filterMap fun i => es[i]?.map (·.key)).length < 2)) places (fun i hi hy R hR => ?_) (fun i hi hy st R hR => ?_) pw none (fun h => absurd rfl h) _ fun r hr => ?_)
      · obtain ⟨e, a, g1, g2, g3⟩ := pm i hi
        simp only [g2] at hy
        simp only [g1, g3, if_true]
        refine wpAny_bind (wpAny_dictEpoch ho hd (wpAny_bind (eq i e a g1 g2 prog w E _ (wpAny_bind (wpAny_dictEpoch ho hd ?_)))))
        simp only [bne_self_eq_false, Bool.false_eq_true, if_false, hy, if_true, Option.isSome_none]
        refine wpAny_bind (wpAny_rule ?_)
        split
        · rename_i c; exact wpAny_pure (by simpa only [decide_eq_true c, if_true] using hR)
        · rename_i c; exact wpAny_pure (by simpa only [decide_eq_false c, Bool.false_eq_true, if_false] using hR)
      · obtain ⟨e, a, g1, g2, g3⟩ := pm i hi
        simp only [g2] at hy
        simp only [g1, g3, if_true]
        refine wpAny_bind (wpAny_dictEpoch ho hd (wpAny_bind (eq i e a g1 g2 prog w E _ (wpAny_bind (wpAny_dictEpoch ho hd ?_)))))
        simp only [bne_self_eq_false, Bool.false_eq_true, if_false, hy]
        exact wpAny_bind (wpAny_rule (wpAny_pure hR))
      · obtain ⟨r1, r2⟩ := r
        simp only at hr
        cases r1 with
        | none => simp only at hr ⊢; exact wpAny_pure (by rw [hr, pf]; exact q)
        | some r1 => simp only at hr ⊢; exact wpAny_pure (by rw [hr, pf]; exact q)
  | str x t =>
    dsimp only
    by_cases c0 : (es.all fun e => isExactStrKey e.key) = true
    · rw [if_pos c0]
      have fe : es.findIdx? (fun e => e.key.isStr x) = ks.findIdx? fun z => PyData.eqv z (.str x) := by
        rw [show es.findIdx? (fun e => e.key.isStr x) = es.toList.findIdx? (fun e => e.key.isStr x) by obtain ⟨l⟩ := es; simp [List.findIdx?_toArray]]
        refine find_pair (by rw [Array.length_toList]; exact X.len) fun i e a h1 h2 => ?_
        have h1' : es[i]? = some e := by rw [← Array.getElem?_toList]; exact h1
        obtain ⟨_, as', r⟩ := X.at_ i e a h1' h2
        have c1 := Array.all_eq_true.mp c0 i (Array.getElem?_eq_some_iff.mp h1').1
        rw [(Array.getElem?_eq_some_iff.mp h1').2] at c1
        generalize e.key = kv at r c1
        cases kv with
        | str y u => cases r; rfl
        | _ => simp [isExactStrKey] at c1
      unfold foundByValue
      rw [fe]
      cases c3 : ks.findIdx? fun z => PyData.eqv z (.str x) with
      | none => rw [c3] at q; exact wpAny_pure q
      | some i =>
        rw [c3] at q
        have h9 := List.findIdx?_eq_some_iff_getElem.mp c3
        obtain ⟨hl, ht, _⟩ := h9
        obtain ⟨e, a, g1, g2, _⟩ := X.get (by rw [X.len]; exact hl)
        have ha : a = ks[i] := by rw [List.getElem?_eq_getElem hl] at g2; exact (Option.some.inj g2).symm
        subst ha
        simp only [g1]
        have e1 := eq i e _ g1 g2
        rw [ht] at e1
        refine wpAny_bind (wpAny_dictEpoch ho hd (wpAny_bind (e1 prog w E _ (wpAny_bind (wpAny_dictEpoch ho hd ?_)))))
        simp only [bne_self_eq_false, Bool.false_eq_true, if_false, if_true]
        exact wpAny_bind (wpAny_rule (wpAny_pure q))
    rw [if_neg c0]
    by_cases c : ((Value.str x t :: places.filterMap fun i => es[i]?.map (·.key)).all carriedByValue) = true
    · rw [if_pos c]
      refine wpAny_bind (walk_go (yes := fun j => match ks[j]? with | some a => PyData.eqv a (.str x) | none => false) places (fun i hi hy R hR => ?_) (fun i hi hy R hR => ?_) _ fun r hr => ?_)
      rotate_right 1
      · obtain ⟨r1, r2⟩ := r
        rw [pf] at hr
        cases r1 with
        | none => simp only at hr ⊢; exact wpAny_pure (by rw [hr]; exact q)
        | some r1 => simp only at hr ⊢; exact wpAny_pure (by rw [hr]; exact q)
      · obtain ⟨e, a, g1, g2, g3⟩ := pm i hi
        simp only [g2] at hy
        simp only [g1, g3, if_true]
        refine wpAny_bind (wpAny_dictEpoch ho hd (wpAny_bind (eq i e a g1 g2 prog w E _ (wpAny_bind (wpAny_dictEpoch ho hd ?_)))))
        simp only [bne_self_eq_false, Bool.false_eq_true, if_false, hy, if_true]
        exact wpAny_bind (wpAny_rule (wpAny_pure hR))
      · obtain ⟨e, a, g1, g2, g3⟩ := pm i hi
        simp only [g2] at hy
        simp only [g1, g3, if_true]
        refine wpAny_bind (wpAny_dictEpoch ho hd (wpAny_bind (eq i e a g1 g2 prog w E _ (wpAny_bind (wpAny_dictEpoch ho hd ?_)))))
        simp only [bne_self_eq_false, Bool.false_eq_true, if_false, hy]
        exact wpAny_bind (wpAny_rule (wpAny_pure hR))
    rw [if_neg c]
    by_cases c2 : ((places.filterMap fun i => es[i]?.map (·.key)) == [Value.str x t]) = true
    rw [if_pos c2]
    rotate_left
    rw [if_neg c2]
    all_goals first | refine wpAny_bind (wpAny_pure ?_) | refine wpAny_bind (may_no rk' hk hkd hst ?_)
    all_goals
      simp only [Bool.false_and, Bool.and_false, Bool.false_eq_true, if_false]
      refine wpAny_bind (scan_go (few := decide ((places.filterMap fun i => es[i]?.map (·.key)).length < 2)) places (fun i hi hy R hR => ?_) (fun i hi hy st R hR => ?_) pw none (fun h => absurd rfl h) _ fun r hr => ?_)
      · obtain ⟨e, a, g1, g2, g3⟩ := pm i hi
        simp only [g2] at hy
        simp only [g1, g3, if_true]
        refine wpAny_bind (wpAny_dictEpoch ho hd (wpAny_bind (eq i e a g1 g2 prog w E _ (wpAny_bind (wpAny_dictEpoch ho hd ?_)))))
        simp only [bne_self_eq_false, Bool.false_eq_true, if_false, hy, if_true, Option.isSome_none]
        refine wpAny_bind (wpAny_rule ?_)
        split
        · rename_i c; exact wpAny_pure (by simpa only [decide_eq_true c, if_true] using hR)
        · rename_i c; exact wpAny_pure (by simpa only [decide_eq_false c, Bool.false_eq_true, if_false] using hR)
      · obtain ⟨e, a, g1, g2, g3⟩ := pm i hi
        simp only [g2] at hy
        simp only [g1, g3, if_true]
        refine wpAny_bind (wpAny_dictEpoch ho hd (wpAny_bind (eq i e a g1 g2 prog w E _ (wpAny_bind (wpAny_dictEpoch ho hd ?_)))))
        simp only [bne_self_eq_false, Bool.false_eq_true, if_false, hy]
        exact wpAny_bind (wpAny_rule (wpAny_pure hR))
      · obtain ⟨r1, r2⟩ := r
        simp only at hr
        cases r1 with
        | none => simp only at hr ⊢; exact wpAny_pure (by rw [hr, pf]; exact q)
        | some r1 => simp only at hr ⊢; exact wpAny_pure (by rw [hr, pf]; exact q)
  | none => simp [hasK] at hk
  | list => simp [hasK] at hk
  | dict => simp [hasK] at hk
end
end DL

set_option Elab.async false
set_option linter.all false
set_option maxRecDepth 100000
set_option maxHeartbeats 4000000
set_option autoImplicit false
namespace DL
open PySem PySem.Spec PyProof.Rows L2
/-! ### parts of such data -/
theorem readsAll_mem {h : Heap} : ∀ {vs : List Value} {xs : List PyData} {as : List Addr} {v : Value}, ReadsAll h vs xs as → v ∈ vs → ∃ x ∈ xs, ∃ as', Reads h v x as'
  | _, _, _, v, .nil, hv => by cases hv
  | _, _, _, v, .cons r1 r2, hv => by
    rcases List.mem_cons.mp hv with rfl | hv
    · exact ⟨_, List.mem_cons_self, _, r1⟩
    · obtain ⟨x, hx, r⟩ := readsAll_mem r2 hv
      exact ⟨x, List.mem_cons_of_mem _ hx, r⟩
theorem hasKs_mem : ∀ {xs : List PyData} {x : PyData}, hasKs xs = true → x ∈ xs → hasK x = true
  | y :: ys, x, h, hx => by
    simp only [hasKs, Bool.and_eq_true] at h
    rcases List.mem_cons.mp hx with rfl | hx
    · exact h.1
    · exact hasKs_mem h.2 hx
theorem depth_mem : ∀ {xs : List PyData} {x : PyData} {n : Nat}, PyData.depthAll xs ≤ n → x ∈ xs → x.depth ≤ n
  | y :: ys, x, n, h, hx => by
    simp only [PyData.depthAll] at h
    rcases List.mem_cons.mp hx with rfl | hx
    · omega
    · exact depth_mem (by omega) hx
section
variable {prog : Program} {w : World}
/-- going through values, each of which may end it -/
theorem loop_two {M : Model} {A : Around} {E : Value → Shared → Prop} {s : Shared} {σ : Type} {x0 x1 : σ} {f : Value → σ → Sem (ForInStep σ)} {Q : σ → Shared → Prop} (q0 : Q x0 s) (q1 : Q x1 s) :
    ∀ (vs : List Value), (∀ v ∈ vs, ∀ (R : ForInStep σ → Shared → Prop), R (.yield x0) s → R (.done x1) s → wpAny M A (f v x0) R E s) → wpAny M A (forIn vs x0 f) Q E s
  | [], _ => by rw [List.forIn_nil]; exact wpAny_pure q0
  | v :: vs, h => by
    rw [List.forIn_cons]
    exact wpAny_bind (h v List.mem_cons_self _ (loop_two q0 q1 vs fun u hu => h u (List.mem_cons_of_mem _ hu)) (wpAny_pure q1))
/-- such data are of no class statement -/
theorem noclass_data : ∀ (n : Nat) (d : PyData) {A : Around} {E : Value → Shared → Prop} {s : Shared} {v : Value} {as : List Addr} {Q : Bool → Shared → Prop}, Reads s.heap v d as → hasK d = true → d.depth ≤ n → Q false s → wpAny (model prog w) A (ofAClassStatement n v) Q E s := by
  intro n
  induction n with
  | zero =>
    intro d A E s v as Q r hk hn q
    cases r with
    | tuple h1 h2 h3 h4 => simp [PyData.depth] at hn
    | list h1 h2 h3 h4 => simp [hasK] at hk
    | dict h1 => simp [hasK] at hk
    | _ => exact wpAny_pure q
  | succ n ih =>
    intro d A E s v as Q r hk hn q
    cases r with
    | tuple h1 h2 h3 h4 =>
      rename_i a o vs xs m
      simp only [hasK] at hk
      simp only [PyData.depth] at hn
      unfold ofAClassStatement
      refine wpAny_bind (wpAny_typeOf (T := "tuple") ⟨o, h1, h2⟩ ?_)
      have e : (("tuple" : String) == "tuple") = true := by decide
      simp only [e, if_true]
      refine wpAny_bind (wpAny_pure ?_)
      simp only [Bool.not_true, Bool.false_eq_true, if_false]
      refine wpAny_bind (wpAny_seqItems h1 h3 ?_)
      dsimp only
      refine wpAny_bind ?_
      rw [← Array.forIn_toList]
      refine calm_all vs.toList (fun v hv R hR => ?_) (wpAny_pure q)
      obtain ⟨x, hx, as', r⟩ := readsAll_mem h4 hv
      refine wpAny_bind (ih x r (hasKs_mem hk hx) (depth_mem (by omega) hx) ?_)
      exact wpAny_pure hR
    | list h1 h2 h3 h4 => simp [hasK] at hk
    | dict h1 => simp [hasK] at hk
    | _ => exact wpAny_pure q
/-- whether their hashes go by values is told quietly -/
theorem byval_data : ∀ (n : Nat) (d : PyData) {A : Around} {E : Value → Shared → Prop} {s : Shared} {v : Value} {as : List Addr} {Q : Bool → Shared → Prop}, Reads s.heap v d as → hasK d = true → (∀ b, Q b s) → wpAny (model prog w) A (hashByValue n v) Q E s := by
  intro n
  induction n with
  | zero =>
    intro d A E s v as Q r hk q
    cases r with
    | list h1 h2 h3 h4 => simp [hasK] at hk
    | dict h1 => simp [hasK] at hk
    | _ => exact wpAny_pure (q _)
  | succ n ih =>
    intro d A E s v as Q r hk q
    cases r with
    | tuple h1 h2 h3 h4 =>
      rename_i a o vs xs m
      simp only [hasK] at hk
      unfold hashByValue
      refine wpAny_bind (wpAny_specialOf (T := "tuple") ⟨o, h1, h2⟩ F.slot_tuple_hash.lookup ?_)
      show wpAny _ _ (seqItems? (.ref a) >>= _) _ _ s
      refine wpAny_bind (wpAny_seqItems h1 h3 (wpAny_bind ?_))
      show wpAny _ _ (forIn vs _ _) _ _ s
      rw [← Array.forIn_toList]
      refine loop_two (x1 := (some false, ())) (wpAny_pure (q _)) (wpAny_pure (q _)) vs.toList fun v hv R h0 h1 => ?_
      obtain ⟨x, hx, as', r⟩ := readsAll_mem h4 hv
      refine wpAny_bind (ih x r (hasKs_mem hk hx) fun b => ?_)
      cases b
      · exact wpAny_pure h1
      · exact wpAny_pure h0
    | list h1 h2 h3 h4 => simp [hasK] at hk
    | dict h1 => simp [hasK] at hk
    | _ => exact wpAny_pure (q _)
/-- a key as it stands in a heap -/
structure El (h : Heap) (p : Addr × PyData) : Prop where
  rd : ∃ as, Reads h (.ref p.1) p.2 as
  has : hasK p.2 = true
  dp : p.2.depth ≤ 8
section
variable {A : Around} {E : Value → Shared → Prop} {s : Shared}
theorem El.eq {p q : Addr × PyData} (hp : El s.heap p) (hq : El s.heap q) (hu : A.units + 10 < cLine) {Q : Bool → Shared → Prop} (h : Q (PyData.eqv p.2 q.2) s) : wpAny (model prog w) A (eqBool (.ref p.1) (.ref q.1)) Q E s := by
  obtain ⟨as, r1⟩ := hp.rd
  obtain ⟨bs, r2⟩ := hq.rd
  exact SeqAt.eqAt_plain p.2 q.2 A s _ _ _ _ r1 r2 (hasK_plain _ hp.has) (hasK_plain _ hq.has) (by have := Nat.min_le_left p.2.depth q.2.depth; have := hp.dp; omega) _ _ _ _ h
theorem El.seen {p : Addr × PyData} (hp : El s.heap p) {ys : List Value} (hy : ∀ y ∈ ys, ∃ q, y = Value.ref q.1 ∧ El s.heap q) {Q : Bool → Shared → Prop} (h : Q false s) : wpAny (model prog w) A (searchCouldBeSeen (.ref p.1) ys) Q E s := by
  obtain ⟨as, r1⟩ := hp.rd
  unfold searchCouldBeSeen
  refine wpAny_bind (calm_all ys (fun y hv R hR => ?_) (wpAny_pure h))
  obtain ⟨q, rfl, hq⟩ := hy y hv
  obtain ⟨bs, r2⟩ := hq.rd
  dsimp only
  split
  · exact wpAny_pure hR
  · refine wpAny_bind (quiet_data p.2 8 r1 hp.has hp.dp ?_)
    refine wpAny_bind (quiet_data q.2 8 r2 hq.has hq.dp ?_)
    refine wpAny_bind (noclass_data 8 p.2 r1 hp.has hp.dp ?_)
    refine wpAny_bind (noclass_data 8 q.2 r2 hq.has hq.dp ?_)
    exact wpAny_pure hR
end
end
/-! ### the table -/
/-- the c-th stand on a hash's way -/
abbrev stand (t : SetTable) (h : Int) (c : Nat) : SetTable.Probe := nth t.mask (t.probeStart h) c
theorem stand_bare (t : SetTable) (h : Int) : ∀ c, (stand t h c).dummy = none
  | 0 => rfl
  | c + 1 => by
    have ih := stand_bare t h c
    show (nth t.mask (t.probeStart h) (c + 1)).dummy = none
    rw [nth_succ]
    unfold adv
    split <;> exact ih
/-- what a look from the c-th stand on tells -/
theorem look_from {t : SetTable} {hs : List Int} (T : TabOk t hs) {at_ : Nat → Int} (hat : ∀ i, i < hs.length → hs[i]? = some (at_ i)) {h : Int} {c K : Nat} (hc : c ≤ K) (hf : K < 10 * SetTable.turns t.mask) (hK : way t.mask h K ∉ t.place.toList)
    (hb : ∀ k, k < K → way t.mask h k ∈ t.place.toList) :
    (∃ n i : Nat, c ≤ n ∧ n < K ∧ t.place.toList[i]? = some (way t.mask h n) ∧ hs[i]? = some h ∧ (∀ m j : Nat, c ≤ m → m < n → t.place.toList[j]? = some (way t.mask h m) → hs[j]? ≠ some h) ∧ t.probe at_ h (stand t h c) = some (.candidate (way t.mask h n) i (stand t h (n + 1)))) ∨
    ((∀ m j : Nat, c ≤ m → m < K → t.place.toList[j]? = some (way t.mask h m) → hs[j]? ≠ some h) ∧ t.probe at_ h (stand t h c) = some (.empty (way t.mask h K) none)) := by
  have sh : ∀ q, nth t.mask (stand t h c) q = stand t h (c + q) := fun q => (nth_add t.mask c _ q).symm
  have wy : ∀ q, (stand t h q).j = way t.mask h q := fun q => rfl
  have inh : ∀ {i j : Nat}, t.place.toList[i]? = some j → hs[i]? = some (at_ i) := fun {i j} e => hat i (by
    have h1 := (List.getElem?_eq_some_iff.mp e).1
    rw [Array.length_toList, T.sz] at h1
    exact h1)
  rcases go_spec t T.ris T.dm at_ h (10 * SetTable.turns t.mask) (K - c) (stand t h c) (stand_bare t h c) (by omega) (fun q hq => by rw [sh, wy]; exact hb _ (by omega)) (by rw [sh, wy, show c + (K - c) = K by omega]; exact hK) with ⟨q, i, h1, h2, h3, h4, h5⟩ | ⟨h1, h2⟩
  · rw [sh, wy] at h2
    refine .inl ⟨c + q, i, by omega, by omega, h2, by rw [inh h2, h3], fun m j a b e z => ?_, ?_⟩
    · refine h4 (m - c) j (by omega) (by rw [sh, wy, show c + (m - c) = m by omega]; exact e) ?_
      rw [inh e] at z
      exact Option.some.inj z
    · rw [sh, sh, wy] at h5
      exact h5
  · refine .inr ⟨fun m j a b e z => ?_, ?_⟩
    · refine h1 (m - c) j (by omega) (by rw [sh, wy, show c + (m - c) = m by omega]; exact e) ?_
      rw [inh e] at z
      exact Option.some.inj z
    · rw [sh, wy, show c + (K - c) = K by omega] at h2
      exact h2
end DL

set_option Elab.async false
set_option linter.all false
set_option maxRecDepth 100000
set_option maxHeartbeats 4000000
set_option autoImplicit false
namespace DL
open PySem PySem.Spec PyProof.Rows L2
/-! ### sets of such data -/
abbrev El.row (w : World) (p : Addr × PyData) : Int × Value := (hshK w p.2, .ref p.1)
structure SetN (w : World) (h : Heap) (a : Addr) (L : List (Addr × PyData)) (es : Array (Int × Value)) (ep : Nat) (t : SetTable) : Prop where
  ob : ∃ o, h.get? a = some o ∧ o.ExactSet ∧ o.data = .set es ep t
  rows : es.toList = L.map (El.row w)
  tab : TabOk t (L.map fun p => hshK w p.2)
  els : ∀ p ∈ L, El h p
  room : L.length * 5 < t.mask * 3
  few : L.length < 64
abbrev inK (L : List (Addr × PyData)) (k : PyData) : Bool := L.any fun p => PyData.eqv p.2 k
section
variable {prog : Program} {w : World} {A : Around} {E : Value → Shared → Prop} {s : Shared} {a : Addr} {L : List (Addr × PyData)} {es : Array (Int × Value)} {ep : Nat} {t : SetTable} {x : Addr × PyData}
theorem SetN.size (R : SetN w s.heap a L es ep t) : es.size = L.length := by
  rw [← Array.length_toList, R.rows, List.length_map]
theorem fits_few (h1 : t.dummies = #[]) (h2 : t.place.size = es.size) (h3 : es.size ≤ t.mask) : t.fits es.size = true := by
  unfold SetTable.fits SetTable.fill
  rw [h1, h2]
  simpa using h3
theorem SetN.fits (R : SetN w s.heap a L es ep t) : t.fits es.size = true := by
  have h1 := R.tab.sz
  rw [List.length_map, ← R.size] at h1
  have := R.room
  have := R.size
  exact fits_few R.tab.dm h1 (by omega)
theorem SetN.row (R : SetN w s.heap a L es ep t) (i : Nat) : es[i]? = L[i]?.map (El.row w) := by
  rw [← Array.getElem?_toList, R.rows, List.getElem?_map]
/-- the search, from a stand on behind which all that are like it are -/
theorem SetN.seek (R : SetN w s.heap a L es ep t) (hx : El s.heap x) (hu : A.units + 10 < cLine) {K : Nat} (hf : K < 10 * SetTable.turns t.mask) (hK : way t.mask (hshK w x.2) K ∉ t.place.toList) (hb : ∀ k, k < K → way t.mask (hshK w x.2) k ∈ t.place.toList)
    {Q : SetFound → Shared → Prop} (yes : inK L x.2 = true → Q (.there none) s) (no : inK L x.2 = false → Q (.free (way t.mask (hshK w x.2) K) false) s) :
    ∀ (n c : Nat) (from_ : Option SetTable.Probe), from_.getD (t.probeStart (hshK w x.2)) = stand t (hshK w x.2) c → c ≤ K → K < c + n →
      (∀ (i m : Nat) (p : Addr × PyData), L[i]? = some p → PyData.eqv p.2 x.2 = true → t.place.toList[i]? = some (way t.mask (hshK w x.2) m) → m < K → ∃ m', way t.mask (hshK w x.2) m' = way t.mask (hshK w x.2) m ∧ c ≤ m' ∧ m' < K) →
      wpAny (model prog w) A (setSearchFrom a (.ref x.1) (hshK w x.2) true n from_) Q E s := by
  obtain ⟨o, ho, hex, hd⟩ := R.ob
  have gw : t.gaveWay = false := by unfold SetTable.gaveWay; rw [mask_odd R.tab.mok]; rfl
  have hat : ∀ i, i < (L.map fun p => hshK w p.2).length → (L.map fun p => hshK w p.2)[i]? = some ((fun i => (es[i]?.map (·.1)).getD 0) i) := fun i hi => by
    rw [List.length_map] at hi
    simp only [List.getElem?_map, R.row i, List.getElem?_eq_getElem hi, Option.map_some, Option.getD_some]
  have lists : ∀ {i j : Nat}, t.place.toList[i]? = some j → i < L.length := fun {i j} e => by
    have := (List.getElem?_eq_some_iff.mp e).1
    rw [Array.length_toList, R.tab.sz, List.length_map] at this
    exact this
  intro n
  induction n with
  | zero => intro c _ _ h1 h2 _; omega
  | succ n ih =>
    intro c from_ hfr hc hn hre
    rw [setSearchFrom_succ]
    refine wpAny_bind (wpAny_setState_of ho hd R.fits ?_)
    simp only [gw, Bool.false_eq_true, if_false, hfr]
    rcases look_from R.tab hat hc hf hK hb with ⟨m, i, h1, h2, h3, h4, h5, h6⟩ | ⟨h1, h2⟩
    · have hi := lists h3
      have hp : L[i]? = some L[i] := List.getElem?_eq_getElem hi
      have hel := R.els L[i] (List.getElem_mem hi)
      have he : es[i]? = some (El.row w L[i]) := by rw [R.row, hp]; rfl
      have tail : wpAny (model prog w) A (searchRest a (.ref x.1) (hshK w x.2) true n es t (way t.mask (hshK w x.2) m) i (stand t (hshK w x.2) (m + 1))) Q E s := by
        unfold searchRest
        simp only [he]
        refine wpAny_bind (wpAny_holding (hel.eq hx hu ?_))
        refine wpAny_bind (wpAny_setState_of ho hd R.fits ?_)
        cases c1 : PyData.eqv L[i].2 x.2 with
        | true =>
          simp only [Bool.and_true, if_true]
          exact wpAny_pure (yes (List.any_eq_true.mpr ⟨_, List.getElem_mem hi, c1⟩))
        | false =>
          have sl : t.slot (way t.mask (hshK w x.2) m) = .live i := slot_live R.tab.ris h3
          simp only [Bool.and_false, Bool.false_eq_true, if_false, sameMem, if_true, sl, he]
          refine wpAny_bind (wpAny_isSame_ref_self (wpAny_bind (wpAny_pure ?_)))
          simp only [if_true]
          refine ih (m + 1) _ rfl (by omega) (by omega) fun i0 m0 p0 e1 e2 e3 e4 => ?_
          obtain ⟨m1, w1, w2, w3⟩ := hre i0 m0 p0 e1 e2 e3 e4
          refine ⟨m1, w1, ?_, w3⟩
          have hh : hshK w p0.2 = hshK w x.2 := eqv_hsh w _ _ (R.els p0 (List.mem_of_getElem? e1)).has hx.has e2
          have hl : (L.map fun p => hshK w p.2)[i0]? = some (hshK w x.2) := by rw [List.getElem?_map, e1, ← hh]; rfl
          rcases Nat.lt_trichotomy m1 m with z | z | z
          · exact absurd hl (h5 m1 i0 w2 z (by rw [w1]; exact e3))
          · subst z
            rw [← w1] at e3
            have s2 := slot_live R.tab.ris e3
            rw [sl] at s2
            injection s2 with s2
            subst s2
            rw [hp] at e1
            cases e1
            rw [c1] at e2
            cases e2
          · omega
      rw [h6]
      dsimp only
      cases hl : t.led with
      | true => exact tail
      | false =>
        simp only [Bool.not_false, if_true]
        refine wpAny_bind (hx.seen (fun y hy => ?_) ?_)
        · obtain ⟨e, he1, rfl⟩ := List.mem_map.mp hy
          have he2 : e ∈ es.toList := by
            have := (Array.mem_toList_iff.mp he1)
            rw [Array.mem_filter] at this
            exact Array.mem_toList_iff.mpr this.1
          rw [R.rows] at he2
          obtain ⟨q, hq, rfl⟩ := List.mem_map.mp he2
          exact ⟨q, rfl, R.els q hq⟩
        · exact tail
    · rw [h2]
      refine wpAny_pure (no ?_)
      rw [Bool.eq_false_iff]
      intro z
      obtain ⟨p, hp, e⟩ := List.any_eq_true.mp z
      obtain ⟨i, hi, rfl⟩ := List.getElem_of_mem hp
      have hp0 : L[i]? = some L[i] := List.getElem?_eq_getElem hi
      have hh : hshK w L[i].2 = hshK w x.2 := eqv_hsh w _ _ (R.els _ hp).has hx.has e
      have hl : (L.map fun p => hshK w p.2)[i]? = some (hshK w x.2) := by rw [List.getElem?_map, hp0, ← hh]; rfl
      have hpl : i < t.place.toList.length := by rw [Array.length_toList, R.tab.sz, List.length_map]; exact hi
      have hj := List.getElem?_eq_getElem hpl
      obtain ⟨m, hm, w0⟩ := R.tab.before hK hl hj
      rw [← w0] at hj
      obtain ⟨m', w1, w2, w3⟩ := hre i m _ hp0 e hj hm
      exact h1 m' i w2 w3 (by rw [w1]; exact hj) hl
/-- the search as adding asks for it -/
theorem SetN.search (R : SetN w s.heap a L es ep t) (hx : El s.heap x) (hu : A.units + 10 < cLine) {Q : SetFound → Shared → Prop} (yes : inK L x.2 = true → Q (.there none) s)
    (no : ∀ K, inK L x.2 = false → way t.mask (hshK w x.2) K ∉ t.place.toList → (∀ c, c < K → way t.mask (hshK w x.2) c ∈ t.place.toList) → Q (.free (way t.mask (hshK w x.2) K) false) s) :
    wpAny (model prog w) A (setSearch a (.ref x.1) (hshK w x.2) true) Q E s := by
  have := R.room
  obtain ⟨K, hf, hK, hb⟩ := R.tab.first (by rw [List.length_map]; omega) (hshK w x.2)
  have big : K < 100000 := by
    have := R.tab.mok
    unfold SetTable.turns at hf
    rcases this with e | e | e <;> rw [e] at hf <;> omega
  exact R.seek hx hu hf hK hb yes (fun z => no K z hK hb) 100000 0 none rfl (Nat.zero_le _) (by omega) fun i m p _ _ _ hm => ⟨m, rfl, Nat.zero_le _, hm⟩
end
end DL

set_option Elab.async false
set_option linter.all false
set_option maxRecDepth 100000
set_option maxHeartbeats 4000000
set_option autoImplicit false
namespace DL
open PySem PySem.Spec PyProof.Rows L2
/-! ### what reads does so where all but a set stays -/
section
variable {h h' : Heap} {a : Addr}
mutual
theorem reads_but (na : ∀ o vs n, h.get? a = some o → o.data ≠ .seq vs n) (sb : Heap.SameBut a h h') : ∀ (d : PyData) {v : Value} {as : List Addr}, hasK d = true → Reads h v d as → Reads h' v d as
  | .tuple xs, v, as, hk, r => by
    cases r with
    | tuple h1 h2 h3 h4 =>
      simp only [hasK] at hk
      refine .tuple ((sb.2 _ fun z => ?_).trans h1) h2 h3 (readsAll_but na sb xs hk h4)
      subst z
      exact na _ _ _ h1 h3
  | .int i, v, as, _, r => by cases r; constructor
  | .str x, v, as, _, r => by cases r; constructor
  | .bool b, v, as, _, r => by cases r; constructor
  | .none, v, as, hk, _ => by simp [hasK] at hk
  | .list _, v, as, hk, _ => by simp [hasK] at hk
  | .dict _, v, as, hk, _ => by simp [hasK] at hk
theorem readsAll_but (na : ∀ o vs n, h.get? a = some o → o.data ≠ .seq vs n) (sb : Heap.SameBut a h h') : ∀ (ds : List PyData) {vs : List Value} {as : List Addr}, hasKs ds = true → ReadsAll h vs ds as → ReadsAll h' vs ds as
  | [], _, _, _, r => by cases r; constructor
  | d :: ds, _, _, hk, r => by
    cases r with
    | cons r1 r2 =>
      simp only [hasKs, Bool.and_eq_true] at hk
      exact .cons (reads_but na sb d hk.1 r1) (readsAll_but na sb ds hk.2 r2)
end
end
/-- a list by an order of its places -/
theorem by_order {α β : Type} (f : α → β) (L : List α) (es : Array β) (hr : es.toList = L.map f) (order : Array Nat) (hp : order.toList.Perm (List.range L.length)) :
    ∃ L' : List α, (order.filterMap (es[·]?)).toList = L'.map f ∧ L'.Perm L ∧ ∀ (g : β → Int) (z : Int), L'.map (fun p => g (f p)) = order.toList.map fun i => (es.map g).getD i z := by
  have at_ : ∀ i : Nat, es[i]? = L[i]?.map f := fun i => by rw [← Array.getElem?_toList, hr, List.getElem?_map]
  have lt : ∀ i ∈ order.toList, i < L.length := fun i hi => List.mem_range.mp (hp.mem_iff.mp hi)
  have e : ∀ M : List α, (List.range M.length).filterMap (fun i => M[i]?) = M := fun M => by
    have h1 : ∀ i ∈ List.range M.length, M[i]? = (fun i => M[i]?) i := fun _ _ => rfl
    refine List.ext_getElem? fun i => ?_
    have : ∀ l : List Nat, (∀ j ∈ l, j < M.length) → ∀ i : Nat, (l.filterMap fun j => M[j]?)[i]? = l[i]?.bind fun j => M[j]? := by
      intro l
      induction l with
      | nil => intro _ i; simp
      | cons j l ih =>
        intro hl i
        have hj := List.getElem?_eq_getElem (hl j List.mem_cons_self)
        rw [List.filterMap_cons_some hj]
        cases i with
        | zero => simp only [List.getElem?_cons_zero, Option.bind_some, hj]
        | succ i => simp only [List.getElem?_cons_succ]; exact ih (fun q hq => hl q (List.mem_cons_of_mem _ hq)) i
    rw [this _ (fun j hj => List.mem_range.mp hj)]
    rcases Nat.lt_or_ge i M.length with c | c
    · rw [List.getElem?_range c]; rfl
    · rw [List.getElem?_eq_none (by simpa using c), List.getElem?_eq_none c]; rfl
  refine ⟨order.toList.filterMap fun i => L[i]?, ?_, ?_, fun g z => ?_⟩
  · rw [Array.toList_filterMap, List.map_filterMap]
    exact congrArg (fun q => order.toList.filterMap q) (funext at_)
  · have := hp.filterMap fun i => L[i]?
    rw [e L] at this
    exact this
  · revert lt
    generalize order.toList = l
    intro lt
    induction l with
    | nil => rfl
    | cons i l ih =>
      have hi := List.getElem?_eq_getElem (lt i List.mem_cons_self)
      rw [List.filterMap_cons_some hi, List.map_cons, List.map_cons, ih fun j hj => lt j (List.mem_cons_of_mem _ hj)]
      congr 1
      rw [Array.getD_eq_getD_getElem?, Array.getElem?_map, at_, hi]
      rfl
section
variable {prog : Program} {w : World} {A : Around} {E : Value → Shared → Prop} {s : Shared} {a : Addr} {L : List (Addr × PyData)} {es : Array (Int × Value)} {ep : Nat} {t : SetTable} {x : Addr × PyData} {o : Obj}
theorem El.but {h h' : Heap} {p : Addr × PyData} (hp : El h p) (ho : h.get? a = some o) (hd : o.data = .set es ep t) (sb : Heap.SameBut a h h') : El h' p := by
  obtain ⟨⟨as, r⟩, h2, h3⟩ := hp
  refine ⟨⟨as, reads_but (a := a) (fun o' vs n e z => ?_) sb _ h2 r⟩, h2, h3⟩
  rw [ho] at e
  cases e
  rw [hd] at z
  cases z
/-- the table laid anew -/
theorem set_grow (ho : s.heap.get? a = some o) (hex : o.ExactSet) (hd : o.data = .set es ep t) (hr : es.toList = L.map (El.row w)) (tab : TabOk t (L.map fun p => hshK w p.2)) (els : ∀ p ∈ L, El s.heap p) (few : L.length < 64) (le : L.length ≤ t.mask)
    {want M : Nat} (hw : SetTable.sizeAbove want = M + 1) (hM : MaskOk M) (hn : L.length * 5 < M * 3) {Q : Unit → Shared → Prop}
    (q : ∀ h' L' es' ep' t', Heap.SameBut a s.heap h' → SetN w h' a L' es' ep' t' → L'.Perm L → Q () { s with heap := h' }) : wpAny (model prog w) A (setRelay a want) Q E s := by
  have sz : es.size = L.length := by rw [← Array.length_toList, hr, List.length_map]
  have mb : M ≤ 127 := by rcases hM with e | e | e <;> omega
  have psz := tab.sz
  rw [List.length_map] at psz
  obtain ⟨t', order, e1, e2, e3, e4, _, _, e5⟩ := relaid_ok t (hs := es.map (·.1)) (wanted := want) (M := M) (by omega) hM (by rw [Array.size_map, sz]; omega)
  rw [Array.size_map, sz] at e2
  obtain ⟨L', l1, l2, l3⟩ := by_order (El.row w) L es hr order e2
  have l4 := l3 (fun p => p.1) 0
  have e3' : TabOk t' (L'.map fun p => hshK w p.2) := by
    have : (L'.map fun p => hshK w p.2) = order.toList.map fun i => (es.map (fun p => p.1)).getD i 0 := l4
    rw [this]; exact e3
  have sz' : (order.filterMap (es[·]?)).size = L.length := by rw [← Array.length_toList, l1, List.length_map, l2.length_eq]
  rw [setRelay_eq]
  refine wpAny_bind (wpAny_setState_of ho hd (fits_few tab.dm (by omega) (by omega)) ?_)
  dsimp only
  rw [if_neg (by rw [hw, sizeLine_eq]; omega), e1]
  refine wpAny_bind ?_
  dsimp only
  rw [if_neg (by rw [sz', sz]; simp)]
  refine wpAny_pure ?_
  refine wpAny_storeSet_of ho hd ?_ (by rw [sz', sizeLine_eq]; omega)
  have sb : Heap.SameBut a s.heap (s.heap.update a (Obj.putSet (order.filterMap (es[·]?)) t')) := Heap.SameBut.update ..
  exact q _ L' _ (ep + 1) t' sb ⟨⟨_, store_at ho hd, ⟨hex.1, hex.2.1, hex.2.2⟩, rfl⟩, l1, e3', fun p hp => (els p (l2.mem_iff.mp hp)).but ho hd sb, by rw [l2.length_eq, e4]; exact hn, by rw [l2.length_eq]; exact few⟩ l2
/-- a key put into the set -/
theorem SetN.add (R : SetN w s.heap a L es ep t) (hx : El s.heap x) (hu : A.units + 10 < cLine) (few : L.length + 1 < 64) {Q : Bool → Shared → Prop}
    (q : ∀ b h' L' es' ep' t', Heap.SameBut a s.heap h' → SetN w h' a L' es' ep' t' → (if inK L x.2 then L' = L else L'.Perm (x :: L)) → Q b { s with heap := h' }) : wpAny (model prog w) A (setAddHashed a (.ref x.1) (hshK w x.2)) Q E s := by
  obtain ⟨o, ho, hex, hd⟩ := R.ob
  have sz := R.size
  have room := R.room
  unfold setAddHashed
  refine wpAny_holding ?_
  rw [show (100000 : Nat) = 99999 + 1 from rfl, setAddHashedIn_succ]
  refine wpAny_bind (wpAny_setState_of ho hd R.fits ?_)
  dsimp only
  rw [if_neg (by simp [byScan, Value.scannable])]
  refine wpAny_bind (R.search hx hu (fun c => ?_) fun K c hK hb => ?_)
  · exact wpAny_pure (q false s.heap L es ep t (Heap.SameBut.refl a s.heap) R (by rw [c]; rfl))
  · refine wpAny_bind (wpAny_setState_of ho hd R.fits ?_)
    obtain ⟨q1, q2, q3, q4, _, _, _, _, q9⟩ := R.tab.put hK hb
    dsimp only
    generalize t.put (way t.mask (hshK w x.2) K) = pt at q1 q3 q4 q9 ⊢
    obtain ⟨t1, p⟩ := pt
    dsimp only at q1 q3 q4 q9 ⊢
    subst q1
    generalize SetTable.below t.place (way t.mask (hshK w x.2) K) = p at q2 q3 ⊢
    have pm : (L.take p ++ x :: L.drop p).Perm (x :: L) := put_perm L p x
    have rows1 : (SetTable.insertAt es p (hshK w x.2, Value.ref x.1)).toList = (L.take p ++ x :: L.drop p).map (El.row w) := by
      rw [SetTable.toList_insertAt, R.rows, List.map_append, List.map_cons, List.map_take, List.map_drop]
    have hs1 : (L.map fun p => hshK w p.2).take p ++ hshK w x.2 :: (L.map fun p => hshK w p.2).drop p = (L.take p ++ x :: L.drop p).map fun p => hshK w p.2 := by
      rw [List.map_append, List.map_cons, List.map_take, List.map_drop]
    rw [hs1] at q3
    have len1 : (L.take p ++ x :: L.drop p).length = L.length + 1 := by rw [pm.length_eq]; rfl
    have cont : ∀ b : Bool, wpAny (model prog w) A (do
        storeSet a (SetTable.insertAt es p (hshK w x.2, Value.ref x.1)) (if b = true then t1 else { t1 with plain := false })
        if (!false && (if b = true then t1 else { t1 with plain := false }).tooFull) = true then setRelay a (SetTable.grown (es.size + 1))
        pure true) Q E s := by
      intro b
      obtain ⟨t2, h2⟩ : ∃ t2, t2 = (if b = true then t1 else { t1 with plain := false }) := ⟨_, rfl⟩
      have T2 : TabOk t2 ((L.take p ++ x :: L.drop p).map fun p => hshK w p.2) ∧ t2.mask = t.mask ∧ t2.fill = L.length + 1 := by
        rw [h2]
        rw [List.length_map] at q9
        cases b
        · exact ⟨⟨q3.ris, q3.dm, q3.sz, q3.mok, q3.bd, q3.reach⟩, q4, q9⟩
        · exact ⟨q3, q4, q9⟩
      rw [← h2]
      obtain ⟨T2, m2, f2⟩ := T2
      generalize SetTable.insertAt es p (hshK w x.2, Value.ref x.1) = es1 at rows1 ⊢
      have sz1 : es1.size = L.length + 1 := by rw [← Array.length_toList, rows1, List.length_map, len1]
      generalize L.take p ++ x :: L.drop p = L1 at *
      refine wpAny_bind (wpAny_storeSet_of ho hd ?_ (by rw [sz1, sizeLine_eq]; omega))
      have sb : Heap.SameBut a s.heap (s.heap.update a (Obj.putSet es1 t2)) := Heap.SameBut.update ..
      have ho1 := store_at (es' := es1) (t' := t2) ho hd
      generalize s.heap.update a (Obj.putSet es1 t2) = h1 at sb ho1 ⊢
      have els1 : ∀ p ∈ L1, El h1 p := fun p hp => by
        rcases List.mem_cons.mp (pm.mem_iff.mp hp) with e | hp
        · rw [e]; exact hx.but ho hd sb
        · exact (R.els p hp).but ho hd sb
      have tf : t2.tooFull = decide ((L.length + 1) * 5 ≥ t.mask * 3) := by unfold SetTable.tooFull; rw [f2, m2]
      rw [tf]
      by_cases full : (L.length + 1) * 5 ≥ t.mask * 3
      · simp only [Bool.not_false, Bool.true_and, decide_eq_true full, if_true]
        have two : L.length = 4 ∨ L.length = 18 := by rcases R.tab.mok with e | e | e <;> rw [e] at full room <;> omega
        have grow : ∀ M, SetTable.sizeAbove (SetTable.grown (es.size + 1)) = M + 1 → MaskOk M → (L.length + 1) * 5 < M * 3 → wpAny (model prog w) A (setRelay a (SetTable.grown (es.size + 1)) >>= fun _ => pure true) Q E { s with heap := h1 } := fun M g1 g2 g3 => by
          refine wpAny_bind (set_grow (s := { s with heap := h1 }) (L := L1) ho1 ⟨hex.1, hex.2.1, hex.2.2⟩ rfl rows1 T2 els1 (by omega) (by omega) g1 g2 (by omega) fun h' L' es' ep' t' sb' R' pm' => ?_)
          exact wpAny_pure (q true h' L' es' ep' t' (sb.trans sb') R' (by rw [c]; exact pm'.trans pm))
        rcases two with e | e
        · exact grow 31 (by rw [sz, e, size_20]) (.inr (.inl rfl)) (by omega)
        · exact grow 127 (by rw [sz, e, size_76]) (.inr (.inr rfl)) (by omega)
      · simp only [Bool.not_false, Bool.true_and, decide_eq_false full, Bool.false_eq_true, if_false]
        exact wpAny_pure (q true h1 L1 es1 (ep + 1) t2 sb ⟨⟨_, ho1, ⟨hex.1, hex.2.1, hex.2.2⟩, rfl⟩, rows1, T2, els1, by omega, by omega⟩ (by rw [c]; exact pm))
    obtain ⟨as, r⟩ := hx.rd
    cases pl : t1.plain with
    | true =>
      simp only [if_true]
      exact wpAny_bind (byval_data 8 x.2 r hx.has fun b => cont b)
    | false =>
      simp only [Bool.false_eq_true, if_false]
      exact wpAny_bind (wpAny_pure (cont true))
/-- a new set -/
theorem setN_new {h : Heap} {led : Bool} (ho : h.get? a = some { cls := .type "set", dict := none, data := .set #[] 0 (.fresh 0 0 led) }) : SetN w h a [] #[] 0 (.fresh 0 0 led) :=
  ⟨⟨_, ho, ⟨rfl, rfl, rfl⟩, rfl⟩, rfl, ⟨List.Pairwise.nil, rfl, rfl, .inl rfl, fun x hx => (by cases hx), fun i h j hi => (by simp at hi)⟩, fun p hp => (by cases hp), (by show 0 * 5 < 7 * 3; decide), (by show 0 < 64; decide)⟩
end
end DL

set_option Elab.async false
set_option linter.all false
set_option maxRecDepth 100000
set_option maxHeartbeats 4000000
set_option autoImplicit false
namespace DL
open PySem PySem.Spec PyProof.Rows L2
/-! ### a set filled from anything that is walked, by what holds behind each item -/
section
variable {prog : Program} {w : World} {A : Around} {R : Result → Shared → Prop} {I : Addr} {fp wr : List Addr} {G : Array GenState → Array GenState → Prop} {n : Nat} {P : Nat → Value → Prop} {St : Nat → Shared → Prop}
theorem fill_loop (W : WalksS prog w A.in1 I fp wr G n P St) {S : Addr} (hS : S ∉ fp) {J : Nat → Heap → Prop} (keep : ∀ i h h', (∀ b o, b ∉ wr → h.get? b = some o → h'.get? b = some o) → J i h → J i h')
    (step : ∀ i v (s : Shared) (E : Value → Shared → Prop) (Q : Bool → Shared → Prop), i < n → P i v → J i s.heap → (∀ b h' tk, s.toks ≤ tk → Heap.SameBut S s.heap h' → J (i + 1) h' → Q b { s with heap := h', toks := tk }) → wpAny (model prog w) A.in1 (setAdd S v) Q E s) :
    ∀ (m i : Nat) (s : Shared), i + m = n → St i s → J i s.heap → (∀ s', Moved (S :: wr) G s s' → J n s'.heap → R (.ok (.ret .none)) s') → codeAny (model prog w) A (.builtin "set.update.loop" ⟨[.ref S, .ref I], []⟩) R s := by
  have up : ∀ b ∈ wr, b ∈ S :: wr := fun b hb => List.mem_cons_of_mem _ hb
  intro m
  induction m with
  | zero =>
    intro i s hm hst hj hR
    obtain rfl : i = n := by omega
    refine codeAny_builtin PyProof.Rows.F.entry_set_update_loop ?_
    rw [Around.under_plainId PyProof.Rows.F.plain_set_update_loop _]
    show wpAny _ A.in1 (pyNext (.ref I) >>= _) _ _ s
    exact wpAny_bind (W.done s _ _ hst fun s' mv => wpAny_pure (hR s' (mv.mono up) (keep _ _ _ mv.heap hj)))
  | succ m ih =>
    intro i s hm hst hj hR
    refine codeAny_builtin PyProof.Rows.F.entry_set_update_loop ?_
    rw [Around.under_plainId PyProof.Rows.F.plain_set_update_loop _]
    show wpAny _ A.in1 (pyNext (.ref I) >>= _) _ _ s
    refine wpAny_bind (W.item i s _ _ (by omega) hst fun v s1 hp st1 mv => ?_)
    show wpAny _ A.in1 (holding [v] (setAdd S v) >>= _) _ _ s1
    refine wpAny_bind (wpAny_holding (step i v s1 _ _ (by omega) hp (keep _ _ _ mv.heap hj) fun b h' tk ht sb j' => ?_))
    have ne : ∀ c : Addr, c ≠ S → ∀ o, s1.heap.get? c = some o → h'.get? c = some o := fun c hc o e => (sb.2 c hc).trans e
    refine wpAny_pure ⟨plainId_quiet PyProof.Rows.F.plain_set_update_loop _, ih (i + 1) _ (by omega) (W.frame _ s1 _ _ st1 ht fun c hc o e => ne c (fun z => hS (z ▸ hc)) o e) j' fun s2 mv2 j2 => hR s2 ?_ j2⟩
    exact Moved.trans W.gtrans ((mv.mono up).then_heap ht fun c o hc e => ne c (fun z => hc (z ▸ List.mem_cons_self)) o e) mv2
end
section
variable {prog : Program} {w : World} {A : Around} {E : Value → Shared → Prop} {s : Shared}
abbrev setObj (led : Bool) : Obj := { cls := .type "set", dict := none, data := .set #[] 0 (.fresh 0 0 led) }
set_option maxHeartbeats 3200000 in
/-- set(v): a new set, then what its init does -/
theorem made_set {v : Value} {J : Shared → Prop} {Q : Value → Shared → Prop}
    (run : ∀ led, wpAny (model prog w) A.in1.in1 (Builtin.«set.__init__» ⟨[.ref s.heap.objs.size, v], []⟩) (fun r s' => r = .done (.ret .none) ∧ J s') E { s with heap := s.heap.push (setObj led) })
    (q : ∀ s', J s' → Q (.ref s.heap.objs.size) s') : wpAny (model prog w) A (call (.type "set") [v]) Q E s := by
  obtain ⟨c, tl, hmro⟩ := PySem.F.called_set.mro
  have hmade := PySem.F.called_set.made
  have hsub := PySem.F.called_set.sub
  refine wpAny_call (codeAny_of_tree ?_)
  show wpAny _ _ (callAny (.type "set") _) _ _ _
  refine wpAny_pure ⟨Code.quiet_builtin _ (by decide +kernel), codeAny_builtin PySem.F.entry_type_call ?_⟩
  rw [Around.under_plain (weight_type_call_type "set" [v] []) rfl]
  have h1 := PySem.F.called_set.notType
  have h2 := PySem.F.called_set.canCreate
  have hct := PySem.F.typeCall_set_1 v
  repeat (any_goals (first | assumption | wp_step))
  refine codeAny_mono (code_set_new_1 v (E := E) (Q₁ := fun obj s₁ => ∃ led : Bool, obj = .ref s.heap.objs.size ∧ s₁ = { s with heap := s.heap.push (setObj led) }) fun led => ⟨led, rfl, rfl⟩) fun r s₁ hr => ?_
  rcases r with e | fl
  · exact hr
  cases fl with
  | ret obj =>
    obtain ⟨led, rfl, rfl⟩ := hr
    have hT : Shared.TypeIs { s with heap := s.heap.push (setObj led) } (.ref s.heap.objs.size) "set" := ⟨_, Heap.get?_push_size _ rfl, rfl⟩
    have hli := PySem.F.called_set.init.lookup
    have hbi := PySem.F.called_set.init.bind (.ref s.heap.objs.size)
    repeat (any_goals (first | assumption | wp_step))
    refine codeAny_mono (codeAny_call_builtin (R := wants (fun r s₂ => r = .none ∧ J s₂) E) PySem.F.called_set.init.plain PySem.F.entry_set_init (check_set_init_1 hT ?_)) fun r₂ s₂ hr₂ => ?_
    · exact wpAny_mono (run led) (fun r s' h => by obtain ⟨rfl, j⟩ := h; exact ⟨rfl, j⟩) fun _ _ h => h
    · rcases r₂ with e | fl₂
      · exact hr₂
      cases fl₂ with
      | ret r =>
        obtain ⟨rfl, hj⟩ := hr₂
        repeat (any_goals (first | assumption | wp_step))
        exact q _ hj
      | _ => exact hr₂.elim
  | _ => exact hr.elim

set_option maxHeartbeats 3200000 in
theorem init_list {S l : Addr} {items : Array Value} {led : Bool} {J : Nat → Heap → Prop} (hh : A.handled = none) (hl : s.heap.IsList l items) (hS : s.heap.get? S = some (setObj led))
    (keep : ∀ i h h', (∀ b o, b ∉ [s.heap.objs.size] → h.get? b = some o → h'.get? b = some o) → J i h → J i h')
    (step : ∀ i v (s' : Shared) (E : Value → Shared → Prop) (Q : Bool → Shared → Prop), i < items.size → items[i]? = some v → J i s'.heap → (∀ b h' tk, s'.toks ≤ tk → Heap.SameBut S s'.heap h' → J (i + 1) h' → Q b { s' with heap := h', toks := tk }) → wpAny (model prog w) A.in1 (setAdd S v) Q E s')
    (j0 : ∀ h', (∀ b o, s.heap.get? b = some o → h'.get? b = some o) → J 0 h') :
    wpAny (model prog w) A (Builtin.«set.__init__» ⟨[.ref S, .ref l], []⟩) (fun r s' => r = .done (.ret .none) ∧ ∃ h' tk, s' = { s with heap := h', toks := tk } ∧ J items.size h') E s := by
  have hT : s.TypeIs (.ref S) "set" := ⟨_, hS, rfl⟩
  have ne : l ≠ s.heap.objs.size := by
    obtain ⟨o, ho, _⟩ := hl
    exact Nat.ne_of_lt (Heap.lt_size ho)
  have ne2 : S ≠ l := by
    rintro rfl
    obtain ⟨o, ho, hc, _⟩ := hl
    rw [hS] at ho
    cases ho
    simp at hc
  have hSs : S < s.heap.objs.size := Heap.lt_size hS
  obtain ⟨ol, hol, hcl, nl, hdl⟩ := hl
  obtain ⟨ocls, odict, odata, oslots⟩ := ol
  simp only at hcl hdl
  subst hcl; subst hdl
  have hsls := PySem.F.sub_list_set
  have hslf := PySem.F.sub_list_frozenset
  have hne : (Value.type "list" == Value.type "dict") = false := by decide
  have hl1 : s.heap.IsList l items := ⟨_, hol, rfl, nl, rfl⟩
  unfold Builtin.«set.__init__» noKeywords Builtin.Frozenset.updateFrom
  generalize hPI : pyIter = PI
  wp_walk
  subst hPI
  refine wpAny_pyIter_list hl1 (wpAny_bind (wpAny_runValue ?_))
  refine fill_loop ((Walks.list (show A.in1.handled = none by simp [hh]) _ l ne items).toS) (S := S) (J := J) ?ns keep (fun i v s' E' Q' hi hv j q => step i v s' E' Q' hi hv j q) items.size 0 _ (by omega) ?st ?j0 ?fin
  case ns =>
    intro z
    simp only [List.mem_cons, List.not_mem_nil, or_false] at z
    rcases z with z | z
    · exact absurd hSs (z ▸ Nat.lt_irrefl _)
    · exact ne2 z
  case fin =>
    intro s' mv j
    obtain ⟨h', g', d', tk', os'⟩ := s'
    have eg : g' = s.gens := mv.gens
    have ed : d' = s.drawn := mv.drawn
    have eo : os' = s.os := mv.os
    subst eg; subst ed; subst eo
    exact wpAny_pure (wpAny_pure ⟨rfl, h', tk', rfl, j⟩)
  case st => exact ⟨⟨_, Heap.get?_push_size _ rfl, rfl, rfl⟩, hl1.push _⟩
  case j0 => exact j0 _ fun b o e => Heap.get?_push_of_some _ e

set_option maxHeartbeats 3200000 in
theorem init_tuple {S l : Addr} {items : Array Value} {led : Bool} {J : Nat → Heap → Prop} (hh : A.handled = none) (hl : s.heap.IsTuple l items) (hS : s.heap.get? S = some (setObj led))
    (keep : ∀ i h h', (∀ b o, b ∉ [s.heap.objs.size] → h.get? b = some o → h'.get? b = some o) → J i h → J i h')
    (step : ∀ i v (s' : Shared) (E : Value → Shared → Prop) (Q : Bool → Shared → Prop), i < items.size → items[i]? = some v → J i s'.heap → (∀ b h' tk, s'.toks ≤ tk → Heap.SameBut S s'.heap h' → J (i + 1) h' → Q b { s' with heap := h', toks := tk }) → wpAny (model prog w) A.in1 (setAdd S v) Q E s')
    (j0 : ∀ h', (∀ b o, s.heap.get? b = some o → h'.get? b = some o) → J 0 h') :
    wpAny (model prog w) A (Builtin.«set.__init__» ⟨[.ref S, .ref l], []⟩) (fun r s' => r = .done (.ret .none) ∧ ∃ h' tk, s' = { s with heap := h', toks := tk } ∧ J items.size h') E s := by
  have hT : s.TypeIs (.ref S) "set" := ⟨_, hS, rfl⟩
  have ne : l ≠ s.heap.objs.size := by
    obtain ⟨o, ho, _⟩ := hl
    exact Nat.ne_of_lt (Heap.lt_size ho)
  have ne2 : S ≠ l := by
    rintro rfl
    obtain ⟨o, ho, hc, _⟩ := hl
    rw [hS] at ho
    cases ho
    simp at hc
  have hSs : S < s.heap.objs.size := Heap.lt_size hS
  obtain ⟨ol, hol, hcl, nl, hdl⟩ := hl
  obtain ⟨ocls, odict, odata, oslots⟩ := ol
  simp only at hcl hdl
  subst hcl; subst hdl
  have hsls := PySem.F.sub_tuple_set
  have hslf := PySem.F.sub_tuple_frozenset
  have hne : (Value.type "tuple" == Value.type "dict") = false := by decide
  have hl1 : s.heap.IsTuple l items := ⟨_, hol, rfl, nl, rfl⟩
  unfold Builtin.«set.__init__» noKeywords Builtin.Frozenset.updateFrom
  generalize hPI : pyIter = PI
  wp_walk
  subst hPI
  refine wpAny_pyIter_tuple hl1 (wpAny_bind (wpAny_runValue ?_))
  refine fill_loop ((Walks.tuple (show A.in1.handled = none by simp [hh]) _ l ne items).toS) (S := S) (J := J) ?ns keep (fun i v s' E' Q' hi hv j q => step i v s' E' Q' hi hv j q) items.size 0 _ (by omega) ?st ?j0 ?fin
  case ns =>
    intro z
    simp only [List.mem_cons, List.not_mem_nil, or_false] at z
    rcases z with z | z
    · exact absurd hSs (z ▸ Nat.lt_irrefl _)
    · exact ne2 z
  case fin =>
    intro s' mv j
    obtain ⟨h', g', d', tk', os'⟩ := s'
    have eg : g' = s.gens := mv.gens
    have ed : d' = s.drawn := mv.drawn
    have eo : os' = s.os := mv.os
    subst eg; subst ed; subst eo
    exact wpAny_pure (wpAny_pure ⟨rfl, h', tk', rfl, j⟩)
  case st => exact ⟨⟨_, Heap.get?_push_size _ rfl, rfl, rfl⟩, hl1.push _⟩
  case j0 => exact j0 _ fun b o e => Heap.get?_push_of_some _ e
end
end DL

set_option Elab.async false
set_option linter.all false
set_option maxRecDepth 100000
set_option maxHeartbeats 4000000
set_option autoImplicit false
namespace DL
open PySem PySem.Spec PyProof.Rows L2
/-! ### len(set(..)) of nested data -/
def kStep (acc : List PyData) (k : PyData) : List PyData := if acc.any (fun z => PyData.eqv z k) then acc else acc ++ [k]
def kSet (ks : List PyData) : List PyData := ks.foldl kStep []
theorem kSet_snoc (ks : List PyData) (k : PyData) : kSet (ks ++ [k]) = kStep (kSet ks) k := by unfold kSet; rw [List.foldl_append]; rfl
theorem kStep_len (acc : List PyData) (k : PyData) : (kStep acc k).length ≤ acc.length + 1 := by unfold kStep; split <;> simp
theorem kSet_le : ∀ (ks acc : List PyData), (ks.foldl kStep acc).length ≤ acc.length + ks.length
  | [], acc => Nat.le_refl _
  | k :: ks, acc => by
    have h1 := kSet_le ks (kStep acc k)
    have h2 := kStep_len acc k
    simp only [List.foldl_cons, List.length_cons]
    omega
section
variable {prog : Program} {w : World} {A : Around} {E : Value → Shared → Prop} {s : Shared}
/-- the set holds what has come, each once -/
structure Came (w : World) (h0 h : Heap) (S : Addr) (ks : List (Addr × PyData)) (i : Nat) : Prop where
  keeps : ∀ b o, h0.get? b = some o → h.get? b = some o
  set : ∃ L es ep t, SetN w h S L es ep t ∧ (∀ p ∈ L, p ∈ ks) ∧ L.length = (kSet ((ks.take i).map (·.2))).length ∧ ∀ z, hasK z = true → inK L z = (kSet ((ks.take i).map (·.2))).any fun y => PyData.eqv y z
theorem Came.next {h0 : Heap} {S : Addr} {ks : List (Addr × PyData)} (els : ∀ p ∈ ks, El h0 p) (few : ks.length < 64) (hS : h0.get? S = none) (hu : A.units + 20 < cLine) {i : Nat} {x : Addr × PyData} (hi : ks[i]? = some x) (C : Came w h0 s.heap S ks i) {Q : Bool → Shared → Prop}
    (q : ∀ b h' tk, s.toks ≤ tk → Heap.SameBut S s.heap h' → Came w h0 h' S ks (i + 1) → Q b { s with heap := h', toks := tk }) : wpAny (model prog w) A (setAdd S (.ref x.1)) Q E s := by
  obtain ⟨L, es, ep, t, N, sub, len, mem⟩ := C.set
  have hx0 := els x (List.mem_of_getElem? hi)
  have up : ∀ p ∈ ks, El s.heap p := fun p hp => by
    obtain ⟨⟨as, r⟩, h2, h3⟩ := els p hp
    exact ⟨⟨as, Reads.keeps C.keeps r⟩, h2, h3⟩
  have hx := up x (List.mem_of_getElem? hi)
  obtain ⟨as, r⟩ := hx.rd
  have il : i < ks.length := (List.getElem?_eq_some_iff.mp hi).1
  have lt : L.length ≤ i := by
    rw [len]
    have := kSet_le ((ks.take i).map (·.2)) []
    rw [List.length_map, List.length_take] at this
    simp only [List.length_nil] at this
    unfold kSet
    omega
  unfold setAdd
  refine wpAny_holding (wpAny_bind (hash_data x.2 r hx.has (by have := hx.dp; omega) ?_))
  refine SetN.add (s := { s with toks := s.toks + drwK x.2 }) N hx (by omega) (by omega) fun b h' L' es' ep' t' sb N' hL => ?_
  have tk : (ks.take (i + 1)).map (·.2) = (ks.take i).map (·.2) ++ [x.2] := by rw [List.take_add_one, hi, List.map_append]; rfl
  refine q b h' _ (Nat.le_add_right _ _) sb ⟨fun c o e => (sb.2 c fun z => by rw [z, hS] at e; cases e).trans (C.keeps c o e), L', es', ep', t', N', ?_⟩
  rw [tk, kSet_snoc]
  have mx := mem x.2 hx.has
  unfold kStep
  rw [← mx]
  cases c : inK L x.2 with
  | true =>
    rw [c] at hL
    simp only [if_true] at hL
    subst hL
    exact ⟨sub, len, mem⟩
  | false =>
    rw [c] at hL
    simp only [Bool.false_eq_true, if_false] at hL ⊢
    refine ⟨fun p hp => ?_, by rw [hL.length_eq, List.length_cons, List.length_append, len]; rfl, fun z hz => ?_⟩
    · rcases List.mem_cons.mp (hL.mem_iff.mp hp) with e | hp
      · rw [e]; exact List.mem_of_getElem? hi
      · exact sub p hp
    · rw [List.any_append, ← mem z hz]
      show L'.any _ = _
      rw [hL.any_eq]
      simp only [List.any_cons, List.any_nil, Bool.or_false]
      exact Bool.or_comm _ _
theorem Came.keep {h0 h h' : Heap} {S : Addr} {ks : List (Addr × PyData)} {i : Nat} {wr : List Addr} (els : ∀ p ∈ ks, El h0 p) (hS : S ∉ wr) (h1 : ∀ b ∈ wr, h0.get? b = none) (k : ∀ b o, b ∉ wr → h.get? b = some o → h'.get? b = some o) (C : Came w h0 h S ks i) : Came w h0 h' S ks i := by
  obtain ⟨L, es, ep, t, N, sub, rest⟩ := C.set
  have kp : ∀ b o, h0.get? b = some o → h'.get? b = some o := fun b o e => k b o (fun z => by rw [h1 b z] at e; cases e) (C.keeps b o e)
  obtain ⟨o, ho, r⟩ := N.ob
  refine ⟨kp, L, es, ep, t, ⟨⟨o, k S o hS ho, r⟩, N.rows, N.tab, fun p hp => ?_, N.room, N.few⟩, sub, rest⟩
  obtain ⟨⟨as, r⟩, h2, h3⟩ := els p (sub p hp)
  exact ⟨⟨as, Reads.keeps kp r⟩, h2, h3⟩
/-- set(xs) of a list or tuple of such data -/
theorem set_data {l : Addr} {items : Array Value} {ks : List (Addr × PyData)} {Q : Value → Shared → Prop} (hh : A.handled = none) (hl : s.heap.IsList l items ∨ s.heap.IsTuple l items) (hi : items.toList = ks.map fun p => Value.ref p.1) (els : ∀ p ∈ ks, El s.heap p) (few : ks.length < 64) (hu : A.units + 40 < cLine)
    (q : ∀ h' tk, Came w s.heap h' s.heap.objs.size ks ks.length → Q (.ref s.heap.objs.size) { s with heap := h', toks := tk }) : wpAny (model prog w) A (call (.type "set") [.ref l]) Q E s := by
  have none_ : ∀ b, s.heap.objs.size ≤ b → s.heap.get? b = none := fun b hb => by
    cases c : s.heap.get? b with
    | none => rfl
    | some o => exact absurd (Nat.lt_of_lt_of_le (Heap.lt_size c) hb) (Nat.lt_irrefl _)
  have isz : items.size = ks.length := by rw [← Array.length_toList, hi, List.length_map]
  refine made_set (J := fun s' => ∃ h' tk, s' = { s with heap := h', toks := tk } ∧ Came w s.heap h' s.heap.objs.size ks items.size) (fun led => ?_) fun s' h => ?_
  · have hS : (s.heap.push (setObj led)).get? s.heap.objs.size = some (setObj led) := Heap.get?_push_size _ rfl
    have keep : ∀ i h h', (∀ b o, b ∉ [(s.heap.push (setObj led)).objs.size] → h.get? b = some o → h'.get? b = some o) → Came w s.heap h s.heap.objs.size ks i → Came w s.heap h' s.heap.objs.size ks i := fun i h h' k C => by
      refine C.keep els (wr := [(s.heap.push (setObj led)).objs.size]) ?_ (fun b hb => ?_) k
      · rw [Heap.size_push, List.mem_singleton]
        exact Nat.ne_of_lt (Nat.lt_succ_self _)
      · rw [List.mem_singleton.mp hb, Heap.size_push]
        exact none_ _ (Nat.le_succ _)
    have step : ∀ i v (s' : Shared) (E : Value → Shared → Prop) (Q : Bool → Shared → Prop), i < items.size → items[i]? = some v → Came w s.heap s'.heap s.heap.objs.size ks i → (∀ b h' tk, s'.toks ≤ tk → Heap.SameBut s.heap.objs.size s'.heap h' → Came w s.heap h' s.heap.objs.size ks (i + 1) → Q b { s' with heap := h', toks := tk }) → wpAny (model prog w) A.in1.in1.in1 (setAdd s.heap.objs.size v) Q E s' := by
      intro i v s' E' Q' hi' hv C q'
      rw [← Array.getElem?_toList, hi, List.getElem?_map] at hv
      cases c : ks[i]? with
      | none => rw [c] at hv; cases hv
      | some x =>
        rw [c] at hv
        cases hv
        exact C.next els few (none_ _ (Nat.le_refl _)) (by show A.units + 1 + 1 + 1 + 20 < cLine; omega) c q'
    have j0 : ∀ h', (∀ b o, (s.heap.push (setObj led)).get? b = some o → h'.get? b = some o) → Came w s.heap h' s.heap.objs.size ks 0 := fun h' k => ⟨fun b o e => k b o (Heap.get?_push_of_some _ e), [], #[], 0, _, setN_new (k _ _ hS), fun p hp => (by cases hp), rfl, fun z _ => rfl⟩
    have h1 : A.in1.in1.handled = none := by simp [hh]
    have fin : ∀ r s', (r = PySem.Fin.done (.ret .none) ∧ ∃ h' tk, s' = { { s with heap := s.heap.push (setObj led) } with heap := h', toks := tk } ∧ Came w s.heap h' s.heap.objs.size ks items.size) → r = PySem.Fin.done (.ret .none) ∧ ∃ h' tk, s' = { s with heap := h', toks := tk } ∧ Came w s.heap h' s.heap.objs.size ks items.size := fun r s' h => h
    rcases hl with hl | hl
    · exact wpAny_mono (init_list (s := { s with heap := s.heap.push (setObj led) }) (S := s.heap.objs.size) h1 (hl.push _) hS keep step j0) fin fun _ _ h => h
    · exact wpAny_mono (init_tuple (s := { s with heap := s.heap.push (setObj led) }) (S := s.heap.objs.size) h1 (hl.push _) hS keep step j0) fin fun _ _ h => h
  · obtain ⟨h', tk, rfl, C⟩ := h
    rw [isz] at C
    exact q h' tk C
end
def tupK : PyData → Bool
  | .tuple _ => true
  | _ => false
theorem reads_refs {h : Heap} : ∀ {vs : List Value} {xs : List PyData} {as : List Addr}, ReadsAll h vs xs as → xs.all tupK = true → ∃ ks : List (Addr × PyData), vs = ks.map (fun p => Value.ref p.1) ∧ xs = ks.map (·.2) ∧ ∀ p ∈ ks, ∃ as, Reads h (.ref p.1) p.2 as
  | _, _, _, .nil, _ => ⟨[], rfl, rfl, fun p hp => by cases hp⟩
  | _, _, _, .cons r1 r2, hk => by
    simp only [List.all_cons, Bool.and_eq_true] at hk
    obtain ⟨ks, h1, h2, h3⟩ := reads_refs r2 hk.2
    cases r1 with
    | tuple a1 a2 a3 a4 =>
      rename_i a o us ys n
      refine ⟨(a, _) :: ks, by rw [h1]; rfl, by rw [h2]; rfl, fun p hp => ?_⟩
      rcases List.mem_cons.mp hp with e | hp
      · rw [e]; exact ⟨_, .tuple a1 a2 a3 a4⟩
      · exact h3 p hp
    | _ => simp [tupK] at hk
section
variable {X : Cx}
def okSet (as : List PyData) : Prop := as.all tupK = true ∧ hasKs as = true ∧ PyData.depthAll as ≤ 8 ∧ as.length < 64
/-- len(set(xs)), xs ints and texts, or tuples -/
def dLenSetE (te : DE) : DE := fun σ G R => te σ G fun x G1 => match (seqOf G1 x).bind keysD with
  | some ks => ks.length + 1 < scanBound ∧ R (.int (uniq ks).length) G1
  | none => match (seqOf G1 x).bind toPys with | some as => okSet as ∧ R (.int (kSet as).length) G1 | none => False
def tLenSetE (K : PySem.W.Frag) (ta : TE) : TE := fun σ H Q => ta σ H fun x H1 =>
  (∃ l, ∃ ks : List Key, x = .ref l ∧ (SqL K H1 l (ks.map kV) ∨ SqT K H1 l (ks.map kV)) ∧ ks.length + 1 < scanBound ∧ Q (.int (uniq ks).length) H1) ∨
  ∃ l, ∃ vs, ∃ as : List PyData, x = .ref l ∧ (SqL K H1 l vs ∨ SqT K H1 l vs) ∧ DpAll K H1 vs as ∧ okSet as ∧ Q (.int (kSet as).length) H1
theorem pe_lenSetE {a : Expr} {ta : TE} {p p2 q pos : Pos} (hc : X.calm = true) (hu : X.A.units + 100 < cLine) (hg : Gl X "len") (hm : X.mg "len" = none) (hg2 : Gl X "set") (hm2 : X.mg "set" = none) (ha : PE X a ta)
    (na : starEach [a] X.env = (false, eval a X.env) :: starEach [] X.env := by rfl) : PE X (.Call (.Name "len" p) [.Call (.Name "set" p2) [a] [] q] [] pos) (tLenSetE X.K ta) := by
  refine ⟨fun pins s σ H Q I h => ?_⟩
  refine Call_ (ld_blt I hg hm boot_len (PyProof.Rows.callWith_builtin1 (PyProof.Rows.args_cons ?_ rfl) rfl rfl))
  refine Call_ (ld_blt I hg2 hm2 boot_set (PyProof.Rows.callWith_type1 (PyProof.Rows.args_cons (thn (ha.run pins s σ H _ I h) fun v s1 ⟨x, H1, I1, r1, q1⟩ => PyProof.Rows.args_nil ?_) na) na rfl))
  rcases q1 with ⟨l, ks, rfl, hq, h1, q1⟩ | q1
  · cases r1
    have fin : ∀ (h' : Heap) (tk : Nat), h'.SetOf (mixKind X.prog X.w) s1.heap.objs.size (fun k' => memB k' (uniq ks)) (uniq ks).length → (∀ b o, b < s1.heap.objs.size → s1.heap.get? b = some o → h'.get? b = some o) →
        wpAny (model X.prog X.w) X.A (spliced (backTo pos (starEach [] X.env))) (fun vs s2 => wpAny (model X.prog X.w) X.A (call (.builtin "len") (Value.ref s1.heap.objs.size :: vs)) (EP X pins σ Q) X.xe s2) X.xe { s1 with heap := h', toks := tk } := fun h' tk hS hk => by
      obtain ⟨o, es, ep, t, ho, hex, hd, _, _, hb, hf, hn⟩ := hS
      have hsb : (scanBound : Int) ≤ 2 ^ 63 := by unfold scanBound; decide
      exact PyProof.Rows.args_nil (call_len_set ho hex hd hf (by omega) ⟨.int (uniq ks).length, H1, (I1.kept fun b o e => hk b o (Heap.lt_size e) e).tok _, ⟨_, by rw [hn]⟩, q1⟩)
    rcases hq with hq | hq
    · obtain ⟨its, r, pl, hz⟩ := I1.list hq
      exact call_set_listK (I1.ok.hd hc) pl.isList (by simpa using keysAre_of r) h1 fin
    · obtain ⟨its, r, pl, hz⟩ := I1.tuple hq
      exact call_set_tupleK (I1.ok.hd hc) pl (by simpa using keysAre_of r) h1 fin
  obtain ⟨l, vs, as, rfl, hq, hd, ⟨k1, k2, k3, k4⟩, q1⟩ := q1
  cases r1
  have : ∃ its : List Value, Vals vs its ∧ (s1.heap.IsList l its.toArray ∨ s1.heap.IsTuple l its.toArray) := by
    rcases hq with hq | hq
    · obtain ⟨its, r, pl, hz⟩ := I1.list hq
      exact ⟨its, r, .inl pl.isList⟩
    · obtain ⟨its, r, pl, hz⟩ := I1.tuple hq
      exact ⟨its, r, .inr pl⟩
  obtain ⟨its, rv, hl⟩ := this
  obtain ⟨az, rl⟩ := Dp.readsAll I1 as vs its hd rv
  obtain ⟨ks, e1, e2, e3⟩ := reads_refs rl k1
  have lk : ks.length = as.length := by rw [e2, List.length_map]
  refine set_data (I1.ok.hd hc) hl (by simpa using e1) (fun p hp => ⟨e3 p hp, ?_, ?_⟩) (by omega) (by omega) fun h' tk C => ?_
  · exact hasKs_mem k2 (by rw [e2]; exact List.mem_map.mpr ⟨p, hp, rfl⟩)
  · exact depth_mem k3 (by rw [e2]; exact List.mem_map.mpr ⟨p, hp, rfl⟩)
  · refine PyProof.Rows.args_nil ?_
    obtain ⟨L, es, ep, t, N, sub, len, _⟩ := C.set
    obtain ⟨o, ho, hex, hdt⟩ := N.ob
    have I2 : Inv X pins σ H1 { s1 with heap := h', toks := tk } := I1.kept C.keeps
    have sz : es.size = L.length := N.size (s := { s1 with heap := h' })
    have fw := N.few
    rw [List.take_length, ← e2] at len
    exact call_len_set ho hex hdt (N.fits (s := { s1 with heap := h' })) (by omega) ⟨.int (kSet as).length, H1, I2.tok _, ⟨_, by rw [sz, len]⟩, q1⟩
theorem qe_lenSetE {a : Expr} {ta : DE} {p p2 q pos : Pos} (hc : X.calm = true) (hu : X.A.units + 100 < cLine) (hg : Gl X "len") (hm : X.mg "len" = none) (hg2 : Gl X "set") (hm2 : X.mg "set" = none) (ha : QE X a ta)
    (na : starEach [a] X.env = (false, eval a X.env) :: starEach [] X.env := by rfl) : QE X (.Call (.Name "len" p) [.Call (.Name "set" p2) [a] [] q] [] pos) (dLenSetE ta) := pe_mono (pe_lenSetE hc hu hg hm hg2 hm2 ha na) fun τ H Q h => by
  obtain ⟨σ, G, N, R, hs, hgg, ht, q⟩ := h
  refine ⟨σ, G, N, _, hs, hgg, ht, fun x G1 N1 v1 H1 h1 s1 r1 => ?_⟩
  cases e2 : seqOf G1 x with
  | none => rw [e2] at h1; exact h1.elim
  | some ds =>
    rw [e2] at h1
    obtain ⟨p, vs, rfl, sq, r⟩ := seqOf_ok s1.rel r1 e2
    simp only [Option.bind_some] at h1
    split at h1
    · rename_i ks e
      have e3 := keysD_ok r e
      subst e3
      exact .inl ⟨p, ks, rfl, sq, h1.1, (q.le s1).at s1.rel h1.2 (RD.int _)⟩
    · split at h1
      · rename_i as e
        exact .inr ⟨p, vs, as, rfl, sq, toPys_ok r e, h1.1, (q.le s1).at s1.rel h1.2 (RD.int _)⟩
      · exact h1.elim
theorem x_lenSetE {ta : DE} {σ : _} {G : Gp} {R : DK} : dLenSetE ta σ G R = ta σ G fun x G1 => match (seqOf G1 x).bind keysD with
  | some ks => ks.length + 1 < scanBound ∧ R (.int (uniq ks).length) G1
  | none => match (seqOf G1 x).bind toPys with | some as => okSet as ∧ R (.int (kSet as).length) G1 | none => False := rfl
end
end DL

set_option Elab.async false
set_option linter.all false
set_option maxRecDepth 100000
set_option maxHeartbeats 4000000
set_option autoImplicit false
namespace DL
open PySem PySem.Spec PyProof.Rows L2
/-! ### sum(lists, start) -/
section
variable {prog : Program} {w : World} {A : Around} {R : Result → Shared → Prop} {I : Addr} {fp wr : List Addr} {G : Array GenState → Array GenState → Prop} {n : Nat} {P : Nat → Value → Prop} {St : Nat → Shared → Prop}
theorem sum_loop (W : WalksS prog w A.in1 I fp wr G n P St) {S : Addr} (hS : S ∉ fp) {J : Nat → Addr → Heap → Prop} (keep : ∀ i a h h', (∀ b o, b ∉ S :: wr → h.get? b = some o → h'.get? b = some o) → J i a h → J i a h')
    (step : ∀ i v a (s : Shared) (E : Value → Shared → Prop) (Q : Value → Shared → Prop), i < n → P i v → (∃ o, s.heap.get? S = some o) → J i a s.heap → (∀ r h', (∀ b o, s.heap.get? b = some o → h'.get? b = some o) → J (i + 1) r h' → Q (.ref r) { s with heap := h' }) → wpAny (model prog w) A.in1 (binaryOp .Add (.ref a) v) Q E s) :
    ∀ (m i : Nat) (s : Shared) (a : Addr) (c : Nat), i + m = n → St i s → J i a s.heap → s.heap.get? S = some { cls := .type "list", dict := none, data := .seq #[.ref a] c, slots := #[] } →
    (∀ s' r, Moved (S :: wr) G s s' → J n r s'.heap → R (.ok (.ret (.ref r))) s') → codeAny (model prog w) A (.builtin "sum.loop" ⟨[.ref I, .ref S, rawInt 2, rawInt 0], []⟩) R s := by
  have up : ∀ b ∈ wr, b ∈ S :: wr := fun b hb => List.mem_cons_of_mem _ hb
  have nS : S ∉ wr := fun h => hS (W.sub _ h)
  intro m
  induction m with
  | zero =>
    intro i s a c hm hst hj ho hR
    obtain rfl : i = n := by omega
    refine codeAny_builtin PySem.F.entry_sum_loop ?_
    rw [Around.under_plainId PySem.F.plain_sum_loop _]
    show wpAny _ A.in1 (seqItems? (.ref S) >>= _) _ _ s
    refine wpAny_bind (wpAny_seqItems ho rfl ?_)
    show wpAny _ A.in1 (tryCatch (pyNext (.ref I)) _ >>= _) _ _ s
    refine wpAny_bind (wpAny_tryCatch (W.done s _ _ hst fun s' mv => ?_))
    exact wpAny_pure (hR s' a (mv.mono up) (keep _ _ _ _ (mv.mono up).heap hj))
  | succ m ih =>
    intro i s a c hm hst hj ho hR
    refine codeAny_builtin PySem.F.entry_sum_loop ?_
    rw [Around.under_plainId PySem.F.plain_sum_loop _]
    show wpAny _ A.in1 (seqItems? (.ref S) >>= _) _ _ s
    refine wpAny_bind (wpAny_seqItems ho rfl ?_)
    show wpAny _ A.in1 (tryCatch (pyNext (.ref I)) _ >>= _) _ _ s
    refine wpAny_bind (wpAny_tryCatch (W.item i s _ _ (by omega) hst fun v s1 hp st1 mv => ?_))
    have ho1 := mv.heap S _ nS ho
    show wpAny _ A.in1 ((holding [v] (binaryOp .Add (.ref a) v)).attempt >>= _) _ _ s1
    refine wpAny_bind (wpAny_attempt (wpAny_holding (step i v a s1 _ _ (by omega) hp ⟨_, ho1⟩ (keep _ _ _ _ (mv.mono up).heap hj) fun r h' hk j' => ?_)))
    have ho2 := hk S _ ho1
    show wpAny _ A.in1 (updateSeq S (fun _ => #[.ref r]) >>= _) _ _ _
    refine wpAny_bind (wpAny_updateSeq ho2 rfl ?_)
    have ho3 := Heap.get?_update_self (Obj.mapSeq fun _ => #[Value.ref r]) ho2 rfl
    refine wpAny_bind (wpAny_letGo ?_)
    have ne : ∀ (b : Addr) (o : Obj), b ≠ S → s1.heap.get? b = some o → ((h'.update S (Obj.mapSeq fun _ => #[Value.ref r])).update S (Obj.mapSeq fun _ => #[Value.ref r])).get? b = some o := fun b o z e => (Heap.get?_update_other _ _ (fun q : S = b => z q.symm)).trans ((Heap.get?_update_other _ _ (fun q : S = b => z q.symm)).trans (hk b o e))
    have ne' : ∀ (b : Addr) (o : Obj), b ∉ S :: wr → h'.get? b = some o → ((h'.update S (Obj.mapSeq fun _ => #[Value.ref r])).update S (Obj.mapSeq fun _ => #[Value.ref r])).get? b = some o := fun b o z e => (Heap.get?_update_other _ _ (fun q : S = b => z (q ▸ List.mem_cons_self))).trans ((Heap.get?_update_other _ _ (fun q : S = b => z (q ▸ List.mem_cons_self))).trans e)
    refine wpAny_bind (wpAny_updateSeq ho3 rfl (wpAny_pure ⟨plainId_quiet PySem.F.plain_sum_loop _, ih (i + 1) _ r _ (by omega) (W.frame _ s1 _ _ st1 (Nat.le_refl _) fun b hb o e => ne b o (fun z => hS (z ▸ hb)) e) (keep _ _ _ _ ne' j') (Heap.get?_update_self _ ho3 rfl) fun s2 r2 mv2 j2 => hR s2 r2 ?_ j2⟩))
    exact Moved.trans W.gtrans ((mv.mono up).then_heap (Nat.le_refl _) fun b o hb e => ne b o (fun z => hb (z ▸ List.mem_cons_self)) e) mv2
end
section
variable {prog : Program} {w : World} {A : Around} {E : Value → Shared → Prop} {s : Shared}
theorem args_sum2 (a b : Value) : argsOk "sum" ⟨[a, b], []⟩ := by unfold argsOk; kernel_rfl
/-- a list as values, in a heap -/
abbrev LAt (h : Heap) (a : Addr) (vs : List Value) : Prop := ∃ o n, h.get? a = some o ∧ o.cls = .type "list" ∧ o.data = .seq vs.toArray n
theorem add_at_ {a b : Addr} {vs us : List Value} {Q : Value → Shared → Prop} (ha : LAt s.heap a vs) (hb : LAt s.heap b us) (fit : vs.length + us.length ≤ sizeLine)
    (q : Q (.ref s.heap.objs.size) { s with heap := s.heap.push { cls := .type "list", data := .seq (vs ++ us).toArray } }) : wpAny (model prog w) A (binaryOp .Add (.ref a) (.ref b)) Q E s := by
  obtain ⟨⟨c1, d1, t1, s1⟩, n1, e1, rfl, rfl⟩ := ha
  obtain ⟨⟨c2, d2, t2, s2⟩, n2, e2, rfl, rfl⟩ := hb
  refine concat_meets ⟨_, e1, rfl⟩ ⟨_, e2, rfl⟩ noFill_list_add seq_list_add PySem.F.slot_list_add PySem.F.entry_list_add (PySem.F.args_list_add_2 _ _) (list_addW a b vs.toArray us.toArray n1 n2 d1 d2 s1 s2 (by simpa using fit)) ⟨e1, e2, ?_⟩
  have e : vs.toArray ++ us.toArray = (vs ++ us).toArray := by simp
  rw [e]
  exact q
/-- what stands behind i of the lists -/
structure Sums (h0 h : Heap) (z : Addr) (zs : List Value) (rows : List (List Value)) (i : Nat) (a : Addr) : Prop where
  keeps : ∀ b o, h0.get? b = some o → h.get? b = some o
  at_ : LAt h a (zs ++ (rows.take i).flatten)
  new : i = 0 ∧ a = z ∨ h0.objs.size + 2 ≤ a ∧ ∃ n, h.get? a = some { cls := .type "list", dict := none, data := .seq (zs ++ (rows.take i).flatten).toArray n, slots := #[] }
theorem sum_lists {l z : Addr} {items : List Value} {zs : List Value} {rows : List (List Value)} {Q : Value → Shared → Prop} (hh : A.handled = none) (hl : s.heap.IsList l items.toArray) (hz : LAt s.heap z zs)
    (hr : ∀ (i : Nat) (v : Value), items[i]? = some v → ∃ a vs, v = .ref a ∧ rows[i]? = some vs ∧ LAt s.heap a vs) (hn : rows.length = items.length) (fit : zs.length + rows.flatten.length ≤ sizeLine)
    (q : ∀ r h' tk, Sums s.heap h' z zs rows rows.length r → Q (.ref r) { s with heap := h', toks := tk }) :
    wpAny (model prog w) A (call (.builtin "sum") [.ref l, .ref z]) Q E s := by
  have hzl : z < s.heap.objs.size := by obtain ⟨o, n, e1, _⟩ := hz; exact Heap.lt_size e1
  have hll : l < s.heap.objs.size := by obtain ⟨o, e1, _⟩ := hl; exact Heap.lt_size e1
  refine call_function_tree PySem.F.kind_sum PySem.F.plain_sum PySem.F.entry_sum (args_sum2 _ _) ?_
  unfold Builtin.«sum»
  simp only [List.length_cons, List.length_nil]
  rw [if_neg (by decide)]
  refine wpAny_bind (wpAny_of_eq (show Builtin.Builtins.bindParams "sum" ["start"] 0 { pos := [.ref z] } = pure [some (.ref z)] from rfl) ?_)
  refine wpAny_bind (wpAny_pyIter_list hl ?_)
  refine wpAny_bind (wpAny_pure ?_)
  simp only [List.forIn_cons, List.forIn_nil]
  have hT : Shared.TypeIs { s with heap := s.heap.push { cls := .type "list_iterator", data := .fields #[.ref l, .int 0 0] } } (.ref z) "list" := by
    obtain ⟨o, n, e1, e2, _⟩ := hz
    exact ⟨o, Heap.get?_push_of_some _ e1, e2⟩
  refine wpAny_bind (wpAny_bind (wpAny_bind (wpAny_isInstance (T := "list") (b := false) hT PySem.F.sub_list_str ?_)))
  simp only [Bool.false_eq_true, if_false]
  refine wpAny_pure (wpAny_bind (wpAny_bind (wpAny_isInstance (T := "list") (b := false) hT PySem.F.sub_list_bytes ?_)))
  simp only [Bool.false_eq_true, if_false]
  refine wpAny_pure (wpAny_bind (wpAny_bind (wpAny_isInstance (T := "list") (b := false) hT PySem.F.sub_list_bytearray ?_)))
  simp only [Bool.false_eq_true, if_false]
  refine wpAny_pure (wpAny_pure ?_)
  refine wpAny_bind (wpAny_newObj_type ?_)
  obtain ⟨it, hit⟩ : ∃ it : Obj, it = { cls := .type "list_iterator", data := .fields #[.ref l, .int 0 0] } := ⟨_, rfl⟩
  rw [← hit]
  have z1 : (s.heap.push it).objs.size = s.heap.objs.size + 1 := Heap.size_push ..
  have W := (Walks.list (prog := prog) (w := w) (A := A.in1) (show A.in1.handled = none by simp [hh]) s.heap.objs.size l (Nat.ne_of_lt hll) items.toArray).toS
  have keep : ∀ i a h h', (∀ b o, b ∉ (s.heap.push it).objs.size :: [s.heap.objs.size] → h.get? b = some o → h'.get? b = some o) → Sums s.heap h z zs rows i a → Sums s.heap h' z zs rows i a := fun i a h h' k C => by
    have lo : ∀ b, b < s.heap.objs.size → b ∉ (s.heap.push it).objs.size :: [s.heap.objs.size] := fun b hb m => by
      rw [z1] at m
      simp only [List.mem_cons, List.not_mem_nil, or_false] at m
      rcases m with e | e <;> rw [e] at hb
      · exact absurd hb (Nat.not_lt_of_le (Nat.le_succ _))
      · exact Nat.lt_irrefl _ hb
    have hi : ∀ b, s.heap.objs.size + 2 ≤ b → b ∉ (s.heap.push it).objs.size :: [s.heap.objs.size] := fun b hb m => by
      rw [z1] at m
      simp only [List.mem_cons, List.not_mem_nil, or_false] at m
      rcases m with e | e <;> rw [e] at hb
      · exact absurd hb (Nat.not_le_of_lt (Nat.lt_succ_self _))
      · exact absurd hb (Nat.not_le_of_lt (Nat.lt_succ_of_lt (Nat.lt_succ_self _)))
    obtain ⟨o, n, e1, e2⟩ := C.at_
    refine ⟨fun b o e => k b o (lo b (Heap.lt_size e)) (C.keeps b o e), ⟨o, n, k a o ?_ e1, e2⟩, ?_⟩
    · rcases C.new with ⟨_, e⟩ | ⟨e, _⟩
      · rw [e]; exact lo z hzl
      · exact hi a e
    · rcases C.new with e | ⟨e, n, e3⟩
      · exact .inl e
      · exact .inr ⟨e, n, k a _ (hi a e) e3⟩
  refine wpAny_pure ⟨plainId_quiet PySem.F.plain_sum_loop _, sum_loop W (S := (s.heap.push it).objs.size) (J := fun i a h => Sums s.heap h z zs rows i a) ?ns keep ?step items.length 0 _ z 0 (by simp) ?st ?j0 ?ho ?fin⟩
  case ns =>
    intro m
    rw [z1] at m
    simp only [List.mem_cons, List.not_mem_nil, or_false] at m
    rcases m with e | e
    · exact Nat.succ_ne_self _ e
    · rw [← e] at hll; exact absurd hll (Nat.not_lt_of_le (Nat.le_succ _))
  case step =>
    intro i v a s1 E1 Q1 hi hv ⟨os, ho⟩ C q1
    have hv' : items[i]? = some v := by simpa using hv
    obtain ⟨b, us, rfl, hrow, ob, nb, e1, e2⟩ := hr i v hv'
    have tk : (rows.take (i + 1)).flatten = (rows.take i).flatten ++ us := by rw [List.take_add_one, hrow, List.flatten_append]; simp
    have le : zs.length + (rows.take (i + 1)).flatten.length ≤ sizeLine := by
      have h1 : rows.flatten = (rows.take (i + 1)).flatten ++ (rows.drop (i + 1)).flatten := by rw [← List.flatten_append, List.take_append_drop]
      rw [h1, List.length_append] at fit
      omega
    rw [tk, List.length_append] at le
    refine add_at_ C.at_ ⟨ob, nb, C.keeps _ _ e1, e2⟩ (by rw [List.length_append]; omega) ?_
    have sz : s.heap.objs.size + 2 ≤ s1.heap.objs.size := by
      have := Heap.lt_size ho
      rw [z1] at this
      exact this
    have nw : (s1.heap.push { cls := .type "list", data := .seq (zs ++ (rows.take i).flatten ++ us).toArray }).get? s1.heap.objs.size = some { cls := .type "list", data := .seq (zs ++ (rows.take i).flatten ++ us).toArray } := Heap.get?_push_size _ rfl
    refine q1 _ _ (fun b o e => Heap.get?_push_of_some _ e) ⟨fun b o e => Heap.get?_push_of_some _ (C.keeps b o e), ?_, .inr ⟨sz, 0, ?_⟩⟩
    · rw [tk, ← List.append_assoc]; exact ⟨_, _, nw, rfl, rfl⟩
    · rw [tk, ← List.append_assoc]; exact nw
  case st => exact ⟨⟨_, Heap.get?_push_of_some _ (by rw [hit]; exact Heap.get?_push_size _ rfl), rfl, rfl⟩, (hl.push _).push _⟩
  case j0 =>
    obtain ⟨o, n, e1, e2, e3⟩ := hz
    exact ⟨fun b o e => Heap.get?_push_of_some _ (Heap.get?_push_of_some _ e), ⟨o, n, Heap.get?_push_of_some _ (Heap.get?_push_of_some _ e1), e2, by simpa using e3⟩, .inl ⟨rfl, rfl⟩⟩
  case ho => exact Heap.get?_push_size _ rfl
  case fin =>
    intro s' r mv C
    obtain ⟨h', g', d', tk', os'⟩ := s'
    have eg : g' = s.gens := mv.gens
    have ed : d' = s.drawn := mv.drawn
    have eo : os' = s.os := mv.os
    subst eg; subst ed; subst eo
    refine q r h' tk' ?_
    rw [hn]
    simpa using C
end
end DL

set_option Elab.async false
set_option linter.all false
set_option maxRecDepth 100000
set_option maxHeartbeats 4000000
set_option autoImplicit false
namespace DL
open PySem PySem.Spec PyProof.Rows L2
def RowsAt (K : PySem.W.Frag) (H : Hp) : List V → List (List V) → Prop
  | [], [] => True
  | y :: ys, vs :: rows => (∃ a, y = .ref a ∧ SqL K H a vs) ∧ RowsAt K H ys rows
  | _, _ => False
section
variable {X : Cx} {pins : List (Addr × Obj)} {σ : L2.St} {H : Hp} {s : Shared}
theorem rows_vals (I : Inv X pins σ H s) : ∀ {ys : List V} {rows : List (List V)} {its : List Value}, RowsAt X.K H ys rows → Vals ys its → ∃ rv : List (List Value), rv.length = its.length ∧ rows.length = its.length ∧ Vals rows.flatten rv.flatten ∧ ∀ (i : Nat) (v : Value), its[i]? = some v → ∃ a vs, v = .ref a ∧ rv[i]? = some vs ∧ LAt s.heap a vs
  | [], [], _, _, .nil => ⟨[], rfl, rfl, .nil, fun i v h => by simp at h⟩
  | y :: ys, vs :: rows, _, h, .cons r t => by
    obtain ⟨⟨a, rfl, hs⟩, h2⟩ := h
    obtain ⟨rv, l1, l2, l3, l4⟩ := rows_vals I h2 t
    obtain ⟨its, rvs, ⟨o, n, ho, hc, hdn, hdt⟩, hz⟩ := I.list hs
    cases r
    refine ⟨its :: rv, by simp [l1], by simp [l2], by simpa using Vals.append rvs l3, fun i v hv => ?_⟩
    cases i with
    | zero => simp only [List.getElem?_cons_zero, Option.some.injEq] at hv ⊢; exact ⟨a, its, hv.symm, rfl, o, n, ho, hc, hdt⟩
    | succ i => simp only [List.getElem?_cons_succ] at hv ⊢; exact l4 i v hv
  | [], _ :: _, _, h, _ => h.elim
  | _ :: _, [], _, h, _ => h.elim
def rSumL (K : PySem.W.Frag) : List V → Hp → VK → Prop := fun xs H Q => ∃ l z, ∃ ys zv : List V, ∃ rows : List (List V), xs = [.ref l, .ref z] ∧ SqL K H l ys ∧ RowsAt K H ys rows ∧ SqL K H z zv ∧ zv.length + rows.flatten.length ≤ sizeLine ∧
  (rows = [] → Q (.ref z) H) ∧ ∀ p, H p = none → Q (.ref p) (upd H p (.lst (zv ++ rows.flatten)))
end
section
variable {X : Cx}
theorem cr_sumL (hc : X.calm = true) : CallR X (.builtin "sum") (rSumL X.K) := by
  intro pins s σ H xs us Q I r h
  obtain ⟨l, z, ys, zv, rows, rfl, hl, hr, hz, fit, q0, q1⟩ := h
  have eu : us = [.ref l, .ref z] := by
    cases r with
    | cons r1 t =>
      cases t with
      | cons r2 t2 => cases t2; cases r1; cases r2; rfl
  subst eu
  obtain ⟨its, rv, pl, _⟩ := I.list hl
  obtain ⟨rvs, l1, l2, l3, l4⟩ := rows_vals I hr rv
  obtain ⟨zi, rz, ⟨o, n, ho, hc', hdn, hdt⟩, hzz⟩ := I.list hz
  have f1 : zi.length = zv.length := rz.length.symm
  have f2 : rvs.flatten.length = rows.flatten.length := l3.length.symm
  refine sum_lists (I.ok.hd hc) pl.isList ⟨o, n, ho, hc', hdt⟩ l4 l1 (by omega) fun p h' tk C => ?_
  rw [l1] at C
  have C' : LAt h' p (zi ++ rvs.flatten) ∧ (its.length = 0 ∧ p = z ∨ s.heap.objs.size + 2 ≤ p ∧ ∃ n, h'.get? p = some { cls := .type "list", dict := none, data := .seq (zi ++ rvs.flatten).toArray n, slots := #[] }) := by
    have e : rvs.take its.length = rvs := List.take_of_length_le (by omega)
    have a := C.at_
    have b := C.new
    rw [e] at a b
    exact ⟨a, b⟩
  rcases C'.2 with ⟨e1, rfl⟩ | ⟨e1, m, e2⟩
  · have : rows = [] := by cases rows with | nil => rfl | cons x y => simp at l2; omega
    exact ⟨.ref p, H, I.kept C.keeps, rfl, q0 this⟩
  · have hp : H p = none := I.hok.fresh (Nat.le_trans (Nat.le_add_right _ 2) e1)
    refine ⟨.ref p, upd H p (.lst (zv ++ rows.flatten)), I.laid (t' := tk) C.keeps (Nat.le_trans (Nat.le_add_right _ 2) e1) ⟨by rw [List.length_append]; exact fit, zi ++ rvs.flatten, m, Vals.append rz l3, e2⟩, rfl, q1 p hp⟩
def lsts : List D → Option (List (List D))
  | [] => some []
  | .lst ds :: rs => (lsts rs).map (ds :: ·)
  | _ => none
def dSumL : DRn := fun cs G R => match cs with
  | [x, .lst zs] => (match (lstOf G x).bind lsts with | some rows => zs.length + rows.flatten.length ≤ sizeLine ∧ R (.lst (zs ++ rows.flatten)) G | none => False)
  | _ => False
theorem lsts_ok {K : PySem.W.Frag} {H : Hp} {N : Ns} : ∀ {ds : List D} {vs : List V} {rows : List (List D)}, RDs K H N ds vs → lsts ds = some rows → ∃ rv, RowsAt K H vs rv ∧ RDs K H N rows.flatten rv.flatten ∧ (rows = [] ↔ rv = [])
  | [], vs, rows, r, h => by cases h; rw [r.of_nil]; exact ⟨[], True.intro, .nil, by simp⟩
  | d :: ds, vs, rows, r, h => by
    obtain ⟨v, vs, rfl, r1, r2⟩ := r.of_cons
    cases d with
    | lst es =>
      unfold lsts at h
      cases c : lsts ds with
      | none => rw [c] at h; cases h
      | some rs =>
        rw [c] at h
        cases h
        obtain ⟨rv, h1, h2, h3⟩ := lsts_ok r2 c
        obtain ⟨p, us, rfl, sq, re⟩ := r1.of_lst
        exact ⟨us :: rv, ⟨⟨p, rfl, sq.sq⟩, h1⟩, by simpa using re.append h2, by simp⟩
    | _ => cases h
theorem cd_sumL (hc : X.calm = true) : CallD X (.builtin "sum") dSumL := up_rn (cr_sumL hc) fun cs G N R xs H Q rd rg h q => by
  unfold dSumL at h
  split at h
  · rename_i x zs
    obtain ⟨v, r, rfl, r1, r2⟩ := rd.of_cons
    obtain ⟨v2, r', rfl, r3, r4⟩ := r2.of_cons
    rw [r4.of_nil]
    split at h
    · rename_i rows e
      cases e2 : lstOf G x with
      | none => rw [e2] at e; cases e
      | some ds =>
        rw [e2] at e
        obtain ⟨p, vs, rfl, sq, r⟩ := lstOf_ok rg r1 e2
        obtain ⟨rv, h1, h2, h3⟩ := lsts_ok r e
        obtain ⟨z, zv, rfl, sz, rz⟩ := lstOf_ok rg r3 (show lstOf G (.lst zs) = some zs from rfl)
        refine ⟨p, z, vs, zv, rv, rfl, sq, h1, sz, by rw [← rz.length, ← h2.length]; exact h.1, fun e => ?_, fun p np => ?_⟩
        · have : rows = [] := h3.mpr e
          subst this
          have e5 := h.2
          rw [List.flatten_nil, List.append_nil] at e5
          exact q.at rg e5 r3
        · exact newL_ok (mk := false) rg (rz.append h2) h.2 q np
    · exact h.elim
  · exact h.elim
end
end DL

set_option Elab.async false
set_option linter.all false
set_option maxRecDepth 100000
set_option maxHeartbeats 4000000
set_option autoImplicit false
namespace DL
open PySem PySem.Spec PyProof.Rows L2
/-! ### len(set(..)), read by types -/
mutual
def kyD : D → Bool
  | .int _ => true | .str _ => true | .bl _ => true
  | .tup ds => kyDs ds
  | _ => false
def kyDs : List D → Bool
  | [] => true
  | d :: ds => kyD d && kyDs ds
end
mutual
theorem kyD_ok : ∀ {d : D}, kyD d = true → ∃ a, toPy d = some a ∧ hasK a = true ∧ a.depth = depD d
  | .int i, _ => ⟨.int i, by simp only [toPy], by simp [hasK], by simp [PyData.depth, depD]⟩
  | .str i, _ => ⟨.str i, by simp only [toPy], by simp [hasK], by simp [PyData.depth, depD]⟩
  | .bl i, _ => ⟨.bool i, by simp only [toPy], by simp [hasK], by simp [PyData.depth, depD]⟩
  | .tup ds, h => by
    simp only [kyD] at h
    obtain ⟨as, e, h1, h2⟩ := kyDs_ok h
    exact ⟨.tuple as, by simp only [toPy, e]; rfl, by simp only [hasK]; exact h1, by simp only [PyData.depth, depD, h2]⟩
  | .non, h => by simp [kyD] at h
  | .lst _, h => by simp [kyD] at h
  | .nt _, h => by simp [kyD] at h
  | .ty _, h => by simp [kyD] at h
  | .ref _, h => by simp [kyD] at h
  | .any _, h => by simp [kyD] at h
theorem kyDs_ok : ∀ {ds : List D}, kyDs ds = true → ∃ as, toPys ds = some as ∧ hasKs as = true ∧ PyData.depthAll as = depDs ds
  | [], _ => ⟨[], by simp only [toPys], rfl, by simp [PyData.depthAll, depDs]⟩
  | d :: ds, h => by
    simp only [kyDs, Bool.and_eq_true] at h
    obtain ⟨a, e, h1, h2⟩ := kyD_ok h.1
    obtain ⟨as, e', h1', h2'⟩ := kyDs_ok h.2
    exact ⟨a :: as, by simp only [toPys, e, e'], by simp only [hasKs, h1, h1']; rfl, by simp only [PyData.depthAll, depDs, h2, h2']⟩
end
theorem kyDs_map {α : Type} {d : α → D} : ∀ {xs : List α}, (∀ x ∈ xs, kyD (d x) = true) → kyDs (xs.map d) = true
  | [], _ => rfl
  | x :: xs, h => by
    simp only [List.map_cons, kyDs, Bool.and_eq_true]
    exact ⟨h x List.mem_cons_self, kyDs_map fun y hy => h y (List.mem_cons_of_mem _ hy)⟩
theorem depDs_map {α : Type} {d : α → D} {n : Nat} : ∀ {xs : List α}, (∀ x ∈ xs, depD (d x) ≤ n) → depDs (xs.map d) ≤ n
  | [], _ => by simp [depDs]
  | x :: xs, h => by
    simp only [List.map_cons, depDs]
    have h1 := h x List.mem_cons_self
    have h2 := depDs_map (xs := xs) fun y hy => h y (List.mem_cons_of_mem _ hy)
    omega
theorem toPys_each {α : Type} {d : α → D} {f : α → PyData} : ∀ {xs : List α}, (∀ x ∈ xs, toPy (d x) = some (f x)) → toPys (xs.map d) = some (xs.map f)
  | [], _ => by simp only [List.map_nil, toPys]
  | x :: xs, h => by simp only [List.map_cons, toPys, h x List.mem_cons_self, toPys_each fun y hy => h y (List.mem_cons_of_mem _ hy)]
theorem kSet_typ {α : Type} [DecidableEq α] {f : α → PyData} : ∀ (xs acc : List α), (∀ x ∈ acc ++ xs, ∀ y ∈ acc ++ xs, PyData.eqv (f x) (f y) = decide (x = y)) → (xs.map f).foldl kStep (acc.map f) = (xs.foldl uniqStep acc).map f
  | [], acc, _ => rfl
  | x :: xs, acc, h => by
    simp only [List.map_cons, List.foldl_cons]
    have e : kStep (acc.map f) (f x) = (uniqStep acc x).map f := by
      have a : ((acc.map f).any fun z => PyData.eqv z (f x)) = decide (x ∈ acc) := by
        rw [List.any_map, Bool.eq_iff_iff, List.any_eq_true, decide_eq_true_eq]
        constructor
        · rintro ⟨y, hy, e⟩
          simp only [Function.comp] at e
          rw [h y (by simp [hy]) x (by simp)] at e
          rw [← of_decide_eq_true e]; exact hy
        · intro hx
          refine ⟨x, hx, ?_⟩
          simp only [Function.comp]
          rw [h x (by simp) x (by simp)]; simp
      unfold kStep uniqStep
      rw [a]
      by_cases c : x ∈ acc
      · simp [c]
      · simp [c]
    rw [e]
    refine kSet_typ xs (uniqStep acc x) fun y hy z hz => h y ?_ z ?_
    · unfold uniqStep at hy
      rcases List.mem_append.mp hy with hy | hy
      · split at hy
        · simp [hy]
        · rcases List.mem_append.mp hy with hy | hy
          · simp [hy]
          · simp at hy; simp [hy]
      · simp [hy]
    · unfold uniqStep at hz
      rcases List.mem_append.mp hz with hz | hz
      · split at hz
        · simp [hz]
        · rcases List.mem_append.mp hz with hz | hz
          · simp [hz]
          · simp at hz; simp [hz]
      · simp [hz]
def lenSetD (x : D) (G : Gp) (R : DK) : Prop := match (seqOf G x).bind keysD with
    | some ks => ks.length + 1 < scanBound ∧ R (.int (uniq ks).length) G
    | none => match (seqOf G x).bind toPys with | some as => okSet as ∧ R (.int (kSet as).length) G | none => False
theorem x_lenSetD {ta : DE} {σ : Sd} {G : Gp} {R : DK} : dLenSetE ta σ G R = ta σ G fun x G1 => lenSetD x G1 R := rfl
theorem lenSet_go {α : Type} [DecidableEq α] {d : α → D} {xs : List α} {G : Gp} {x : D} {R : DK} (e : seqOf G x = some (xs.map d)) (heq : ∀ a b, eqD (d a) (d b) = decide (a = b)) (ht : ∀ a, ∃ ds, d a = .tup ds) (hk : ∀ a ∈ xs, kyD (d a) = true) (hd : ∀ a ∈ xs, depD (d a) ≤ 8) (few : xs.length < 64) (k : R (.int (uniq xs).length) G) : lenSetD x G R := by
  unfold lenSetD
  rw [e]
  simp only [Option.bind_some]
  cases xs with
  | nil => exact ⟨by unfold scanBound; decide, k⟩
  | cons y ys =>
    have h1 : keysD ((y :: ys).map d) = none := by
      obtain ⟨ds, hds⟩ := ht y
      simp only [List.map_cons, keysD, hds, keyD]
    rw [h1]
    generalize y :: ys = xs at *
    have fx : ∀ a ∈ xs, toPy (d a) = some ((toPy (d a)).getD .none) := fun a ha => by
      obtain ⟨z, e, _⟩ := kyD_ok (hk a ha)
      rw [e]; rfl
    have h2 := toPys_each (f := fun a => (toPy (d a)).getD .none) fx
    obtain ⟨as, e3, h3, h4⟩ := kyDs_ok (kyDs_map hk)
    rw [h2] at e3
    cases e3
    simp only [h2]
    refine ⟨⟨?_, h3, ?_, by rw [List.length_map]; exact few⟩, ?_⟩
    · rw [List.all_map, List.all_eq_true]
      intro a ha
      obtain ⟨ds, hds⟩ := ht a
      obtain ⟨z, e, _⟩ := kyD_ok (hk a ha)
      simp only [Function.comp, e, Option.getD_some]
      rw [hds] at e
      simp only [toPy] at e
      cases c : toPys ds with
      | none => rw [c] at e; cases e
      | some bs => rw [c] at e; cases e; rfl
    · rw [h4]; exact depDs_map hd
    · have := kSet_typ (f := fun a => (toPy (d a)).getD .none) xs [] (fun a ha b hb => by
        rw [← heq a b]
        exact eqv_eqD (fx a (by simpa using ha)) (fx b (by simpa using hb)))
      unfold kSet
      have e5 : ((xs.map fun a => (toPy (d a)).getD .none).foldl kStep []).length = (uniq xs).length := by
        have := congrArg List.length this
        simpa [uniq] using this
      rw [e5]
      exact k
end DL

set_option Elab.async false
set_option linter.all false
set_option maxRecDepth 100000
set_option maxHeartbeats 4000000
set_option autoImplicit false
namespace DL
open PySem PySem.Spec PyProof.Rows L2
/-! ### dicts whose keys are mixed, nested data: read and written -/
section
variable {prog : Program} {w : World} {A : Around} {E : Value → Shared → Prop} {s : Shared} {d : Addr} {o : Obj} {es : Array DictEntry} {ep : Nat} {ks : List PyData} {key v : Value} {k : PyData} {as : List Addr}
theorem get_data {Q : Option Value → Shared → Prop} (ho : s.heap.get? d = some o) (hd : o.data = .dict es ep) (X : Ents w s.heap ks es) (rk : Reads s.heap key k as) (hk : hasK k = true) (hkd : k.depth ≤ 8) (hu : A.units + 10 < cLine)
    (q : Q ((ks.findIdx? fun z => PyData.eqv z k).bind fun i => es[i]?.map (·.val)) { s with toks := s.toks + drwK k }) : wpAny (model prog w) A (dictGet d key) Q E s := by
  unfold dictGet
  try with_reducible refine wpAny_holding ?_
  refine wpAny_bind (hash_data k rk hk (by omega) (wpAny_bind (find_data (s := { s with toks := s.toks + drwK k }) ho hd X rk hk hkd hu ?_)))
  cases e : ks.findIdx? fun z => PyData.eqv z k with
  | none => rw [e] at q; exact wpAny_pure q
  | some i =>
    rw [e] at q
    refine wpAny_bind (wpAny_dictEntries (s := { s with toks := s.toks + drwK k }) ho hd ?_)
    exact wpAny_pure q
theorem put_data {Q : Unit → Shared → Prop} (ho : s.heap.get? d = some o) (hd : o.data = .dict es ep) (X : Ents w s.heap ks es) (rk : Reads s.heap key k as) (hk : hasK k = true) (hkd : k.depth ≤ 8) (hu : A.units + 10 < cLine) (hz : es.size ≤ sizeLine)
    (q1 : (ks.findIdx? fun z => PyData.eqv z k) = none → Q () { s with heap := s.heap.update d (Obj.mapDictKeys (·.push ⟨hshK w k, key, v⟩)), toks := s.toks + drwK k })
    (q2 : ∀ i, (ks.findIdx? fun z => PyData.eqv z k) = some i → Q () { s with heap := s.heap.update d (Obj.mapDict (·.modify i fun e => { e with val := v })), toks := s.toks + drwK k }) : wpAny (model prog w) A (dictSet d key v) Q E s := by
  unfold dictSet
  try with_reducible refine wpAny_holding ?_
  refine wpAny_bind (hash_data k rk hk (by omega) ?_)
  unfold dictSetHashed
  try with_reducible refine wpAny_holding ?_
  refine wpAny_bind (find_data (s := { s with toks := s.toks + drwK k }) ho hd X rk hk hkd hu ?_)
  cases e : ks.findIdx? fun z => PyData.eqv z k with
  | none => exact wpAny_bind (wpAny_rule (wpAny_updateDictKeys (hz := hz) (s := { s with toks := s.toks + drwK k }) ho hd (q1 e)))
  | some i => exact wpAny_bind (wpAny_rule (wpAny_bind (wpAny_updateDict (s := { s with toks := s.toks + drwK k }) ho hd (wpAny_point (q2 i e)))))
theorem in_data {Q : Bool → Shared → Prop} (ho : s.heap.get? d = some o) (hex : o.ExactDict) (hd : o.data = .dict es ep) (X : Ents w s.heap ks es) (rk : Reads s.heap key k as) (hk : hasK k = true) (hkd : k.depth ≤ 8) (hu : A.units + 11 < cLine) (hs : (d == sysModules) = false)
    (q : Q (ks.findIdx? fun z => PyData.eqv z k).isSome { s with toks := s.toks + drwK k }) : wpAny (model prog w) A (contains (.ref d) key) Q E s := by
  have ty : s.TypeIs (.ref d) "dict" := ⟨o, ho, hex.1⟩
  unfold contains
  try with_reducible refine wpAny_holding ?_
  refine wpAny_bind (wpAny_specialOf ty slot_dict_contains.lookup ?_)
  show wpAny _ _ (if (some (Value.builtin "dict.__contains__") == some Value.none) = true then _ else _) _ E s
  rw [if_neg (by rw [beq_builtin_none]; exact Bool.false_ne_true)]
  refine wpAny_bind (wpAny_callSpecialUnlessNone?_slot (name := Str.ofString "__contains__") ty slot_dict_contains (wpAny_call_entry slot_dict_contains ty entry_dict_contains ?_ (args_dict_contains _ _)))
  show wpAny _ _ (dictGet d key >>= _) _ _ s
  refine wpAny_bind (get_data ho hd X rk hk hkd (by show A.units + 1 + 10 < cLine; omega) ?_)
  cases hf : ks.findIdx? fun z => PyData.eqv z k with
  | some i =>
    rw [hf] at q
    have hi : i < ks.length := (List.findIdx?_eq_some_iff_getElem.mp hf).1
    have hi2 : i < es.size := by rw [X.len]; exact hi
    simp only [Option.bind_some, Array.getElem?_eq_getElem hi2, Option.map_some]
    show wpAny _ _ (ret (.bool true)) _ _ _
    exact wpAny_pure ⟨_, rfl, wpAny_truthy_bool q⟩
  | none =>
    rw [hf] at q
    show wpAny _ _ (Builtin.Dict.pendingKey? d key >>= _) _ _ _
    exact wpAny_bind (wpAny_pendingKey_other hs (wpAny_pure ⟨_, rfl, wpAny_truthy_bool q⟩))
theorem ix_data {Q : Value → Shared → Prop} {i : Nat} {e : DictEntry} (ho : s.heap.get? d = some o) (hex : o.ExactDict) (hd : o.data = .dict es ep) (X : Ents w s.heap ks es) (rk : Reads s.heap key k as) (hk : hasK k = true) (hkd : k.depth ≤ 8) (hu : A.units + 11 < cLine)
    (hf : (ks.findIdx? fun z => PyData.eqv z k) = some i) (he : es[i]? = some e) (q : Q e.val { s with toks := s.toks + drwK k }) : wpAny (model prog w) A (getItem (.ref d) key) Q E s := by
  have ty : s.TypeIs (.ref d) "dict" := ⟨o, ho, hex.1⟩
  unfold getItem
  try with_reducible refine wpAny_holding ?_
  refine wpAny_bind (wpAny_sequenceKey ty (by decide) ?_)
  refine wpAny_bind (wpAny_callSpecial?_slot (name := Str.ofString "__getitem__") ty slot_dict_getitem (wpAny_call_entry slot_dict_getitem ty entry_dict_getitem ?_ (args_dict_getitem _ _)))
  show wpAny _ _ (dictGet d key >>= _) _ _ s
  refine wpAny_bind (get_data ho hd X rk hk hkd (by show A.units + 1 + 10 < cLine; omega) ?_)
  rw [hf]
  simp only [Option.bind_some, he, Option.map_some]
  exact wpAny_pure ⟨_, rfl, wpAny_pure q⟩
theorem st_data {Q : Unit → Shared → Prop} (ho : s.heap.get? d = some o) (hex : o.ExactDict) (hd : o.data = .dict es ep) (X : Ents w s.heap ks es) (rk : Reads s.heap key k as) (hk : hasK k = true) (hkd : k.depth ≤ 8) (hu : A.units + 11 < cLine) (hz : es.size ≤ sizeLine)
    (q1 : (ks.findIdx? fun z => PyData.eqv z k) = none → Q () { s with heap := s.heap.update d (Obj.mapDictKeys (·.push ⟨hshK w k, key, v⟩)), toks := s.toks + drwK k })
    (q2 : ∀ i, (ks.findIdx? fun z => PyData.eqv z k) = some i → Q () { s with heap := s.heap.update d (Obj.mapDict (·.modify i fun e => { e with val := v })), toks := s.toks + drwK k }) : wpAny (model prog w) A (setItem (.ref d) key v) Q E s := by
  have ty : s.TypeIs (.ref d) "dict" := ⟨o, ho, hex.1⟩
  unfold setItem
  try with_reducible refine wpAny_holding ?_
  refine wpAny_bind (wpAny_sequenceKey ty (by decide) ?_)
  refine wpAny_bind (wpAny_callSpecial?_slot (name := Str.ofString "__setitem__") ty slot_dict_setitem (wpAny_call_entry slot_dict_setitem ty entry_dict_setitem ?_ (args_dict_setitem _ _ _)))
  show wpAny _ _ (Builtin.Dict.notOrdered "__setitem__" ⟨[.ref d, key, v], []⟩ >>= _) _ _ s
  refine wpAny_bind (wpAny_notOrdered_dict ty ?_)
  show wpAny _ _ (dictSet d key v >>= _) _ _ s
  exact wpAny_bind (put_data ho hd X rk hk hkd (by show A.units + 1 + 10 < cLine; omega) hz (fun e => wpAny_pure ⟨.none, rfl, wpAny_pure (q1 e)⟩) fun i e => wpAny_pure ⟨.none, rfl, wpAny_pure (q2 i e)⟩)
end
/-! ### by data -/
def hshD (w : World) (d : D) : Int := hshK w ((toPy d).getD .none)
def KyOk (kvs : List (D × D)) : Prop := (∀ k ∈ kvs.map (·.1), kyD k = true ∧ depD k ≤ 8) ∧ (kvs.map (·.1)).Pairwise fun p q => eqD p q = false
abbrev GO.dN (w : World) (kvs : List (D × D)) : GO := .dX KyOk (hshD w) kvs
def ixX (kvs : List (D × D)) (k : D) : Option Nat := kvs.findIdx? fun p => eqD p.1 k
def getX (kvs : List (D × D)) (k : D) : Option D := (ixX kvs k).bind fun i => kvs[i]?.map (·.2)
def putX (kvs : List (D × D)) (k v : D) : List (D × D) := match ixX kvs k with
  | some i => kvs.modify i fun p => (p.1, v)
  | none => kvs ++ [(k, v)]
theorem Paired.get {α β : Type} {F : α → β → Prop} : ∀ {xs : List α} {ys : List β} {i : Nat} {a : α}, Paired F xs ys → xs[i]? = some a → ∃ b, ys[i]? = some b ∧ F a b
  | _, _, _, _, .nil, e => by simp at e
  | _, _, 0, _, .cons r t, e => by simp at e; subst e; exact ⟨_, rfl, r⟩
  | _, _, i + 1, a, .cons r t, e => by
    obtain ⟨b, h1, h2⟩ := Paired.get t (i := i) (a := a) (by simpa using e)
    exact ⟨b, by simpa using h1, h2⟩
theorem Paired.app {α β : Type} {F : α → β → Prop} : ∀ {xs xs' : List α} {ys ys' : List β}, Paired F xs ys → Paired F xs' ys' → Paired F (xs ++ xs') (ys ++ ys')
  | _, _, _, _, .nil, q => q
  | _, _, _, _, .cons r t, q => .cons r (Paired.app t q)
theorem Paired.modify {α β : Type} {F : α → β → Prop} {f : α → α} {g : β → β} (h : ∀ a b, F a b → F (f a) (g b)) : ∀ {xs : List α} {ys : List β} (i : Nat), Paired F xs ys → Paired F (xs.modify i f) (ys.modify i g)
  | _, _, _, .nil => by simp; exact .nil
  | _, _, 0, .cons r t => by simp; exact .cons (h _ _ r) t
  | _, _, i + 1, .cons r t => by simp; exact .cons r (Paired.modify h i t)
end DL

set_option Elab.async false
set_option linter.all false
set_option maxRecDepth 100000
set_option maxHeartbeats 4000000
set_option autoImplicit false
namespace DL
open PySem PySem.Spec PyProof.Rows L2
def pyN (d : D) : PyData := (toPy d).getD .none
theorem pyN_ok {d : D} (h : kyD d = true) : toPy d = some (pyN d) ∧ hasK (pyN d) = true ∧ (pyN d).depth = depD d := by
  obtain ⟨a, e, h1, h2⟩ := kyD_ok h
  unfold pyN
  rw [e]
  exact ⟨rfl, h1, h2⟩
theorem keys_modify (kvs : List (D × D)) (v : D) : ∀ i : Nat, (kvs.modify i fun p => (p.1, v)).map (·.1) = kvs.map (·.1) := by
  induction kvs with
  | nil => intro i; simp
  | cons p kvs ih =>
    intro i
    cases i with
    | zero => simp
    | succ i => simp only [List.modify_succ_cons, List.map_cons, ih]
theorem KyOk.put {kvs : List (D × D)} (ok : KyOk kvs) {k v : D} (hk : kyD k = true) (hd : depD k ≤ 8) : KyOk (putX kvs k v) := by
  unfold putX
  split
  · unfold KyOk
    rw [keys_modify]
    exact ok
  · rename_i e
    unfold KyOk
    rw [List.map_append, List.map_singleton]
    refine ⟨fun z hz => ?_, ?_⟩
    · rcases List.mem_append.mp hz with hz | hz
      · exact ok.1 z hz
      · rw [List.mem_singleton.mp hz]; exact ⟨hk, hd⟩
    · rw [List.pairwise_append]
      refine ⟨ok.2, List.pairwise_singleton _ _, fun z hz y hy => ?_⟩
      rw [List.mem_singleton.mp hy]
      obtain ⟨p, hp, rfl⟩ := List.mem_map.mp hz
      unfold ixX at e
      rw [List.findIdx?_eq_none_iff] at e
      exact e p hp
theorem putX_len {kvs : List (D × D)} {k v : D} : (putX kvs k v).length ≤ kvs.length + 1 := by
  unfold putX
  split
  · simp
  · simp
section
variable {X : Cx} {pins : List (Addr × Obj)} {σ : L2.St} {H : Hp} {s : Shared} {N : Ns} {a : Addr} {kvs : List (D × D)} {kvs' : List (Int × V × V)}
theorem dxo_ok {P : Program} {w : World} {H : Hp} {h : Heap} (x : DxIs h a kvs') : ObjOk P w H h a (DxO a kvs') := by
  refine ⟨x, ?_, fun h1 h2 q st => ?_⟩
  · obtain ⟨_, _, o, _, _, ho, _⟩ := x
    exact ⟨o, ho⟩
  · obtain ⟨z1, z2, o, es, ep, ho, r⟩ := q
    exact ⟨z1, z2, o, es, ep, st o ho, r⟩
theorem dx_ents (I : Inv X pins σ H s) (hH : H a = some (DxO a kvs')) (r : RXV X.K H N (hshD X.w) kvs kvs') (ok : KyOk kvs) :
    kvs'.length ≤ sizeLine ∧ kvs.length = kvs'.length ∧ (a == sysModules) = false ∧ ∃ o es ep, s.heap.get? a = some o ∧ o.ExactDict ∧ o.data = .dict es ep ∧ es.size = kvs'.length ∧ Ents X.w s.heap (kvs.map fun p => pyN p.1) es ∧ Paired (fun (p : Int × V × V) (e : DictEntry) => e.hash = p.1 ∧ RelV p.2.1 e.key ∧ RelV p.2.2 e.val) kvs' es.toList := by
  have hx : ObjOk X.prog X.w H s.heap a (DxO a kvs') := I.hok a _ hH
  obtain ⟨z, hs, o, es, ep, ho, hex, hd, pr⟩ := hx.1
  have l1 : kvs.length = kvs'.length := Paired.length r
  have l2 : kvs'.length = es.toList.length := Paired.length pr
  have l3 : es.size = kvs'.length := by rw [l2]; simp
  have kk : ∀ p ∈ kvs, kyD p.1 = true ∧ depD p.1 ≤ 8 := fun p hp => ok.1 _ (List.mem_map.mpr ⟨p, hp, rfl⟩)
  refine ⟨z, l1, hs, o, es, ep, ho, hex, hd, l3, ⟨?_, ?_, ?_, ?_⟩, pr⟩
  · rw [List.length_map]; omega
  · intro i e k h1 h2
    rw [List.getElem?_map] at h2
    obtain ⟨p, hp, rfl⟩ := Option.map_eq_some_iff.mp h2
    obtain ⟨q, hq, q1, q2, q3⟩ := Paired.get r hp
    obtain ⟨e', he', e1, e2, e3⟩ := Paired.get pr hq
    rw [Array.getElem?_toList, h1] at he'
    cases he'
    obtain ⟨k1, k2, k3⟩ := pyN_ok (kk p (List.mem_of_getElem? hp)).1
    exact ⟨by rw [e1, q1]; rfl, Dp.reads I _ _ _ (toPy_ok q2 k1) e2⟩
  · intro k hk
    obtain ⟨p, hp, rfl⟩ := List.mem_map.mp hk
    obtain ⟨k1, k2, k3⟩ := pyN_ok (kk p hp).1
    exact ⟨k2, by rw [k3]; exact (kk p hp).2⟩
  · intro i j x y hij hx hy
    rw [List.getElem?_map] at hx hy
    obtain ⟨p, hp, rfl⟩ := Option.map_eq_some_iff.mp hx
    obtain ⟨q, hq, rfl⟩ := Option.map_eq_some_iff.mp hy
    obtain ⟨i1, i2⟩ := List.getElem?_eq_some_iff.mp hp
    obtain ⟨j1, j2⟩ := List.getElem?_eq_some_iff.mp hq
    have := List.pairwise_iff_getElem.mp ok.2 i j (by rw [List.length_map]; exact i1) (by rw [List.length_map]; exact j1) hij
    rw [List.getElem_map, List.getElem_map, i2, j2] at this
    rw [eqv_eqD (pyN_ok (kk p (List.mem_of_getElem? hp)).1).1 (pyN_ok (kk q (List.mem_of_getElem? hq)).1).1]
    exact this
theorem ix_same (ok : KyOk kvs) {k : D} (hk : kyD k = true) : ((kvs.map fun p => pyN p.1).findIdx? fun z => PyData.eqv z (pyN k)) = ixX kvs k := by
  refine find_pair (by simp) fun i x p h1 h2 => ?_
  rw [List.getElem?_map, h2] at h1
  cases h1
  exact eqv_eqD (pyN_ok (ok.1 _ (List.mem_map.mpr ⟨p, List.mem_of_getElem? h2, rfl⟩)).1).1 (pyN_ok hk).1
/-- d[k] -/
def dIxX (w : World) : DR2 := fun x y G R => ∃ a kvs d, x = .ref a ∧ G a = some (GO.dN w kvs) ∧ kyD y = true ∧ depD y ≤ 8 ∧ getX kvs y = some d ∧ R d G
theorem xd_ixX (hu : X.A.units + 11 < cLine) : IxD X (dIxX X.w) := by
  intro value slice pins s σ H x y v u Q I rx ry h hs
  obtain ⟨c, d, G, N, R, r1, r2, rg, ⟨a, kvs, z, rfl, hG, hk, hd, hg, hR⟩, q⟩ := h
  obtain rfl := r1.of_ref
  obtain rfl : v = Value.ref a := rx
  obtain ⟨hN, kvs', hH, rr, ok⟩ := rg a _ hG
  obtain ⟨z1, z2, z3, o, es, ep, ho, hex, hdt, z4, E, pr⟩ := dx_ents I hH rr ok
  obtain ⟨k1, k2, k3⟩ := pyN_ok hk
  obtain ⟨as, rk⟩ := Dp.reads I _ _ _ (toPy_ok r2 k1) ry
  unfold getX at hg
  obtain ⟨i, hi, hv⟩ := Option.bind_eq_some_iff.mp hg
  obtain ⟨p, hp, rfl⟩ := Option.map_eq_some_iff.mp hv
  obtain ⟨p', hp', q1, q2, q3⟩ := Paired.get rr hp
  obtain ⟨e, he, e1, e2, e3⟩ := Paired.get pr hp'
  rw [Array.getElem?_toList] at he
  exact tail_any ⟨o, ho, hex.1⟩ slot_dict_getitem.lookup (ix_data ho hex hdt E rk k2 (by rw [k3]; exact hd) hu (by rw [ix_same ok hk]; exact hi) he ⟨p'.2.2, H, I.tok _, e3, q.at rg hR q3⟩) hs
/-- k in d -/
def dInX (w : World) (b : Bool) : DR2 := fun y x G R => ∃ a kvs, x = .ref a ∧ G a = some (GO.dN w kvs) ∧ kyD y = true ∧ depD y ≤ 8 ∧ R (.bl ((ixX kvs y).isSome == b)) G
theorem cont_data {K' : Bool → Hp → Prop} {G : Gp} {y : D} {yv : V} {u : Value} (hu : X.A.units + 11 < cLine) (I : Inv X pins σ H s) (rg : RelG X.K H N G) (hG : G a = some (GO.dN X.w kvs)) (r2 : RD X.K H N y yv) (ry : RelV yv u) (hk : kyD y = true) (hd : depD y ≤ 8) (q : K' (ixX kvs y).isSome H) :
    wpAny (model X.prog X.w) X.A (contains (.ref a) u) (fun b s' => Inv X pins σ H s' ∧ K' b H) X.xe s := by
  obtain ⟨hN, kvs', hH, rr, ok⟩ := rg a _ hG
  obtain ⟨z1, z2, z3, o, es, ep, ho, hex, hdt, z4, E, pr⟩ := dx_ents I hH rr ok
  obtain ⟨k1, k2, k3⟩ := pyN_ok hk
  obtain ⟨as, rk⟩ := Dp.reads I _ _ _ (toPy_ok r2 k1) ry
  refine in_data ho hex hdt E rk k2 (by rw [k3]; exact hd) hu z3 ?_
  rw [ix_same ok hk]
  exact ⟨I.tok _, q⟩
theorem od_inX (hu : X.A.units + 11 < cLine) : OpD X (compareOp .In) (dInX X.w true) := by
  intro pins s σ H x y v u Q I rx ry h
  obtain ⟨c, d, G, N, R, r1, r2, rg, ⟨a, kvs, rfl, hG, hk, hd, hR⟩, q⟩ := h
  obtain rfl := r2.of_ref
  obtain rfl : u = Value.ref a := ry
  show wpAny (model X.prog X.w) X.A (do return Value.bool (← contains (.ref a) v)) (EP X pins σ Q) X.xe s
  refine wpAny_bind (wpAny_mono (cont_data (K' := fun b _ => b = (ixX kvs c).isSome) hu I rg hG r1 rx hk hd rfl) (fun b s' h => ?_) fun _ _ e => e)
  obtain ⟨I2, rfl⟩ := h
  exact wpAny_pure ⟨.bl (ixX kvs c).isSome, H, I2, rfl, q.at rg (by simpa using hR) (RD.bl _)⟩
theorem od_notInX (hu : X.A.units + 11 < cLine) : OpD X (compareOp .NotIn) (dInX X.w false) := by
  intro pins s σ H x y v u Q I rx ry h
  obtain ⟨c, d, G, N, R, r1, r2, rg, ⟨a, kvs, rfl, hG, hk, hd, hR⟩, q⟩ := h
  obtain rfl := r2.of_ref
  obtain rfl : u = Value.ref a := ry
  show wpAny (model X.prog X.w) X.A (do return Value.bool (!(← contains (.ref a) v))) (EP X pins σ Q) X.xe s
  refine wpAny_bind (wpAny_mono (cont_data (K' := fun b _ => b = (ixX kvs c).isSome) hu I rg hG r1 rx hk hd rfl) (fun b s' h => ?_) fun _ _ e => e)
  obtain ⟨I2, rfl⟩ := h
  exact wpAny_pure ⟨.bl (!(ixX kvs c).isSome), H, I2, rfl, q.at rg (by simpa using hR) (RD.bl _)⟩
/-- d[k] = v -/
def dSetX (w : World) : DSet := fun o i v G R => ∃ a kvs, o = .ref a ∧ G a = some (GO.dN w kvs) ∧ kyD i = true ∧ depD i ≤ 8 ∧ kvs.length < sizeLine ∧ R (gup G a (GO.dN w (putX kvs i v)))
theorem sd_setX (hu : X.A.units + 11 < cLine) : SetD X (dSetX X.w) := by
  intro pins s σ H o i v ov iv u Q I ro ri rv h
  obtain ⟨c, d, e, G, N, R, r1, r2, r3, rg, ⟨a, kvs, rfl, hG, hk, hd, hl, hR⟩, q⟩ := h
  obtain rfl := r1.of_ref
  obtain rfl : ov = Value.ref a := ro
  obtain ⟨hN, kvs', hH, rr, ok⟩ := rg a _ hG
  obtain ⟨z1, z2, z3, ob, es, ep, ho, hex, hdt, z4, E, pr⟩ := dx_ents I hH rr ok
  obtain ⟨k1, k2, k3⟩ := pyN_ok hk
  obtain ⟨as, rk⟩ := Dp.reads I _ _ _ (toPy_ok r2 k1) ri
  have fin : ∀ (nkv : List (Int × V × V)) (h' : Heap) (tk : Nat), RXV X.K H N (hshD X.w) (putX kvs d e) nkv → DxIs h' a nkv → Heap.SameBut a s.heap h' → ∃ H', Inv X pins σ H' { s with heap := h', toks := tk } ∧ Q H' := fun nkv h' tk r dx sb => by
    have he : ∃ z, h'.get? a = some z := by obtain ⟨_, _, z, _, _, hz, _⟩ := dx; exact ⟨z, hz⟩
    refine ⟨upd H a (DxO a nkv), I.write (x := a) (e := a) (by rw [hH]; exact True.intro) (.inl rfl) (fun b o hb z => (sb.2 b hb).trans z) he (dxo_ok dx), ?_⟩
    exact q _ N _ hR (Stp.write (u := DxO a nkv) rg hG hH rfl rfl ⟨nkv, upd_same, r.le (Kp.write (u := DxO a nkv) hN hH rfl rfl), ok.put hk hd⟩)
  refine st_data ho hex hdt E rk k2 (by rw [k3]; exact hd) hu (by omega) (fun en => ?_) fun i' ei => ?_
  · rw [ix_same ok hk] at en
    refine fin (kvs' ++ [(hshD X.w d, i, v)]) _ _ ?_ ⟨by simp; omega, z3, _, _, ep + 1, Heap.get?_update_self _ ho (Obj.isFreed_of_dict (Obj.data_mapDictKeys hdt _)), hex.mapDictKeys _, Obj.data_mapDictKeys hdt _, ?_⟩ (Heap.SameBut.update ..)
    · unfold putX
      rw [en]
      exact Paired.app rr (.cons ⟨rfl, r2, r3⟩ .nil)
    · rw [Array.toList_push]
      exact Paired.app pr (.cons ⟨rfl, ri, rv⟩ .nil)
  · rw [ix_same ok hk] at ei
    refine fin (kvs'.modify i' fun p => (p.1, p.2.1, v)) _ _ ?_ ⟨by simp; exact z1, z3, _, _, ep, Heap.get?_update_self _ ho (Obj.isFreed_of_dict (Obj.data_mapDict hdt _)), hex.mapDict _, Obj.data_mapDict hdt _, ?_⟩ (Heap.SameBut.update ..)
    · unfold putX
      rw [ei]
      exact Paired.modify (fun p p' z => ⟨z.1, z.2.1, r3⟩) i' rr
    · rw [Array.toList_modify]
      exact Paired.modify (fun p p' z => ⟨z.1, z.2.1, rv⟩) i' pr
/-- {} -/
def dNewX (w : World) : DE := fun _ G R => ∀ p, G p = none → R (.ref p) (gup G p (GO.dN w []))
theorem qe_newX {pos : Pos} : QE X (.Dict [] [] pos) (dNewX X.w) := ⟨fun pins s τ H Q I h => by
  obtain ⟨σ, G, N, R, hs, rg, ht, q⟩ := h
  have hf : H s.heap.objs.size = none := I.hok.fresh (Nat.le_refl _)
  have dx : DxIs (s.heap.push { cls := .type "dict", data := .dict #[] }) s.heap.objs.size [] := ⟨Nat.zero_le _, beq_eq_false_iff_ne.mpr (Ne.symm (Nat.ne_of_lt I.big)), _, #[], 0, Heap.get?_push_size _ rfl, ⟨rfl, rfl, rfl⟩, rfl, .nil⟩
  refine wpAny_Dict_empty ⟨.ref s.heap.objs.size, _, I.laid (a := s.heap.objs.size) (o := DxO s.heap.objs.size []) (t' := s.toks) (fun _ _ q => Heap.get?_push_of_some _ q) (Nat.le_refl _) (dxo_ok dx), rfl, ?_⟩
  exact q _ _ _ _ _ (ht _ (rg.free hf)) (Stp.new (u := DxO s.heap.objs.size []) rg hf ⟨[], upd_same, Paired.nil, fun p hp => (by cases hp), List.Pairwise.nil⟩) (RD.ref _)⟩
end
end DL

set_option Elab.async false
set_option linter.all false
set_option maxRecDepth 100000
set_option maxHeartbeats 4000000
set_option autoImplicit false
namespace DL
open PySem PySem.Spec PyProof.Rows L2
/-! ### a dict display with text keys, asked at once -/
theorem rm1 {n : Nat} (h : n + 100 < cLine) : n + 1 < cLine := by omega
theorem rm11 {n : Nat} (h : n + 100 < cLine) : n + 11 < cLine := by omega
def trsOf (K : PySem.W.Frag) (l : List (Str × DE)) : List (TE × TE) := l.map fun p => (up K (dC (.str p.1)), up K p.2)
def dVals : List (Str × DE) → DA
  | [] => dNil
  | p :: l => dCons p.2 (dVals l)
theorem tPairs_of {K : PySem.W.Frag} {τ : L2.St} : ∀ (l : List (Str × DE)) {H : Hp} {N : Ns} {G : Gp} {σ : Sd} {R : List D → Gp → Prop} {Q : List (V × V) → Hp → Prop}, RSt K H N σ τ → RelG K H N G → dVals l σ G R →
    (∀ ds G' N' vs H', R ds G' → Stp K H N G H' N' G' → RDs K H' N' ds vs → Q ((l.map fun p => V.str p.1).zip vs) H') → tPairs (trsOf K l) τ H Q
  | [], H, N, G, σ, R, Q, hs, hg, ht, q => q [] G N [] H ht (Stp.refl hg) RDs.nil
  | p :: l, H, N, G, σ, R, Q, hs, hg, ht, q => by
    refine ⟨σ, G, N, fun d G' => d = .str p.1 ∧ G' = G, hs, hg, ⟨rfl, rfl⟩, fun d G' N' v H' hd s1 rd => ?_⟩
    obtain ⟨rfl, rfl⟩ := hd
    obtain rfl := rd.of_str
    refine ⟨σ, G', N', _, hs.le s1.kp, s1.rel, ht, fun d G2 N2 v2 H2 h2 s2 r2 => ?_⟩
    refine tPairs_of l ((hs.le s1.kp).le s2.kp) s2.rel h2 fun ds G3 N3 vs H3 h3 s3 r3 => ?_
    exact q (d :: ds) G3 N3 (v2 :: vs) H3 h3 (s1.trans (s2.trans s3)) (RDs.cons (r2.le s3.kp) r3)
theorem mergeK_new : ∀ (kvs acc : List (Key × V)), ((acc ++ kvs).map (·.1)).Nodup → mergeK acc kvs = acc ++ kvs
  | [], acc, _ => by simp [mergeK]
  | p :: kvs, acc, h => by
    have h1 : putK acc p.1 p.2 = acc ++ [p] := by
      unfold putK
      rw [if_neg]
      intro c
      obtain ⟨z, hz, e⟩ := List.any_eq_true.mp c
      have e : z.1 = p.1 := of_decide_eq_true e
      rw [List.map_append, List.nodup_append] at h
      exact h.2.2 z.1 (List.mem_map.mpr ⟨z, hz, rfl⟩) p.1 (by simp) e
    show mergeK (putK acc p.1 p.2) kvs = _
    rw [h1, mergeK_new kvs (acc ++ [p]) (by simpa using h)]
    simp
def lookD : List Str → List D → Str → Option D
  | n :: ns, d :: ds, z => if z = n then some d else lookD ns ds z
  | _, _, _ => none
theorem lookD_val {K : PySem.W.Frag} {H : Hp} {N : Ns} {z : Str} : ∀ {ns : List Str} {ds : List D} {vs : List V}, RDs K H N ds vs → (∀ d, lookD ns ds z = some d → ∃ v, valV ((ns.map Sum.inr).zip vs : List (Key × V)) (.inr z) = some v ∧ RD K H N d v) ∧ (lookD ns ds z = none → valV ((ns.map Sum.inr).zip vs : List (Key × V)) (.inr z) = none)
  | [], ds, vs, r => ⟨(fun d h => by simp [lookD] at h), fun _ => rfl⟩
  | n :: ns, [], vs, r => ⟨(fun d h => by cases h), fun _ => by rw [r.of_nil]; rfl⟩
  | n :: ns, d :: ds, vs, r => by
    obtain ⟨v, us, rfl, r1, r2⟩ := r.of_cons
    have ih := lookD_val (z := z) (ns := ns) r2
    simp only [lookD, List.map_cons, List.zip_cons_cons]
    by_cases e : z = n
    · subst e
      rw [if_pos rfl, valV_pos rfl]
      exact ⟨fun d' h => ⟨v, rfl, by cases h; exact r1⟩, fun h => by cases h⟩
    · rw [if_neg e, valV_neg (by simpa using Ne.symm e)]
      exact ih
section
variable {X : Cx} {pos : Pos} {keys : List (Option Expr)} {values : List Expr}
/-- a new object that is not known, of which it is not said that it never changes -/
theorem Stp.newN {K : PySem.W.Frag} {H : Hp} {N : Ns} {G : Gp} {p : Addr} {u : HO} (r : RelG K H N G) (h : H p = none) : Stp K H N G (upd H p u) (nadd N p) G := by
  refine ⟨Kp.new h, fun q x e n => ⟨by rw [upd_ne (ne_of_none e h)]; exact e, n, .inr⟩, fun a o' e => ?_⟩
  obtain ⟨x, hx, _⟩ := (r a o' e).2.here
  exact ⟨.inr (r a o' e).1, (r a o' e).2.le (Kp.new h) (upd_ne (ne_of_none hx h))⟩
def tLit (K : PySem.W.Frag) (l : List (Str × DE)) : TE := fun τ H Q => ∃ σ G N R, RSt K H N σ τ ∧ RelG K H N G ∧ dVals l σ G R ∧
  ∀ ds G' N' H' p vs, R ds G' → Stp K H N G H' N' G' → H' p = some (.dK ((l.map fun q => (Sum.inr q.1 : Key)).zip vs)) → G' p = none → RDs K H' N' ds vs → Q (.ref p) H'
theorem zip_split : ∀ (l : List (Str × DE)) (vs : List V), (l.map fun p => V.str p.1).zip vs = (((l.map fun q => (Sum.inr q.1 : Key)).zip vs).map fun kv => (kV kv.1, kv.2))
  | [], _ => rfl
  | p :: l, [] => rfl
  | p :: l, v :: vs => by simp only [List.map_cons, List.zip_cons_cons, zip_split l vs]; rfl
theorem zip_nodup : ∀ (l : List (Str × DE)) (vs : List V), (l.map (·.1)).Nodup → (((l.map fun q => (Sum.inr q.1 : Key)).zip vs).map (·.1)).Nodup := fun l vs h => by
  have h2 : (l.map fun q => (Sum.inr q.1 : Key)).Nodup := by
    rw [show (l.map fun q => (Sum.inr q.1 : Key)) = (l.map (·.1)).map Sum.inr by rw [List.map_map]; rfl]
    exact List.Pairwise.map _ (fun a b h e => h (by cases e; rfl)) h
  refine List.Nodup.sublist ?_ h2
  clear h h2
  generalize l.map (fun q => (Sum.inr q.1 : Key)) = ks
  induction ks generalizing vs with
  | nil => simp
  | cons k ks ih =>
    cases vs with
    | nil => simp
    | cons v vs => simpa using ih vs
theorem pe_lit {l : List (Str × DE)} (h : PPs X pos keys values (trsOf X.K l)) (hall : keys.all (·.isSome) = true) (hl : keys.length = values.length) (h0 : keys ≠ []) (h15 : keys.length ≤ 15) (hn : (l.map (·.1)).Nodup) (hll : l.length ≤ 15) : PE X (.Dict keys values pos) (tLit X.K l) :=
  pe_mono (pe_disp h hall hl h0 h15) fun τ H Q z p hp => by
    obtain ⟨σ, G, N, R, hs, hg, ht, q⟩ := z
    have s0 : Stp X.K H N G (upd H p (.dK [])) (nadd N p) G := Stp.newN hg hp
    refine tPairs_of l (hs.le s0.kp) s0.rel ht fun ds G' N' vs H' h1 s1 r1 => ?_
    obtain ⟨e1, e2, e3⟩ := s1.fr p _ upd_same (hg.free hp)
    refine ⟨e1, (l.map fun q => (Sum.inr q.1 : Key)).zip vs, zip_split l vs, by rw [List.length_zip, List.length_map]; omega, ?_⟩
    rw [mergeK_new _ [] (by simpa using zip_nodup l vs hn), List.nil_append]
    have s2 := (s0.trans s1).poke (u := .dK ((l.map fun q => (Sum.inr q.1 : Key)).zip vs)) hp e1 e2 (e3 (.inl rfl)) rfl rfl
    exact q ds G' N' _ p vs h1 s2 upd_same e2 (r1.le (Kp.write (u := .dK ((l.map fun q => (Sum.inr q.1 : Key)).zip vs)) (e3 (.inl rfl)) e1 rfl rfl))
/-- {..}[e] -/
def dLitIx (l : List (Str × DE)) (ti : DE) : DE := fun σ G R => dVals l σ G fun ds G1 => ti σ G1 fun y G2 => match y with | .str z => (match lookD (l.map (·.1)) ds z with | some d => R d G2 | none => False) | _ => False
theorem map_inr (l : List (Str × DE)) : (l.map fun q => (Sum.inr q.1 : Key)) = (l.map (·.1)).map Sum.inr := by rw [List.map_map]; rfl
theorem qe_litIx {l : List (Str × DE)} {i : Expr} {ti : DE} {pos2 : Pos} (hu : X.A.units + 1 < cLine) (h : PPs X pos keys values (trsOf X.K l)) (hi : QE X i ti) (hs : NoSl i) (hall : keys.all (·.isSome) = true := by rfl) (hl : keys.length = values.length := by rfl) (h0 : keys ≠ [] := by decide) (h15 : keys.length ≤ 15 := by decide)
    (hn : (l.map (·.1)).Nodup := by decide +kernel) (hll : l.length ≤ 15 := by decide) : QE X (.Subscript (.Dict keys values pos) i pos2) (dLitIx l ti) :=
  pe_mono (pe_dget hu (pe_lit h hall hl h0 h15 hn hll) hi hs) fun τ H Q z => by
    obtain ⟨σ, G, N, R, hs, hg, ht, q⟩ := z
    refine ⟨σ, G, N, _, hs, hg, ht, fun ds G1 N1 H1 p vs h1 s1 e1 e2 r1 => ?_⟩
    refine ⟨σ, G1, N1, _, hs.le s1.kp, s1.rel, h1, fun y G2 N2 v H2 h2 s2 r2 => ?_⟩
    split at h2
    · rename_i y z
      obtain rfl := r2.of_str
      split at h2
      · rename_i d ed
        obtain ⟨f1, f2, _⟩ := s2.fr p _ e1 e2
        obtain ⟨v, hv, rv⟩ := (lookD_val (r1.le s2.kp)).1 d ed
        refine ⟨p, v, rfl, .inl ⟨_, .inr z, .inl f1, rfl, ?_⟩, q d G2 N2 v H2 h2 (s1.trans s2) rv⟩
        rw [map_inr]
        exact hv.symm
      · exact h2.elim
    · exact h2.elim
/-- {..}.get(e) -/
def dLitGet (l : List (Str × DE)) (ti : DE) : DE := fun σ G R => dVals l σ G fun ds G1 => ti σ G1 fun y G2 => match y with | .str z => R ((lookD (l.map (·.1)) ds z).getD .non) G2 | _ => False
theorem qe_litGet {l : List (Str × DE)} {i : Expr} {ti : DE} {apos pos2 : Pos} (hu : X.A.units + 1 < cLine) (h : PPs X pos keys values (trsOf X.K l)) (hi : QE X i ti) (m : M1 X (.Dict keys values pos) "get" apos i pos2) (hall : keys.all (·.isSome) = true := by rfl) (hl : keys.length = values.length := by rfl) (h0 : keys ≠ [] := by decide) (h15 : keys.length ≤ 15 := by decide)
    (hn : (l.map (·.1)).Nodup := by decide +kernel) (hll : l.length ≤ 15 := by decide) : QE X (.Call (.Attribute (.Dict keys values pos) "get" apos) [i] [] pos2) (dLitGet l ti) :=
  pe_mono (pe_dget1 hu (pe_lit h hall hl h0 h15 hn hll) hi m) fun τ H Q z => by
    obtain ⟨σ, G, N, R, hs, hg, ht, q⟩ := z
    refine ⟨σ, G, N, _, hs, hg, ht, fun ds G1 N1 H1 p vs h1 s1 e1 e2 r1 => ?_⟩
    refine ⟨p, rfl, .inl ⟨_, .inl e1⟩, σ, G1, N1, _, hs.le s1.kp, s1.rel, h1, fun y G2 N2 v H2 h2 s2 r2 => ?_⟩
    split at h2
    · rename_i y z
      obtain rfl := r2.of_str
      obtain ⟨f1, f2, _⟩ := s2.fr p _ e1 e2
      refine ⟨_, .inl ⟨_, .inr z, .inl f1, rfl, rfl⟩, ?_⟩
      rw [map_inr]
      cases e : lookD (l.map (·.1)) ds z with
      | some d =>
        obtain ⟨v, hv, rv⟩ := (lookD_val (r1.le s2.kp)).1 d e
        rw [hv]
        rw [e] at h2
        exact q d G2 N2 v H2 h2 (s1.trans s2) rv
      | none =>
        rw [(lookD_val (r1.le s2.kp)).2 e]
        rw [e] at h2
        exact q _ G2 N2 _ H2 h2 (s1.trans s2) RD.non
    · exact h2.elim
theorem x_litIx {l : List (Str × DE)} {ti : DE} {σ : Sd} {G : Gp} {R : DK} : dLitIx l ti σ G R = dVals l σ G fun ds G1 => ti σ G1 fun y G2 => match y with | .str z => (match lookD (l.map (·.1)) ds z with | some d => R d G2 | none => False) | _ => False := rfl
theorem x_litGet {l : List (Str × DE)} {ti : DE} {σ : Sd} {G : Gp} {R : DK} : dLitGet l ti σ G R = dVals l σ G fun ds G1 => ti σ G1 fun y G2 => match y with | .str z => R ((lookD (l.map (·.1)) ds z).getD .non) G2 | _ => False := rfl
theorem dv_nil {σ : Sd} {G : Gp} {R : List D → Gp → Prop} : dVals [] σ G R = R [] G := rfl
theorem dv_cons {n : Str} {t : DE} {l : List (Str × DE)} {σ : Sd} {G : Gp} {R : List D → Gp → Prop} : dVals ((n, t) :: l) σ G R = t σ G fun x G1 => dVals l σ G1 fun xs G2 => R (x :: xs) G2 := rfl
theorem lookD_hit {n : Str} {ns : List Str} {d : D} {ds : List D} : lookD (n :: ns) (d :: ds) n = some d := by simp [lookD]
theorem lookD_miss {n z : Str} {ns : List Str} {d : D} {ds : List D} (h : z ≠ n) : lookD (n :: ns) (d :: ds) z = lookD ns ds z := by simp [lookD, h]
theorem lookD_nil {z : Str} : lookD [] [] z = none := by simp [lookD]
end
end DL

set_option Elab.async false
set_option linter.all false
set_option maxRecDepth 100000
set_option maxHeartbeats 4000000
set_option autoImplicit false
namespace DL
open PySem PySem.Spec PyProof.Rows L2
/-! ### a, b, c = a list -/
def dNamesL (is : List Nat) : DG := fun d σ G R => match d with | .lst ds => ds.length = is.length ∧ R (setAll σ is ds) G | _ => False
theorem tg_namesL {K : PySem.W.Frag} {ws is : List Nat} {n : Nat} (h : ∀ i ∈ is, i ∈ ws) (hn : is.length = n) : TgOk K (gUnl K n (gNames is)) (dNamesL is) ws := fun d v σ τ H N G R Q rd rs rg h0 q => by
  unfold dNamesL at h0
  split at h0
  · rename_i ds
    obtain ⟨p, vs, rfl, sq, r⟩ := rd.of_lst
    have hl := r.length
    refine ⟨p, vs, rfl, sq.sq, by omega, gNames_ok (by omega) ?_⟩
    exact q _ _ h0.2 (RSt.setAll is rs r) (wipe_setAll h)
  · exact h0.elim
theorem x_namesL {is : List Nat} {ds : List D} {σ : Sd} {G : Gp} {Rg : Sd → Gp → Prop} : dNamesL is (.lst ds) σ G Rg = (ds.length = is.length ∧ Rg (setAll σ is ds) G) := rfl
end DL

set_option Elab.async false
set_option linter.all false
set_option maxRecDepth 100000
set_option maxHeartbeats 4000000
set_option autoImplicit false
namespace DL
open PySem PySem.Spec PyProof.Rows L2
/-! ### dicts of typed keys: laws -/
section
variable {α : Type} [DecidableEq α]
def look (l : List (α × Int)) (k : α) : Option Int := (l.find? fun p => decide (p.1 = k)).map (·.2)
def putL (l : List (α × Int)) (k : α) (z : Int) : List (α × Int) := match l.findIdx? (fun p => decide (p.1 = k)) with
  | some i => l.modify i fun p => (p.1, z)
  | none => l ++ [(k, z)]
def encL (d : α → D) (l : List (α × Int)) : List (D × D) := l.map fun p => (d p.1, .int p.2)
theorem look_nil (k : α) : look ([] : List (α × Int)) k = none := rfl
theorem look_cons (p : α × Int) (l : List (α × Int)) (k : α) : look (p :: l) k = if p.1 = k then some p.2 else look l k := by
  unfold look
  rw [List.find?_cons]
  by_cases h : p.1 = k
  · simp [h]
  · simp [h]
theorem look_app (l m : List (α × Int)) (k : α) : look (l ++ m) k = match look l k with | some z => some z | none => look m k := by
  induction l with
  | nil => rfl
  | cons p l ih =>
    rw [List.cons_append, look_cons, look_cons]
    by_cases h : p.1 = k
    · rw [if_pos h, if_pos h]
    · rw [if_neg h, if_neg h, ih]
theorem look_none {l : List (α × Int)} {k : α} (h : k ∉ l.map (·.1)) : look l k = none := by
  induction l with
  | nil => rfl
  | cons p l ih =>
    rw [List.map_cons, List.mem_cons, not_or] at h
    rw [look_cons, if_neg (fun e => h.1 e.symm), ih h.2]
theorem putL_new {l : List (α × Int)} {k : α} {z : Int} (h : k ∉ l.map (·.1)) : putL l k z = l ++ [(k, z)] := by
  unfold putL
  have : l.findIdx? (fun p => decide (p.1 = k)) = none := by
    rw [List.findIdx?_eq_none_iff]
    intro p hp
    exact decide_eq_false fun e => h (List.mem_map.mpr ⟨p, hp, e⟩)
  rw [this]
theorem putL_cons (p : α × Int) (l : List (α × Int)) (k : α) (z : Int) : putL (p :: l) k z = if p.1 = k then (p.1, z) :: l else p :: putL l k z := by
  unfold putL
  rw [List.findIdx?_cons]
  by_cases h : p.1 = k
  · simp [h]
  · rw [if_neg h, decide_eq_false h]
    simp only [Bool.false_eq_true, if_false]
    cases l.findIdx? fun p => decide (p.1 = k) with
    | none => rfl
    | some i => simp
theorem look_put (l : List (α × Int)) (k k' : α) (z : Int) : look (putL l k z) k' = if k = k' then some z else look l k' := by
  induction l with
  | nil =>
    rw [putL_new (by simp), List.nil_append, look_cons, look_nil]
  | cons p l ih =>
    rw [putL_cons]
    by_cases h : p.1 = k
    · rw [if_pos h, look_cons, look_cons]
      by_cases h2 : k = k'
      · rw [if_pos (h.trans h2), if_pos h2]
      · rw [if_neg (fun e => h2 (h.symm.trans e)), if_neg h2, if_neg (fun e => h2 (h.symm.trans e))]
    · rw [if_neg h, look_cons, look_cons, ih]
      by_cases h2 : k = k'
      · rw [if_pos h2, if_neg (fun e => h (e.trans h2.symm)), if_pos h2]
      · rw [if_neg h2, if_neg h2]
theorem putL_len (l : List (α × Int)) (k : α) (z : Int) : (putL l k z).length ≤ l.length + 1 := by
  unfold putL
  split <;> simp
variable {d : α → D} (heq : ∀ a b, eqD (d a) (d b) = decide (a = b))
include heq
theorem ixX_enc (l : List (α × Int)) (k : α) : ixX (encL d l) (d k) = l.findIdx? fun p => decide (p.1 = k) := by
  unfold ixX encL
  rw [List.findIdx?_map]
  exact congrArg (fun f => l.findIdx? f) (funext fun p => heq p.1 k)
theorem getX_enc (l : List (α × Int)) (k : α) : getX (encL d l) (d k) = (look l k).map D.int := by
  unfold getX
  rw [ixX_enc heq]
  induction l with
  | nil => rfl
  | cons p l ih =>
    rw [List.findIdx?_cons, look_cons]
    by_cases h : p.1 = k
    · rw [if_pos h, decide_eq_true h]
      simp [encL]
    · rw [if_neg h, decide_eq_false h, ← ih]
      simp only [Bool.false_eq_true, if_false]
      cases l.findIdx? fun p => decide (p.1 = k) with
      | none => rfl
      | some i => simp [encL]
theorem ixX_some (l : List (α × Int)) (k : α) : (ixX (encL d l) (d k)).isSome = (look l k).isSome := by
  rw [ixX_enc heq]
  unfold look
  rw [Option.isSome_map]
  rw [Bool.eq_iff_iff, List.findIdx?_isSome, List.find?_isSome, List.any_eq_true]
theorem putX_enc (l : List (α × Int)) (k : α) (z : Int) : putX (encL d l) (d k) (.int z) = encL d (putL l k z) := by
  unfold putX putL
  rw [ixX_enc heq]
  cases l.findIdx? fun p => decide (p.1 = k) with
  | none => simp [encL]
  | some i =>
    simp only [encL]
    clear heq
    induction l generalizing i with
    | nil => simp
    | cons p l ih =>
      cases i with
      | zero => simp
      | succ i => simpa using ih i
variable {w : World} {G : Gp} {a : Addr} {l : List (α × Int)} {k : α}
theorem ixX_go {R : DK} {z : Int} (e : G a = some (GO.dN w (encL d l))) (hk : kyD (d k) = true) (hd : depD (d k) ≤ 8) (h : look l k = some z) (q : R (.int z) G) : dIxX w (.ref a) (d k) G R :=
  ⟨a, _, .int z, rfl, e, hk, hd, by rw [getX_enc heq, h]; rfl, q⟩
theorem inX_go {R : DK} {b : Bool} (e : G a = some (GO.dN w (encL d l))) (hk : kyD (d k) = true) (hd : depD (d k) ≤ 8) (q : R (.bl ((look l k).isSome == b)) G) : dInX w b (d k) (.ref a) G R :=
  ⟨a, _, rfl, e, hk, hd, by rw [ixX_some heq]; exact q⟩
theorem setX_go {R : Gp → Prop} {z : Int} (e : G a = some (GO.dN w (encL d l))) (hk : kyD (d k) = true) (hd : depD (d k) ≤ 8) (hl : l.length < 1000) (q : R (gup G a (GO.dN w (encL d (putL l k z))))) : dSetX w (.ref a) (d k) (.int z) G R :=
  ⟨a, _, rfl, e, hk, hd, by unfold encL; rw [List.length_map]; exact small1000 (by omega), by rw [putX_enc heq]; exact q⟩
end
/-! ### bits -/
theorem band_nat (m n : Nat) : Builtin.bitAnd (m : Int) n = ((m &&& n : Nat) : Int) := by
  unfold Builtin.bitAnd
  rw [decide_eq_true (show (0 : Int) ≤ m by omega), decide_eq_true (show (0 : Int) ≤ n by omega)]
  rfl
theorem bnot_nat (m : Nat) : Builtin.bitNot (Builtin.bitNot (m : Int)) = m := by unfold Builtin.bitNot; omega
theorem bor_nat (m n : Nat) : Builtin.bitOr (m : Int) n = ((m ||| n : Nat) : Int) := by
  unfold Builtin.bitOr Builtin.bitAnd
  rw [decide_eq_false (show ¬ (0 : Int) ≤ Builtin.bitNot m by unfold Builtin.bitNot; omega), decide_eq_false (show ¬ (0 : Int) ≤ Builtin.bitNot n by unfold Builtin.bitNot; omega)]
  simp only [bnot_nat]
  rfl
theorem bxor_nat (m n : Nat) : Builtin.bitXor (m : Int) n = ((m ||| n : Nat) : Int) - ((m &&& n : Nat) : Int) := by
  unfold Builtin.bitXor
  rw [bor_nat, band_nat]
theorem bit_div (m k : Nat) : ((m : Int) / (2 : Int) ^ k) % 2 = ((m.testBit k).toNat : Int) := by
  have e : ((m : Int) / (2 : Int) ^ k) % 2 = (((m / 2 ^ k) % 2 : Nat) : Int) := by
    rw [Int.natCast_emod, Int.natCast_ediv, Int.natCast_pow]; rfl
  rw [e, Nat.toNat_testBit]
theorem mod_bit (m k : Nat) : (((m % 2 ^ (k + 1) : Nat)) : Int) = ((m % 2 ^ k : Nat) : Int) + (2 : Int) ^ k * ((m.testBit k).toNat : Int) := by
  rw [Nat.mod_pow_succ, ← Nat.toNat_testBit]
  rw [Int.natCast_add, Int.natCast_mul, Int.natCast_pow]; rfl
/-- how many of two bits are set -/
def both (x y : Int) (k : Nat) : Int := (x / 2 ^ k) % 2 + (y / 2 ^ k) % 2
def bsum (t : Int → Bool) (x y : Int) : Nat → Int
  | 0 => 0
  | k + 1 => bsum t x y k + (2 : Int) ^ k * (if t (both x y k) then 1 else 0)
theorem bsum_and (m n : Nat) : ∀ k, bsum (fun z => decide (z = 2)) m n k = (((m &&& n) % 2 ^ k : Nat) : Int)
  | 0 => by simp [bsum, Nat.mod_one]
  | k + 1 => by
    rw [bsum, bsum_and m n k, mod_bit, Nat.testBit_and]
    unfold both
    rw [bit_div, bit_div]
    cases m.testBit k <;> cases n.testBit k <;> simp
theorem bsum_or (m n : Nat) : ∀ k, bsum (fun z => decide (z = 1) || decide (z = 2)) m n k = (((m ||| n) % 2 ^ k : Nat) : Int)
  | 0 => by simp [bsum, Nat.mod_one]
  | k + 1 => by
    rw [bsum, bsum_or m n k, mod_bit, Nat.testBit_or]
    unfold both
    rw [bit_div, bit_div]
    cases m.testBit k <;> cases n.testBit k <;> simp
theorem bsum_xor (m n : Nat) : ∀ k, bsum (fun z => decide (z = 1)) m n k = bsum (fun z => decide (z = 1) || decide (z = 2)) m n k - bsum (fun z => decide (z = 2)) m n k
  | 0 => by simp [bsum]
  | k + 1 => by
    rw [bsum, bsum, bsum, bsum_xor m n k]
    unfold both
    rw [bit_div, bit_div]
    cases m.testBit k <;> cases n.testBit k <;> simp <;> omega
theorem sum_and {m n b : Nat} (hm : m < 2 ^ b) (hn : n < 2 ^ b) : bsum (fun z => decide (z = 2)) m n b = Builtin.bitAnd (m : Int) n % 2 ^ b := by
  rw [bsum_and, band_nat, Int.natCast_emod, Int.natCast_pow]; rfl
theorem sum_or {m n b : Nat} (hm : m < 2 ^ b) (hn : n < 2 ^ b) : bsum (fun z => decide (z = 1) || decide (z = 2)) m n b = Builtin.bitOr (m : Int) n % 2 ^ b := by
  rw [bsum_or, bor_nat, Int.natCast_emod, Int.natCast_pow]; rfl
theorem sum_xor {m n b : Nat} (hm : m < 2 ^ b) (hn : n < 2 ^ b) : bsum (fun z => decide (z = 1)) m n b = Builtin.bitXor (m : Int) n % 2 ^ b := by
  have h1 : (m &&& n) ≤ (m ||| n) := Nat.le_trans Nat.and_le_left Nat.left_le_or
  have h2 : (m ||| n) < 2 ^ b := Nat.or_lt_two_pow hm hn
  have h3 : (m &&& n) < 2 ^ b := Nat.lt_of_le_of_lt h1 h2
  rw [bsum_xor, bsum_and, bsum_or, bxor_nat, Nat.mod_eq_of_lt h2, Nat.mod_eq_of_lt h3]
  have h4 : ((2 ^ b : Nat) : Int) = (2 : Int) ^ b := by rw [Int.natCast_pow]; rfl
  rw [Int.emod_eq_of_lt (by omega) (by omega)]
end DL

set_option Elab.async false
set_option linter.all false
set_option maxRecDepth 100000
set_option maxHeartbeats 4000000
set_option autoImplicit false
namespace DL
open PySem PySem.Spec PyProof.Rows L2
/-! ### enumerate of a tuple -/
section
variable {prog : Program} {w : World} {A : Around} {E : Value → Shared → Prop} {s : Shared}
/-- an enumerate whose iterator is at its end -/
theorem enum_over {e it : Addr} {c : Int} {old : Value} {Q : Option Value → Shared → Prop} (he : IsEnum s.heap e it c old)
    (nx : ∀ (Q : Value → Shared → Prop) (E : Value → Shared → Prop), (∀ h' e, Heap.ExtBut it s.heap h' → (∃ o, h'.get? e = some o ∧ o.cls = .type "StopIteration") → E (.ref e) { s with heap := h' }) → wpAny (model prog w) A.in1 (Builtin.SmallTypes.nextOf (.ref it)) Q E s)
    (hQ : ∀ h', Heap.ExtBut it s.heap h' → Q none { s with heap := h' }) : wpAny (model prog w) A (pyNext (.ref e)) Q E s := by
  have ty : s.TypeIs (.ref e) "enumerate" := ⟨_, he, rfl⟩
  unfold pyNext
  refine wpAny_bind (wpAny_attempt (wpAny_callSpecial?_slot (name := Str.ofString "__next__") ty PySem.F.slot_enumerate_next (wpAny_call_entry PySem.F.slot_enumerate_next ty PySem.F.entry_enumerate_next ?_ (PySem.F.args_enumerate_next_1 _))))
  show wpAny _ _ (field (.ref e) 2 >>= _) _ _ _
  refine wpAny_bind (wpAny_field he rfl (x := .ref it) rfl (wpAny_bind (nx _ _ fun h' x ex so => ?_)))
  obtain ⟨o, ho, hc⟩ := so
  exact wpAny_bind (wpAny_isInstance (T := "StopIteration") (b := true) ⟨o, ho, hc⟩ isSubtype_stop (wpAny_pure (hQ _ ex)))
set_option maxHeartbeats 4000000 in
/-- enumerate(v), v any thing whose iter is a new object -/
theorem new_enum {v : Value} {o : Obj} {H : Heap → Prop} (B : Begins v o H) :
    Meets (Builtin.«enumerate.__new__» ⟨[.type "enumerate", v], []⟩) (fun _ R s => H s.heap ∧
      R (.ok (.ret (.ref (s.heap.push o).objs.size))) { s with heap := (s.heap.push o).push { cls := .type "enumerate", data := .fields #[.none, .bool false, .ref s.heap.objs.size, rawInt 0, .none, .none] } }) :=
  .of_wp fun prog w A R s h => by
    obtain ⟨hp, g, d, tk, os⟩ := s
    obtain ⟨h1, h⟩ := h
    have hsub := sub_enumerate
    have it : ∀ {A' : Around} {E : Value → Shared → Prop} {Q : Value → Shared → Prop}, Q (.ref hp.objs.size) ⟨hp.push o, g, d, tk, os⟩ → wpAny (model prog w) A' (pyIter v) Q E ⟨hp, g, d, tk, os⟩ := fun q => B.iter prog w _ _ ⟨hp, g, d, tk, os⟩ _ h1 q
    wp_walk using it
    refine wpAny_stack_any fun st => wpAny_pure ?_
    split
    · rename_i c _ _ _ _ _
      cases (c == Value.type "enumerate") <;> (wp_walk using it; exact ⟨_, rfl, h⟩)
    · wp_walk using it
      exact ⟨_, rfl, h⟩
theorem call_enum {v : Value} {o : Obj} {H : Heap → Prop} {Q : Value → Shared → Prop} (B : Begins v o H) (h1 : H s.heap)
    (h : ∀ h', IsEnum h' (s.heap.objs.size + 1) s.heap.objs.size 0 .none → h'.get? s.heap.objs.size = some o → (∀ b o, s.heap.get? b = some o → h'.get? b = some o) → Q (.ref (s.heap.objs.size + 1)) { s with heap := h' }) :
    wpAny (model prog w) A (call (.type "enumerate") [v]) Q E s := by
  have sz : (s.heap.push o).objs.size = s.heap.objs.size + 1 := Heap.size_push ..
  refine callType_new PySem.F.called_enumerate (by decide) (PySem.F.typeCall_enumerate_1 _) (PySem.F.newCall_enumerate_1 _) (fun obj => PySem.F.args_object_init_2 obj _) PySem.F.entry_enumerate_new (new_enum B) ⟨h1, ?_⟩
  show _ ∧ _
  have he := Heap.get?_push_size (s.heap.push o) (o := { cls := .type "enumerate", data := .fields #[.none, .bool false, .ref s.heap.objs.size, rawInt 0, .none, .none] }) rfl
  rw [sz] at he ⊢
  exact ⟨⟨_, he, rfl⟩, h _ he (Heap.get?_push_of_some _ (Heap.get?_push_size _ B.free)) fun b o x => Heap.get?_push_of_some _ (Heap.get?_push_of_some _ x)⟩
end
/-- the tuple at a, each item in a new pair -/
def ItT (K : PySem.W.Frag) (a : Addr) (xs : List V) : It :=
  ⟨fun i H => SqT K H a xs ∧ i < xs.length, fun i H v H' => ∃ T x, v = .ref T ∧ H T = none ∧ H' = upd H T (.tup [.int (i : Nat), x]) ∧ xs[i]? = some x, fun i H => SqT K H a xs ∧ xs.length ≤ i⟩
theorem turn_enumT {P : Program} {w : World} {K : PySem.W.Frag} {elts : List Expr} {kk : Nat} {tpos : Pos} {xs : List V} (a e it : Addr) :
    Turn P w K (.Tuple elts kk tpos) (ItT K a xs) [e, it] e (fun i h => (∃ old, IsEnum h e it ((i : Nat) : Int) old) ∧ h.IsTupleIter it a i ∧ e ≠ it) where
  mem := by simp
  obj := fun i h st b hb => by
    obtain ⟨⟨old, he⟩, ⟨o, ho, hc, hd⟩, _⟩ := st
    rcases (by simpa using hb : b = e ∨ b = it) with z | z
    · rw [z]; exact ⟨_, he, fun v q => nomatch q⟩
    · rw [z]; exact ⟨o, ho, fun v q => by rw [hd] at q; cases q⟩
  keep := fun i h h' st k => let ⟨⟨old, he⟩, ti, hne⟩ := st; ⟨⟨old, k e (by simp) _ he⟩, ti.at fun o q => k it (by simp) o q, hne⟩
  item := by
    intro X hP hw hK hc i pins s σ H E I hf st hg
    subst hP hw hK
    obtain ⟨⟨old, he⟩, ti, hne⟩ := st
    obtain ⟨hq, hi⟩ := hg
    obtain ⟨its, rv, tp, hz⟩ := I.tuple hq
    have hl := rv.length
    have ha : a ≠ it := fun z => by
      obtain ⟨o, ho, hc, _⟩ := ti
      obtain ⟨o', ho', hc', _⟩ := tp
      rw [z, ho] at ho'; cases ho'; rw [hc] at hc'; exact absurd (Value.type.inj hc') (by decide)
    have hea : e ≠ a := fun z => by
      obtain ⟨o', ho', hc', _⟩ := tp
      have he' : s.heap.get? e = some _ := he
      rw [z, ho'] at he'; cases he'; exact absurd (Value.type.inj hc') (by decide)
    have hel : e < s.heap.objs.size := Heap.lt_size he
    have hil : it < s.heap.objs.size := by obtain ⟨_, q, _⟩ := ti; exact Heap.lt_size q
    have hd : X.A.in1.handled = none := I.ok.hd hc
    refine wpAny_pyNext_enum_itemC (Draws.tuple hd it a ha its.toArray) he ⟨ti, tp⟩ (by simp; omega) hne (by simp [hne, hea]) fun x h' tk hx ho st' hT hsz hk => ?_
    have hxi : its[i]? = some x := by simpa using hx
    have hi2 : i < xs.length := hi
    have hex : xs[i]? = some xs[i] := List.getElem?_eq_getElem hi2
    obtain ⟨u, hu, ru⟩ := rv.get hex
    rw [hxi] at hu
    cases hu
    refine ⟨_, rfl, wpAny_letOwnedTupleGo_enum (s := { s with heap := h', toks := tk + 1 }) ho fun h'' he' sb => ?_⟩
    have hT2 : h''.get? s.heap.objs.size = some { cls := .type "tuple", data := .seq #[.int i tk, x] } := (sb.2 _ (Nat.ne_of_gt hel)).trans hT
    have new : ObjOk X.prog X.w (upd H s.heap.objs.size (.tup [.int (i : Nat), xs[i]])) h'' s.heap.objs.size (.tup [.int (i : Nat), xs[i]]) :=
      ⟨by show 2 ≤ sizeLine; decide, [.int i tk, x], .cons ⟨_, rfl⟩ (.cons ru .nil), ⟨_, hT2, rfl, _, rfl⟩⟩
    have I1 : Inv X pins σ (upd H s.heap.objs.size (.tup [.int (i : Nat), xs[i]])) { s with heap := h'', toks := tk + 1 } :=
      I.turnedNew (ch := [e, it]) (fun b ob hb q => (sb.2 b (fun z => hb (by simp [z]))).trans (hk b ob (fun z => hb (by simp [z])) (fun z => hb (by simp [z])) q)) hf (Nat.le_refl _) new
    refine ⟨.ref s.heap.objs.size, _, I1, rfl, ⟨_, xs[i], rfl, I.hok.fresh (Nat.le_refl _), rfl, hex⟩, ⟨⟨x, ?_⟩, st'.1.at fun o q => (sb.2 it (Ne.symm hne)).trans q, hne⟩, fun b hb => ?_⟩
    · have e1 : ((i + 1 : Nat) : Int) = (i : Int) + 1 := by omega
      rw [e1]; exact he'
    · have hb' : b < s.heap.objs.size := by
        rcases (by simpa using hb : b = e ∨ b = it) with z | z
        · rw [z]; exact hel
        · rw [z]; exact hil
      rw [upd_ne (Nat.ne_of_lt hb')]
      exact (hf b hb).1
  done := by
    intro X hP hw hK hc i pins s σ H E I hf st hg
    subst hP hw hK
    obtain ⟨⟨old, he⟩, ti, hne⟩ := st
    obtain ⟨hq, hx⟩ := hg
    obtain ⟨its, rv, tp, hz⟩ := I.tuple hq
    obtain ⟨f0, f1, f2, f3, f4, f5⟩ := hf it (by simp)
    have hl := rv.length
    have hd : X.A.in1.handled = none := I.ok.hd hc
    refine enum_over he (fun Q E q => wpAny_nextOf_tuple_end hd ti tp (by simp; omega) q) fun h' eb => ⟨rfl, I.turned (t' := s.toks) (fun b o hb q => eb b o hb q) f0 f1 f3 f4 f5⟩
  self := fun A i s Q E st h => let ⟨⟨_, he⟩, _⟩ := st; wpAny_pyIter_enum he h
def iEnumT (K : PySem.W.Frag) (ta : TA) : TI := fun σ H R => ta σ H fun vs H1 => ∃ a xs, vs = [.ref a] ∧ SqT K H1 a xs ∧ R (ItT K a xs) H1
theorem pi_enumT {X : Cx} {e : Expr} {ta : TA} {p pos tpos : Pos} {elts : List Expr} {kk : Nat} (hg : Gl X "enumerate") (hm : X.mg "enumerate" = none) (ha : PA X [e] ta) (hs : starEach [e] X.env = [(false, eval e X.env)] := by rfl) :
    PI X (.Tuple elts kk tpos) (.Call (.Name "enumerate" p) [e] [] pos) (iEnumT X.K ta) := by
  refine ⟨fun pins s σ H R I h => ?_⟩
  refine Call_ (ld_blt I hg hm boot_enumerate (PyProof.Rows.callWith_type1 (thn (ha.run pos pins s σ H _ I h) fun us s1 ⟨vs, H1, I1, r1, q1⟩ => ?_) hs rfl))
  obtain ⟨a, xs, rfl, hq, q⟩ := q1
  obtain ⟨its, rv, tp, hz⟩ := I1.tuple hq
  cases r1 with
  | cons r rr =>
    cases rr
    cases r
    refine call_enum (begins_tuple a its.toArray) tp fun h' he ho hk => wpAny_pyIter_enum he ?_
    have I2 : Inv X pins σ H1 { s1 with heap := h' } := I1.kept (t' := s1.toks) hk
    refine ⟨s1.heap.objs.size + 1, [s1.heap.objs.size + 1, s1.heap.objs.size], _, _, H1, rfl, I2, turn_enumT a (s1.heap.objs.size + 1) s1.heap.objs.size, ⟨⟨.none, he⟩, ⟨_, ho, rfl, rfl⟩, Nat.succ_ne_self _⟩, fun b hb => ?_, q⟩
    have hle : s1.heap.objs.size ≤ b := by
      rcases (by simpa using hb : b = s1.heap.objs.size + 1 ∨ b = s1.heap.objs.size) with z | z
      · rw [z]; exact Nat.le_add_right _ _
      · rw [z]; exact Nat.le_refl _
    exact I1.fpOk hle (I1.hok.fresh hle)
theorem yl_enumT {K : PySem.W.Frag} {H0 : Hp} {N0 : Ns} {G0 : Gp} {a : Addr} {ds : List D} {vs : List V} (sq0 : SqT K H0 a vs) (r0 : RDs K H0 N0 ds vs) : Yl K (ItT K a vs) H0 N0 G0 (enumD 0 ds) fun _ => True := by
  refine Yl.of (fun i H N G d s g e => ?_) (fun i H N G s g e => ?_)
  · have r := r0.le s.kp
    rw [enumD_get] at e
    cases ed : ds[i]? with
    | none => rw [ed] at e; cases e
    | some d0 =>
      rw [ed] at e
      cases e
      obtain ⟨v, hv, rv⟩ := r.get ed
      refine ⟨⟨SqT.le s.kp.kle sq0, (List.getElem?_eq_some_iff.mp hv).1⟩, fun x H' y => ?_⟩
      obtain ⟨T, x1, rfl, nT, rfl, y⟩ := y
      rw [hv] at y
      cases y
      have s2 := Stp.new0 (u := .tup [.int ((i : Nat) : Int), v]) s.rel nT
      refine ⟨s2, RD.tup (.inl (.inl upd_same)) (RDs.cons ?_ (RDs.cons (rv.le s2.kp) RDs.nil))⟩
      rw [Int.zero_add]
      exact RD.int _
  · rw [enumD_length] at e
    exact ⟨SqT.le s.kp.kle sq0, by rw [← r0.length]; exact e⟩
section
variable {X : Cx}
def dEnumT (ta : DA) : DI := fun σ G R => ta σ G fun ds G1 => match ds with
  | [.tup xs] => R (enumD 0 xs) (fun _ => True) G1
  | _ => False
theorem qi_enumT {e : Expr} {ta : DA} {p pos tpos : Pos} {elts : List Expr} {kk : Nat} (hg : Gl X "enumerate") (hm : X.mg "enumerate" = none) (ha : QA X [e] ta) (hs : starEach [e] X.env = [(false, eval e X.env)] := by rfl) :
    QI X (.Tuple elts kk tpos) (.Call (.Name "enumerate" p) [e] [] pos) (dEnumT ta) := pi_mono (pi_enumT hg hm ha hs) fun τ H Q h => by
  obtain ⟨σ, G, N, R, hs, hg, ht, q⟩ := h
  refine ⟨σ, G, N, _, hs, hg, ht, fun ds G1 N1 vs H1 h1 s1 r1 => ?_⟩
  split at h1
  · obtain ⟨v, r, rfl, r2, r3⟩ := r1.of_cons
    rw [r3.of_nil]
    obtain ⟨p, vs, rfl, sq, r⟩ := r2.of_tup
    exact ⟨p, vs, rfl, sq, q _ _ _ _ _ _ h1 s1 (yl_enumT sq r)⟩
  · exact h1.elim
theorem x_enumT {ta : DA} {σ : Sd} {G : Gp} {R : List D → (Gp → Prop) → Gp → Prop} : dEnumT ta σ G R = ta σ G fun ds G1 => match ds with
  | [.tup xs] => R (enumD 0 xs) (fun _ => True) G1
  | _ => False := rfl
theorem xd_ixW {w : World} (hw : X.w = w) (hu : X.A.units + 11 < cLine) : IxD X (dIxX w) := by subst hw; exact xd_ixX hu
theorem od_inXW {w : World} (hw : X.w = w) (hu : X.A.units + 11 < cLine) : OpD X (compareOp .In) (dInX w true) := by subst hw; exact od_inX hu
theorem od_notInXW {w : World} (hw : X.w = w) (hu : X.A.units + 11 < cLine) : OpD X (compareOp .NotIn) (dInX w false) := by subst hw; exact od_notInX hu
theorem sd_setW {w : World} (hw : X.w = w) (hu : X.A.units + 11 < cLine) : SetD X (dSetX w) := by subst hw; exact sd_setX hu
theorem qe_newW {w : World} {pos : Pos} (hw : X.w = w) : QE X (.Dict [] [] pos) (dNewX w) := by subst hw; exact qe_newX
end
end DL

set_option Elab.async false
set_option linter.all false
set_option maxRecDepth 100000
set_option maxHeartbeats 4000000
set_option autoImplicit false
namespace DL
open PySem PySem.Spec PyProof.Rows L2
/-! ### a list times an int -/
theorem RDs.rep {K : PySem.W.Frag} {H : Hp} {N : Ns} {ds : List D} {vs : List V} (r : RDs K H N ds vs) : ∀ n : Nat, RDs K H N (List.replicate n ds).flatten (List.replicate n vs).flatten
  | 0 => by simpa using RDs.nil
  | n + 1 => by
    rw [List.replicate_succ, List.replicate_succ, List.flatten_cons, List.flatten_cons]
    exact RDs.append r (RDs.rep r n)
variable {X : Cx}
def dRep (mk : Bool) : DR2 := fun x y G R => match x, y with
  | .ref a, .int k => (match G a with | some (.lst ds) => 0 ≤ k ∧ k < 1000 ∧ ds.length * k.toNat ≤ sizeLine ∧ newL mk (List.replicate k.toNat ds).flatten G R | _ => False)
  | _, _ => False
theorem od_rep (mk : Bool) : OpD X (binaryOp .Mult) (dRep mk) := opr_mono op_rep fun x y H Q h => by
  obtain ⟨c, d, G, N, R, r1, r2, rg, h, q⟩ := h
  unfold dRep at h
  split at h
  · rename_i a k
    obtain rfl := r1.of_ref
    obtain rfl := r2.of_int
    split at h
    · rename_i ds ea
      obtain ⟨h1, h2, h3, h4⟩ := h
      obtain ⟨_, vs, hv, r⟩ := rg a _ ea
      have hl := r.length
      exact ⟨a, k, vs, rfl, rfl, hv, by omega, by omega, by rw [← hl]; exact h3, fun p np => newL_ok rg (r.rep k.toNat) h4 q np⟩
    · exact h.elim
  · exact h.elim
theorem rep_go {mk : Bool} {a : Addr} {k : Int} {ds : List D} {G : Gp} {R : DK} (e : G a = some (.lst ds)) (h1 : 0 ≤ k) (h2 : k < 1000) (h3 : ds.length * k.toNat ≤ sizeLine) (q : newL mk (List.replicate k.toNat ds).flatten G R) : dRep mk (.ref a) (.int k) G R := by
  unfold dRep
  simp only [e]
  exact ⟨h1, h2, h3, q⟩
end DL

set_option Elab.async false
set_option linter.all false
set_option maxRecDepth 100000
set_option maxHeartbeats 4000000
set_option autoImplicit false
namespace DL
open PySem PySem.Spec PyProof.Rows L2
/-! ### >= of data -/
variable {X : Cx}
def dGeE : DR2 := dCmpE (fun i j => decide (j ≤ i)) (fun a b => !sLt a b) fun l _ => !l
theorem od_geE (hu : X.A.units + 100 < cLine) : OpD X (compareOp .GtE) dGeE := cmpE_of hu od_ge fun a b c d e h => PySem.W.ge_data a b c d e h
theorem geE_key {i j : Int} {x y : Str} {G : Gp} {R : DK} : dGeE (.tup [.int i, .str x]) (.tup [.int j, .str y]) G R = R (.bl (!ltK (i, x) (j, y))) G := by
  have e := lex_pyK (i, x) (j, y)
  show (PySem.W.alike _ _ = true ∧ _ ∧ _ ∧ R (.bl (!PySem.W.dataLt (pyK (i, x)) (pyK (j, y)))) G) = _
  rw [show PySem.W.dataLt (pyK (i, x)) (pyK (j, y)) = ltK (i, x) (j, y) from e]
  refine propext ⟨fun h => h.2.2.2, fun h => ⟨rfl, by simp, ?_, h⟩⟩
  simp only [pyK, PyData.depth, PyData.depthAll]
  omega
theorem geE_ii {i j : Int} {G : Gp} {R : DK} : dGeE (.int i) (.int j) G R = R (.bl (decide (j ≤ i))) G := rfl
end DL

set_option Elab.async false
set_option linter.all false
set_option maxRecDepth 100000
set_option maxHeartbeats 4000000
set_option autoImplicit false
namespace DL
open PySem PySem.Spec PyProof.Rows L2
/-! ### split, int of a text, statements that are never reached -/
variable {X : Cx}
def dSplit (mk : Bool) : D → List D → Gp → DK → Prop := fun x xs G R => match x, xs with
  | .str a, [.str b] => (b.length == 0) = false ∧ a.length + 2 ≤ sizeLine ∧ newL mk ((Txt.split a b).map .str) G R
  | _, _ => False
theorem md_split (mk : Bool) : MtD X "str.split" (dSplit mk) := md_of mt_split fun c cs G N R x xs H Q r0 r1 rg h q => by
  unfold dSplit at h
  split at h
  · rename_i a b
    obtain rfl := r0.of_str
    obtain ⟨v, r, rfl, r2, r3⟩ := r1.of_cons
    obtain rfl := r3.of_nil
    obtain rfl := r2.of_str
    exact ⟨a, b, rfl, rfl, h.1, h.2.1, fun p np => newL_ok rg (RDs.strs _) h.2.2 q np⟩
  · exact h.elim
def dIntS : DRn := fun cs G R => match cs with
  | [.str z] => (match PySem.intText? z with | some n => z.length ≤ 640 ∧ R (.int n) G | none => False)
  | _ => False
theorem cd_intS : CallD X (.type "int") dIntS := up_rn call_int_str fun cs G N R xs H Q rd rg h q => by
  unfold dIntS at h
  split at h
  · rename_i z
    obtain ⟨v, r, rfl, r1, r2⟩ := rd.of_cons
    rw [r2.of_nil, r1.of_str]
    split at h
    · rename_i n e
      exact ⟨z, n, rfl, e, h.1, q.at rg h.2 (RD.int _)⟩
    · exact h.elim
  · exact h.elim
theorem intS_go {z : Str} {n : Int} {G : Gp} {R : DK} (e : PySem.intText? z = some n) (hl : z.length ≤ 640) (k : R (.int n) G) : dIntS [.str z] G R := by
  unfold dIntS
  simp only [e]
  exact ⟨hl, k⟩
theorem split_go {a b : Str} {zs : List Str} {G : Gp} {R : DK} (e : Txt.split a b = zs) (hb : (b.length == 0) = false) (hl : a.length ≤ 1000000) (k : R (.lst (zs.map .str)) G) : dSplit false (.str a) [.str b] G R := by
  refine ⟨hb, ?_, by rw [e]; exact k⟩
  have : (1000002 : Nat) ≤ sizeLine := by decide
  omega
/-! ### texts taken apart -/
theorem int_num : ∀ k : Fin 301, PySem.intText? (toString ((k.val : Nat) : Int)) = some ((k.val : Nat) : Int) := by decide +kernel
theorem split_one (zs : List Str) (hne : zs ≠ []) (h : ∀ z ∈ zs, 32 ∉ cds z) : Txt.split (Txt.join " " zs) " " = zs := by
  refine TL.map_tl_inj ?_
  have e := TL.split_spl (Txt.join " " zs) " " (by decide +kernel) (TL.kind_ok (by decide +kernel))
  rw [e]
  have e2 : TL.tl (Txt.join " " zs) = TL.joinL (TL.tl " ") (zs.map TL.tl) := by
    rw [show Txt.join (" " : Str) zs = Str.join " " zs from PySem.StrLaws.glued_eq_join _ zs]
    exact TL.tl_join " " zs
  rw [e2]
  have e3 : TL.tl (" " : Str) = [32] := by decide +kernel
  rw [e3]
  refine TL.spl_join (by simpa using hne) fun p hp => ?_
  obtain ⟨z, hz, rfl⟩ := List.mem_map.mp hp
  exact h z hz
theorem free3 : ∀ (p q : List Nat) (i : Nat), 47 ∉ p → i < p.length → TL.pre [32, 47, 32] ((p ++ ([32, 47, 32] ++ q)).drop i) = false := by
  intro p
  induction p with
  | nil => intro q i _ hi; exact absurd hi (Nat.not_lt_zero _)
  | cons c p ih =>
    intro q i h hi
    cases i with
    | succ i => exact ih q i (fun z => h (List.mem_cons_of_mem _ z)) (Nat.lt_of_succ_lt_succ hi)
    | zero =>
      rw [List.drop_zero]
      cases p with
      | nil => simp [TL.pre]
      | cons d p =>
        have hd : d ≠ 47 := fun z => h (by rw [z]; simp)
        simp [TL.pre, hd]
theorem free3' : ∀ (p : List Nat) (i : Nat), 47 ∉ p → i < p.length → TL.pre [32, 47, 32] (p.drop i) = false := by
  intro p
  induction p with
  | nil => intro i _ hi; exact absurd hi (Nat.not_lt_zero _)
  | cons c p ih =>
    intro i h hi
    cases i with
    | succ i => exact ih i (fun z => h (List.mem_cons_of_mem _ z)) (Nat.lt_of_succ_lt_succ hi)
    | zero =>
      rw [List.drop_zero]
      cases p with
      | nil => simp [TL.pre]
      | cons d p =>
        have hd : d ≠ 47 := fun z => h (by rw [z]; simp)
        simp [TL.pre, hd]
theorem spl3 : ∀ {parts : List (List Nat)}, parts ≠ [] → (∀ p ∈ parts, 47 ∉ p) → TL.spl [32, 47, 32] 0 [] (TL.joinL [32, 47, 32] parts) = parts
  | [], h, _ => absurd rfl h
  | [p], _, h => by
    show TL.spl _ 0 [] p = [p]
    rw [TL.spl_last fun i hi => free3' p i (h p (by simp)) hi]
    rfl
  | p :: q :: r, _, h => by
    show TL.spl [32, 47, 32] 0 [] (p ++ ([32, 47, 32] ++ TL.joinL [32, 47, 32] (q :: r))) = _
    rw [TL.spl_part (by simp) fun i hi => free3 p _ i (h p (by simp)) hi, spl3 (by simp) fun z hz => h z (List.mem_cons_of_mem _ hz)]
    rfl
theorem split_three (zs : List Str) (hne : zs ≠ []) (h : ∀ z ∈ zs, 47 ∉ cds z) : Txt.split (Txt.join " / " zs) " / " = zs := by
  refine TL.map_tl_inj ?_
  have e := TL.split_spl (Txt.join " / " zs) " / " (by decide +kernel) (TL.kind_ok (by decide +kernel))
  rw [e]
  have e2 : TL.tl (Txt.join " / " zs) = TL.joinL (TL.tl " / ") (zs.map TL.tl) := by
    rw [show Txt.join (" / " : Str) zs = Str.join " / " zs from PySem.StrLaws.glued_eq_join _ zs]
    exact TL.tl_join " / " zs
  rw [e2]
  have e3 : TL.tl (" / " : Str) = [32, 47, 32] := by decide +kernel
  rw [e3]
  refine spl3 (by simpa using hne) fun p hp => ?_
  obtain ⟨z, hz, rfl⟩ := List.mem_map.mp hp
  exact h z hz
end DL

set_option Elab.async false
set_option linter.all false
set_option maxRecDepth 100000
set_option maxHeartbeats 4000000
set_option autoImplicit false
namespace DL
open PySem PySem.Spec PyProof.Rows L2
/-! ### a list's slice with a step -/
def stepL {α : Type} (xs : List α) (lo hi st : Option Int) : List α := (sliceRange (sliceBounds lo hi st xs.length).1 (sliceBounds lo hi st xs.length).2.1 (sliceBounds lo hi st xs.length).2.2).filterMap (xs[·]?)
theorem RDs.pick {K : PySem.W.Frag} {H : Hp} {N : Ns} {ds : List D} {vs : List V} (r : RDs K H N ds vs) : ∀ is : List Nat, RDs K H N (is.filterMap (ds[·]?)) (is.filterMap (vs[·]?))
  | [] => RDs.nil
  | i :: is => by
    rw [List.filterMap_cons, List.filterMap_cons]
    have ih := RDs.pick r is
    cases e : ds[i]? with
    | some d =>
      obtain ⟨v, hv, rv⟩ := r.get e
      rw [hv]
      exact RDs.cons rv ih
    | none =>
      have : vs[i]? = none := by rw [List.getElem?_eq_none_iff] at e ⊢; rw [← r.length]; exact e
      rw [this]
      exact ih
theorem vals_pick {vs : List V} {us : List Value} (r : Vals vs us) : ∀ is : List Nat, Vals (is.filterMap (vs[·]?)) (is.filterMap (us[·]?))
  | [] => .nil
  | i :: is => by
    rw [List.filterMap_cons, List.filterMap_cons]
    have ih := vals_pick r is
    cases e : vs[i]? with
    | some d =>
      obtain ⟨v, hv, rv⟩ := r.get e
      rw [hv]
      exact .cons rv ih
    | none =>
      have : us[i]? = none := by rw [List.getElem?_eq_none_iff] at e ⊢; rw [← r.length]; exact e
      rw [this]
      exact ih
section
variable {X : Cx} {e : Expr} {lo hi st : Option Expr} {p3 pos : Pos}
def tStep (K : PySem.W.Frag) (te : TE) (tl th ts : TO) : TE := fun σ H Q => te σ H fun x H1 => tl σ H1 fun l H2 => th σ H2 fun u H3 => ts σ H3 fun k H4 => ∃ a xs, x = .ref a ∧ SqL K H4 a xs ∧ k ≠ some 0 ∧ (stepL xs l u k).length ≤ sizeLine ∧ ∀ p, H4 p = none → Q (.ref p) (upd H4 p (.lst (stepL xs l u k)))
theorem pe_step {te : TE} {tl th ts : TO} (he : PE X e te) (hl : PO X lo tl) (hh : PO X hi th) (hs : PO X st ts) (hn : NoSl (.Slice lo hi st p3)) : PE X (.Subscript e (.Slice lo hi st p3) pos) (tStep X.K te tl th ts) := by
  refine ⟨fun pins s σ H Q I h => ?_⟩
  refine Subscript_ (thn (he.run pins s σ H _ I h) fun v s1 ⟨x, H1, I1, r1, q1⟩ => ?_)
  refine wpAny_Slice (thn (hl.run pins s1 σ H1 _ I1 q1) fun vl s2 ⟨l, H2, I2, pl, q2⟩ => thn (hh.run pins s2 σ H2 _ I2 q2) fun vu s3 ⟨u, H3, I3, pu, q3⟩ => thn (hs.run pins s3 σ H3 _ I3 q3) fun vs s4 ⟨k, H4, I4, ps, q4⟩ => ?_)
  obtain ⟨a, xs, ex, hx, hk, hz2, q⟩ := q4
  subst ex
  obtain rfl : v = Value.ref a := r1
  have I5 : Inv X pins σ H4 { s4 with heap := s4.heap.push { cls := .type "slice", data := .fields #[vl, vu, vs] } } := I4.kept (t' := s4.toks) fun b ob q => Heap.get?_push_of_some _ q
  obtain ⟨its, r, ht, hz⟩ := I5.list hx
  have hlen := r.length
  refine tail_any ht.isList.typeIs PySem.slot_list_getitem.lookup ?_ (hn _ _)
  refine wpAny_getItem_list_slice ht.isList (Heap.IsSliceOf.new _ vl vu vs) pl pu ps hk ?_ (by rw [List.size_toArray]; omega)
  have e1 : slicePick its.toArray l u k = ((sliceRange (sliceBounds l u k xs.length).1 (sliceBounds l u k xs.length).2.1 (sliceBounds l u k xs.length).2.2).filterMap (its[·]?)).toArray := by
    unfold slicePick
    rw [List.size_toArray, ← hlen]
    simp only [List.getElem?_toArray]
  rw [e1]
  refine ⟨.ref _, _, I5.laid (t' := s4.toks) (o := .lst (stepL xs l u k)) (fun b ob q => Heap.get?_push_of_some _ q) (Nat.le_refl _) ?_, rfl, q _ (I5.hok.fresh (Nat.le_refl _))⟩
  exact ⟨hz2, _, 0, vals_pick r _, Heap.get?_push_size _ rfl⟩
def dStep (mk : Bool) (te : DE) (tl th ts : DO) : DE := fun σ G R => te σ G fun x G1 => tl σ G1 fun l G2 => th σ G2 fun u G3 => ts σ G3 fun k G4 => match lstOf G4 x with | some ds => k ≠ some 0 ∧ (stepL ds l u k).length ≤ sizeLine ∧ newL mk (stepL ds l u k) G4 R | none => False
theorem qe_step (mk : Bool) {te : DE} {tl th ts : DO} (he : QE X e te) (hl : QO X lo tl) (hh : QO X hi th) (hst : QO X st ts) (hn : NoSl (.Slice lo hi st p3)) : QE X (.Subscript e (.Slice lo hi st p3) pos) (dStep mk te tl th ts) :=
  pe_mono (pe_step he hl hh hst hn) fun τ H Q h => by
    obtain ⟨σ, G, N, R, hs, hg, ht, q⟩ := h
    refine ⟨σ, G, N, _, hs, hg, ht, fun d G1 N1 v1 H1 h1 s1 r1 => ?_⟩
    refine ⟨σ, G1, N1, _, hs.le s1.kp, s1.rel, h1, fun l G2 N2 H2 h2 s2 => ?_⟩
    refine ⟨σ, G2, N2, _, (hs.le s1.kp).le s2.kp, s2.rel, h2, fun u G3 N3 H3 h3 s3 => ?_⟩
    refine ⟨σ, G3, N3, _, ((hs.le s1.kp).le s2.kp).le s3.kp, s3.rel, h3, fun k G4 N4 H4 h4 s4 => ?_⟩
    have s14 := ((s1.trans s2).trans s3).trans s4
    have r4 := ((r1.le s2.kp).le s3.kp).le s4.kp
    split at h4
    · rename_i ds ed
      obtain ⟨p, vs, rfl, sq, r⟩ := lstOf_ok s4.rel r4 ed
      have hlen := r.length
      have eq : stepL vs l u k = (sliceRange (sliceBounds l u k ds.length).1 (sliceBounds l u k ds.length).2.1 (sliceBounds l u k ds.length).2.2).filterMap (vs[·]?) := by unfold stepL; rw [hlen]
      have rp : RDs X.K H4 N4 (stepL ds l u k) (stepL vs l u k) := by rw [eq]; exact RDs.pick r _
      exact ⟨p, vs, rfl, sq, h4.1, by rw [← rp.length]; exact h4.2.1, fun p np => newL_ok s4.rel rp h4.2.2 (q.le s14) np⟩
    · exact h4.elim
/-- xs.extend(ys), both known -/
def dExtend : D → List D → Gp → DK → Prop := fun x xs G R => match x, xs with
  | .ref a, [.ref b] => (match G a, G b with | some (.lst ds), some (.lst es) => ds.length + es.length ≤ sizeLine ∧ R .non (gup G a (.lst (ds ++ es))) | _, _ => False)
  | _, _ => False
theorem md_extend : MtD X "list.extend" dExtend := md_of (rv := rExtend) (fun pins s σ H x xs v us Q I rx rxs q => mt_extend pins s σ H x xs v us Q I rx rxs q) fun c cs G N R x xs H Q r0 r1 rg h q => by
  unfold dExtend at h
  split at h
  · rename_i a b
    obtain rfl := r0.of_ref
    obtain ⟨v, r, rfl, rv, rr⟩ := r1.of_cons
    rw [rr.of_nil, rv.of_ref]
    split at h
    · rename_i ds es ea eb
      obtain ⟨_, vs, hv, rd⟩ := rg a _ ea
      obtain ⟨_, us, hu, re⟩ := rg b _ eb
      have h1 := rd.length
      have h2 := re.length
      exact ⟨a, b, vs, us, rfl, rfl, hv, hu, by omega, q.wr rg ea hv (rd.append re) RD.non h.2⟩
    · exact h.elim
  · exact h.elim
theorem x_step {mk : Bool} {te : DE} {tl th ts : DO} {σ : Sd} {G : Gp} {R : DK} : dStep mk te tl th ts σ G R = te σ G fun x G1 => tl σ G1 fun l G2 => th σ G2 fun u G3 => ts σ G3 fun k G4 => match lstOf G4 x with | some ds => k ≠ some 0 ∧ (stepL ds l u k).length ≤ sizeLine ∧ newL mk (stepL ds l u k) G4 R | none => False := rfl
theorem ext_go {a b : Addr} {ds es : List D} {G : Gp} {R : DK} (ea : G a = some (.lst ds)) (eb : G b = some (.lst es)) (hl : ds.length + es.length ≤ sizeLine) (k : R .non (gup G a (.lst (ds ++ es)))) : dExtend (.ref a) [.ref b] G R := by
  unfold dExtend
  simp only [ea, eb]
  exact ⟨hl, k⟩
end
end DL

set_option Elab.async false
set_option linter.all false
set_option maxRecDepth 100000
set_option maxHeartbeats 4000000
set_option autoImplicit false
namespace DL
open PySem PySem.Spec PyProof.Rows L2
/-! ### words for readings that many laws share -/
theorem lc_typ {α : Type} {g : DG} {te : DE} {σ : Sd} {gd : Gp → Prop} {G : Gp} (d f : α → D) (hg : gd G) : ∀ (xs : List α) (acc : List D), (∀ x ∈ xs, ∀ Q : DK, Q (f x) G → g (d x) σ G fun σ2 G2 => te σ2 G2 Q) → ∀ Q : List D → Gp → Prop, Q (acc ++ xs.map f) G → dLcGo g dYes te gd σ (xs.map d) acc G Q
  | [], acc, _, Q, q => ⟨hg, by simpa using q⟩
  | x :: xs, acc, h, Q, q => ⟨hg, h x List.mem_cons_self _ (lc_typ d f hg xs (acc ++ [f x]) (fun y hy => h y (List.mem_cons_of_mem _ hy)) Q (by simpa using q))⟩
theorem all_typ {α : Type} {g : DG} {te : DE} {σ : Sd} {gd : Gp → Prop} {G : Gp} (d : α → D) (f : α → Bool) (hg : gd G) (xs : List α) (h : ∀ x ∈ xs, ∀ Q : DK, Q (.bl (f x)) G → g (d x) σ G fun σ2 G2 => te σ2 G2 Q) {Q : DK} (q : Q (.bl (xs.all f)) G) : dLcGo g dYes te gd σ (xs.map d) [] G fun ds G2 => dAll [.lst ds] G2 Q := by
  refine lc_typ d (fun x => .bl (f x)) hg xs [] h _ ?_
  have e : [] ++ xs.map (fun x => D.bl (f x)) = (xs.map f).map D.bl := by simp
  rw [e, all_lst, List.all_map]
  exact q
theorem lc_flt {α : Type} {g : DG} {tt : DT} {te : DE} {σ : Sd} {gd : Gp → Prop} {G : Gp} (d : α → D) (p : α → Option D) (hg : gd G) : ∀ (xs : List α) (acc : List D), (∀ x ∈ xs, ∀ (N : List D → Gp → Prop) (acc : List D), N (acc ++ (p x).toList) G → g (d x) σ G fun σ2 G2 => tt σ2 G2 fun b G3 => match b with | true => te σ2 G3 fun y G4 => N (acc ++ [y]) G4 | false => N acc G3) →
    ∀ Q : List D → Gp → Prop, Q (acc ++ xs.filterMap p) G → dLcGo g tt te gd σ (xs.map d) acc G Q
  | [], acc, _, Q, q => ⟨hg, by simpa using q⟩
  | x :: xs, acc, h, Q, q => by
    refine ⟨hg, h x List.mem_cons_self (fun acc' G' => dLcGo g tt te gd σ (xs.map d) acc' G' Q) acc (lc_flt d p hg xs _ (fun y hy => h y (List.mem_cons_of_mem _ hy)) Q ?_)⟩
    cases e : p x with
    | none => simpa [List.filterMap_cons, e] using q
    | some y => simpa [List.filterMap_cons, e] using q
theorem zipD_map {α β : Type} (d : α → D) (f : β → D) : ∀ (xs : List α) (ys : List β), zipD (xs.map d) (ys.map f) = (xs.zip ys).map fun p => .tup [d p.1, f p.2]
  | [], ys => by cases ys <;> rfl
  | x :: xs, [] => rfl
  | x :: xs, y :: ys => by simp only [List.map_cons, zipD, List.zip_cons_cons, zipD_map d f xs ys]
theorem cut_tail {α : Type} (l : List α) : cutL l (some 1) none = l.tail := by
  cases l with
  | nil => rfl
  | cons a l => exact cut1
theorem py_str {z : Str} : pyD (.str z) = true ↔ ∀ c ∈ cds z, c < 1114112 := by
  simp only [pyD, List.all_eq_true, decide_eq_true_eq, cds]
theorem py_of (s : String) : pyD (.str (Str.ofString s)) = true := by
  rw [py_str]
  intro c hc
  rw [Str.ofString_eq_toList] at hc
  have hc : c ∈ s.toList.map Char.toNat := by simpa [cds] using hc
  rw [List.mem_map] at hc
  obtain ⟨x, _, rfl⟩ := hc
  have := x.valid
  unfold Char.toNat
  simp only [UInt32.isValidChar, Nat.isValidChar] at this
  show x.val.toNat < 1114112
  omega
theorem py_app {a b : Str} (h1 : pyD (.str a) = true) (h2 : pyD (.str b) = true) : pyD (.str (a ++ b)) = true := by
  rw [py_str] at *
  rw [cds_app]
  intro c hc
  rcases List.mem_append.mp hc with hc | hc
  · exact h1 c hc
  · exact h2 c hc
theorem py_join {sep : Str} (h : pyD (.str sep) = true) : ∀ {zs : List Str}, (∀ z ∈ zs, pyD (.str z) = true) → pyD (.str (Txt.join sep zs)) = true := by
  intro zs hz
  rw [py_str, cds_join]
  intro c hc
  obtain ⟨l, hl, hc⟩ := List.mem_flatten.mp hc
  have key : ∀ (ls : List (List Nat)) (s l : List Nat), l ∈ ls.intersperse s → l = s ∨ l ∈ ls := by
    intro ls s l
    induction ls with
    | nil => intro h; cases h
    | cons a ls ih =>
      cases ls with
      | nil => intro h; exact .inr (by simpa using h)
      | cons b ls =>
        intro h
        rw [List.intersperse_cons₂] at h
        rcases List.mem_cons.mp h with h | h
        · exact .inr (by simp [h])
        · rcases List.mem_cons.mp h with h | h
          · exact .inl h
          · rcases ih h with h | h
            · exact .inl h
            · exact .inr (List.mem_cons_of_mem _ h)
  rcases key _ _ _ hl with rfl | hl
  · exact py_str.mp h c hc
  · obtain ⟨z, hz2, rfl⟩ := List.mem_map.mp hl
    exact py_str.mp (hz z hz2) c hc
end DL

set_option Elab.async false
set_option linter.all false
set_option maxRecDepth 100000
set_option maxHeartbeats 4000000
set_option autoImplicit false
namespace DL
open PySem PySem.Spec PyProof.Rows L2
/-! ### list(range(n)), tuple(range(n)) -/
section
variable {X : Cx} {a : Expr} {ta : DE} {p p2 pos pos2 : Pos}
theorem rds_rng {K : PySem.W.Frag} {H : Hp} {N : Ns} (lo : Int) (f : Nat → Nat) : ∀ ks : List Nat, RDs K H N (ks.map fun i => D.int (lo + (i : Nat))) (ks.map fun i => V.int (lo + (i : Nat)))
  | [] => RDs.nil
  | k :: ks => RDs.cons (RD.int _) (rds_rng lo f ks)
theorem rds_rgV {K : PySem.W.Frag} {H : Hp} {N : Ns} (n : Int) : RDs K H N (rng 0 n.toNat) (rgV 0 n) := by
  unfold rng rgV
  rw [Int.sub_zero]
  exact rds_rng 0 id _
def dRg1 (K : PySem.W.Frag) (ta : DE) : L2.St → Hp → (Int → Int → Hp → Prop) → Prop := tRg1 (up K ta)
def dListRg (mk : Bool) (ta : DE) : DE := fun σ G R => ta σ G fun x G1 => match x with | .int n => 0 ≤ n ∧ n ≤ 1000000 ∧ newL mk (rng 0 n.toNat) G1 R | _ => False
def dTupRg (ta : DE) : DE := fun σ G R => ta σ G fun x G1 => match x with | .int n => 0 ≤ n ∧ n ≤ 1000000 ∧ R (.tup (rng 0 n.toNat)) G1 | _ => False
theorem qe_listRg (mk : Bool) (hc : X.calm = true) (hg : Gl X "list") (hm : X.mg "list" = none) (hg2 : Gl X "range") (hm2 : X.mg "range" = none) (ha : QE X a ta)
    (na : starEach [a] X.env = (false, eval a X.env) :: starEach [] X.env := by rfl)
    (na2 : starEach [.Call (.Name "range" p2) [a] [] pos2] X.env = (false, eval (.Call (.Name "range" p2) [a] [] pos2) X.env) :: starEach [] X.env := by rfl) :
    QE X (.Call (.Name "list" p) [.Call (.Name "range" p2) [a] [] pos2] [] pos) (dListRg mk ta) :=
  pe_mono (pe_listRg hc hg hm (prg_1 hg2 hm2 ha na) na2) fun τ H Q h => by
    obtain ⟨σ, G, N, R, hs, hg, ht, q⟩ := h
    refine ⟨σ, G, N, _, hs, hg, ht, fun d G1 N1 v1 H1 h1 s1 r1 => ?_⟩
    split at h1
    · rename_i n
      rw [r1.of_int]
      exact ⟨n, rfl, RgOk.of_le (by omega) (by omega) (by omega) (by omega), fun q' np => newL_ok s1.rel (rds_rgV n) h1.2.2 (q.le s1) np⟩
    · exact h1.elim
theorem qe_tupRg (hc : X.calm = true) (hg : Gl X "tuple") (hm : X.mg "tuple" = none) (hg2 : Gl X "range") (hm2 : X.mg "range" = none) (ha : QE X a ta)
    (na : starEach [a] X.env = (false, eval a X.env) :: starEach [] X.env := by rfl)
    (na2 : starEach [.Call (.Name "range" p2) [a] [] pos2] X.env = (false, eval (.Call (.Name "range" p2) [a] [] pos2) X.env) :: starEach [] X.env := by rfl) :
    QE X (.Call (.Name "tuple" p) [.Call (.Name "range" p2) [a] [] pos2] [] pos) (dTupRg ta) :=
  pe_mono (pe_tupRg hc hg hm (prg_1 hg2 hm2 ha na) na2) fun τ H Q h => by
    obtain ⟨σ, G, N, R, hs, hg, ht, q⟩ := h
    refine ⟨σ, G, N, _, hs, hg, ht, fun d G1 N1 v1 H1 h1 s1 r1 => ?_⟩
    split at h1
    · rename_i n
      rw [r1.of_int]
      exact ⟨n, rfl, RgOk.of_le (by omega) (by omega) (by omega) (by omega), fun q' np => newT_ok s1.rel (rds_rgV n) h1.2.2 (q.le s1) np⟩
    · exact h1.elim
theorem x_listRg {mk : Bool} {ta : DE} {σ : Sd} {G : Gp} {R : DK} : dListRg mk ta σ G R = ta σ G fun x G1 => match x with | .int n => 0 ≤ n ∧ n ≤ 1000000 ∧ newL mk (rng 0 n.toNat) G1 R | _ => False := rfl
theorem x_tupRg {ta : DE} {σ : Sd} {G : Gp} {R : DK} : dTupRg ta σ G R = ta σ G fun x G1 => match x with | .int n => 0 ≤ n ∧ n ≤ 1000000 ∧ R (.tup (rng 0 n.toNat)) G1 | _ => False := rfl
end
/-! ### d.get(k, e) of a dict of nested keys -/
section
variable {X : Cx}
variable {o e : Expr} {es : List Expr} {to : DE} {t : DA} {name : Str} {apos cpos : Pos} {id : String} {r : D → List D → Gp → DK → Prop}
def dMD (w : World) (r : D → List D → Gp → DK → Prop) (to : DE) (t : DA) : DE := fun σ G R => to σ G fun x G1 => (∃ a kvs, x = .ref a ∧ G1 a = some (GO.dN w kvs)) ∧ t σ G1 fun xs G2 => r x xs G2 R
theorem qe_mD (pa : PlainAttrs "dict") (slot : Slot "dict" name id) (hty : typeOf (.builtin id) = pure (.type "method_descriptor")) (hm : MtD X id r) (ho : QE X o to) (ha : QA X (e :: es) t)
    (hbase : attributeBase o name X.env (eval o X.env) = eval o X.env := by rfl)
    (hfew : ((backTo cpos (starEach (e :: es) X.env)).all (fun x => !x.1) && (backToKw cpos (keywordEach [] X.env)).all (fun x => x.1.isSome)
      && decide ((e :: es).length + ([] : List Keyword).length + (if ([] : List Keyword).isEmpty then 0 else 1) < 30)) = true := by rfl)
    (hline : (apos.endLine == cpos.line) = true := by rfl) (hs : starEach (e :: es) X.env = (false, eval e X.env) :: starEach es X.env := by rfl) (hplain : (backTo cpos (starEach es X.env)).any (·.1) = false := by rfl) :
    QE X (.Call (.Attribute o name apos) (e :: es) [] cpos) (dMD X.w r to t) := by
  refine ⟨fun pins s τ H Q I h => ?_⟩
  obtain ⟨σ, G, N, R, hst, hg, ht, q⟩ := h
  refine wpAny_Call_method_late hbase hfew hline rfl (thn (ho.run pins s τ H (fun v H1 => ∃ d G1 N1, Stp X.K H N G H1 N1 G1 ∧ RD X.K H1 N1 d v ∧ (∃ a kvs, d = .ref a ∧ G1 a = some (GO.dN X.w kvs)) ∧ t σ G1 fun xs G2 => r d xs G2 R) I ⟨σ, G, N, _, hst, hg, ht, fun d G1 N1 v1 H1 h1 s1 r1 => ⟨d, G1, N1, s1, r1, h1⟩⟩) fun v s1 ⟨x, H1, I1, r1, d, G1, N1, st1, rd1, ty, q1⟩ => ?_)
  obtain ⟨a, kvs, rfl, hG⟩ := ty
  have e1 := rd1.of_ref
  subst e1
  obtain rfl : v = Value.ref a := r1
  obtain ⟨hN, kvs', hH, rr, ok⟩ := st1.rel a _ hG
  obtain ⟨z1, z2, z3, ob, es', ep, hob, hex, hdt, z4, E, pr⟩ := dx_ents I1 hH rr ok
  refine ⟨"dict", id, pa, slot, hty, ⟨ob, hob, hex.1⟩, fun b eb => by cases eb; exact ⟨ob, hob, hex.2.1⟩, ?_⟩
  have hA := ha.run cpos pins s1 τ H1 (fun vs H2 => upM X.K r (.ref a) vs H2 Q) I1 ⟨σ, G1, N1, _, hst.le st1.kp, st1.rel, q1, fun xs G2 N2 vs H2 h3 s2 r2 => ⟨.ref a, xs, G2, N2, R, rd1.le s2.kp, r2, s2.rel, h3, q.le (st1.trans s2)⟩⟩
  rw [hs] at hA ⊢
  refine Calls.callWith_builtin (by show (false || (backTo cpos (starEach es X.env)).any (·.1)) = false; rw [hplain] <;> rfl) (Calls.evalArgs_plain ?_)
  exact thn hA fun us s2 ⟨vs, H2, I2, r2, q2⟩ => hm pins s2 τ H2 (.ref a) vs (.ref a) us Q I2 rfl r2 q2
def dGetX (w : World) : D → List D → Gp → DK → Prop := fun x xs G R => ∃ a kvs y z, x = .ref a ∧ xs = [y, z] ∧ G a = some (GO.dN w kvs) ∧ kyD y = true ∧ depD y ≤ 8 ∧ R ((getX kvs y).getD z) G
theorem md_getX (hu : X.A.units + 11 < cLine) : MtD X "dict.get" (dGetX X.w) := by
  intro pins s σ H x xs v us Q I rx rxs h
  obtain ⟨c, cs, G, N, R, r0, r1, rg, ⟨a, kvs, y, z, rfl, rfl, hG, hk, hd, hR⟩, q⟩ := h
  obtain rfl := r0.of_ref
  obtain rfl : v = Value.ref a := rx
  obtain ⟨v1, r, rfl, rv1, rr1⟩ := r1.of_cons
  obtain ⟨v2, r', rfl, rv2, rr2⟩ := rr1.of_cons
  rw [rr2.of_nil] at rxs
  obtain ⟨hN, kvs', hH, rr, ok⟩ := rg a _ hG
  obtain ⟨z1, z2, z3, ob, es, ep, ho, hex, hdt, z4, E, pr⟩ := dx_ents I hH rr ok
  obtain ⟨k1, k2, k3⟩ := pyN_ok hk
  cases rxs with
  | cons ry rxs =>
    cases rxs with
    | cons rz rxs =>
      cases rxs
      rename_i u1 u2
      obtain ⟨as, rk⟩ := Dp.reads I _ _ _ (toPy_ok rv1 k1) ry
      have ty : s.TypeIs (.ref a) "dict" := ⟨ob, ho, hex.1⟩
      refine wpAny_call_entry PySem.F.slot_dict_get ty PySem.F.entry_dict_get ?_ (PySem.F.args_dict_get_3 _ _ _)
      show wpAny _ _ (dictGet a u1 >>= _) _ _ s
      refine wpAny_bind (get_data ho hdt E rk k2 (by rw [k3]; exact hd) (by show X.A.units + 1 + 10 < cLine; omega) ?_)
      rw [ix_same ok hk]
      unfold getX at hR
      cases hi : ixX kvs y with
      | none =>
        rw [hi] at hR
        show wpAny _ _ (Builtin.Dict.missed a u1 >>= _) _ _ _
        exact wpAny_bind (wpAny_missed_other z3 (wpAny_pure ⟨u2, rfl, _, H, I.tok _, rz, q.at rg hR rv2⟩))
      | some i =>
        rw [hi] at hR
        have hi2 : i < kvs.length := (List.findIdx?_eq_some_iff_getElem.mp hi).1
        have hp : kvs[i]? = some kvs[i] := List.getElem?_eq_getElem hi2
        obtain ⟨p', hp', q1, q2, q3⟩ := Paired.get rr hp
        obtain ⟨e, he, e1, e2, e3⟩ := Paired.get pr hp'
        rw [Array.getElem?_toList] at he
        simp only [Option.bind_some, he, Option.map_some]
        simp only [Option.bind_some, hp, Option.map_some, Option.getD_some] at hR
        exact wpAny_pure ⟨_, rfl, _, H, I.tok _, e3, q.at rg hR q3⟩
theorem md_getW {w : World} (hw : X.w = w) (hu : X.A.units + 11 < cLine) : MtD X "dict.get" (dGetX w) := by subst hw; exact md_getX hu
theorem qe_getW {w : World} {o e e2 : Expr} {to : DE} {t : DA} (hw : X.w = w) (hu : X.A.units + 11 < cLine) (ho : QE X o to) (ha : QA X [e, e2] t)
    (hbase : attributeBase o "get" X.env (eval o X.env) = eval o X.env := by rfl)
    (hfew : ((backTo cpos (starEach [e, e2] X.env)).all (fun x => !x.1) && (backToKw cpos (keywordEach [] X.env)).all (fun x => x.1.isSome)
      && decide ([e, e2].length + ([] : List Keyword).length + (if ([] : List Keyword).isEmpty then 0 else 1) < 30)) = true := by rfl)
    (hline : (apos.endLine == cpos.line) = true := by rfl) (hs : starEach [e, e2] X.env = (false, eval e X.env) :: starEach [e2] X.env := by rfl) (hplain : (backTo cpos (starEach [e2] X.env)).any (·.1) = false := by rfl) :
    QE X (.Call (.Attribute o "get" apos) [e, e2] [] cpos) (dMD w (dGetX w) to t) := by
  subst hw
  exact qe_mD PySem.F.plainAttrs_dict PySem.F.slot_dict_get PySem.F.type_dict_get (md_getX hu) ho ha hbase hfew hline hs hplain
theorem x_mD {w : World} {r : D → List D → Gp → DK → Prop} {to : DE} {t : DA} {σ : Sd} {G : Gp} {R : DK} : dMD w r to t σ G R = to σ G fun x G1 => (∃ a kvs, x = .ref a ∧ G1 a = some (GO.dN w kvs)) ∧ t σ G1 fun xs G2 => r x xs G2 R := rfl
end
/-! ### dicts of typed keys and typed values -/
section
variable {α β : Type} [DecidableEq α]
def lookV (l : List (α × β)) (k : α) : Option β := (l.find? fun p => decide (p.1 = k)).map (·.2)
def encV (d : α → D) (v : β → D) (l : List (α × β)) : List (D × D) := l.map fun p => (d p.1, v p.2)
theorem lookV_nil (k : α) : lookV ([] : List (α × β)) k = none := rfl
theorem lookV_cons (p : α × β) (l : List (α × β)) (k : α) : lookV (p :: l) k = if p.1 = k then some p.2 else lookV l k := by
  unfold lookV
  rw [List.find?_cons]
  by_cases h : p.1 = k
  · simp [h]
  · simp [h]
variable {d : α → D} {v : β → D} (heq : ∀ a b, eqD (d a) (d b) = decide (a = b))
include heq
theorem ixX_encV (l : List (α × β)) (k : α) : ixX (encV d v l) (d k) = l.findIdx? fun p => decide (p.1 = k) := by
  unfold ixX encV
  rw [List.findIdx?_map]
  exact congrArg (fun f => l.findIdx? f) (funext fun p => heq p.1 k)
theorem getX_encV (l : List (α × β)) (k : α) : getX (encV d v l) (d k) = (lookV l k).map v := by
  unfold getX
  rw [ixX_encV heq]
  induction l with
  | nil => rfl
  | cons p l ih =>
    rw [List.findIdx?_cons, lookV_cons]
    by_cases h : p.1 = k
    · rw [if_pos h, decide_eq_true h]
      simp [encV]
    · rw [if_neg h, decide_eq_false h, ← ih]
      simp only [Bool.false_eq_true, if_false]
      cases l.findIdx? fun p => decide (p.1 = k) with
      | none => rfl
      | some i => simp [encV]
theorem putX_encV {l : List (α × β)} {k : α} (z : β) (h : k ∉ l.map (·.1)) : putX (encV d v l) (d k) (v z) = encV d v (l ++ [(k, z)]) := by
  unfold putX
  rw [ixX_encV heq]
  have : l.findIdx? (fun p => decide (p.1 = k)) = none := by
    rw [List.findIdx?_eq_none_iff]
    intro p hp
    exact decide_eq_false fun e => h (List.mem_map.mpr ⟨p, hp, e⟩)
  rw [this]
  simp [encV]
variable {w : World} {G : Gp} {a : Addr} {l : List (α × β)} {k : α}
theorem ixV_go {R : DK} {z : β} (e : G a = some (GO.dN w (encV d v l))) (hk : kyD (d k) = true) (hd : depD (d k) ≤ 8) (h : lookV l k = some z) (q : R (v z) G) : dIxX w (.ref a) (d k) G R :=
  ⟨a, _, v z, rfl, e, hk, hd, by rw [getX_encV heq, h]; rfl, q⟩
theorem inV_go {R : DK} {b : Bool} (e : G a = some (GO.dN w (encV d v l))) (hk : kyD (d k) = true) (hd : depD (d k) ≤ 8) (q : R (.bl ((lookV l k).isSome == b)) G) : dInX w b (d k) (.ref a) G R :=
  ⟨a, _, rfl, e, hk, hd, by
    have : (ixX (encV d v l) (d k)).isSome = (lookV l k).isSome := by
      rw [ixX_encV heq]
      unfold lookV
      rw [Option.isSome_map]
      rw [Bool.eq_iff_iff, List.findIdx?_isSome, List.find?_isSome, List.any_eq_true]
    rw [this]; exact q⟩
theorem getV_go {R : DK} {z : β} {y : D} (e : G a = some (GO.dN w (encV d v l))) (hk : kyD (d k) = true) (hd : depD (d k) ≤ 8) (h : lookV l k = some z) (q : R (v z) G) : dGetX w (.ref a) [d k, y] G R :=
  ⟨a, _, d k, y, rfl, rfl, e, hk, hd, by rw [getX_encV heq, h]; exact q⟩
theorem setV_go {R : Gp → Prop} {z : β} (e : G a = some (GO.dN w (encV d v l))) (hk : kyD (d k) = true) (hd : depD (d k) ≤ 8) (hl : l.length < 1000) (hn : k ∉ l.map (·.1)) (q : R (gup G a (GO.dN w (encV d v (l ++ [(k, z)]))))) : dSetX w (.ref a) (d k) (v z) G R :=
  ⟨a, _, rfl, e, hk, hd, by unfold encV; rw [List.length_map]; exact small1000 (by omega), by rw [putX_encV heq z hn]; exact q⟩
end
end DL

set_option Elab.async false
set_option linter.all false
set_option maxRecDepth 100000
set_option maxHeartbeats 4000000
set_option autoImplicit false
namespace DL
open PySem PySem.Spec PyProof.Rows L2
/-! ### sum, max, min of a list of ints -/
section
variable {X : Cx}
theorem ints_at {K : PySem.W.Frag} {H : Hp} {N : Ns} {G : Gp} {d : D} {v : V} {ns : List Int} (rg : RelG K H N G) (rd : RD K H N d v) (h : lstOf G d = some (ns.map D.int)) : ∃ p, v = .ref p ∧ SqL K H p (ns.map V.int) := by
  obtain ⟨p, vs, rfl, s, r⟩ := lstOf_ok rg rd h
  rw [r.of_ints] at s
  exact ⟨p, rfl, s⟩
def dSumI : DRn := fun cs G R => ∃ (x : D) (ns : List Int), cs = [x] ∧ lstOf G x = some (ns.map D.int) ∧ R (.int ns.sum) G
def dMaxL : DRn := fun cs G R => ∃ (x : D) (ns : List Int), cs = [x] ∧ lstOf G x = some (ns.map D.int) ∧ 0 < ns.length ∧ ∀ m, m ∈ ns → (∀ y, y ∈ ns → y ≤ m) → R (.int m) G
def dMinL : DRn := fun cs G R => ∃ (x : D) (ns : List Int), cs = [x] ∧ lstOf G x = some (ns.map D.int) ∧ 0 < ns.length ∧ ∀ m, m ∈ ns → (∀ y, y ∈ ns → m ≤ y) → R (.int m) G
theorem cd_sumI (hc : X.calm = true) : CallD X (.builtin "sum") dSumI := up_rn (cr_sum hc) fun cs G N R xs H Q rd rg h q => by
  obtain ⟨x, ns, rfl, e, h⟩ := h
  obtain ⟨v, r, rfl, r1, r2⟩ := rd.of_cons
  rw [r2.of_nil]
  obtain ⟨p, rfl, s⟩ := ints_at rg r1 e
  exact ⟨p, ns, rfl, s, q.at rg h (RD.int _)⟩
theorem cd_maxL (hc : X.calm = true) : CallD X (.builtin "max") dMaxL := up_rn (cr_max hc) fun cs G N R xs H Q rd rg h q => by
  obtain ⟨x, ns, rfl, e, hl, h⟩ := h
  obtain ⟨v, r, rfl, r1, r2⟩ := rd.of_cons
  rw [r2.of_nil]
  obtain ⟨p, rfl, s⟩ := ints_at rg r1 e
  exact ⟨p, ns, rfl, s, hl, fun m h1 h2 => q.at rg (h m h1 h2) (RD.int _)⟩
theorem cd_minL (hc : X.calm = true) : CallD X (.builtin "min") dMinL := up_rn (cr_min hc) fun cs G N R xs H Q rd rg h q => by
  obtain ⟨x, ns, rfl, e, hl, h⟩ := h
  obtain ⟨v, r, rfl, r1, r2⟩ := rd.of_cons
  rw [r2.of_nil]
  obtain ⟨p, rfl, s⟩ := ints_at rg r1 e
  exact ⟨p, ns, rfl, s, hl, fun m h1 h2 => q.at rg (h m h1 h2) (RD.int _)⟩
end
theorem any_typ {α : Type} {g : DG} {te : DE} {σ : Sd} {gd : Gp → Prop} {G : Gp} (d : α → D) (f : α → Bool) (hg : gd G) (xs : List α) (h : ∀ x ∈ xs, ∀ Q : DK, Q (.bl (f x)) G → g (d x) σ G fun σ2 G2 => te σ2 G2 Q) {Q : DK} (q : Q (.bl (xs.any f)) G) : dLcGo g dYes te gd σ (xs.map d) [] G fun ds G2 => dAny [.lst ds] G2 Q := by
  refine lc_typ d (fun x => .bl (f x)) hg xs [] h _ ?_
  have e : [] ++ xs.map (fun x => D.bl (f x)) = (xs.map f).map D.bl := by simp
  rw [e, any_lst, List.any_map]
  exact q
theorem br_go {b : Bool} {A B : Prop} (h1 : b = true → A) (h2 : b = false → B) : br b A B := by
  cases b with
  | true => exact h1 rfl
  | false => exact h2 rfl
theorem br_go2 {b c : Bool} {S T A : Prop} (hs : br c T A → S) (h1 : (b && c) = true → T) (h2 : (b && c) = false → A) : br b S A := by
  cases b with
  | true =>
    refine hs ?_
    cases c with
    | true => exact h1 rfl
    | false => exact h2 rfl
  | false => exact h2 rfl
theorem inon_n : isNon .non = true := rfl
theorem inon_i {i : Int} : isNon (.int i) = false := rfl
theorem inon_s {i : Str} : isNon (.str i) = false := rfl
theorem inon_b {i : Bool} : isNon (.bl i) = false := rfl
theorem inon_t {i : List D} : isNon (.tup i) = false := rfl
theorem inon_l {i : List D} : isNon (.lst i) = false := rfl
theorem inon_r {i : Addr} : isNon (.ref i) = false := rfl
theorem seq_one {i : Nat} {d : D} {u : DS} {E : DEnds} {σ : Sd} {G : Gp} (h : u E (σ.set i (some d)) G) : dSeq (dAsg (dC d) (dName i)) u E σ G := h
/-- a loop over typed things, by an invariant that tells how many are done -/
theorem for_typ {α : Type} {g : DG} {tb : DS} {gd : Gp → Prop} {E : DEnds} (d : α → D) (xs : List α) (I : Nat → Sd → Gp → Prop) (hgd : ∀ k σ G, I k σ G → gd G)
    (turn : ∀ (k : Nat) (x : α) (σ : Sd) (G : Gp), xs[k]? = some x → I k σ G → ∀ N : Sd → Gp → Prop, (∀ σ' G', I (k + 1) σ' G' → N σ' G') → g (d x) σ G fun σ2 G2 => tb { E with nx := N, ct := N, bk := E.nx } σ2 G2)
    (fin : ∀ σ G, I xs.length σ G → E.nx σ G) (σ : Sd) (G : Gp) (h : I 0 σ G) : dForGo g tb gd E (xs.map d) σ G := by
  have key : ∀ (m k : Nat) (σ : Sd) (G : Gp), xs.length - k = m → k ≤ xs.length → I k σ G → dForGo g tb gd E ((xs.drop k).map d) σ G := by
    intro m
    induction m with
    | zero =>
      intro k σ G hm hk i
      have e : k = xs.length := by omega
      subst e
      rw [List.drop_length]
      exact ⟨hgd _ _ _ i, fin σ G i⟩
    | succ m ih =>
      intro k σ G hm hk i
      have hlt : k < xs.length := by omega
      rw [List.drop_eq_getElem_cons hlt, List.map_cons]
      exact ⟨hgd _ _ _ i, turn k xs[k] σ G (List.getElem?_eq_getElem hlt) i _ fun σ' G' i' => ih (k + 1) σ' G' (by omega) (by omega) i'⟩
  have := key xs.length 0 σ G (by omega) (by omega) h
  rwa [List.drop_zero] at this
theorem for_rng {g : DG} {tb : DS} {E : DEnds} (n : Nat) (I : Nat → Sd → Gp → Prop)
    (turn : ∀ (k : Nat) (σ : Sd) (G : Gp), k < n → I k σ G → ∀ N : Sd → Gp → Prop, (∀ σ' G', I (k + 1) σ' G' → N σ' G') → g (.int (k : Nat)) σ G fun σ2 G2 => tb { E with nx := N, ct := N, bk := E.nx } σ2 G2)
    (fin : ∀ σ G, I n σ G → E.nx σ G) (σ : Sd) (G : Gp) (h : I 0 σ G) : dForGo g tb (fun _ => True) E (rng 0 n) σ G := by
  have e : rng 0 n = (List.range n).map fun i => D.int (i : Nat) := by unfold rng; exact List.map_congr_left fun i _ => by rw [Int.zero_add]
  rw [e]
  refine for_typ (fun i : Nat => D.int (i : Nat)) (List.range n) I (fun _ _ _ _ => trivial) (fun k x σ G hx i N hN => ?_) (fun σ G i => fin σ G (by rw [List.length_range] at i; exact i)) σ G h
  have hk := (List.getElem?_eq_some_iff.mp hx).1
  rw [List.length_range] at hk
  rw [List.getElem?_range hk] at hx
  cases hx
  exact turn k σ G hk i N hN
theorem setN_go {p : Addr} {ds : List D} {k : Nat} {v : D} {G : Gp} {R : Gp → Prop} (e : G p = some (.lst ds)) (h : k < ds.length) (q : R (gup G p (.lst (ds.set k v)))) : dSetI (.ref p) (.int (k : Nat)) v G R := by
  have hix : ixN ds.length (k : Nat) = some k := by unfold ixN; rw [if_pos (by omega), if_pos (by omega)]; simp
  unfold dSetI
  simp only [e, hix]
  exact q
theorem ixN_go {p : Addr} {ds : List D} {k : Nat} {v : D} {G : Gp} {R : DK} (e : G p = some (.lst ds)) (h : ds[k]? = some v) (q : R v G) : dIx (.ref p) (.int (k : Nat)) G R := by
  rw [ix_r, e, atL_lst, atI_nat h]
  exact q
theorem rt_sub {R : DK} {d : D} {G G0 : Gp} (s : Sub G0 G) (h : R d G0) : Rt R d G := ret_sub s h
theorem Sub.put {G G' : Gp} {p : Addr} {o : GO} (s : Sub G G') (h : G p = none) : Sub G (gup G' p o) := fun a u e => by rw [gup_ne (gne e h)]; exact s a u e
theorem pop_go {p : Addr} {d : D} {ds : List D} {G : Gp} {R : DK} (e : G p = some (.lst (ds ++ [d]))) (k : R d (gup G p (.lst ds))) : dPop (.ref p) [] G R := by
  show atL (G p) fun ds => isN ds.getLast? fun d => R d (gup G p (.lst ds.dropLast))
  rw [e]
  simp only [atL_lst, List.getLast?_concat, isN_some, List.dropLast_concat]
  exact k
theorem pyDs_strs : ∀ {zs : List Str}, (∀ y ∈ zs, pyD (.str y) = true) → pyDs (zs.map .str) = true
  | [], _ => rfl
  | z :: zs, h => by
    simp only [List.map_cons, pyDs, Bool.and_eq_true]
    exact ⟨h z List.mem_cons_self, pyDs_strs fun y hy => h y (List.mem_cons_of_mem _ hy)⟩
theorem any_strs (z : Str) (zs : List Str) : ((zs.map D.str).any fun y => eqD y (.str z)) = decide (z ∈ zs) := by
  rw [Bool.eq_iff_iff, List.any_eq_true, decide_eq_true_eq]
  constructor
  · rintro ⟨y, hy, h⟩
    obtain ⟨x, hx, rfl⟩ := List.mem_map.mp hy
    have : x = z := by simpa [eqD] using h
    exact this ▸ hx
  · intro h
    exact ⟨.str z, List.mem_map.mpr ⟨z, h, rfl⟩, by simp [eqD]⟩
theorem inE_tupS {f : Bool → Bool} {z : Str} {zs : List Str} {G : Gp} {R : DK} (hz : pyD (.str z) = true) (hs : ∀ y ∈ zs, pyD (.str y) = true) (k : R (.bl (f (decide (z ∈ zs)))) G) : dInE f (.str z) (.tup (zs.map .str)) G R :=
  ⟨hz, pyDs_strs hs, by simp [depD], by rw [any_strs]; exact k⟩
theorem inE_lstS {f : Bool → Bool} {z : Str} {zs : List Str} {G : Gp} {R : DK} (hz : pyD (.str z) = true) (hs : ∀ y ∈ zs, pyD (.str y) = true) (k : R (.bl (f (decide (z ∈ zs)))) G) : dInE f (.str z) (.lst (zs.map .str)) G R :=
  ⟨hz, pyDs_strs hs, by simp [depD], by rw [any_strs]; exact k⟩
end DL

set_option Elab.async false
set_option linter.all false
set_option maxRecDepth 100000
set_option maxHeartbeats 4000000
set_option autoImplicit false
namespace DL
open PySem PySem.Spec PyProof.Rows L2
/-! ### lists that are known, added -/
theorem add_rl {mk : Bool} {p : Addr} {ds es : List D} {G : Gp} {R : DK} (e : G p = some (.lst ds)) (hl : ds.length + es.length ≤ sizeLine) (q : newL mk (ds ++ es) G R) : dAdd mk (.ref p) (.lst es) G R := by
  show match lstOf G (.ref p), lstOf G (.lst es) with | some a, some b => a.length + b.length ≤ sizeLine ∧ newL mk (a ++ b) G R | _, _ => False
  rw [lstOf_r e]
  exact ⟨hl, q⟩
theorem add_lr {mk : Bool} {p : Addr} {ds es : List D} {G : Gp} {R : DK} (e : G p = some (.lst es)) (hl : ds.length + es.length ≤ sizeLine) (q : newL mk (ds ++ es) G R) : dAdd mk (.lst ds) (.ref p) G R := by
  show match lstOf G (.lst ds), lstOf G (.ref p) with | some a, some b => a.length + b.length ≤ sizeLine ∧ newL mk (a ++ b) G R | _, _ => False
  rw [lstOf_r e]
  exact ⟨hl, q⟩
theorem add_rr {mk : Bool} {p p' : Addr} {ds es : List D} {G : Gp} {R : DK} (e : G p = some (.lst ds)) (e' : G p' = some (.lst es)) (hl : ds.length + es.length ≤ sizeLine) (q : newL mk (ds ++ es) G R) : dAdd mk (.ref p) (.ref p') G R := by
  show match lstOf G (.ref p), lstOf G (.ref p') with | some a, some b => a.length + b.length ≤ sizeLine ∧ newL mk (a ++ b) G R | _, _ => False
  rw [lstOf_r e, lstOf_r e']
  exact ⟨hl, q⟩
theorem eq_empty {ds : List D} {G : Gp} {R : DK} (h : pyDs ds = true) (hd : depDs ds ≤ 60) : dEq (.lst ds) (.lst []) G R = R (.bl (decide (ds = []))) G := by
  rw [eq_pure (by simpa only [pyD] using h) rfl (by simp only [depD]; omega) (by simp [depD, depDs])]
  cases ds with
  | nil => simp [eqD, eqDs]
  | cons d ds => simp [eqD, eqDs]
theorem ints_py : ∀ (ns : List Int), pyDs (ns.map D.int) = true ∧ depDs (ns.map D.int) ≤ 1
  | [] => ⟨rfl, by simp [depDs]⟩
  | x :: L => by
    obtain ⟨h1, h2⟩ := ints_py L
    simp only [List.map_cons, pyDs, depDs, Bool.and_eq_true]
    exact ⟨⟨by simp [pyD], h1⟩, by simp only [depD]; omega⟩
end DL

set_option Elab.async false
set_option linter.all false
set_option maxRecDepth 100000
set_option maxHeartbeats 4000000
set_option autoImplicit false
namespace DL
open PySem PySem.Spec PyProof.Rows L2
theorem rt_keep {R : DK} {d : D} {G : Gp} {s p : Addr} {o u : GO} (h : s ≠ p) (hp : G p = none) (k : R d (gup G s o)) : Rt R d (gup (gup G p u) s o) := ret_sub (sub_keep h hp) k
/-! ### {..}.get(e, f) -/
section
variable {X : Cx} {pos : Pos} {keys : List (Option Expr)} {values : List Expr}
def dLitGet2 (l : List (Str × DE)) (ti tj : DE) : DE := fun σ G R => dVals l σ G fun ds G1 => ti σ G1 fun y G2 => tj σ G2 fun w G3 => match y with | .str z => R ((lookD (l.map (·.1)) ds z).getD w) G3 | _ => False
theorem qe_litGet2 {l : List (Str × DE)} {i j : Expr} {ti tj : DE} {apos pos2 : Pos} (hu : X.A.units + 1 < cLine) (h : PPs X pos keys values (trsOf X.K l)) (hi : QE X i ti) (hj : QE X j tj) (m : M2 X (.Dict keys values pos) "get" apos i j pos2) (hall : keys.all (·.isSome) = true := by rfl) (hl : keys.length = values.length := by rfl) (h0 : keys ≠ [] := by decide) (h15 : keys.length ≤ 15 := by decide)
    (hn : (l.map (·.1)).Nodup := by decide +kernel) (hll : l.length ≤ 15 := by decide) : QE X (.Call (.Attribute (.Dict keys values pos) "get" apos) [i, j] [] pos2) (dLitGet2 l ti tj) :=
  pe_mono (pe_dget2 hu (pe_lit h hall hl h0 h15 hn hll) hi hj m) fun τ H Q z => by
    obtain ⟨σ, G, N, R, hs, hg, ht, q⟩ := z
    refine ⟨σ, G, N, _, hs, hg, ht, fun ds G1 N1 H1 p vs h1 s1 e1 e2 r1 => ?_⟩
    refine ⟨p, rfl, .inl ⟨_, .inl e1⟩, σ, G1, N1, _, hs.le s1.kp, s1.rel, h1, fun y G2 N2 v H2 h2 s2 r2 => ?_⟩
    have s12 := s1.trans s2
    refine ⟨σ, G2, N2, _, hs.le s12.kp, s2.rel, h2, fun w G3 N3 u H3 h3 s3 r3 => ?_⟩
    split at h3
    · rename_i y z
      obtain rfl := r2.of_str
      obtain ⟨f1, f2, _⟩ := (s2.trans s3).fr p _ e1 e2
      refine ⟨_, .inl ⟨_, .inr z, .inl f1, rfl, rfl⟩, ?_⟩
      rw [map_inr]
      have r1' := (r1.le s2.kp).le s3.kp
      cases e : lookD (l.map (·.1)) ds z with
      | some d =>
        obtain ⟨v, hv, rv⟩ := (lookD_val r1').1 d e
        rw [hv]
        rw [e] at h3
        exact q d G3 N3 v H3 h3 (s12.trans s3) rv
      | none =>
        rw [(lookD_val r1').2 e]
        rw [e] at h3
        exact q _ G3 N3 _ H3 h3 (s12.trans s3) r3
    · exact h3.elim
theorem x_litGet2 {l : List (Str × DE)} {ti tj : DE} {σ : Sd} {G : Gp} {R : DK} : dLitGet2 l ti tj σ G R = dVals l σ G fun ds G1 => ti σ G1 fun y G2 => tj σ G2 fun w G3 => match y with | .str z => R ((lookD (l.map (·.1)) ds z).getD w) G3 | _ => False := rfl
end
end DL

set_option Elab.async false
set_option linter.all false
set_option maxRecDepth 100000
set_option maxHeartbeats 4000000
set_option autoImplicit false
namespace DL
open PySem PySem.Spec PyProof.Rows L2
/-! ### a, b = x, y and a, b, c = x, y, z -/
section
variable {X : Cx} {pos : Pos}
def dPar (is : List Nat) (t : DA) : DS := fun E σ G => t σ G fun ds G1 => ds.length = is.length ∧ E.nx (setAll σ is ds) G1
theorem qs_par2 {i j : Nat} {x y : Str} {a b : Expr} {ta : DA} {px py pt : Pos} {kt k2 pt2} (hc : X.calm = true) (hN : X.N.Nodup) (hi : X.N[i]? = some x) (hj : X.N[j]? = some y) (hij : i ≠ j)
    (hx : X.env.scope.names.lookup x = some .local) (hy : X.env.scope.names.lookup y = some .local) (ha : QA X [a, b] ta)
    (hw : swappedStores [.Tuple [.Name x px, .Name y py] kt pt] (.Tuple [a, b] k2 pt2) X.env = pure (some [x, y]) := by rfl)
    (hs : swapsWithSole [.Tuple [.Name x px, .Name y py] kt pt] (.Tuple [a, b] k2 pt2) pos.line X.env = pure false := by rfl) :
    QS X (.Assign [.Tuple [.Name x px, .Name y py] kt pt] (.Tuple [a, b] k2 pt2) pos) (dPar [i, j] ta) := ps_mono (ps_par hc hN hi hj hij hx hy ha hw hs) fun D τ H h => by
  obtain ⟨σ, G, N, E, hs, hg, ht, q⟩ := h
  refine ⟨σ, G, N, _, hs, hg, ht, fun ds G' N' vs H' h s' r => ?_⟩
  obtain ⟨hl, h⟩ := h
  match ds, hl with
  | [d1, d2], _ =>
    obtain ⟨v1, r1, rfl, e1, r⟩ := r.of_cons
    obtain ⟨v2, r2, rfl, e2, r⟩ := r.of_cons
    rw [r.of_nil]
    exact ⟨v1, v2, rfl, q.nx _ _ _ _ _ h s' (((hs.le s'.kp).set e1 i).set e2 j)⟩
theorem qs_par3 {i j l : Nat} {x y z : Str} {a b c : Expr} {ta : DA} {px py pz pt : Pos} {kt k2 pt2} (hc : X.calm = true) (hN : X.N.Nodup) (hi : X.N[i]? = some x) (hj : X.N[j]? = some y) (hl : X.N[l]? = some z) (hij : i ≠ j) (hil : i ≠ l) (hjl : j ≠ l)
    (hx : X.env.scope.names.lookup x = some .local) (hy : X.env.scope.names.lookup y = some .local) (hz : X.env.scope.names.lookup z = some .local) (ha : QA X [a, b, c] ta)
    (hw : swappedStores [.Tuple [.Name x px, .Name y py, .Name z pz] kt pt] (.Tuple [a, b, c] k2 pt2) X.env = pure (some [x, y, z]) := by rfl)
    (hs : swapsWithSole [.Tuple [.Name x px, .Name y py, .Name z pz] kt pt] (.Tuple [a, b, c] k2 pt2) pos.line X.env = pure false := by rfl) :
    QS X (.Assign [.Tuple [.Name x px, .Name y py, .Name z pz] kt pt] (.Tuple [a, b, c] k2 pt2) pos) (dPar [i, j, l] ta) := ps_mono (ps_par3 hc hN hi hj hl hij hil hjl hx hy hz ha hw hs) fun D τ H h => by
  obtain ⟨σ, G, N, E, hs, hg, ht, q⟩ := h
  refine ⟨σ, G, N, _, hs, hg, ht, fun ds G' N' vs H' h s' r => ?_⟩
  obtain ⟨hl, h⟩ := h
  match ds, hl with
  | [d1, d2, d3], _ =>
    obtain ⟨v1, r1, rfl, e1, r⟩ := r.of_cons
    obtain ⟨v2, r2, rfl, e2, r⟩ := r.of_cons
    obtain ⟨v3, r3, rfl, e3, r⟩ := r.of_cons
    rw [r.of_nil]
    exact ⟨v1, v2, v3, rfl, q.nx _ _ _ _ _ h s' ((((hs.le s'.kp).set e1 i).set e2 j).set e3 l)⟩
theorem x_par {is : List Nat} {t : DA} {E : DEnds} {σ : Sd} {G : Gp} : dPar is t E σ G = t σ G fun ds G1 => ds.length = is.length ∧ E.nx (setAll σ is ds) G1 := rfl
end
end DL

set_option Elab.async false
set_option linter.all false
set_option maxRecDepth 100000
set_option maxHeartbeats 4000000
set_option autoImplicit false
namespace DL
open PySem PySem.Spec PyProof.Rows L2
/-! ### all that was known is known still, but for one thing -/
def Ext (s : Addr) (G G' : Gp) : Prop := ∀ a o, a ≠ s → G a = some o → G' a = some o
section
variable {s p : Addr} {G G' : Gp} {o u : GO} {R : DK} {d : D}
theorem Ext.refl (s : Addr) (G : Gp) : Ext s G G := fun _ _ _ h => h
theorem Ext.self (h : Ext s G G') : Ext s G (gup G' s o) := fun a u n e => by rw [gup_ne n]; exact h a u n e
theorem Ext.put (h : Ext s G G') (hp : G p = none) : Ext s G (gup G' p o) := fun a u n e => by rw [gup_ne (gne e hp)]; exact h a u n e
theorem Ext.new (h : Ext s G G') (hp : G' p = none) (hs : s ≠ p) : Ext s G (gup G' p o) := fun a u n e => by
  have := h a u n e
  rw [gup_ne (fun z => by rw [z, hp] at this; cases this)]; exact this
theorem Ext.sub (h : Ext s G G') (e : G' s = some o) : Sub (gup G s o) G' := fun a u ea => by
  by_cases z : a = s
  · subst z; rw [gup_same] at ea; cases ea; exact e
  · rw [gup_ne z] at ea; exact h a u z ea
theorem Ext.nn (h : Ext s G G') (n : p ≠ s) (hp : G' p = none) : G p = none := by
  cases e : G p with
  | none => rfl
  | some u => rw [h p u n e] at hp; cases hp
theorem rt_ext (h : Ext s G G') (e : G' s = some o) (k : R d (gup G s o)) : Rt R d G' := ret_sub (h.sub e) k
theorem fr_ne (e : G' s = some o) (hp : G' p = none) : s ≠ p := fun z => by subst z; rw [e] at hp; cases hp
end
theorem for_lst {α : Type} {g : DG} {tb : DS} {E : DEnds} (d : α → D) (xs : List α) (I : Nat → Sd → Gp → Prop)
    (turn : ∀ (k : Nat) (x : α) (σ : Sd) (G : Gp), xs[k]? = some x → I k σ G → ∀ N : Sd → Gp → Prop, (∀ σ' G', I (k + 1) σ' G' → N σ' G') → g (d x) σ G fun σ2 G2 => tb { E with nx := N, ct := N, bk := E.nx } σ2 G2)
    (fin : ∀ σ G, I xs.length σ G → E.nx σ G) (σ : Sd) (G : Gp) (h : I 0 σ G) : dForGo g tb (fun _ => True) E (xs.map d) σ G := for_typ d xs I (fun _ _ _ _ => trivial) turn fin σ G h
end DL

set_option Elab.async false
set_option linter.all false
set_option maxRecDepth 100000
set_option maxHeartbeats 4000000
set_option autoImplicit false
namespace DL
open PySem PySem.Spec PyProof.Rows L2
/-! ### loops over enumerate, by an invariant that tells how many are done -/
theorem drop_cons {α : Type} {xs ys : List α} {k : Nat} {y : α} (h : xs.drop k = y :: ys) : xs[k]? = some y ∧ xs.drop (k + 1) = ys := by
  have hl : k < xs.length := by
    rcases Nat.lt_or_ge k xs.length with h1 | h1
    · exact h1
    · rw [List.drop_eq_nil_of_le h1] at h; cases h
  rw [List.drop_eq_getElem_cons hl] at h
  cases h
  exact ⟨List.getElem?_eq_getElem hl, rfl⟩
theorem for_enum {α : Type} {g : DG} {tb : DS} {gd : Gp → Prop} {E : DEnds} (d : α → D) (xs : List α) (I : Nat → Sd → Gp → Prop) (hgd : ∀ k σ G, I k σ G → gd G)
    (turn : ∀ (k : Nat) (x : α) (σ : Sd) (G : Gp), xs[k]? = some x → I k σ G → ∀ N : Sd → Gp → Prop, (∀ σ' G', I (k + 1) σ' G' → N σ' G') → g (.tup [.int (k : Nat), d x]) σ G fun σ2 G2 => tb { E with nx := N, ct := N, bk := E.nx } σ2 G2)
    (fin : ∀ σ G, I xs.length σ G → E.nx σ G) (σ : Sd) (G : Gp) (h : I 0 σ G) : dForGo g tb gd E (enumD 0 (xs.map d)) σ G := by
  have key : ∀ (ys : List α) (k : Nat) (σ : Sd) (G : Gp), xs.drop k = ys → k + ys.length = xs.length → I k σ G → dForGo g tb gd E (enumD (k : Nat) (ys.map d)) σ G := by
    intro ys
    induction ys with
    | nil =>
      intro k σ G _ hk i
      have e : k = xs.length := by simpa using hk
      subst e
      exact ⟨hgd _ _ _ i, fin σ G i⟩
    | cons y ys ih =>
      intro k σ G hd hk i
      obtain ⟨h1, h2⟩ := drop_cons hd
      refine ⟨hgd _ _ _ i, turn k y σ G h1 i _ fun σ' G' i' => ?_⟩
      exact ih (k + 1) σ' G' h2 (by simp only [List.length_cons] at hk; omega) i'
  exact key xs 0 σ G rfl (by omega) h
theorem eq_t0 {d : D} {ds : List D} {G : Gp} {R : DK} (h : pyDs (d :: ds) = true) (hd : depDs (d :: ds) ≤ 50) (k : R (.bl false) G) : dEq (.tup (d :: ds)) (.tup []) G R := by
  rw [eq_pure (by simpa only [pyD] using h) rfl (by simp only [depD]; omega) (by simp [depD, depDs])]
  simpa [eqD, eqDs] using k
theorem inE_tupI {f : Bool → Bool} {z : Int} {zs : List Int} {G : Gp} {R : DK} (k : R (.bl (f (decide (z ∈ zs)))) G) : dInE f (.int z) (.tup (zs.map .int)) G R := by
  refine ⟨rfl, (ints_py zs).1, by simp [depD], ?_⟩
  have e : ((zs.map D.int).any fun y => eqD y (.int z)) = decide (z ∈ zs) := by
    rw [Bool.eq_iff_iff, List.any_eq_true, decide_eq_true_eq]
    constructor
    · rintro ⟨y, hy, h⟩
      obtain ⟨x, hx, rfl⟩ := List.mem_map.mp hy
      have : x = z := by simpa [eqD] using h
      exact this ▸ hx
    · intro h
      exact ⟨.int z, List.mem_map.mpr ⟨z, h, rfl⟩, by simp [eqD]⟩
  rw [e]; exact k
end DL

set_option Elab.async false
set_option linter.all false
set_option maxRecDepth 100000
set_option maxHeartbeats 4000000
set_option autoImplicit false
namespace DL
open PySem PySem.Spec PyProof.Rows L2
/-! ### is, is not of truths -/
section
variable {X : Cx}
def dIsB : DR2 := fun x y G R => ∃ a b, x = .bl a ∧ y = .bl b ∧ R (.bl (decide (a = b))) G
def dNotB : DR2 := fun x y G R => ∃ a b, x = .bl a ∧ y = .bl b ∧ R (.bl (!decide (a = b))) G
theorem od_isB : OpD X (compareOp .Is) dIsB := opr_mono op_isBl fun x y H Q h => by
  obtain ⟨c, d, G, N, R, r1, r2, rg, ⟨a, b, rfl, rfl, h⟩, q⟩ := h
  exact ⟨a, b, r1.of_bl, r2.of_bl, q.at rg h (RD.bl _)⟩
theorem od_notB : OpD X (compareOp .IsNot) dNotB := opr_mono op_notBl fun x y H Q h => by
  obtain ⟨c, d, G, N, R, r1, r2, rg, ⟨a, b, rfl, rfl, h⟩, q⟩ := h
  exact ⟨a, b, r1.of_bl, r2.of_bl, q.at rg h (RD.bl _)⟩
theorem notB_go {a b : Bool} {G : Gp} {R : DK} (k : R (.bl (!decide (a = b))) G) : dNotB (.bl a) (.bl b) G R := ⟨a, b, rfl, rfl, k⟩
theorem isB_go {a b : Bool} {G : Gp} {R : DK} (k : R (.bl (decide (a = b))) G) : dIsB (.bl a) (.bl b) G R := ⟨a, b, rfl, rfl, k⟩
end
theorem cut_take {α : Type} (l : List α) (a : Nat) : cutL l none (some (a : Int)) = l.take a := by
  unfold cutL
  rw [HT.sIx_nat]
  simp only [HT.sIx, List.drop_zero, Nat.sub_zero]
  by_cases h : a ≤ l.length
  · rw [Nat.min_eq_left h]
  · rw [Nat.min_eq_right (by omega), List.take_of_length_le (Nat.le_refl _), List.take_of_length_le (by omega)]
theorem cut_drop {α : Type} (l : List α) (a : Nat) : cutL l (some (a : Int)) none = l.drop a := by
  unfold cutL
  rw [HT.sIx_nat]
  simp only [HT.sIx]
  by_cases h : a ≤ l.length
  · rw [Nat.min_eq_left h]
    exact List.take_of_length_le (by rw [List.length_drop]; exact Nat.le_refl _)
  · rw [Nat.min_eq_right (by omega), List.drop_length, List.drop_eq_nil_of_le (by omega)]; simp
end DL

set_option Elab.async false
set_option linter.all false
set_option maxRecDepth 100000
set_option maxHeartbeats 4000000
set_option autoImplicit false
namespace DL
open PySem PySem.Spec PyProof.Rows L2
section
variable {X : Cx}
/-! ### max of three, max with a default -/
def max3 (i j k : Int) : Int := if j > i then (if k > j then k else j) else (if k > i then k else i)
theorem max3_eq (i j k : Int) : max3 i j k = max i (max j k) := by unfold max3; split <;> split <;> omega
def dMax3 : DRn := fun cs G R => match cs with | [.int i, .int j, .int k] => R (.int (max i (max j k))) G | _ => False
theorem cd_max3 (hc : X.calm = true) : CallD X (.builtin "max") dMax3 := by
  intro pins s σ H xs us Q I r h
  obtain ⟨cs, G, N, R, rd, rg, h, q⟩ := h
  unfold dMax3 at h
  split at h
  · rename_i i j k
    obtain ⟨v1, r1, rfl, e1, rd⟩ := rd.of_cons
    obtain ⟨v2, r2, rfl, e2, rd⟩ := rd.of_cons
    obtain ⟨v3, r3, rfl, e3, rd⟩ := rd.of_cons
    obtain rfl := rd.of_nil
    obtain rfl := e1.of_int
    obtain rfl := e2.of_int
    obtain rfl := e3.of_int
    cases r with
    | cons a1 r =>
      cases r with
      | cons a2 r =>
        cases r with
        | cons a3 r =>
          cases r
          obtain ⟨t1, rfl⟩ := a1
          obtain ⟨t2, rfl⟩ := a2
          obtain ⟨t3, rfl⟩ := a3
          refine PySem.max_three_ints (I.ok.hd hc) fun h' tk hk => ?_
          refine ⟨.int (max i (max j k)), H, I.kept (t' := tk) hk, ?_, q.at rg h (RD.int _)⟩
          rw [← max3_eq]
          unfold max3
          split <;> split <;> exact ⟨_, rfl⟩
  · exact h.elim
theorem max3_go {i j k : Int} {G : Gp} {R : DK} : dMax3 [.int i, .int j, .int k] G R = R (.int (max i (max j k))) G := rfl
def maxI (d : Int) : List Int → Int
  | [] => d
  | x :: xs => xs.foldl (fun a y => if a < y then y else a) x
def rMaxDef (K : PySem.W.Frag) : List V → List V → Hp → VK → Prop := fun vs zs H Q => ∃ (a : Addr) (xs : List V) (ns : List Int) (d : Int), vs = [.ref a] ∧ zs = [.int d] ∧ SqL K H a xs ∧ DpAll K H xs (ns.map PyData.int) ∧ Q (.int (maxI d ns)) H
theorem ints_depth : ∀ ns : List Int, PyData.depthAll (ns.map PyData.int) = 0
  | [] => rfl
  | n :: ns => by simp only [List.map_cons, PyData.depthAll, ints_depth ns, PyData.depth]; rfl
theorem cr_maxDef (hc : X.calm = true) (hu : X.A.units + 100 < cLine) : CallRK X (.builtin "max") [Str.ofString "default"] (rMaxDef X.K) := by
  intro pins s σ H vs zs us ws Q I r rz h
  obtain ⟨a, xs, ns, d, rfl, rfl, hs, hd, h⟩ := h
  obtain rfl := Vals.ref1 r
  cases rz with
  | cons z1 z2 =>
    cases z2
    obtain ⟨t, rfl⟩ := z1
    obtain ⟨its, rv, hl, hz⟩ := I.list hs
    obtain ⟨as, hr⟩ := Dp.readsAll I _ xs its hd rv
    refine PySem.W.max_list_default (I.ok.hd hc) hl.isList (by simpa using hr) ⟨fun x hx y hy => ?_, fun x hx => ?_⟩ (by rw [ints_depth]; omega) (fun e h' tk hk => ?_) fun y ys i v h' tk bs e hi rd hk => ?_
    · obtain ⟨i, _, rfl⟩ := List.mem_map.mp hx
      obtain ⟨j, _, rfl⟩ := List.mem_map.mp hy
      rfl
    · obtain ⟨i, _, rfl⟩ := List.mem_map.mp hx
      simp
    · have e' : ns = [] := List.map_eq_nil_iff.mp e
      subst e'
      exact ⟨.int d, H, I.kept (t' := tk) hk, ⟨_, rfl⟩, h⟩
    · cases ns with
      | nil => cases e
      | cons n ns =>
        rw [List.map_cons] at e
        injection e with e1 e2
        subst e1 e2
        have em : PySem.W.maxD (PyData.int n) (ns.map PyData.int) = .int (maxI d (n :: ns)) := by
          refine (PySem.W.maxD_map (α := Int) n ns).trans ?_
          show PyData.int (PySem.W.maxOf n ns) = _
          congr 1
          unfold PySem.W.maxOf maxI
          congr 1
          funext a y
          have lt : PySem.W.DatumOrd.lt a y = decide (a < y) := rfl
          rw [lt]
          by_cases c : a < y
          · rw [if_pos c, if_pos (decide_eq_true c)]
          · rw [if_neg c, if_neg (fun z => c (of_decide_eq_true z))]
        rw [em] at rd
        obtain ⟨t, rfl⟩ : ∃ t, v = .int (maxI d (n :: ns)) t := by cases rd; exact ⟨_, rfl⟩
        exact ⟨.int _, H, I.kept (t' := tk) hk, ⟨_, rfl⟩, h⟩
def dMaxDef1 (x y : D) (G : Gp) (R : DK) : Prop := ∃ (ns : List Int) (d : Int), lstOf G x = some (ns.map D.int) ∧ y = .int d ∧ R (.int (maxI d ns)) G
def dMaxDef (te td : DE) : DE := fun σ G R => te σ G fun x G1 => td σ G1 fun y G2 => dMaxDef1 x y G2 R
theorem ints_toPys : ∀ ns : List Int, toPys (ns.map D.int) = some (ns.map PyData.int)
  | [] => rfl
  | n :: ns => by simp only [List.map_cons, toPys, toPy, ints_toPys ns]
theorem qe_maxDef {e e2 : Expr} {te td : DE} {p p3 pos : Pos} (hc : X.calm = true) (hu : X.A.units + 100 < cLine)
    (hg : Gl X "max") (hm : X.mg "max" = none) (he : QE X e te) (hd : QE X e2 td) (hs : starEach [e] X.env = (false, eval e X.env) :: starEach [] X.env := by rfl)
    (he1 : backTo pos (starEach [e] X.env) = (false, eval e X.env) :: backTo pos (starEach [] X.env) := by rfl) (hpl : (backTo pos (starEach [e] X.env)).any (·.1) = false := by rfl)
    (hall : (backToKw pos (keywordEach [⟨some "default", e2, p3⟩] X.env)).all (·.1.isSome) = true := by rfl) (hnone : (backToKw pos (keywordEach [⟨some "default", e2, p3⟩] X.env)).any (·.1.isNone) = false := by rfl) (hks : (backToKw pos (keywordEach [⟨some "default", e2, p3⟩] X.env)).filterMap (·.1) = [Str.ofString "default"] := by rfl) :
    QE X (.Call (.Name "max" p) [e] [⟨some "default", e2, p3⟩] pos) (dMaxDef te td) := by
  refine pe_mono (pe_callBK (cr_maxDef hc hu) hg hm (by decide +kernel) (qa_cons he qa_nil hs) (pk_cons hd pk_nil) (he := he1) (hpl := hpl) (hall := hall) (hnone := hnone) (hks := hks)) fun τ H Q h => ?_
  obtain ⟨σ, G, N, R, hs, hgg, ht, q⟩ := h
  refine ⟨σ, G, N, fun ds G1 => (match ds with | [x] => td σ G1 fun y G2 => dMaxDef1 x y G2 R | _ => False), hs, hgg, ht, fun ds G1 N1 vs H1 h1 s1 r1 => ?_⟩
  dsimp only at h1 ⊢
  split at h1
  · rename_i x
    obtain ⟨v, vs, rfl, r2, r3⟩ := r1.of_cons
    rw [r3.of_nil]
    refine ⟨σ, G1, N1, _, hs.le s1.kp, s1.rel, h1, fun y G2 N2 v2 H2 h2 s2 r4 => ?_⟩
    obtain ⟨ns, d, e, rfl, h2⟩ := h2
    obtain rfl := r4.of_int
    obtain ⟨a, us, rfl, sq, rd⟩ := lstOf_ok s2.rel (r2.le s2.kp) e
    exact ⟨a, us, ns, d, rfl, rfl, sq, toPys_ok rd (ints_toPys ns), (q.le (s1.trans s2)).at s2.rel h2 (RD.int _)⟩
  · exact h1.elim
theorem x_maxDef {te td : DE} {σ : Sd} {G : Gp} {R : DK} : dMaxDef te td σ G R = te σ G fun x G1 => td σ G1 fun y G2 => dMaxDef1 x y G2 R := rfl
theorem maxDef_go {ns : List Int} {d : Int} {G : Gp} {R : DK} (k : R (.int (maxI d ns)) G) : dMaxDef1 (.lst (ns.map D.int)) (.int d) G R := ⟨ns, d, rfl, rfl, k⟩
end
end DL

set_option Elab.async false
set_option linter.all false
set_option maxRecDepth 100000
set_option maxHeartbeats 4000000
set_option autoImplicit false
namespace K42
open PySem PySem.Spec PyProof.Rows L2 DL
local macro_rules | `(tactic| walk_at "d") => `(tactic| dsimp only [dSeq, dNext, dIfS, dRet, dRetN, dAsg, dName, dVar, dC, dOp, dUn, dChain, dB, dAnd, dOr, dNot, dAndV, dOrV, dNotV, dIf, dNil, dCons, dTup, dLst, newL, dCallB, dCall, dCallK, dDrop, dAug, dAugS, dSub, dM, dM0, dSlice, dNoPart, dPart, dLc, dYes, dFor, dIter, dRng1, dEnum, dZipM, srcD, dStar, dInK, dIxK, dLenSet, dRev,
  startD, wipeD, setAll, dNames, List.map_cons, List.map_nil, List.length_cons, List.length_nil, List.replicate, List.cons_append, List.nil_append, List.append_nil, List.getElem?_cons_zero, List.getElem?_cons_succ, List.set_cons_zero, List.set_cons_succ, List.map, Nat.zero_add, Nat.reduceAdd, Nat.reduceSub, Nat.sub_self, Nat.succ_sub_succ_eq_sub])
local macro_rules | `(tactic| walk_at "o") => `(tactic| simp only [dAdd_ii, dAdd_ss, dAdd_tt, dAdd_ll, dMinus_ii, dMul_ii, dMod_ii, dFdiv_ii, dPow_ii, dShl_ii, dNeg_i, dIadd_ii, dLt_ii, dLe_ii, dGt_ii, dGe_ii, dEq_ii, dNe_ii, dEq_ss, dNe_ss, dEq_bb, dNe_bb, dIs_n, dIsNot_n, dMax2_ii, dMin2_ii, dTuple_t, dTuple_l, dList_t, dList_l, dIx_t, dIx_l, dIx_s, dSl_t, dSl_l, dSl_s, newL_f, len_tup, len_lst])
local macro_rules | `(tactic| walk_at "w") => `(tactic| dsimp only [x_var, x_c, x_op, x_un, x_b, x_and, x_or, x_not, x_chain, x_andV, x_orV, x_notV, x_if, x_nil, x_cons, x_tup, x_lst0, x_lst1, x_callB, x_call, x_callK, x_next, x_seq, x_break, x_cont, x_drop, x_ret, x_ifS, x_asg, x_name, x_names, x_sub, x_aug, x_augS, x_for, x_lc0, x_lc1, x_yes, x_noPart, x_part, x_slice, x_iter, it_t, it_l, it_n, it_s, it_r, x_rng1, x_enum, x_rev, x_m, x_m0, x_mX, x_zip, x_star_t, x_star_l, x_lenSet, x_forgo0, x_lcgo0, x_while, x_par, x_sortK,
  br_t, br_f, isB_bl, isI_int, isN_some, slo_some, atL_lst, ix_t, ix_l, ix_n,
  dAdd_ii, dAdd_ss, dAdd_tt, dAdd_ll, dMinus_ii, dMul_ii, dMod_ii, dFdiv_ii, dPow_ii, dShl_ii, dNeg_i, dIadd_ii, dLt_ii, dLe_ii, dGt_ii, dGe_ii, ltE_ii, ltE_ss, srcD, isi_i, isi_s, isi_b, isi_n, isi_t, isi_nt, isi_l, isi2_i, isi2_s, isi2_b, isi2_n, isi2_t, isi2_nt, isi2_l, inon_n, inon_i, inon_s, inon_b, inon_t, inon_l, inon_r, dEq_ii, dNe_ii, dEq_ss, dNe_ss, dEq_bb, dNe_bb, dIs_n, dIsNot_n, dMax2_ii, dMin2_ii, dTuple_t, dTuple_l, dList_t, dList_l, dSl_t, dSl_l, dSl_s, newL_f, newL_t, app_r, int_b, int_i, strI_i, strX_i, strX_s,
  startD, wipeD, setAll, permL, List.filterMap, List.map_cons, List.map_nil, List.length_cons, List.length_nil, List.replicate, List.cons_append, List.nil_append, List.append_nil, List.getElem?_cons_zero, List.getElem?_cons_succ, List.set_cons_zero, List.set_cons_succ, List.map, Nat.zero_add, Nat.reduceAdd, Nat.reduceSub, Nat.sub_self, Nat.succ_sub_succ_eq_sub])
local macro_rules | `(tactic| walk_at "v") => `(tactic| simp only [ofString_inj, String.reduceEq, at_0, at_1, at_2, at_3, at_4, at_5, isN_some, isBB_bl, isB_bl, br_t, br_f, br_not, br_and, br_or, br_dec, ix_r, len_tup, len_lst, len_nt, ltE_key, gup_gup, gup_same, starD_one, cut1, cut2, kt1, kt2, kt3, kt4, kt5, kt6, isTy, String.reduceBEq, Bool.or_false, Bool.false_or, Bool.true_or, Bool.or_true, Bool.and_false, Bool.false_and, Bool.true_and, Bool.and_true, Bool.not_true, Bool.not_false, decide_true, decide_false, eq_self_iff_true, Bool.false_eq_true, Int.reduceAdd, Int.add_zero, if_true, if_false, true_and, and_true])
local macro_rules | `(tactic| walk_at "side") => `(tactic| first | with_reducible assumption | omega | exact mty_up | exact True.intro | (simp only [List.mem_cons, ofString_inj, String.reduceEq, true_or, or_true, List.length_map]; done) | with_reducible exact (rfl : (_ : Nat) = _) | exact (rfl : (_ : Option String) = _) | (refine small_line ?_; omega) | (walk_at "ll"; first | omega | (refine small_line ?_; omega) | fail) | (exact log_small (by omega)) | fail)
local macro_rules | `(tactic| walk_at "x") => `(tactic| fail)
local macro_rules | `(tactic| walk_at "go") => `(tactic| repeat' (first | dsimp only [x_var, x_c, x_op, x_un, x_b, x_and, x_or, x_not, x_chain, x_andV, x_orV, x_notV, x_if, x_nil, x_cons, x_tup, x_lst0, x_lst1, x_callB, x_call, x_callK, x_next, x_seq, x_break, x_cont, x_drop, x_ret, x_ifS, x_asg, x_name, x_names, x_sub, x_aug, x_augS, x_for, x_lc0, x_lc1, x_yes, x_noPart, x_part, x_slice, x_iter, it_t, it_l, it_n, it_s, it_r, x_rng1, x_enum, x_rev, x_m, x_m0, x_mX, x_zip, x_star_t, x_star_l, x_lenSet, x_forgo0, x_lcgo0, x_while, x_par, x_sortK, br_t, br_f, isB_bl, isI_int, isN_some, slo_some, atL_lst, ix_t, ix_l, ix_n, dAdd_ii, dAdd_ss, dAdd_tt, dAdd_ll, dMinus_ii, dMul_ii, dMod_ii, dFdiv_ii, dPow_ii, dShl_ii, dNeg_i, dIadd_ii, dLt_ii, dLe_ii, dGt_ii, dGe_ii, ltE_ii, ltE_ss, srcD, isi_i, isi_s, isi_b, isi_n, isi_t, isi_nt, isi_l, isi2_i, isi2_s, isi2_b, isi2_n, isi2_t, isi2_nt, isi2_l, inon_n, inon_i, inon_s, inon_b, inon_t, inon_l, inon_r, dEq_ii, dNe_ii, dEq_ss, dNe_ss, dEq_bb, dNe_bb, dIs_n, dIsNot_n, dMax2_ii, dMin2_ii, dTuple_t, dTuple_l, dList_t, dList_l, dSl_t, dSl_l, dSl_s, newL_f, newL_t, app_r, int_b, int_i, strI_i, strX_i, strX_s, startD, wipeD, setAll, permL, List.filterMap, List.map_cons, List.map_nil, List.length_cons, List.length_nil, List.replicate, List.cons_append, List.nil_append, List.append_nil, List.getElem?_cons_zero, List.getElem?_cons_succ, List.set_cons_zero, List.set_cons_succ, List.map, Nat.zero_add, Nat.reduceAdd, Nat.reduceSub, Nat.sub_self, Nat.succ_sub_succ_eq_sub] | simp only [ofString_inj, String.reduceEq, at_0, at_1, at_2, at_3, at_4, at_5, isN_some, isBB_bl, isB_bl, br_t, br_f, br_not, br_and, br_or, br_dec, ix_r, len_tup, len_lst, len_nt, ltE_key, gup_gup, gup_same, starD_one, cut1, cut2, kt1, kt2, kt3, kt4, kt5, kt6, isTy, String.reduceBEq, Bool.or_false, Bool.false_or, Bool.true_or, Bool.or_true, Bool.and_false, Bool.false_and, Bool.true_and, Bool.and_true, Bool.not_true, Bool.not_false, decide_true, decide_false, eq_self_iff_true, Bool.false_eq_true, Int.reduceAdd, Int.add_zero, if_true, if_false, true_and, and_true] | walk_at "x" | with_reducible refine kont_go ?_ | with_reducible refine rt_sub (by assumption) ?_ | with_reducible refine rt_lst (by assumption) ?_ | with_reducible refine rt_drop (by assumption) ?_ | with_reducible refine rt_keep (by assumption) (by assumption) ?_ | with_reducible refine rt_same ?_ | (refine fun (p : Addr) (_ : _ = none) => ?_) | refine join_gor gup_same rfl (by walk_at "side") ?_ | with_reducible refine lc_cons ?_ | with_reducible refine for_cons ?_ | refine join_go rfl (by walk_at "side") ?_ | refine And.intro (by first | with_reducible assumption | omega | exact mty_up | exact True.intro | (simp only [List.mem_cons, ofString_inj, String.reduceEq, true_or, or_true, List.length_map]; done) | with_reducible exact (rfl : (_ : Nat) = _) | exact (rfl : (_ : Option String) = _) | (refine small_line ?_; omega) | (walk_at "ll"; first | omega | (refine small_line ?_; omega) | fail) | (exact log_small (by omega)) | fail) ?_ | fail))
def topS (i : Nat) : Stmt := PySem.Challenge.pw_steploft_k42_needs_counted.main.body.getD i (.Pass ⟨0, 0, 0, 0⟩)
abbrev s_spread : Stmt := topS 1
abbrev N_spread : List Str := ["term", "found", "word", "parts", "part"]
theorem sc_spread : FnScope N_spread ["term", "found"] (defScope s_spread) := ⟨rfl, rfl, rfl, by decide +kernel, rfl, by decide +kernel, by decide +kernel⟩
abbrev s_terms_of_do : Stmt := topS 2
abbrev N_terms_of_do : List Str := ["sets", "stores", "found", "name", "term", "cell"]
theorem sc_terms_of_do : FnScope N_terms_of_do ["sets", "stores"] (defScope s_terms_of_do) := ⟨rfl, rfl, rfl, by decide +kernel, rfl, by decide +kernel, by decide +kernel⟩
abbrev s_terms_of_test : Stmt := topS 3
abbrev N_terms_of_test : List Str := ["term", "found"]
theorem sc_terms_of_test : FnScope N_terms_of_test ["term"] (defScope s_terms_of_test) := ⟨rfl, rfl, rfl, by decide +kernel, rfl, by decide +kernel, by decide +kernel⟩
abbrev s_needs : Stmt := topS 5
abbrev N_needs : List Str := ["meaning", "word", "sets", "stores", "test", "yes", "no", "name", "term"]
theorem sc_needs : FnScope N_needs ["meaning"] (defScope s_needs) := ⟨rfl, rfl, rfl, by decide +kernel, rfl, by decide +kernel, by decide +kernel⟩
abbrev s__law_bag : Stmt := topS 7
abbrev N__law_bag : List Str := ["cell", "at"]
theorem sc__law_bag : FnScope N__law_bag ["cell", "at"] (defScope s__law_bag) := ⟨rfl, rfl, rfl, by decide +kernel, rfl, by decide +kernel, by decide +kernel⟩
abbrev s__law_draw : Stmt := topS 8
abbrev N__law_draw : List Str := ["bag", "many", "found"]
theorem sc__law_draw : FnScope N__law_draw ["bag", "many"] (defScope s__law_draw) := ⟨rfl, rfl, rfl, by decide +kernel, rfl, by decide +kernel, by decide +kernel⟩
abbrev s__law_top : Stmt := topS 9
abbrev N__law_top : List Str := ["kit"]
theorem sc__law_top : FnScope N__law_top ["kit"] (defScope s__law_top) := ⟨rfl, rfl, rfl, by decide +kernel, rfl, by decide +kernel, by decide +kernel⟩
abbrev s__law_kit : Stmt := topS 10
abbrev N__law_kit : List Str := ["bag", "some", "names", "bits", "top", "cells", "k"]
theorem sc__law_kit : FnScope N__law_kit ["bag"] (defScope s__law_kit) := ⟨rfl, rfl, rfl, by decide +kernel, rfl, by decide +kernel, by decide +kernel⟩
abbrev s__law_word : Stmt := topS 11
abbrev N__law_word : List Str := ["bag", "kit", "top"]
theorem sc__law_word : FnScope N__law_word ["bag", "kit"] (defScope s__law_word) := ⟨rfl, rfl, rfl, by decide +kernel, rfl, by decide +kernel, by decide +kernel⟩
abbrev s__law_leaf : Stmt := topS 12
abbrev N__law_leaf : List Str := ["bag", "kit"]
theorem sc__law_leaf : FnScope N__law_leaf ["bag", "kit"] (defScope s__law_leaf) := ⟨rfl, rfl, rfl, by decide +kernel, rfl, by decide +kernel, by decide +kernel⟩
abbrev s__law_deep : Stmt := topS 13
abbrev N__law_deep : List Str := ["term", "part"]
theorem sc__law_deep : FnScope N__law_deep ["term"] (defScope s__law_deep) := ⟨rfl, rfl, rfl, by decide +kernel, rfl, by decide +kernel, by decide +kernel⟩
abbrev s__law_term : Stmt := topS 14
abbrev N__law_term : List Str := ["bag", "kit", "left", "pool", "way", "some", "found", "op", "one"]
theorem sc__law_term : FnScope N__law_term ["bag", "kit", "left", "pool"] (defScope s__law_term) := ⟨rfl, rfl, rfl, by decide +kernel, rfl, by decide +kernel, by decide +kernel⟩
abbrev s__law_unlike : Stmt := topS 15
abbrev N__law_unlike : List Str := ["terms", "found", "term", "parts", "one", "part"]
theorem sc__law_unlike : FnScope N__law_unlike ["terms"] (defScope s__law_unlike) := ⟨rfl, rfl, rfl, by decide +kernel, rfl, by decide +kernel, by decide +kernel⟩
abbrev s__law_parts : Stmt := topS 16
abbrev N__law_parts : List Str := ["sense", "found", "pair", "name", "term"]
theorem sc__law_parts : FnScope N__law_parts ["sense"] (defScope s__law_parts) := ⟨rfl, rfl, rfl, by decide +kernel, rfl, by decide +kernel, by decide +kernel⟩
abbrev s__law_copies : Stmt := topS 17
abbrev N__law_copies : List Str := ["sense", "name", "term"]
theorem sc__law_copies : FnScope N__law_copies ["sense"] (defScope s__law_copies) := ⟨rfl, rfl, rfl, by decide +kernel, rfl, by decide +kernel, by decide +kernel⟩
abbrev s__law_hidden : Stmt := topS 18
abbrev N__law_hidden : List Str := ["sense"]
theorem sc__law_hidden : FnScope N__law_hidden ["sense"] (defScope s__law_hidden) := ⟨rfl, rfl, rfl, by decide +kernel, rfl, by decide +kernel, by decide +kernel⟩
abbrev s__law_many : Stmt := topS 19
abbrev N__law_many : List Str := ["sense"]
theorem sc__law_many : FnScope N__law_many ["sense"] (defScope s__law_many) := ⟨rfl, rfl, rfl, by decide +kernel, rfl, by decide +kernel, by decide +kernel⟩
abbrev s__law_do : Stmt := topS 20
abbrev N__law_do : List Str := ["bag", "kit", "left", "most", "names", "pool", "sets", "k", "name", "stores", "found"]
theorem sc__law_do : FnScope N__law_do ["bag", "kit", "left", "most"] (defScope s__law_do) := ⟨rfl, rfl, rfl, by decide +kernel, rfl, by decide +kernel, by decide +kernel⟩
abbrev s__law_sense : Stmt := topS 21
abbrev N__law_sense : List Str := ["bag", "kit", "left", "most", "way", "test", "yes"]
theorem sc__law_sense : FnScope N__law_sense ["bag", "kit", "left", "most"] (defScope s__law_sense) := ⟨rfl, rfl, rfl, by decide +kernel, rfl, by decide +kernel, by decide +kernel⟩
abbrev s__law_senses : Stmt := topS 22
abbrev N__law_senses : List Str := ["sense", "found"]
theorem sc__law_senses : FnScope N__law_senses ["sense"] (defScope s__law_senses) := ⟨rfl, rfl, rfl, by decide +kernel, rfl, by decide +kernel, by decide +kernel⟩
abbrev s__law_right : Stmt := topS 23
abbrev N__law_right : List Str := ["bag", "sense", "due", "told", "one"]
theorem sc__law_right : FnScope N__law_right ["bag"] (defScope s__law_right) := ⟨rfl, rfl, rfl, by decide +kernel, rfl, by decide +kernel, by decide +kernel⟩
abbrev s_law : Stmt := topS 24
abbrev N_law : List Str := ["script", "k"]
theorem sc_law : FnScope N_law ["script"] (defScope s_law) := ⟨rfl, rfl, rfl, by decide +kernel, rfl, by decide +kernel, by decide +kernel⟩
theorem ll_0 : (Str.ofString "steploft.turning").length = 16 := by rw [len_lit]; rfl
theorem ll_1 : (Str.ofString "steploft.programs").length = 17 := by rw [len_lit]; rfl
theorem ll_2 : (Str.ofString "law_steploft_k42_needs_counted").length = 30 := by rw [len_lit]; rfl
theorem ll_3 : (Str.ofString "reg").length = 3 := by rw [len_lit]; rfl
theorem ll_4 : (Str.ofString "num").length = 3 := by rw [len_lit]; rfl
theorem ll_5 : (Str.ofString "do").length = 2 := by rw [len_lit]; rfl
theorem ll_6 : (Str.ofString "a").length = 1 := by rw [len_lit]; rfl
theorem ll_7 : (Str.ofString "b").length = 1 := by rw [len_lit]; rfl
theorem ll_8 : (Str.ofString "c").length = 1 := by rw [len_lit]; rfl
theorem ll_9 : (Str.ofString "x").length = 1 := by rw [len_lit]; rfl
theorem ll_10 : (Str.ofString "h").length = 1 := by rw [len_lit]; rfl
theorem ll_11 : (Str.ofString "end").length = 3 := by rw [len_lit]; rfl
theorem ll_12 : (Str.ofString "test").length = 4 := by rw [len_lit]; rfl
theorem ll_13 : (Str.ofString "nop").length = 3 := by rw [len_lit]; rfl
theorem ll_14 : (Str.ofString "start").length = 5 := by rw [len_lit]; rfl
theorem ll_15 : (Str.ofString "go").length = 2 := by rw [len_lit]; rfl
theorem ll_16 : (Str.ofString "abcdefgh").length = 8 := by rw [len_lit]; rfl
theorem ll_17 : (Str.ofString "alu").length = 3 := by rw [len_lit]; rfl
theorem ll_18 : (Str.ofString "abcdefgg").length = 8 := by rw [len_lit]; rfl
theorem ll_19 : (Str.ofString "ab").length = 2 := by rw [len_lit]; rfl
theorem ll_20 : (Str.ofString "if").length = 2 := by rw [len_lit]; rfl
theorem ll_21 : (Str.ofString "load").length = 4 := by rw [len_lit]; rfl
theorem ll_22 : (Str.ofString "add").length = 3 := by rw [len_lit]; rfl
theorem ll_23 : (Str.ofString "sub").length = 3 := by rw [len_lit]; rfl
theorem ll_24 : (Str.ofString "and").length = 3 := by rw [len_lit]; rfl
theorem ll_25 : (Str.ofString "or").length = 2 := by rw [len_lit]; rfl
theorem ll_26 : (Str.ofString "xor").length = 3 := by rw [len_lit]; rfl
theorem ll_27 : (Str.ofString "less").length = 4 := by rw [len_lit]; rfl
theorem ll_28 : (Str.ofString "same").length = 4 := by rw [len_lit]; rfl
structure Ad where
  f_spread : Addr
  fd_spread : FuncData
  f_terms_of_do : Addr
  fd_terms_of_do : FuncData
  f_terms_of_test : Addr
  fd_terms_of_test : FuncData
  f_needs : Addr
  fd_needs : FuncData
  f__law_bag : Addr
  fd__law_bag : FuncData
  f__law_draw : Addr
  fd__law_draw : FuncData
  f__law_top : Addr
  fd__law_top : FuncData
  f__law_kit : Addr
  fd__law_kit : FuncData
  f__law_word : Addr
  fd__law_word : FuncData
  f__law_leaf : Addr
  fd__law_leaf : FuncData
  f__law_deep : Addr
  fd__law_deep : FuncData
  f__law_term : Addr
  fd__law_term : FuncData
  f__law_unlike : Addr
  fd__law_unlike : FuncData
  f__law_parts : Addr
  fd__law_parts : FuncData
  f__law_copies : Addr
  fd__law_copies : FuncData
  f__law_hidden : Addr
  fd__law_hidden : FuncData
  f__law_many : Addr
  fd__law_many : FuncData
  f__law_do : Addr
  fd__law_do : FuncData
  f__law_sense : Addr
  fd__law_sense : FuncData
  f__law_senses : Addr
  fd__law_senses : FuncData
  f__law_right : Addr
  fd__law_right : FuncData
  f_law : Addr
  fd_law : FuncData
structure Tx (w : World) (K : PySem.W.Frag) (mg : Str → Option Value) (a : Ad) : Prop where
  F_spread : Fun K "spread" "spread" s_spread a.f_spread a.fd_spread
  b_spread : Binds K a.fd_spread ["term", "found"] []
  g_spread : mg "spread" = some (.ref a.f_spread)
  F_terms_of_do : Fun K "terms_of_do" "terms_of_do" s_terms_of_do a.f_terms_of_do a.fd_terms_of_do
  b_terms_of_do : Binds K a.fd_terms_of_do ["sets", "stores"] []
  g_terms_of_do : mg "terms_of_do" = some (.ref a.f_terms_of_do)
  F_terms_of_test : Fun K "terms_of_test" "terms_of_test" s_terms_of_test a.f_terms_of_test a.fd_terms_of_test
  b_terms_of_test : Binds K a.fd_terms_of_test ["term"] []
  g_terms_of_test : mg "terms_of_test" = some (.ref a.f_terms_of_test)
  F_needs : Fun K "needs" "needs" s_needs a.f_needs a.fd_needs
  b_needs : Binds K a.fd_needs ["meaning"] []
  g_needs : mg "needs" = some (.ref a.f_needs)
  F__law_bag : Fun K "_law_bag" "_law_bag" s__law_bag a.f__law_bag a.fd__law_bag
  b__law_bag : Binds K a.fd__law_bag ["cell", "at"] []
  g__law_bag : mg "_law_bag" = some (.ref a.f__law_bag)
  F__law_draw : Fun K "_law_draw" "_law_draw" s__law_draw a.f__law_draw a.fd__law_draw
  b__law_draw : Binds K a.fd__law_draw ["bag", "many"] []
  g__law_draw : mg "_law_draw" = some (.ref a.f__law_draw)
  F__law_top : Fun K "_law_top" "_law_top" s__law_top a.f__law_top a.fd__law_top
  b__law_top : Binds K a.fd__law_top ["kit"] []
  g__law_top : mg "_law_top" = some (.ref a.f__law_top)
  F__law_kit : Fun K "_law_kit" "_law_kit" s__law_kit a.f__law_kit a.fd__law_kit
  b__law_kit : Binds K a.fd__law_kit ["bag"] []
  g__law_kit : mg "_law_kit" = some (.ref a.f__law_kit)
  F__law_word : Fun K "_law_word" "_law_word" s__law_word a.f__law_word a.fd__law_word
  b__law_word : Binds K a.fd__law_word ["bag", "kit"] []
  g__law_word : mg "_law_word" = some (.ref a.f__law_word)
  F__law_leaf : Fun K "_law_leaf" "_law_leaf" s__law_leaf a.f__law_leaf a.fd__law_leaf
  b__law_leaf : Binds K a.fd__law_leaf ["bag", "kit"] []
  g__law_leaf : mg "_law_leaf" = some (.ref a.f__law_leaf)
  F__law_deep : Fun K "_law_deep" "_law_deep" s__law_deep a.f__law_deep a.fd__law_deep
  b__law_deep : Binds K a.fd__law_deep ["term"] []
  g__law_deep : mg "_law_deep" = some (.ref a.f__law_deep)
  F__law_term : Fun K "_law_term" "_law_term" s__law_term a.f__law_term a.fd__law_term
  b__law_term : Binds K a.fd__law_term ["bag", "kit", "left", "pool"] []
  g__law_term : mg "_law_term" = some (.ref a.f__law_term)
  F__law_unlike : Fun K "_law_unlike" "_law_unlike" s__law_unlike a.f__law_unlike a.fd__law_unlike
  b__law_unlike : Binds K a.fd__law_unlike ["terms"] []
  g__law_unlike : mg "_law_unlike" = some (.ref a.f__law_unlike)
  F__law_parts : Fun K "_law_parts" "_law_parts" s__law_parts a.f__law_parts a.fd__law_parts
  b__law_parts : Binds K a.fd__law_parts ["sense"] []
  g__law_parts : mg "_law_parts" = some (.ref a.f__law_parts)
  F__law_copies : Fun K "_law_copies" "_law_copies" s__law_copies a.f__law_copies a.fd__law_copies
  b__law_copies : Binds K a.fd__law_copies ["sense"] []
  g__law_copies : mg "_law_copies" = some (.ref a.f__law_copies)
  F__law_hidden : Fun K "_law_hidden" "_law_hidden" s__law_hidden a.f__law_hidden a.fd__law_hidden
  b__law_hidden : Binds K a.fd__law_hidden ["sense"] []
  g__law_hidden : mg "_law_hidden" = some (.ref a.f__law_hidden)
  F__law_many : Fun K "_law_many" "_law_many" s__law_many a.f__law_many a.fd__law_many
  b__law_many : Binds K a.fd__law_many ["sense"] []
  g__law_many : mg "_law_many" = some (.ref a.f__law_many)
  F__law_do : Fun K "_law_do" "_law_do" s__law_do a.f__law_do a.fd__law_do
  b__law_do : Binds K a.fd__law_do ["bag", "kit", "left", "most"] []
  g__law_do : mg "_law_do" = some (.ref a.f__law_do)
  F__law_sense : Fun K "_law_sense" "_law_sense" s__law_sense a.f__law_sense a.fd__law_sense
  b__law_sense : Binds K a.fd__law_sense ["bag", "kit", "left", "most"] []
  g__law_sense : mg "_law_sense" = some (.ref a.f__law_sense)
  F__law_senses : Fun K "_law_senses" "_law_senses" s__law_senses a.f__law_senses a.fd__law_senses
  b__law_senses : Binds K a.fd__law_senses ["sense"] []
  g__law_senses : mg "_law_senses" = some (.ref a.f__law_senses)
  F__law_right : Fun K "_law_right" "_law_right" s__law_right a.f__law_right a.fd__law_right
  b__law_right : Binds K a.fd__law_right ["bag"] []
  g__law_right : mg "_law_right" = some (.ref a.f__law_right)
  F_law : Fun K "law" "law" s_law a.f_law a.fd_law
  b_law : Binds K a.fd_law ["script"] []
  g_law : mg "law" = some (.ref a.f_law)
  kb0_needs : ∀ (s : Shared) (ws : List Value), ws.length = 1 → BindsTo s a.fd_needs ⟨[], List.zip ["meaning"] ws⟩ (List.zip ["meaning"] (permL [0] ws))
  n_any : mg "any" = none
  n_bool : mg "bool" = none
  n_isinstance : mg "isinstance" = none
  n_len : mg "len" = none
  n_list : mg "list" = none
  n_max : mg "max" = none
  n_min : mg "min" = none
  n_range : mg "range" = none
  n_tuple : mg "tuple" = none
local macro_rules | `(tactic| walk_at "ll") => `(tactic| simp only [List.length_map, List.length_append, List.length_cons, List.length_nil, List.map_cons, List.map_nil, List.sum_cons, List.sum_nil, len_app, rng_length, ll_0, ll_1, ll_2, ll_3, ll_4, ll_5, ll_6, ll_7, ll_8, ll_9, ll_10, ll_11, ll_12, ll_13, ll_14, ll_15, ll_16, ll_17, ll_18, ll_19, ll_20, ll_21, ll_22, ll_23, ll_24, ll_25, ll_26, ll_27, ll_28])
/-! ### places and orders -/
inductive Plc where
  | reg (x : Str) | hid (k : Nat)
deriving DecidableEq
inductive Ord where
  | alu (op : Str) (to a b : Plc) | move (to a : Plc) | put (to : Plc) (w : Nat) | load (to a : Plc) | store (a b : Plc)
deriving DecidableEq
def Plc.d : Plc → D
  | .reg x => .tup [.str "reg", .str x] | .hid k => .tup [.str "hid", .int k]
def Ord.d : Ord → D
  | .alu op to a b => .tup [.str "alu", .str op, to.d, a.d, b.d]
  | .move to a => .tup [.str "move", to.d, a.d]
  | .put to w => .tup [.str "put", to.d, .int w]
  | .load to a => .tup [.str "load", to.d, a.d]
  | .store a b => .tup [.str "store", a.d, b.d]
def Plc.txt : Plc → Str
  | .reg x => x | .hid k => "h" ++ toString (k : Int)
def Ord.txt : Ord → Str
  | .alu op to a b => Txt.join " " ["alu", op, to.txt, a.txt, b.txt]
  | .move to a => Txt.join " " ["move", to.txt, a.txt]
  | .put to w => Txt.join " " ["put", to.txt, toString (w : Int)]
  | .load to a => Txt.join " " ["load", to.txt, a.txt]
  | .store a b => Txt.join " " ["store", a.txt, b.txt]
def Ord.kix : Ord → Int
  | .alu _ _ _ _ => 0 | .move _ _ => 1 | .put _ _ => 2 | .load _ _ => 3 | .store _ _ => 4
def Ord.key (o : Ord) : Int × Str := (o.kix, o.txt)
def Plc.small : Plc → Prop
  | .reg x => x.length ≤ 100 | .hid k => k ≤ 1000
def Ord.small : Ord → Prop
  | .alu op to a b => op.length ≤ 100 ∧ to.small ∧ a.small ∧ b.small
  | .move to a => to.small ∧ a.small
  | .put to w => to.small ∧ w ≤ 1000
  | .load to a => to.small ∧ a.small
  | .store to a => to.small ∧ a.small
theorem isi_plc (p : Plc) {G : Gp} {R : DK} : dIsiX [p.d, .ty "tuple"] G R = R (.bl true) G := by
  cases p <;> exact propext ⟨fun h => h.2, fun h => ⟨by decide, h⟩⟩
theorem isi_int' (i : Int) {G : Gp} {R : DK} : dIsiX [.int i, .ty "tuple"] G R = R (.bl false) G := propext ⟨fun h => h.2, fun h => ⟨by decide, h⟩⟩
theorem isi_str' (i : Str) {G : Gp} {R : DK} : dIsiX [.str i, .ty "tuple"] G R = R (.bl false) G := propext ⟨fun h => h.2, fun h => ⟨by decide, h⟩⟩
theorem Plc.txt_len {p : Plc} (h : p.small) : p.txt.length ≤ 100 := by
  cases p with
  | reg x => exact h
  | hid k =>
    have := len_num (k := k) h
    show ((("h" : String) : Str) ++ _).length ≤ 100
    rw [len_app, len_lit]
    have : ("h" : String).length = 1 := rfl
    omega
theorem lc_typ {α : Type} {g : DG} {te : DE} {σ : Sd} {gd : Gp → Prop} {G : Gp} (d f : α → D) (hg : gd G) : ∀ (xs : List α) (acc : List D), (∀ x ∈ xs, ∀ Q : DK, Q (f x) G → g (d x) σ G fun σ2 G2 => te σ2 G2 Q) → ∀ Q : List D → Gp → Prop, Q (acc ++ xs.map f) G → dLcGo g dYes te gd σ (xs.map d) acc G Q
  | [], acc, _, Q, q => ⟨hg, by simpa using q⟩
  | x :: xs, acc, h, Q, q => ⟨hg, h x List.mem_cons_self _ (lc_typ d f hg xs (acc ++ [f x]) (fun y hy => h y (List.mem_cons_of_mem _ hy)) Q (by simpa using q))⟩
/-! ### numbers' sizes -/
theorem bits_le {x : Int} {n : Nat} (h : x.natAbs < 2 ^ n) (h0 : 0 < n) : Builtin.Int.intBits x ≤ n := by
  unfold Builtin.Int.intBits
  split
  · omega
  · have := PySem.Flt.log2_lt_of h0 h
    omega
theorem pow_ok {x : Int} {n : Nat} {k : Int} (h : x.natAbs < 2 ^ n) (h0 : 0 < n) (hk : 0 ≤ k) (hk2 : k ≤ 100) (hn : n ≤ 10000) : CPowX x k := by
  refine ⟨hk, ?_⟩
  have h1 := bits_le h h0
  have h2 : (Builtin.Int.intBits x : Int) * k ≤ 10000 * 100 := Int.mul_le_mul (by omega) hk2 hk (by omega)
  omega
theorem mul_ok {x y : Int} (h1 : -(2 ^ 64) < x) (h2 : x < 2 ^ 64) : IntMulOk x y := .of_left (intBits_le_64 h1 h2)
theorem mul_ok' {x y : Int} (h1 : -(2 ^ 64) < y) (h2 : y < 2 ^ 64) : IntMulOk x y := .of_right (intBits_le_64 h1 h2)
theorem div_ok {x y : Int} (h1 : 0 < y) (h2 : y < 2 ^ 64) : CDivW x y := ⟨h1, Nat.lt_of_lt_of_le (PySem.Flt.log2_lt_of (k := 64) (by decide) (by omega)) (by decide)⟩
/-! ### draws -/
def BagO (n : Nat) (o : GO) : Prop := ∃ a b c : Int, o = .lst [.int a, .int b, .int c] ∧ 0 ≤ a ∧ 0 ≤ b ∧ b < 10 ^ 51 ∧ 0 ≤ c ∧ c ≤ n
theorem BagO.mono {n m : Nat} {o : GO} (h : BagO n o) (l : n ≤ m) : BagO m o := by
  obtain ⟨a, b, c, e, h1, h2, h3, h4, h5⟩ := h
  exact ⟨a, b, c, e, h1, h2, h3, h4, by omega⟩
def sp__law_bag : DSp := fun ds G R => match ds with
  | [.int x, .int k] => Builtin.Int.intBits x ≤ 1048576 ∧ 0 ≤ k ∧ k ≤ 100 ∧ ∀ p o, G p = none → BagO 100 o → R (.ref p) (gup G p o)
  | _ => False
theorem ok__law_bag {P : Program} {w : World} {K : PySem.W.Frag} {mg : Str → Option Value} {base : Heap} {a : Ad} (T : Tx w K mg a) : FnD P w K mg base 1 a.f__law_bag a.fd__law_bag ["cell", "at"] sp__law_bag := by
  refine fun_okD T.F__law_bag sc__law_bag (fun ds G R h => ?_) (fun cdv A outer s H hr => ⟨_, (qss_one (qs_ret (qe_lst true (qa_cons (qe_callB (cd_max2 rfl) rfl T.n_max (by decide +kernel) (qa_cons qe_int (qa_cons (qe_op od_sub (qv 0) (qe_op od_pow qe_int qe_int)) qa_nil))) (qa_cons (qe_op od_mod (qe_op (od_add false) (qe_op od_mul (qv 0) (qe_op od_pow qe_int qe_int)) (qe_op od_mul qe_int (qe_op (od_add false) (qv 1) qe_int))) (qe_op (od_add false) (qe_op od_pow qe_int qe_int) qe_int)) (qa_cons (qv 1) qa_nil)))))), fun ds G R h => ?_⟩)
  · unfold sp__law_bag at h; split at h; rfl; exact h.elim
  · unfold sp__law_bag at h
    split at h
    · rename_i x k
      obtain ⟨hb, h0, h1, h⟩ := h
      walk_at "d"
      simp only [dPow, dMinus, dMod, dMul, dAdd, dI, dI0, dMax2]
      have p10 : ∀ k : Int, 0 ≤ k → k ≤ 100 → CPowX 10 k := fun k h0 h1 => pow_ok (n := 4) (by decide) (by decide) h0 h1 (by decide)
      have m1 : IntMulOk x (2750159 ^ Int.toNat 5) := IntMulOk.of_bits hb (Nat.le_trans (bits_le (n := 120) (by decide) (by decide)) (by decide))
      refine ⟨p10 _ (by decide) (by decide), pow_ok (n := 30) (by decide) (by decide) (by decide) (by decide) (by decide), m1, mul_ok (by decide) (by decide), p10 _ (by decide) (by decide), by decide, by decide, fun p np => ret_same (h p _ np ⟨_, _, _, rfl, ?_, ?_, ?_, by omega, by omega⟩)⟩
      · split <;> omega
      · exact Int.emod_nonneg _ (by decide)
      · refine Int.lt_of_lt_of_le (Int.emod_lt_of_pos _ (by decide)) (by decide)
    · exact h.elim
def sp__law_draw : DSp := fun ds G R => match ds with
  | [.ref s, .int m] => ∃ n o, G s = some o ∧ BagO n o ∧ n ≤ 1000000 ∧ 1 ≤ m ∧ m < 2 ^ 64 ∧ ∀ (r : Nat) o', (r : Int) < m → BagO (n + 1) o' → R (.int r) (gup G s o')
  | _ => False
theorem ok__law_draw {P : Program} {w : World} {K : PySem.W.Frag} {mg : Str → Option Value} {base : Heap} {a : Ad} (T : Tx w K mg a) : FnD P w K mg base 1 a.f__law_draw a.fd__law_draw ["bag", "many"] sp__law_draw := by
  refine fun_okD T.F__law_draw sc__law_draw (fun ds G R h => ?_) (fun cdv A outer s H hr => ⟨_, (qss_cons (qs_if (qt_cmp od_gt (qe_ix xd_ix (qv 0) qe_int (fun _ _ => rfl)) qe_int (nomark _))
      (qss_cons (qs_set (i := 2) sc__law_draw.nd rfl (.inl rfl) (qe_op od_mod (qe_ix xd_ix (qv 0) qe_int (fun _ _ => rfl)) (qv 1)))
      (qss_cons (qs_asg (qe_op od_fdiv (qe_ix xd_ix (qv 0) qe_int (fun _ _ => rfl)) (qv 1)) (qg_sub (qv 0) qe_int sd_set))
      (qss_one (qs_ret (qv 2)))))
      qss_nil)
      (qss_cons (qs_asg (qe_op (od_add false) (qe_ix xd_ix (qv 0) qe_int (fun _ _ => rfl)) qe_int) (qg_sub (qv 0) qe_int sd_set))
      (qss_cons (qs_asg (qe_op od_mod (qe_op (od_add false) (qe_op od_mul (qe_ix xd_ix (qv 0) qe_int (fun _ _ => rfl)) (qe_ix xd_ix (qv 0) qe_int (fun _ _ => rfl))) (qe_op od_mul (qe_ix xd_ix (qv 0) qe_int (fun _ _ => rfl)) (qe_op od_pow qe_int qe_int))) (qe_op (od_add false) (qe_op od_pow qe_int qe_int) qe_int)) (qg_sub (qv 0) qe_int sd_set))
      (qss_one (qs_ret (qe_op od_mod (qe_op od_fdiv (qe_ix xd_ix (qv 0) qe_int (fun _ _ => rfl)) qe_int) (qv 1))))))), fun ds G R h => ?_⟩)
  · unfold sp__law_draw at h; split at h; rfl; exact h.elim
  · unfold sp__law_draw at h
    split at h
    · rename_i s m
      obtain ⟨n, o, e, ⟨a, b, c, rfl, ha, hb, hb2, hc, hc2⟩, hn, hm, hm2, h⟩ := h
      walk_at "d"
      have at0 : atI [D.int a, D.int b, D.int c] 0 = some (.int a) := rfl
      have at2 : atI [D.int a, D.int b, D.int c] 2 = some (.int c) := rfl
      have ix0 : ixN [D.int a, D.int b, D.int c].length 0 = some 0 := rfl
      have ix2 : ixN [D.int a, D.int b, D.int c].length 2 = some 2 := rfl
      simp only [dIx, seqOf, lstOf, e, at0, at2, dGt, dOrd]
      by_cases h0 : 1 < a
      · rw [decide_eq_true h0]
        simp only [dMod, dFdiv, dI, e, at0, dSetI]
        refine ⟨by omega, div_ok (by omega) hm2, ?_⟩
        simp only [ix0, List.set_cons_zero]
        have hr1 := Int.emod_nonneg a (show m ≠ 0 by omega)
        have hr2 := Int.emod_lt_of_pos a (show 0 < m by omega)
        have er : a % m = ((a % m).toNat : Int) := by omega
        rw [er]
        exact ret_same (h _ _ (by omega) ⟨_, _, _, rfl, Int.ediv_nonneg ha (by omega), hb, hb2, hc, by omega⟩)
      · rw [decide_eq_false h0]
        have at1' : atI [D.int a, D.int b, D.int (c + 1)] 1 = some (.int b) := rfl
        have at2' : atI [D.int a, D.int b, D.int (c + 1)] 2 = some (.int (c + 1)) := rfl
        have ix1' : ixN [D.int a, D.int b, D.int (c + 1)].length 1 = some 1 := rfl
        simp only [e, at2, dSetI, ix2, List.set_cons_zero, List.set_cons_succ, gup_same, at1', at2', ix1', dMul, dPow, dMod, dFdiv, dAdd, dI]
        have p10 : ∀ k : Int, 0 ≤ k → k ≤ 100 → CPowX 10 k := fun k h0 h1 => pow_ok (n := 4) (by decide) (by decide) h0 h1 (by decide)
        have bb : Builtin.Int.intBits b ≤ 2 ^ 20 := Nat.le_trans (bits_le (n := 180) (by simp only [Int.reducePow, Nat.reducePow] at hb2 ⊢; omega) (by decide)) (by decide)
        refine ⟨IntMulOk.of_bits bb bb, pow_ok (n := 40) (by decide) (by decide) (by decide) (by decide) (by decide), mul_ok (by omega) (by omega), p10 _ (by decide) (by decide), by decide, ?_⟩
        have hx := Int.emod_nonneg (b * b + (c + 1) * 32452843 ^ Int.toNat 5) (show (10 : Int) ^ Int.toNat 50 + 151 ≠ 0 by decide)
        have hy := Int.emod_lt_of_pos (b * b + (c + 1) * 32452843 ^ Int.toNat 5) (show (0 : Int) < 10 ^ Int.toNat 50 + 151 by decide)
        generalize (b * b + (c + 1) * 32452843 ^ Int.toNat 5) % (10 ^ Int.toNat 50 + 151) = y at hx hy ⊢
        have hy2 : y < 10 ^ 51 := Int.lt_of_lt_of_le hy (by decide)
        have at1y : atI [D.int a, D.int y, D.int (c + 1)] 1 = some (.int y) := rfl
        simp only [gup_same, gup_gup, at1y]
        refine ⟨div_ok (by decide) (by decide), by omega, ?_⟩
        generalize y / 262147 = z
        have hr1 := Int.emod_nonneg z (show m ≠ 0 by omega)
        have hr2 := Int.emod_lt_of_pos z (show 0 < m by omega)
        have er : z % m = ((z % m).toNat : Int) := by omega
        rw [er]
        exact ret_same (h _ _ (by omega) ⟨_, _, _, rfl, ha, hx, hy2, by omega, by omega⟩)
    · exact h.elim
theorem go_draw {s : Addr} {m : Int} {G : Gp} {R : DK} {n : Nat} {o : GO} (e : G s = some o) (ho : BagO n o) (hn : n ≤ 1000000) (h1 : 1 ≤ m) (h2 : m < 2 ^ 64) (k : ∀ (r : Nat) o', (r : Int) < m → BagO (n + 1) o' → R (.int r) (gup G s o')) : sp__law_draw [.ref s, .int m] G R := ⟨n, o, e, ho, hn, h1, h2, k⟩
theorem pick {xs : List D} {r : Nat} {k : D → Prop} (hr : r < xs.length) (h : ∀ x ∈ xs, k x) : isN (atI xs (r : Int)) k := by
  rw [atI_nat (j := r) (v := xs[r]) (List.getElem?_eq_getElem hr)]
  exact h _ (List.getElem_mem hr)
theorem pickN {zs : List Str} {r : Nat} {k : D → Prop} (hr : r < zs.length) (h : ∀ z ∈ zs, k (.str z)) : isN (atI (zs.map D.str) (r : Int)) k := pick (by rw [List.length_map]; exact hr) fun x hx => by
  obtain ⟨z, hz, rfl⟩ := List.mem_map.mp hx
  exact h z hz
theorem tupleN_l {zs : List Str} {G : Gp} {R : DK} : dTupleN [.lst (zs.map D.str)] G R = R (.nt zs) G := by
  show (match (lstOf G (.lst (zs.map D.str))).bind strsOf with | some zs => R (.nt zs) G | none => False) = _
  have : (lstOf G (.lst (zs.map D.str))).bind strsOf = some zs := strsOf_strs zs
  rw [this]
end K42


set_option Elab.async false
set_option linter.all false
set_option maxRecDepth 100000
set_option maxHeartbeats 4000000
set_option autoImplicit false
namespace K42
open PySem PySem.Spec PyProof.Rows L2 DL
local macro_rules | `(tactic| walk_at "d") => `(tactic| dsimp only [dSeq, dNext, dIfS, dRet, dRetN, dAsg, dName, dVar, dC, dOp, dUn, dChain, dB, dAnd, dOr, dNot, dAndV, dOrV, dNotV, dIf, dNil, dCons, dTup, dLst, newL, dCallB, dCall, dCallK, dDrop, dAug, dAugS, dSub, dM, dM0, dSlice, dNoPart, dPart, dLc, dYes, dFor, dIter, dRng1, dEnum, dZipM, srcD, dStar, dInK, dIxK, dLenSet, dRev,
  startD, wipeD, setAll, dNames, List.map_cons, List.map_nil, List.length_cons, List.length_nil, List.replicate, List.cons_append, List.nil_append, List.append_nil, List.getElem?_cons_zero, List.getElem?_cons_succ, List.set_cons_zero, List.set_cons_succ, List.map, Nat.zero_add, Nat.reduceAdd, Nat.reduceSub, Nat.sub_self, Nat.succ_sub_succ_eq_sub])
local macro_rules | `(tactic| walk_at "o") => `(tactic| simp only [dAdd_ii, dAdd_ss, dAdd_tt, dAdd_ll, dMinus_ii, dMul_ii, dMod_ii, dFdiv_ii, dPow_ii, dShl_ii, dNeg_i, dIadd_ii, dLt_ii, dLe_ii, dGt_ii, dGe_ii, dEq_ii, dNe_ii, dEq_ss, dNe_ss, dEq_bb, dNe_bb, dIs_n, dIsNot_n, dMax2_ii, dMin2_ii, dTuple_t, dTuple_l, dList_t, dList_l, dIx_t, dIx_l, dIx_s, dSl_t, dSl_l, dSl_s, newL_f, len_tup, len_lst])
local macro_rules | `(tactic| walk_at "w") => `(tactic| dsimp only [x_var, x_c, x_op, x_un, x_b, x_and, x_or, x_not, x_chain, x_andV, x_orV, x_notV, x_if, x_nil, x_cons, x_tup, x_lst0, x_lst1, x_callB, x_call, x_callK, x_next, x_seq, x_break, x_cont, x_drop, x_ret, x_ifS, x_asg, x_name, x_names, x_sub, x_aug, x_augS, x_for, x_lc0, x_lc1, x_yes, x_noPart, x_part, x_slice, x_iter, it_t, it_l, it_n, it_s, it_r, x_rng1, x_enum, x_rev, x_m, x_m0, x_mX, x_zip, x_star_t, x_star_l, x_lenSet, x_forgo0, x_lcgo0, x_while, x_par, x_sortK,
  br_t, br_f, isB_bl, isI_int, isN_some, slo_some, atL_lst, ix_t, ix_l, ix_n,
  dAdd_ii, dAdd_ss, dAdd_tt, dAdd_ll, dMinus_ii, dMul_ii, dMod_ii, dFdiv_ii, dPow_ii, dShl_ii, dNeg_i, dIadd_ii, dLt_ii, dLe_ii, dGt_ii, dGe_ii, ltE_ii, ltE_ss, srcD, isi_i, isi_s, isi_b, isi_n, isi_t, isi_nt, isi_l, isi2_i, isi2_s, isi2_b, isi2_n, isi2_t, isi2_nt, isi2_l, inon_n, inon_i, inon_s, inon_b, inon_t, inon_l, inon_r, dEq_ii, dNe_ii, dEq_ss, dNe_ss, dEq_bb, dNe_bb, dIs_n, dIsNot_n, dMax2_ii, dMin2_ii, dTuple_t, dTuple_l, dList_t, dList_l, dSl_t, dSl_l, dSl_s, newL_f, newL_t, app_r, int_b, int_i, strI_i, strX_i, strX_s,
  startD, wipeD, setAll, permL, List.filterMap, List.map_cons, List.map_nil, List.length_cons, List.length_nil, List.replicate, List.cons_append, List.nil_append, List.append_nil, List.getElem?_cons_zero, List.getElem?_cons_succ, List.set_cons_zero, List.set_cons_succ, List.map, Nat.zero_add, Nat.reduceAdd, Nat.reduceSub, Nat.sub_self, Nat.succ_sub_succ_eq_sub])
local macro_rules | `(tactic| walk_at "v") => `(tactic| simp only [ofString_inj, String.reduceEq, at_0, at_1, at_2, at_3, at_4, at_5, isN_some, isBB_bl, isB_bl, br_t, br_f, br_not, br_and, br_or, br_dec, ix_r, len_tup, len_lst, len_nt, ltE_key, gup_gup, gup_same, starD_one, cut1, cut2, kt1, kt2, kt3, kt4, kt5, kt6, isTy, String.reduceBEq, Bool.or_false, Bool.false_or, Bool.true_or, Bool.or_true, Bool.and_false, Bool.false_and, Bool.true_and, Bool.and_true, Bool.not_true, Bool.not_false, decide_true, decide_false, eq_self_iff_true, Bool.false_eq_true, Int.reduceAdd, Int.add_zero, if_true, if_false, true_and, and_true])
local macro_rules | `(tactic| walk_at "side") => `(tactic| first | with_reducible assumption | omega | exact mty_up | exact True.intro | (simp only [List.mem_cons, ofString_inj, String.reduceEq, true_or, or_true, List.length_map]; done) | with_reducible exact (rfl : (_ : Nat) = _) | exact (rfl : (_ : Option String) = _) | (refine small_line ?_; omega) | (walk_at "ll"; first | omega | (refine small_line ?_; omega) | fail) | (exact log_small (by omega)) | fail)
local macro_rules | `(tactic| walk_at "x") => `(tactic| fail)
local macro_rules | `(tactic| walk_at "go") => `(tactic| repeat' (first | dsimp only [x_var, x_c, x_op, x_un, x_b, x_and, x_or, x_not, x_chain, x_andV, x_orV, x_notV, x_if, x_nil, x_cons, x_tup, x_lst0, x_lst1, x_callB, x_call, x_callK, x_next, x_seq, x_break, x_cont, x_drop, x_ret, x_ifS, x_asg, x_name, x_names, x_sub, x_aug, x_augS, x_for, x_lc0, x_lc1, x_yes, x_noPart, x_part, x_slice, x_iter, it_t, it_l, it_n, it_s, it_r, x_rng1, x_enum, x_rev, x_m, x_m0, x_mX, x_zip, x_star_t, x_star_l, x_lenSet, x_forgo0, x_lcgo0, x_while, x_par, x_sortK, br_t, br_f, isB_bl, isI_int, isN_some, slo_some, atL_lst, ix_t, ix_l, ix_n, dAdd_ii, dAdd_ss, dAdd_tt, dAdd_ll, dMinus_ii, dMul_ii, dMod_ii, dFdiv_ii, dPow_ii, dShl_ii, dNeg_i, dIadd_ii, dLt_ii, dLe_ii, dGt_ii, dGe_ii, ltE_ii, ltE_ss, srcD, isi_i, isi_s, isi_b, isi_n, isi_t, isi_nt, isi_l, isi2_i, isi2_s, isi2_b, isi2_n, isi2_t, isi2_nt, isi2_l, inon_n, inon_i, inon_s, inon_b, inon_t, inon_l, inon_r, dEq_ii, dNe_ii, dEq_ss, dNe_ss, dEq_bb, dNe_bb, dIs_n, dIsNot_n, dMax2_ii, dMin2_ii, dTuple_t, dTuple_l, dList_t, dList_l, dSl_t, dSl_l, dSl_s, newL_f, newL_t, app_r, int_b, int_i, strI_i, strX_i, strX_s, startD, wipeD, setAll, permL, List.filterMap, List.map_cons, List.map_nil, List.length_cons, List.length_nil, List.replicate, List.cons_append, List.nil_append, List.append_nil, List.getElem?_cons_zero, List.getElem?_cons_succ, List.set_cons_zero, List.set_cons_succ, List.map, Nat.zero_add, Nat.reduceAdd, Nat.reduceSub, Nat.sub_self, Nat.succ_sub_succ_eq_sub] | simp only [ofString_inj, String.reduceEq, at_0, at_1, at_2, at_3, at_4, at_5, isN_some, isBB_bl, isB_bl, br_t, br_f, br_not, br_and, br_or, br_dec, ix_r, len_tup, len_lst, len_nt, ltE_key, gup_gup, gup_same, starD_one, cut1, cut2, kt1, kt2, kt3, kt4, kt5, kt6, isTy, String.reduceBEq, Bool.or_false, Bool.false_or, Bool.true_or, Bool.or_true, Bool.and_false, Bool.false_and, Bool.true_and, Bool.and_true, Bool.not_true, Bool.not_false, decide_true, decide_false, eq_self_iff_true, Bool.false_eq_true, Int.reduceAdd, Int.add_zero, if_true, if_false, true_and, and_true] | walk_at "x" | with_reducible refine kont_go ?_ | with_reducible refine rt_sub (by assumption) ?_ | with_reducible refine rt_lst (by assumption) ?_ | with_reducible refine rt_drop (by assumption) ?_ | with_reducible refine rt_keep (by assumption) (by assumption) ?_ | with_reducible refine rt_same ?_ | (refine fun (p : Addr) (_ : _ = none) => ?_) | refine join_gor gup_same rfl (by walk_at "side") ?_ | with_reducible refine lc_cons ?_ | with_reducible refine for_cons ?_ | refine join_go rfl (by walk_at "side") ?_ | refine And.intro (by first | with_reducible assumption | omega | exact mty_up | exact True.intro | (simp only [List.mem_cons, ofString_inj, String.reduceEq, true_or, or_true, List.length_map]; done) | with_reducible exact (rfl : (_ : Nat) = _) | exact (rfl : (_ : Option String) = _) | (refine small_line ?_; omega) | (walk_at "ll"; first | omega | (refine small_line ?_; omega) | fail) | (exact log_small (by omega)) | fail) ?_ | fail))
local macro_rules | `(tactic| walk_at "ll") => `(tactic| simp only [List.length_map, List.length_append, List.length_cons, List.length_nil, List.map_cons, List.map_nil, List.sum_cons, List.sum_nil, len_app, rng_length, ll_0, ll_1, ll_2, ll_3, ll_4, ll_5, ll_6, ll_7, ll_8, ll_9, ll_10, ll_11, ll_12, ll_13, ll_14, ll_15, ll_16, ll_17, ll_18, ll_19, ll_20, ll_21, ll_22, ll_23, ll_24, ll_25, ll_26, ll_27, ll_28])
/-! ### names -/
def letters : Str := "abcdefghijklmnopqrstuvwxyz"
def low (c : Nat) : Bool := decide (97 ≤ c) && decide (c ≤ 122)
def nameOk (z : Str) : Bool := decide (1 ≤ z.length) && decide (z.length ≤ 8) && z.cps.toList.all low
def isName : D → Bool | .str z => nameOk z | _ => false
theorem letters_list : letters.cps.toList = [97, 98, 99, 100, 101, 102, 103, 104, 105, 106, 107, 108, 109, 110, 111, 112, 113, 114, 115, 116, 117, 118, 119, 120, 121, 122] := by decide +kernel
theorem in_letters (c : Nat) : decide (c ∈ letters.cps.toList) = low c := by
  rw [letters_list, Bool.eq_iff_iff]
  simp only [decide_eq_true_eq, low, Bool.and_eq_true]
  constructor
  · intro h
    simp only [List.mem_cons, List.not_mem_nil, or_false] at h
    omega
  · rintro ⟨h1, h2⟩
    simp only [List.mem_cons, List.not_mem_nil, or_false]
    omega
/-! ### names drawn -/
theorem nameOk_iff {z : Str} : nameOk z = true ↔ (1 ≤ (cds z).length ∧ (cds z).length ≤ 8) ∧ ∀ c ∈ cds z, low c = true := by
  unfold nameOk
  rw [cds_len]
  simp only [Bool.and_eq_true, decide_eq_true_eq, List.all_eq_true]
/-- what a drawn list of names is -/
structure NamesOk (names : List Str) : Prop where
  ok : ∀ z ∈ names, nameOk z = true
  nd : names.Nodup
/-! ### machines drawn -/
/-- a machine, by its parts -/
structure MachP (b : Int) (names : List Str) (h al mo c : Int) : Prop where
  b1 : 1 ≤ b
  b2 : b ≤ 8
  n1 : 1 ≤ names.length
  n2 : names.length ≤ 6
  nm : NamesOk names
  h1 : 0 ≤ h
  h2 : h ≤ 12
  a1 : 1 ≤ al
  a2 : al ≤ 3
  m1 : 1 ≤ mo
  m2 : mo ≤ 3
  c1 : 0 ≤ c
  c2 : c ≤ 2 ^ b.toNat
structure Mach where
  b : Int
  names : List Str
  h : Int
  al : Int
  mo : Int
  c : Int
/-- a machine: its names are a tuple whose methods may be called -/
def Mach.d (M : Mach) : D := .tup [.int M.b, .nt M.names, .int M.h, .int M.al, .int M.mo, .int M.c]
def Mach.ok (M : Mach) : Prop := MachP M.b M.names M.h M.al M.mo M.c
theorem top_le {b : Int} (h1 : 1 ≤ b) (h2 : b ≤ 8) : (2 : Int) ≤ 2 ^ b.toNat ∧ (2 : Int) ^ b.toNat ≤ 256 := by
  have : b = 1 ∨ b = 2 ∨ b = 3 ∨ b = 4 ∨ b = 5 ∨ b = 6 ∨ b = 7 ∨ b = 8 := by omega
  rcases this with rfl | rfl | rfl | rfl | rfl | rfl | rfl | rfl <;> decide
/-! ### a machine drawn -/
def someC : List Str := ["a", "b", "c", "x", "h", "end", "test", "nop", "start", "go", "abcdefgh", "alu", "abcdefgg", "ab"]
theorem someC_ok : ∀ z ∈ someC, nameOk z = true := by decide +kernel
theorem someC_nd : someC.Nodup := by decide +kernel
theorem someC_d : someC.map D.str = [.str "a", .str "b", .str "c", .str "x", .str "h", .str "end", .str "test", .str "nop", .str "start", .str "go", .str "abcdefgh", .str "alu", .str "abcdefgg", .str "ab"] := rfl
def topsL : List Int := [2, 4, 8, 16, 32, 64, 128, 256]
theorem tops_d : topsL.map D.int = [.int 2, .int 4, .int 8, .int 16, .int 32, .int 64, .int 128, .int 256] := rfl
theorem tops_at {b : Int} (h1 : 1 ≤ b) (h2 : b ≤ 8) : atI (topsL.map D.int) (b - 1) = some (.int (2 ^ b.toNat)) := by
  have : b = 1 ∨ b = 2 ∨ b = 3 ∨ b = 4 ∨ b = 5 ∨ b = 6 ∨ b = 7 ∨ b = 8 := by omega
  rcases this with rfl | rfl | rfl | rfl | rfl | rfl | rfl | rfl <;> rfl
def sp__law_top : DSp := fun ds G R => ∃ M : Mach, ds = [M.d] ∧ M.ok ∧ R (.int (2 ^ M.b.toNat)) G
theorem ok__law_top {P : Program} {w : World} {K : PySem.W.Frag} {mg : Str → Option Value} {base : Heap} {a : Ad} (T : Tx w K mg a) : FnD P w K mg base 1 a.f__law_top a.fd__law_top ["kit"] sp__law_top := by
  refine fun_okD T.F__law_top sc__law_top (fun ds G R h => ?_) (fun cdv A outer s H hr => ⟨_, (qss_one (qs_ret (qe_ix xd_ix (qe_lst false (qa_cons qe_int (qa_cons qe_int (qa_cons qe_int (qa_cons qe_int (qa_cons qe_int (qa_cons qe_int (qa_cons qe_int (qa_cons qe_int qa_nil))))))))) (qe_op od_sub (qe_ix xd_ix (qv 0) qe_int (fun _ _ => rfl)) qe_int) (fun _ _ => rfl)))), fun ds G R h => ?_⟩)
  · obtain ⟨M, rfl, _⟩ := h; rfl
  · obtain ⟨M, rfl, hM, h⟩ := h
    have e := tops_at hM.b1 hM.b2
    rw [tops_d] at e
    unfold Mach.d
    walk_at "go"
    rw [e]
    walk_at "go"
    exact h
theorem go_top {M : Mach} {G : Gp} {R : DK} (hM : M.ok) (k : R (.int (2 ^ M.b.toNat)) G) : sp__law_top [M.d] G R := ⟨M, rfl, hM, k⟩
theorem popAt_go {p : Addr} {k : Nat} {ds : List D} {d : D} {G : Gp} {R : DK} (e : G p = some (.lst ds)) (h : ds[k]? = some d) (hk : k < 2 ^ 62) (q : R d (gup G p (.lst (ds.eraseIdx k)))) : dPopAt (.ref p) [.int (k : Nat)] G R := by
  have hl := (List.getElem?_eq_some_iff.mp h).1
  show atL (G p) fun ds => 0 ≤ ((k : Nat) : Int) ∧ ((k : Nat) : Int) < 2 ^ 62 ∧ isN ds[((k : Nat) : Int).toNat]? fun d => R d (gup G p (.lst (ds.eraseIdx ((k : Nat) : Int).toNat)))
  rw [e, atL_lst, Int.toNat_natCast, h, isN_some]
  exact ⟨by omega, by have := hk; omega, q⟩
theorem erase_map {α β : Type} (f : α → β) : ∀ (l : List α) (k : Nat), (l.map f).eraseIdx k = (l.eraseIdx k).map f
  | [], _ => rfl
  | a :: l, 0 => rfl
  | a :: l, k + 1 => by simp [erase_map f l k]
theorem erase_perm {α : Type} {l : List α} {k : Nat} (h : k < l.length) : ([l[k]] ++ l.eraseIdx k).Perm l := by
  rw [List.eraseIdx_eq_take_drop_succ]
  have e : l = l.take k ++ l[k] :: l.drop (k + 1) := by rw [← List.drop_eq_getElem_cons h, List.take_append_drop]
  refine List.Perm.trans ?_ (List.Perm.of_eq e.symm)
  exact (List.perm_middle (a := l[k]) (l₁ := l.take k) (l₂ := l.drop (k + 1))).symm
def sp__law_kit : DSp := fun ds G R => ∃ s n o, ds = [.ref s] ∧ G s = some o ∧ BagO n o ∧ n ≤ 800000 ∧ ∀ (M : Mach) o', M.ok → BagO (n + 40) o' → R M.d (gup G s o')
local macro_rules | `(tactic| walk_at "x") => `(tactic| first | refine go_draw (by first | exact gup_same | assumption | fail) (by assumption) (by omega) (by walk_at "side") (by walk_at "side") fun _ _ _ _ => ?_ | fail)
theorem ok__law_kit {P : Program} {w : World} {K : PySem.W.Frag} {mg : Str → Option Value} {base : Heap} {a : Ad} (T : Tx w K mg a) : FnD P w K mg base 2 a.f__law_kit a.fd__law_kit ["bag"] sp__law_kit := by
  refine fun_okD T.F__law_kit sc__law_kit (fun ds G R h => ?_) (fun cdv A outer s H hr => ⟨_, (qss_cons (qs_set (i := 1) sc__law_kit.nd rfl (.inr rfl) (qe_lst true (qa_cons qe_str (qa_cons qe_str (qa_cons qe_str (qa_cons qe_str (qa_cons qe_str (qa_cons qe_str (qa_cons qe_str (qa_cons qe_str (qa_cons qe_str (qa_cons qe_str (qa_cons qe_str (qa_cons qe_str (qa_cons qe_str (qa_cons qe_str qa_nil))))))))))))))))
      (qss_cons (qs_setLc false (i := 2) rfl sc__law_kit.nd rfl rfl (sw_true rfl rfl rfl (by decide +kernel)) (qi_range1 rfl T.n_range (qa_cons (qe_op (od_add false) qe_int (qe_call (ok__law_draw T) (hr.mono (by omega)) rfl T.g__law_draw T.F__law_draw.kp T.b__law_draw (qa_cons (qv 0) (qa_cons (qe_ix xd_ix (qe_lst false (qa_cons qe_int (qa_cons qe_int qa_nil))) (qe_call (ok__law_draw T) (hr.mono (by omega)) rfl T.g__law_draw T.F__law_draw.kp T.b__law_draw (qa_cons (qv 0) (qa_cons qe_int qa_nil))) (fun _ _ => rfl)) qa_nil)))) qa_nil)) (blkOk_by (own := [("k", 6)]) (N := N__law_kit) (sc := defScope s__law_kit) (by decide +kernel)) (fun _ _ _ _ _ => (pg_name (i := 6) sc__law_kit.nd rfl (.inl rfl))) (tg_name (i := 6) (by decide)) (fun _ _ _ _ _ => qts_nil) (fun _ _ _ _ _ => (qe_m PySem.F.plainAttrs_list PySem.F.slot_list_pop PySem.F.type_list_pop md_popAt (qv 1) (qa_cons (qe_call (ok__law_draw T) (hr.mono (by omega)) rfl T.g__law_draw T.F__law_draw.kp T.b__law_draw (qa_cons (qv 0) (qa_cons (qe_callB cd_len rfl T.n_len (by decide +kernel) (qa_cons (qv 1) qa_nil)) qa_nil))) qa_nil))))
      (qss_cons (qs_set (i := 3) sc__law_kit.nd rfl (.inl rfl) (qe_op (od_add false) qe_int (qe_call (ok__law_draw T) (hr.mono (by omega)) rfl T.g__law_draw T.F__law_draw.kp T.b__law_draw (qa_cons (qv 0) (qa_cons (qe_ix xd_ix (qe_lst false (qa_cons qe_int (qa_cons qe_int qa_nil))) (qe_call (ok__law_draw T) (hr.mono (by omega)) rfl T.g__law_draw T.F__law_draw.kp T.b__law_draw (qa_cons (qv 0) (qa_cons qe_int qa_nil))) (fun _ _ => rfl)) qa_nil)))))
      (qss_cons (qs_set (i := 4) sc__law_kit.nd rfl (.inl rfl) (qe_ix xd_ix (qe_lst false (qa_cons qe_int (qa_cons qe_int (qa_cons qe_int (qa_cons qe_int (qa_cons qe_int (qa_cons qe_int (qa_cons qe_int (qa_cons qe_int qa_nil))))))))) (qe_op od_sub (qv 3) qe_int) (fun _ _ => rfl)))
      (qss_cons (qs_set (i := 5) sc__law_kit.nd rfl (.inl rfl) (qe_ix xd_ix (qe_lst false (qa_cons qe_int (qa_cons qe_int (qa_cons (qv 4) (qa_cons (qe_call (ok__law_draw T) (hr.mono (by omega)) rfl T.g__law_draw T.F__law_draw.kp T.b__law_draw (qa_cons (qv 0) (qa_cons (qe_op (od_add false) (qv 4) qe_int) qa_nil))) qa_nil))))) (qe_call (ok__law_draw T) (hr.mono (by omega)) rfl T.g__law_draw T.F__law_draw.kp T.b__law_draw (qa_cons (qv 0) (qa_cons qe_int qa_nil))) (fun _ _ => rfl)))
      (qss_one (qs_ret (qe_tup (qa_cons (qv 3) (qa_cons (qe_callTy cd_tupleN rfl T.n_tuple (by decide +kernel) (qa_cons (qv 2) qa_nil)) (qa_cons (qe_call (ok__law_draw T) (hr.mono (by omega)) rfl T.g__law_draw T.F__law_draw.kp T.b__law_draw (qa_cons (qv 0) (qa_cons qe_int qa_nil))) (qa_cons (qe_op (od_add false) qe_int (qe_call (ok__law_draw T) (hr.mono (by omega)) rfl T.g__law_draw T.F__law_draw.kp T.b__law_draw (qa_cons (qv 0) (qa_cons qe_int qa_nil)))) (qa_cons (qe_op (od_add false) qe_int (qe_call (ok__law_draw T) (hr.mono (by omega)) rfl T.g__law_draw T.F__law_draw.kp T.b__law_draw (qa_cons (qv 0) (qa_cons qe_int qa_nil)))) (qa_cons (qv 5) qa_nil)))))))))))))), fun ds G R h => ?_⟩)
  · obtain ⟨s, n, o, rfl, _⟩ := h; rfl
  · obtain ⟨s, n, o, rfl, e, ho, hn, h⟩ := h
    refine seq_cut (fun σ' G' => ∃ p, σ' = [some (.ref s), some (.ref p), none, none, none, none, none] ∧ G p = none ∧ s ≠ p ∧ G' = gup G p (.lst (someC.map .str))) ?_ (fun N1 hN1 => ?_)
    rotate_left
    · walk_at "go"
      rename_i p np
      exact hN1 _ _ ⟨p, rfl, np, fun z => (by rw [← z, e] at np; cases np), rfl⟩
    rintro σ G1 ⟨p, rfl, hp, hsp, rfl⟩
    refine seq_cut (fun σ' G' => ∃ (names : List Str) (left : List Str) (o1 : GO), σ' = [some (.ref s), some (.ref p), some (.lst (names.map .str)), none, none, none, none] ∧ G' = gup (gup G p (.lst (left.map .str))) s o1 ∧ BagO (n + 20) o1 ∧ NamesOk names ∧ 1 ≤ names.length ∧ names.length ≤ 6) ?_ (fun N1 hN1 => ?_)
    rotate_left
    · have es : gup G p (.lst (someC.map .str)) s = some o := by rw [gup_ne hsp]; exact e
      walk_at "go"
      rename_i r0 o1 hr0 ho1
      have hm : ∃ m : Int, atI [D.int 3, D.int 6] (r0 : Nat) = some (.int m) ∧ 1 ≤ m ∧ m ≤ 6 := by
        rcases (show r0 = 0 ∨ r0 = 1 by omega) with rfl | rfl
        · exact ⟨3, rfl, by decide, by decide⟩
        · exact ⟨6, rfl, by decide, by decide⟩
      obtain ⟨m, hm1, hm2, hm3⟩ := hm
      rw [hm1]
      walk_at "go"
      rename_i r1 o2 hr1 ho2
      rw [show (1 + (r1 : Int)).toNat = 1 + r1 by omega]
      refine lc_go (fun rest acc G' => ∃ (got left : List Str) (o3 : GO), acc = got.map .str ∧ G' = gup (gup G p (.lst (left.map .str))) s o3 ∧ BagO (n + 2 + got.length) o3 ∧ got.length + rest.length = 1 + r1 ∧ got.length + left.length = 14 ∧ (got ++ left).Perm someC) ?turn ?fin _ _ _ ⟨[], someC, o2, rfl, rfl, ho2, by rw [show (rng 0 (1 + r1)).length = 1 + r1 from rng_length _ _]; simp, rfl, .refl _⟩
      case fin =>
        rintro acc G' ⟨got, left, o3, rfl, rfl, ho3, hl, hl2, hpm⟩
        simp only [List.length_nil] at hl
        refine ⟨True.intro, hN1 _ _ ⟨got, left, o3, rfl, rfl, ho3.mono (by omega), ⟨fun z hz => someC_ok z (hpm.mem_iff.mp (List.mem_append_left _ hz)), ?_⟩, by omega, by omega⟩⟩
        have := hpm.nodup_iff.mpr someC_nd
        exact (List.nodup_append.mp this).1
      case turn =>
        rintro x rest acc G' ⟨got, left, o3, rfl, rfl, ho3, hl, hl2, hpm⟩
        simp only [List.length_cons] at hl
        refine ⟨True.intro, fun N hN => ?_⟩
        have ep : gup (gup G p (.lst (left.map .str))) s o3 p = some (.lst (left.map D.str)) := by rw [gup_ne hsp.symm, gup_same]
        walk_at "go"
        refine ⟨mty_at ep, ?_⟩
        show dLen [.ref p] _ _
        rw [len_ref ep, List.length_map]
        refine go_draw gup_same ho3 (by omega) (by omega) (by omega) fun k o4 hk ho4 => ?_
        rw [gup_gup]
        have hk2 : k < left.length := by omega
        refine popAt_go (d := .str left[k]) (by rw [gup_ne hsp.symm, gup_same]) (by rw [List.getElem?_map, List.getElem?_eq_getElem hk2]; rfl) (by omega) ?_
        rw [gup_swap hsp.symm]
        refine hN _ _ ⟨got ++ [left[k]], left.eraseIdx k, o4, by simp, by rw [erase_map], ho4.mono (by simp only [List.length_append, List.length_cons, List.length_nil]; omega), by simp only [List.length_append, List.length_cons, List.length_nil]; omega, ?_, ?_⟩
        · rw [List.length_eraseIdx_of_lt hk2]; simp only [List.length_append, List.length_cons, List.length_nil]; omega
        · refine List.Perm.trans ?_ hpm
          rw [List.append_assoc]
          exact List.Perm.append_left _ (erase_perm hk2)
    rintro σ G1 ⟨names, left, o1, rfl, rfl, ho1, hnm, hn1, hn2⟩
    walk_at "go"
    rename_i r0 o2 hr0 ho2
    have hm : ∃ m : Int, atI [D.int 4, D.int 8] (r0 : Nat) = some (.int m) ∧ 1 ≤ m ∧ m ≤ 8 := by
      rcases (show r0 = 0 ∨ r0 = 1 by omega) with rfl | rfl
      · exact ⟨4, rfl, by decide, by decide⟩
      · exact ⟨8, rfl, by decide, by decide⟩
    obtain ⟨m, hm1, hm2, hm3⟩ := hm
    rw [hm1]
    walk_at "go"
    rename_i r1 o3 hr1 ho3
    have et := tops_at (b := 1 + (r1 : Int)) (by omega) (by omega)
    rw [tops_d] at et
    rw [et]
    have htop := top_le (b := 1 + (r1 : Int)) (by omega) (by omega)
    walk_at "go"
    rename_i r2 o4 hr2 ho4 r3 o5 hr3 ho5
    generalize etop : (2 : Int) ^ (1 + (r1 : Int)).toNat = top at htop hr2 ⊢
    refine pick (by walk_at "side") fun x hx => ?_
    obtain ⟨cv, rfl, hc1, hc2⟩ : ∃ cv : Int, x = .int cv ∧ 0 ≤ cv ∧ cv ≤ top := by
      simp only [List.mem_cons, List.not_mem_nil, or_false] at hx
      rcases hx with rfl | rfl | rfl | rfl
      · exact ⟨_, rfl, by omega, by omega⟩
      · exact ⟨_, rfl, by omega, by omega⟩
      · exact ⟨_, rfl, by omega, by omega⟩
      · exact ⟨_, rfl, by omega, by omega⟩
    walk_at "go"
    rw [tupleN_l]
    walk_at "go"
    rename_i r6 o6 hr6 ho6 ra oa hra hoa rb ob hrb hob
    exact h ⟨1 + r1, names, r6, 1 + ra, 1 + rb, cv⟩ ob ⟨by simp only; omega, by simp only; omega, hn1, hn2, hnm, by simp only; omega, by simp only; omega, by simp only; omega, by simp only; omega, by simp only; omega, by simp only; omega, hc1, by simp only [etop]; exact hc2⟩ (hob.mono (by omega))
theorem go_kit {s : Addr} {G : Gp} {R : DK} {o : GO} {n : Nat} (e : G s = some o) (h : BagO n o) (hn : n ≤ 800000) (k : ∀ (M : Mach) o', M.ok → BagO (n + 40) o' → R M.d (gup G s o')) : sp__law_kit [.ref s] G R := ⟨s, n, o, rfl, e, h, hn, k⟩
end K42


set_option Elab.async false
set_option linter.all false
set_option maxRecDepth 100000
set_option maxHeartbeats 4000000
set_option autoImplicit false
namespace K42
open PySem PySem.Spec PyProof.Rows L2 DL
local macro_rules | `(tactic| walk_at "d") => `(tactic| dsimp only [dSeq, dNext, dIfS, dRet, dRetN, dAsg, dName, dVar, dC, dOp, dUn, dChain, dB, dAnd, dOr, dNot, dAndV, dOrV, dNotV, dIf, dNil, dCons, dTup, dLst, newL, dCallB, dCall, dCallK, dDrop, dAug, dAugS, dSub, dM, dM0, dSlice, dNoPart, dPart, dLc, dYes, dFor, dIter, dRng1, dEnum, dZipM, srcD, dStar, dInK, dIxK, dLenSet, dRev,
  startD, wipeD, setAll, dNames, List.map_cons, List.map_nil, List.length_cons, List.length_nil, List.replicate, List.cons_append, List.nil_append, List.append_nil, List.getElem?_cons_zero, List.getElem?_cons_succ, List.set_cons_zero, List.set_cons_succ, List.map, Nat.zero_add, Nat.reduceAdd, Nat.reduceSub, Nat.sub_self, Nat.succ_sub_succ_eq_sub])
local macro_rules | `(tactic| walk_at "o") => `(tactic| simp only [dAdd_ii, dAdd_ss, dAdd_tt, dAdd_ll, dMinus_ii, dMul_ii, dMod_ii, dFdiv_ii, dPow_ii, dShl_ii, dNeg_i, dIadd_ii, dLt_ii, dLe_ii, dGt_ii, dGe_ii, dEq_ii, dNe_ii, dEq_ss, dNe_ss, dEq_bb, dNe_bb, dIs_n, dIsNot_n, dMax2_ii, dMin2_ii, dTuple_t, dTuple_l, dList_t, dList_l, dIx_t, dIx_l, dIx_s, dSl_t, dSl_l, dSl_s, newL_f, len_tup, len_lst])
local macro_rules | `(tactic| walk_at "w") => `(tactic| dsimp only [x_var, x_c, x_op, x_un, x_b, x_and, x_or, x_not, x_chain, x_andV, x_orV, x_notV, x_if, x_nil, x_cons, x_tup, x_lst0, x_lst1, x_callB, x_call, x_callK, x_next, x_seq, x_break, x_cont, x_drop, x_ret, x_ifS, x_asg, x_name, x_names, x_sub, x_aug, x_augS, x_for, x_lc0, x_lc1, x_yes, x_noPart, x_part, x_slice, x_iter, it_t, it_l, it_n, it_s, it_r, x_rng1, x_enum, x_rev, x_m, x_m0, x_mX, x_zip, x_star_t, x_star_l, x_lenSet, x_forgo0, x_lcgo0, x_while, x_par, x_sortK,
  br_t, br_f, isB_bl, isI_int, isN_some, slo_some, atL_lst, ix_t, ix_l, ix_n,
  dAdd_ii, dAdd_ss, dAdd_tt, dAdd_ll, dMinus_ii, dMul_ii, dMod_ii, dFdiv_ii, dPow_ii, dShl_ii, dNeg_i, dIadd_ii, dLt_ii, dLe_ii, dGt_ii, dGe_ii, ltE_ii, ltE_ss, srcD, isi_i, isi_s, isi_b, isi_n, isi_t, isi_nt, isi_l, isi2_i, isi2_s, isi2_b, isi2_n, isi2_t, isi2_nt, isi2_l, inon_n, inon_i, inon_s, inon_b, inon_t, inon_l, inon_r, dEq_ii, dNe_ii, dEq_ss, dNe_ss, dEq_bb, dNe_bb, dIs_n, dIsNot_n, dMax2_ii, dMin2_ii, dTuple_t, dTuple_l, dList_t, dList_l, dSl_t, dSl_l, dSl_s, newL_f, newL_t, app_r, int_b, int_i, strI_i, strX_i, strX_s,
  startD, wipeD, setAll, permL, List.filterMap, List.map_cons, List.map_nil, List.length_cons, List.length_nil, List.replicate, List.cons_append, List.nil_append, List.append_nil, List.getElem?_cons_zero, List.getElem?_cons_succ, List.set_cons_zero, List.set_cons_succ, List.map, Nat.zero_add, Nat.reduceAdd, Nat.reduceSub, Nat.sub_self, Nat.succ_sub_succ_eq_sub])
local macro_rules | `(tactic| walk_at "v") => `(tactic| simp only [ofString_inj, String.reduceEq, at_0, at_1, at_2, at_3, at_4, at_5, isN_some, isBB_bl, isB_bl, br_t, br_f, br_not, br_and, br_or, br_dec, ix_r, len_tup, len_lst, len_nt, ltE_key, gup_gup, gup_same, starD_one, cut1, cut2, kt1, kt2, kt3, kt4, kt5, kt6, isTy, String.reduceBEq, Bool.or_false, Bool.false_or, Bool.true_or, Bool.or_true, Bool.and_false, Bool.false_and, Bool.true_and, Bool.and_true, Bool.not_true, Bool.not_false, decide_true, decide_false, eq_self_iff_true, Bool.false_eq_true, Int.reduceAdd, Int.add_zero, if_true, if_false, true_and, and_true])
local macro_rules | `(tactic| walk_at "side") => `(tactic| first | with_reducible assumption | omega | exact mty_up | exact True.intro | (simp only [List.mem_cons, ofString_inj, String.reduceEq, true_or, or_true, List.length_map]; done) | with_reducible exact (rfl : (_ : Nat) = _) | exact (rfl : (_ : Option String) = _) | (refine small_line ?_; omega) | (walk_at "ll"; first | omega | (refine small_line ?_; omega) | fail) | (exact log_small (by omega)) | fail)
local macro_rules | `(tactic| walk_at "x") => `(tactic| fail)
local macro_rules | `(tactic| walk_at "go") => `(tactic| repeat' (first | dsimp only [x_var, x_c, x_op, x_un, x_b, x_and, x_or, x_not, x_chain, x_andV, x_orV, x_notV, x_if, x_nil, x_cons, x_tup, x_lst0, x_lst1, x_callB, x_call, x_callK, x_next, x_seq, x_break, x_cont, x_drop, x_ret, x_ifS, x_asg, x_name, x_names, x_sub, x_aug, x_augS, x_for, x_lc0, x_lc1, x_yes, x_noPart, x_part, x_slice, x_iter, it_t, it_l, it_n, it_s, it_r, x_rng1, x_enum, x_rev, x_m, x_m0, x_mX, x_zip, x_star_t, x_star_l, x_lenSet, x_forgo0, x_lcgo0, x_while, x_par, x_sortK, br_t, br_f, isB_bl, isI_int, isN_some, slo_some, atL_lst, ix_t, ix_l, ix_n, dAdd_ii, dAdd_ss, dAdd_tt, dAdd_ll, dMinus_ii, dMul_ii, dMod_ii, dFdiv_ii, dPow_ii, dShl_ii, dNeg_i, dIadd_ii, dLt_ii, dLe_ii, dGt_ii, dGe_ii, ltE_ii, ltE_ss, srcD, isi_i, isi_s, isi_b, isi_n, isi_t, isi_nt, isi_l, isi2_i, isi2_s, isi2_b, isi2_n, isi2_t, isi2_nt, isi2_l, inon_n, inon_i, inon_s, inon_b, inon_t, inon_l, inon_r, dEq_ii, dNe_ii, dEq_ss, dNe_ss, dEq_bb, dNe_bb, dIs_n, dIsNot_n, dMax2_ii, dMin2_ii, dTuple_t, dTuple_l, dList_t, dList_l, dSl_t, dSl_l, dSl_s, newL_f, newL_t, app_r, int_b, int_i, strI_i, strX_i, strX_s, startD, wipeD, setAll, permL, List.filterMap, List.map_cons, List.map_nil, List.length_cons, List.length_nil, List.replicate, List.cons_append, List.nil_append, List.append_nil, List.getElem?_cons_zero, List.getElem?_cons_succ, List.set_cons_zero, List.set_cons_succ, List.map, Nat.zero_add, Nat.reduceAdd, Nat.reduceSub, Nat.sub_self, Nat.succ_sub_succ_eq_sub] | simp only [ofString_inj, String.reduceEq, at_0, at_1, at_2, at_3, at_4, at_5, isN_some, isBB_bl, isB_bl, br_t, br_f, br_not, br_and, br_or, br_dec, ix_r, len_tup, len_lst, len_nt, ltE_key, gup_gup, gup_same, starD_one, cut1, cut2, kt1, kt2, kt3, kt4, kt5, kt6, isTy, String.reduceBEq, Bool.or_false, Bool.false_or, Bool.true_or, Bool.or_true, Bool.and_false, Bool.false_and, Bool.true_and, Bool.and_true, Bool.not_true, Bool.not_false, decide_true, decide_false, eq_self_iff_true, Bool.false_eq_true, Int.reduceAdd, Int.add_zero, if_true, if_false, true_and, and_true] | walk_at "x" | with_reducible refine kont_go ?_ | with_reducible refine rt_sub (by assumption) ?_ | with_reducible refine rt_lst (by assumption) ?_ | with_reducible refine rt_drop (by assumption) ?_ | with_reducible refine rt_keep (by assumption) (by assumption) ?_ | with_reducible refine rt_same ?_ | (refine fun (p : Addr) (_ : _ = none) => ?_) | refine join_gor gup_same rfl (by walk_at "side") ?_ | with_reducible refine lc_cons ?_ | with_reducible refine for_cons ?_ | refine join_go rfl (by walk_at "side") ?_ | refine And.intro (by first | with_reducible assumption | omega | exact mty_up | exact True.intro | (simp only [List.mem_cons, ofString_inj, String.reduceEq, true_or, or_true, List.length_map]; done) | with_reducible exact (rfl : (_ : Nat) = _) | exact (rfl : (_ : Option String) = _) | (refine small_line ?_; omega) | (walk_at "ll"; first | omega | (refine small_line ?_; omega) | fail) | (exact log_small (by omega)) | fail) ?_ | fail))
local macro_rules | `(tactic| walk_at "ll") => `(tactic| simp only [List.length_map, List.length_append, List.length_cons, List.length_nil, List.map_cons, List.map_nil, List.sum_cons, List.sum_nil, len_app, rng_length, ll_0, ll_1, ll_2, ll_3, ll_4, ll_5, ll_6, ll_7, ll_8, ll_9, ll_10, ll_11, ll_12, ll_13, ll_14, ll_15, ll_16, ll_17, ll_18, ll_19, ll_20, ll_21, ll_22, ll_23, ll_24, ll_25, ll_26, ll_27, ll_28])
def Plc.ok (M : Mach) : Plc → Prop
  | .reg x => x ∈ M.names | .hid k => (k : Int) < M.h
def opL : List Str := ["add", "sub", "and", "or", "xor", "less", "same"]
def Ord.ok (M : Mach) : Ord → Prop
  | .alu op to a b => op ∈ opL ∧ to.ok M ∧ a.ok M ∧ b.ok M
  | .move to a => to.ok M ∧ a.ok M
  | .put to w => to.ok M ∧ (w : Int) < 2 ^ M.b.toNat
  | .load to a => to.ok M ∧ a.ok M
  | .store to a => to.ok M ∧ a.ok M
theorem name_len {z : Str} (h : nameOk z = true) : z.length ≤ 100 := by
  have := (nameOk_iff.mp h).1.2
  rw [cds_len] at this
  omega
theorem Plc.ok.small {M : Mach} (hM : M.ok) {p : Plc} (h : p.ok M) : p.small := by
  cases p with
  | reg x => exact name_len (hM.nm.1 x h)
  | hid k => have := hM.h2; have : (k : Int) < M.h := h; show k ≤ 1000; omega
theorem op_len : ∀ op ∈ opL, op.length ≤ 100 := by decide +kernel
theorem Ord.ok.small {M : Mach} (hM : M.ok) {o : Ord} (h : o.ok M) : o.small := by
  have ht := top_le hM.b1 hM.b2
  cases o with
  | alu op to a b => exact ⟨op_len _ h.1, h.2.1.small hM, h.2.2.1.small hM, h.2.2.2.small hM⟩
  | put to w => have := h.2; exact ⟨h.1.small hM, by omega⟩
  | move to a => exact ⟨h.1.small hM, h.2.small hM⟩
  | load to a => exact ⟨h.1.small hM, h.2.small hM⟩
  | store to a => exact ⟨h.1.small hM, h.2.small hM⟩
local macro_rules | `(tactic| walk_at "x") => `(tactic| first | refine go_draw (by first | exact gup_same | assumption | fail) (by assumption) (by omega) (by walk_at "side") (by walk_at "side") fun _ _ _ _ => ?_ | refine go_top (by assumption) ?_ | fail)
def sp__law_place : DSp := fun ds G R => ∃ s M n o, ds = [.ref s, Mach.d M] ∧ M.ok ∧ G s = some o ∧ BagO n o ∧ n ≤ 900000 ∧ ∀ (p : Plc) o', p.ok M → BagO (n + 1) o' → R p.d (gup G s o')
-- _law_place: not reached
theorem go_place {s : Addr} {M : Mach} {G : Gp} {R : DK} {o : GO} {n : Nat} (hM : M.ok) (e : G s = some o) (h : BagO n o) (hn : n ≤ 900000) (k : ∀ (p : Plc) o', p.ok M → BagO (n + 1) o' → R p.d (gup G s o')) : sp__law_place [.ref s, M.d] G R := ⟨s, M, n, o, rfl, hM, e, h, hn, k⟩
def sp__law_word : DSp := fun ds G R => ∃ s M n o, ds = [.ref s, Mach.d M] ∧ M.ok ∧ G s = some o ∧ BagO n o ∧ n ≤ 900000 ∧ ∀ (v : Nat) o', (v : Int) < 2 ^ M.b.toNat → BagO (n + 2) o' → R (.int v) (gup G s o')
theorem ok__law_word {P : Program} {w : World} {K : PySem.W.Frag} {mg : Str → Option Value} {base : Heap} {a : Ad} (T : Tx w K mg a) : FnD P w K mg base 2 a.f__law_word a.fd__law_word ["bag", "kit"] sp__law_word := by
  refine fun_okD T.F__law_word sc__law_word (fun ds G R h => ?_) (fun cdv A outer s H hr => ⟨_, (qss_cons (qs_set (i := 2) sc__law_word.nd rfl (.inl rfl) (qe_call (ok__law_top T) (hr.mono (by omega)) rfl T.g__law_top T.F__law_top.kp T.b__law_top (qa_cons (qv 1) qa_nil)))
      (qss_one (qs_ret (qe_ix xd_ix (qe_lst false (qa_cons qe_int (qa_cons qe_int (qa_cons (qe_op od_sub (qv 2) qe_int) (qa_cons (qe_callB (cd_min2 rfl) rfl T.n_min (by decide +kernel) (qa_cons (qe_ix xd_ix (qv 1) qe_int (fun _ _ => rfl)) (qa_cons (qe_op od_sub (qv 2) qe_int) qa_nil))) (qa_cons (qe_call (ok__law_draw T) (hr.mono (by omega)) rfl T.g__law_draw T.F__law_draw.kp T.b__law_draw (qa_cons (qv 0) (qa_cons (qv 2) qa_nil))) qa_nil)))))) (qe_call (ok__law_draw T) (hr.mono (by omega)) rfl T.g__law_draw T.F__law_draw.kp T.b__law_draw (qa_cons (qv 0) (qa_cons qe_int qa_nil))) (fun _ _ => rfl))))), fun ds G R h => ?_⟩)
  · obtain ⟨s, M, n, o, rfl, _⟩ := h; rfl
  · obtain ⟨s, M, n, o, rfl, hM, e, ho, hn, h⟩ := h
    have htop := top_le hM.b1 hM.b2
    have hc1 := hM.c1; have hc2 := hM.c2
    walk_at "go"
    unfold Mach.d
    walk_at "go"
    rename_i r1 o1 hr1 ho1 r2 o2 hr2 ho2
    generalize (2 : Int) ^ M.b.toNat = top at htop hc2 hr1 h ⊢
    refine pick (by walk_at "side") fun x hx => ?_
    obtain ⟨v, rfl, hv⟩ : ∃ v : Nat, x = .int v ∧ (v : Int) < top := by
      simp only [List.mem_cons, List.not_mem_nil, or_false] at hx
      rcases hx with rfl | rfl | rfl | rfl | rfl
      · exact ⟨0, rfl, by omega⟩
      · exact ⟨1, rfl, by omega⟩
      · exact ⟨(top - 1 : Int).toNat, by congr 1; omega, by omega⟩
      · split
        · exact ⟨(top - 1 : Int).toNat, by congr 1; omega, by omega⟩
        · exact ⟨M.c.toNat, by congr 1; omega, by omega⟩
      · exact ⟨_, rfl, by omega⟩
    walk_at "go"
    exact h v _ hv ho2
theorem go_word {s : Addr} {M : Mach} {G : Gp} {R : DK} {o : GO} {n : Nat} (hM : M.ok) (e : G s = some o) (h : BagO n o) (hn : n ≤ 900000) (k : ∀ (v : Nat) o', (v : Int) < 2 ^ M.b.toNat → BagO (n + 2) o' → R (.int v) (gup G s o')) : sp__law_word [.ref s, M.d] G R := ⟨s, M, n, o, rfl, hM, e, h, hn, k⟩
end K42


set_option Elab.async false
set_option linter.all false
set_option maxRecDepth 100000
set_option maxHeartbeats 4000000
set_option autoImplicit false
namespace K42
open PySem PySem.Spec PyProof.Rows L2 DL
local macro_rules | `(tactic| walk_at "d") => `(tactic| dsimp only [dSeq, dNext, dIfS, dRet, dRetN, dAsg, dName, dVar, dC, dOp, dUn, dChain, dB, dAnd, dOr, dNot, dAndV, dOrV, dNotV, dIf, dNil, dCons, dTup, dLst, newL, dCallB, dCall, dCallK, dDrop, dAug, dAugS, dSub, dM, dM0, dSlice, dNoPart, dPart, dLc, dYes, dFor, dIter, dRng1, dEnum, dZipM, srcD, dStar, dInK, dIxK, dLenSet, dRev,
  startD, wipeD, setAll, dNames, List.map_cons, List.map_nil, List.length_cons, List.length_nil, List.replicate, List.cons_append, List.nil_append, List.append_nil, List.getElem?_cons_zero, List.getElem?_cons_succ, List.set_cons_zero, List.set_cons_succ, List.map, Nat.zero_add, Nat.reduceAdd, Nat.reduceSub, Nat.sub_self, Nat.succ_sub_succ_eq_sub])
local macro_rules | `(tactic| walk_at "o") => `(tactic| simp only [dAdd_ii, dAdd_ss, dAdd_tt, dAdd_ll, dMinus_ii, dMul_ii, dMod_ii, dFdiv_ii, dPow_ii, dShl_ii, dNeg_i, dIadd_ii, dLt_ii, dLe_ii, dGt_ii, dGe_ii, dEq_ii, dNe_ii, dEq_ss, dNe_ss, dEq_bb, dNe_bb, dIs_n, dIsNot_n, dMax2_ii, dMin2_ii, dTuple_t, dTuple_l, dList_t, dList_l, dIx_t, dIx_l, dIx_s, dSl_t, dSl_l, dSl_s, newL_f, len_tup, len_lst])
local macro_rules | `(tactic| walk_at "w") => `(tactic| dsimp only [x_var, x_c, x_op, x_un, x_b, x_and, x_or, x_not, x_chain, x_andV, x_orV, x_notV, x_if, x_nil, x_cons, x_tup, x_lst0, x_lst1, x_callB, x_call, x_callK, x_next, x_seq, x_break, x_cont, x_drop, x_ret, x_ifS, x_asg, x_name, x_names, x_sub, x_aug, x_augS, x_for, x_lc0, x_lc1, x_yes, x_noPart, x_part, x_slice, x_iter, it_t, it_l, it_n, it_s, it_r, x_rng1, x_enum, x_rev, x_m, x_m0, x_mX, x_zip, x_star_t, x_star_l, x_lenSet, x_forgo0, x_lcgo0, x_while, x_par, x_sortK,
  br_t, br_f, isB_bl, isI_int, isN_some, slo_some, atL_lst, ix_t, ix_l, ix_n,
  dAdd_ii, dAdd_ss, dAdd_tt, dAdd_ll, dMinus_ii, dMul_ii, dMod_ii, dFdiv_ii, dPow_ii, dShl_ii, dNeg_i, dIadd_ii, dLt_ii, dLe_ii, dGt_ii, dGe_ii, ltE_ii, ltE_ss, srcD, isi_i, isi_s, isi_b, isi_n, isi_t, isi_nt, isi_l, isi2_i, isi2_s, isi2_b, isi2_n, isi2_t, isi2_nt, isi2_l, inon_n, inon_i, inon_s, inon_b, inon_t, inon_l, inon_r, dEq_ii, dNe_ii, dEq_ss, dNe_ss, dEq_bb, dNe_bb, dIs_n, dIsNot_n, dMax2_ii, dMin2_ii, dTuple_t, dTuple_l, dList_t, dList_l, dSl_t, dSl_l, dSl_s, newL_f, newL_t, app_r, int_b, int_i, strI_i, strX_i, strX_s,
  startD, wipeD, setAll, permL, List.filterMap, List.map_cons, List.map_nil, List.length_cons, List.length_nil, List.replicate, List.cons_append, List.nil_append, List.append_nil, List.getElem?_cons_zero, List.getElem?_cons_succ, List.set_cons_zero, List.set_cons_succ, List.map, Nat.zero_add, Nat.reduceAdd, Nat.reduceSub, Nat.sub_self, Nat.succ_sub_succ_eq_sub])
local macro_rules | `(tactic| walk_at "v") => `(tactic| simp only [ofString_inj, String.reduceEq, at_0, at_1, at_2, at_3, at_4, at_5, isN_some, isBB_bl, isB_bl, br_t, br_f, br_not, br_and, br_or, br_dec, ix_r, len_tup, len_lst, len_nt, ltE_key, gup_gup, gup_same, starD_one, cut1, cut2, kt1, kt2, kt3, kt4, kt5, kt6, isTy, String.reduceBEq, Bool.or_false, Bool.false_or, Bool.true_or, Bool.or_true, Bool.and_false, Bool.false_and, Bool.true_and, Bool.and_true, Bool.not_true, Bool.not_false, decide_true, decide_false, eq_self_iff_true, Bool.false_eq_true, Int.reduceAdd, Int.add_zero, if_true, if_false, true_and, and_true])
local macro_rules | `(tactic| walk_at "side") => `(tactic| first | with_reducible assumption | omega | exact mty_up | exact True.intro | (simp only [List.mem_cons, ofString_inj, String.reduceEq, true_or, or_true, List.length_map]; done) | with_reducible exact (rfl : (_ : Nat) = _) | exact (rfl : (_ : Option String) = _) | (refine small_line ?_; omega) | (walk_at "ll"; first | omega | (refine small_line ?_; omega) | fail) | (exact log_small (by omega)) | fail)
local macro_rules | `(tactic| walk_at "x") => `(tactic| fail)
local macro_rules | `(tactic| walk_at "go") => `(tactic| repeat' (first | dsimp only [x_var, x_c, x_op, x_un, x_b, x_and, x_or, x_not, x_chain, x_andV, x_orV, x_notV, x_if, x_nil, x_cons, x_tup, x_lst0, x_lst1, x_callB, x_call, x_callK, x_next, x_seq, x_break, x_cont, x_drop, x_ret, x_ifS, x_asg, x_name, x_names, x_sub, x_aug, x_augS, x_for, x_lc0, x_lc1, x_yes, x_noPart, x_part, x_slice, x_iter, it_t, it_l, it_n, it_s, it_r, x_rng1, x_enum, x_rev, x_m, x_m0, x_mX, x_zip, x_star_t, x_star_l, x_lenSet, x_forgo0, x_lcgo0, x_while, x_par, x_sortK, br_t, br_f, isB_bl, isI_int, isN_some, slo_some, atL_lst, ix_t, ix_l, ix_n, dAdd_ii, dAdd_ss, dAdd_tt, dAdd_ll, dMinus_ii, dMul_ii, dMod_ii, dFdiv_ii, dPow_ii, dShl_ii, dNeg_i, dIadd_ii, dLt_ii, dLe_ii, dGt_ii, dGe_ii, ltE_ii, ltE_ss, srcD, isi_i, isi_s, isi_b, isi_n, isi_t, isi_nt, isi_l, isi2_i, isi2_s, isi2_b, isi2_n, isi2_t, isi2_nt, isi2_l, inon_n, inon_i, inon_s, inon_b, inon_t, inon_l, inon_r, dEq_ii, dNe_ii, dEq_ss, dNe_ss, dEq_bb, dNe_bb, dIs_n, dIsNot_n, dMax2_ii, dMin2_ii, dTuple_t, dTuple_l, dList_t, dList_l, dSl_t, dSl_l, dSl_s, newL_f, newL_t, app_r, int_b, int_i, strI_i, strX_i, strX_s, startD, wipeD, setAll, permL, List.filterMap, List.map_cons, List.map_nil, List.length_cons, List.length_nil, List.replicate, List.cons_append, List.nil_append, List.append_nil, List.getElem?_cons_zero, List.getElem?_cons_succ, List.set_cons_zero, List.set_cons_succ, List.map, Nat.zero_add, Nat.reduceAdd, Nat.reduceSub, Nat.sub_self, Nat.succ_sub_succ_eq_sub] | simp only [ofString_inj, String.reduceEq, at_0, at_1, at_2, at_3, at_4, at_5, isN_some, isBB_bl, isB_bl, br_t, br_f, br_not, br_and, br_or, br_dec, ix_r, len_tup, len_lst, len_nt, ltE_key, gup_gup, gup_same, starD_one, cut1, cut2, kt1, kt2, kt3, kt4, kt5, kt6, isTy, String.reduceBEq, Bool.or_false, Bool.false_or, Bool.true_or, Bool.or_true, Bool.and_false, Bool.false_and, Bool.true_and, Bool.and_true, Bool.not_true, Bool.not_false, decide_true, decide_false, eq_self_iff_true, Bool.false_eq_true, Int.reduceAdd, Int.add_zero, if_true, if_false, true_and, and_true] | walk_at "x" | with_reducible refine kont_go ?_ | with_reducible refine rt_sub (by assumption) ?_ | with_reducible refine rt_lst (by assumption) ?_ | with_reducible refine rt_drop (by assumption) ?_ | with_reducible refine rt_keep (by assumption) (by assumption) ?_ | with_reducible refine rt_same ?_ | (refine fun (p : Addr) (_ : _ = none) => ?_) | refine join_gor gup_same rfl (by walk_at "side") ?_ | with_reducible refine lc_cons ?_ | with_reducible refine for_cons ?_ | refine join_go rfl (by walk_at "side") ?_ | refine And.intro (by first | with_reducible assumption | omega | exact mty_up | exact True.intro | (simp only [List.mem_cons, ofString_inj, String.reduceEq, true_or, or_true, List.length_map]; done) | with_reducible exact (rfl : (_ : Nat) = _) | exact (rfl : (_ : Option String) = _) | (refine small_line ?_; omega) | (walk_at "ll"; first | omega | (refine small_line ?_; omega) | fail) | (exact log_small (by omega)) | fail) ?_ | fail))
local macro_rules | `(tactic| walk_at "ll") => `(tactic| simp only [List.length_map, List.length_append, List.length_cons, List.length_nil, List.map_cons, List.map_nil, List.sum_cons, List.sum_nil, len_app, rng_length, ll_0, ll_1, ll_2, ll_3, ll_4, ll_5, ll_6, ll_7, ll_8, ll_9, ll_10, ll_11, ll_12, ll_13, ll_14, ll_15, ll_16, ll_17, ll_18, ll_19, ll_20, ll_21, ll_22, ll_23, ll_24, ll_25, ll_26, ll_27, ll_28])
/-! ### terms -/
inductive Tm where
  | num (w : Nat) | reg (x : Str) | load (t : Tm) | op (o : Str) (t u : Tm)
deriving DecidableEq
def Tm.d : Tm → D
  | .num w => .tup [.str "num", .int w] | .reg x => .tup [.str "reg", .str x] | .load t => .tup [.str "load", t.d] | .op o t u => .tup [.str o, t.d, u.d]
def Tm.dep : Tm → Nat
  | .num _ => 1 | .reg _ => 1 | .load t => t.dep + 1 | .op _ t u => max t.dep u.dep + 1
def Tm.ok (M : Mach) : Tm → Prop
  | .num w => (w : Int) < 2 ^ M.b.toNat | .reg x => x ∈ M.names | .load t => t.ok M | .op o t u => o ∈ opL ∧ t.ok M ∧ u.ok M
theorem Tm.dep_pos (t : Tm) : 1 ≤ t.dep := by cases t <;> simp [Tm.dep]
theorem bq {α : Type} [DecidableEq α] (a b : α) : (a == b) = decide (a = b) := rfl
theorem eqs_cons {x y : D} {xs ys : List D} : eqDs (x :: xs) (y :: ys) = (eqD x y && eqDs xs ys) := by simp only [eqDs]
theorem eqs_nil : eqDs [] [] = true := by simp only [eqDs]
theorem eqs_nc {x : D} {xs : List D} : eqDs [] (x :: xs) = false := by simp only [eqDs]
theorem eqs_cn {x : D} {xs : List D} : eqDs (x :: xs) [] = false := by simp only [eqDs]
theorem eq_tt {xs ys : List D} : eqD (.tup xs) (.tup ys) = eqDs xs ys := by simp only [eqD]
theorem eq_s {x y : Str} : eqD (.str x) (.str y) = decide (x = y) := by simp only [eqD]; rfl
theorem eq_i {x y : Int} : eqD (.int x) (.int y) = decide (x = y) := by simp only [eqD]; rfl
theorem eqD_tm : ∀ t u : Tm, eqD t.d u.d = decide (t = u)
  | .num a, u => by cases u <;> simp only [Tm.d, eq_tt, eqs_cons, eqs_nil, eqs_nc, eqs_cn, eq_s, eq_i, ofString_inj, String.reduceEq, decide_true, decide_false, Bool.and_true, Bool.true_and, Bool.false_and, Bool.and_false, Tm.num.injEq, reduceCtorEq, Int.natCast_inj]
  | .reg a, u => by cases u <;> simp only [Tm.d, eq_tt, eqs_cons, eqs_nil, eqs_nc, eqs_cn, eq_s, eq_i, ofString_inj, String.reduceEq, decide_true, decide_false, Bool.and_true, Bool.true_and, Bool.false_and, Bool.and_false, Tm.reg.injEq, reduceCtorEq, Int.natCast_inj]
  | .load t, u => by cases u <;> simp only [Tm.d, eq_tt, eqs_cons, eqs_nil, eqs_nc, eqs_cn, eq_s, eq_i, eqD_tm t, ofString_inj, String.reduceEq, decide_true, decide_false, Bool.and_true, Bool.true_and, Bool.false_and, Bool.and_false, Tm.load.injEq, reduceCtorEq, Int.natCast_inj]
  | .op o t s, u => by cases u <;> simp only [Tm.d, eq_tt, eqs_cons, eqs_nil, eqs_nc, eqs_cn, eq_s, eq_i, eqD_tm t, eqD_tm s, ofString_inj, String.reduceEq, decide_true, decide_false, Bool.and_true, Bool.true_and, Bool.false_and, Bool.and_false, Tm.op.injEq, reduceCtorEq, Int.natCast_inj, Bool.decide_and]
theorem any_tm (t : Tm) (fs : List Tm) : ((fs.map Tm.d).any fun z => eqD z t.d) = decide (t ∈ fs) := by
  induction fs with
  | nil => rfl
  | cons y fs ih =>
    simp only [List.map_cons, List.any_cons, ih, eqD_tm]
    by_cases h : y = t
    · subst h; simp
    · simp [h, Ne.symm h]
theorem opL_py : ∀ op ∈ opL, pyD (.str op) = true := by decide +kernel
theorem name_py {z : Str} (h : nameOk z = true) : pyD (.str z) = true := by
  have := (nameOk_iff.mp h).2
  simp only [pyD, List.all_eq_true, decide_eq_true_eq]
  intro c hc
  have := this c hc
  simp only [low, Bool.and_eq_true, decide_eq_true_eq] at this
  omega
theorem Tm.py {M : Mach} (hM : M.ok) : ∀ {t : Tm}, t.ok M → pyD t.d = true ∧ depD t.d = t.dep
  | .num w, h => by
    have h0 : pyD (.str "num") = true := by decide +kernel
    simp only [Tm.d, pyD, pyDs, depD, depDs, Tm.dep] at h0 ⊢
    simp [h0]
  | .reg x, h => by
    have hx := name_py (hM.nm.1 x h)
    have h0 : pyD (.str "reg") = true := by decide +kernel
    simp only [Tm.d, pyD, pyDs, depD, depDs, Tm.dep] at hx h0 ⊢
    simp [hx, h0]
  | .load t, h => by
    have hx := Tm.py hM (t := t) h
    have h0 : pyD (.str "load") = true := by decide +kernel
    simp only [Tm.d, pyD, pyDs, depD, depDs, Tm.dep] at h0 ⊢
    simp [hx, h0]
  | .op o t u, h => by
    have hx := Tm.py hM (t := t) h.2.1
    have hy := Tm.py hM (t := u) h.2.2
    have h0 : pyD (.str o) = true := opL_py o h.1
    simp only [Tm.d, pyD, pyDs, depD, depDs, Tm.dep] at h0 ⊢
    simp [hx, hy, h0]
theorem tms_py {M : Mach} (hM : M.ok) : ∀ {fs : List Tm}, (∀ t ∈ fs, t.ok M) → pyDs (fs.map Tm.d) = true
  | [], _ => rfl
  | t :: fs, h => by
    simp only [List.map_cons, pyDs, Bool.and_eq_true]
    exact ⟨(Tm.py hM (h t List.mem_cons_self)).1, tms_py hM fun x hx => h x (List.mem_cons_of_mem _ hx)⟩
def addT (fs : List Tm) (t : Tm) : List Tm := if t ∈ fs then fs else fs ++ [t]
def spreadF : Tm → List Tm → List Tm
  | .reg _, fs => fs
  | .num w, fs => addT fs (.num w)
  | .load t, fs => addT (spreadF t fs) (.load t)
  | .op o t u, fs => addT (spreadF u (spreadF t fs)) (.op o t u)
theorem addT_len (fs : List Tm) (t : Tm) : (addT fs t).length ≤ fs.length + 1 := by unfold addT; split <;> simp
theorem addT_mem {fs : List Tm} {t x : Tm} : x ∈ addT fs t ↔ x ∈ fs ∨ x = t := by
  unfold addT
  split
  · rename_i h
    exact ⟨fun z => .inl z, fun z => z.elim id fun e => e ▸ h⟩
  · simp
theorem spread_len : ∀ (t : Tm) (fs : List Tm), (spreadF t fs).length + 1 ≤ fs.length + 2 ^ t.dep
  | .reg _, fs => by simp [spreadF, Tm.dep]
  | .num w, fs => by have := addT_len fs (.num w); simp only [spreadF, Tm.dep]; omega
  | .load t, fs => by
    have h1 := addT_len (spreadF t fs) (.load t)
    have h2 := spread_len t fs
    have h3 : 1 ≤ 2 ^ t.dep := Nat.one_le_two_pow
    simp only [spreadF, Tm.dep, Nat.pow_succ]
    omega
  | .op o t u, fs => by
    have h1 := addT_len (spreadF u (spreadF t fs)) (.op o t u)
    have h2 := spread_len t fs
    have h3 := spread_len u (spreadF t fs)
    have h4 : 2 ^ t.dep ≤ 2 ^ max t.dep u.dep := Nat.pow_le_pow_right (by omega) (by omega)
    have h5 : 2 ^ u.dep ≤ 2 ^ max t.dep u.dep := Nat.pow_le_pow_right (by omega) (by omega)
    simp only [spreadF, Tm.dep, Nat.pow_succ]
    omega
theorem addT_ok {M : Mach} {fs : List Tm} {t : Tm} (h : ∀ x ∈ fs, x.ok M) (ht : t.ok M) : ∀ x ∈ addT fs t, x.ok M := fun x hx => by
  rcases addT_mem.mp hx with h1 | rfl
  · exact h x h1
  · exact ht
theorem spread_ok {M : Mach} : ∀ (t : Tm) (fs : List Tm), t.ok M → (∀ x ∈ fs, x.ok M) → ∀ x ∈ spreadF t fs, x.ok M
  | .reg _, fs, _, h => h
  | .num w, fs, ht, h => addT_ok h ht
  | .load t, fs, ht, h => addT_ok (spread_ok t fs ht h) ht
  | .op o t u, fs, ht, h => addT_ok (spread_ok u _ ht.2.2 (spread_ok t fs ht.2.1 h)) ht
theorem gup_id {G : Gp} {p : Addr} {o : GO} (h : G p = some o) : gup G p o = G := by
  funext b
  unfold gup
  split
  · rename_i e; rw [e, h]
  · rfl
theorem op_ne : ∀ o ∈ opL, o ≠ Str.ofString "reg" ∧ o ≠ Str.ofString "num" := by decide +kernel
def sp_spread (n : Nat) : DSp := fun ds G R => ∃ (M : Mach) (t : Tm) (p : Addr) (fs : List Tm), ds = [t.d, .ref p] ∧ M.ok ∧ t.ok M ∧ (∀ x ∈ fs, x.ok M) ∧ t.dep ≤ n ∧ n ≤ 7 ∧ G p = some (.lst (fs.map Tm.d)) ∧ fs.length + 2 ^ t.dep ≤ 100000 ∧ R .non (gup G p (.lst ((spreadF t fs).map Tm.d)))
theorem inR_go {f : Bool → Bool} {M : Mach} (hM : M.ok) {t : Tm} {p : Addr} {fs : List Tm} {G : Gp} {R : DK} (ht : t.ok M) (hd : t.dep ≤ 20) (hf : ∀ x ∈ fs, x.ok M) (e : G p = some (.lst (fs.map Tm.d))) (k : R (.bl (f (decide (t ∈ fs)))) G) : dInE f t.d (.ref p) G R := by
  have h1 := Tm.py hM ht
  have key : pyD t.d = true ∧ pyDs (fs.map Tm.d) = true ∧ depD t.d ≤ 60 ∧ R (.bl (f ((fs.map Tm.d).any fun z => eqD z t.d))) G := ⟨h1.1, tms_py hM hf, by omega, by rw [any_tm]; exact k⟩
  have e2 : seqOf G (.ref p) = some (fs.map Tm.d) := by simp only [seqOf, lstOf, e]
  cases t <;> (simp only [Tm.d, dInE] at key ⊢; rw [e2]; exact key)
theorem put_go {M : Mach} (hM : M.ok) {t : Tm} {p : Addr} {fs : List Tm} {G : Gp} {R : DK} (ht : t.ok M) (hd : t.dep ≤ 20) (hf : ∀ x ∈ fs, x.ok M) (e : G p = some (.lst (fs.map Tm.d))) (hl : fs.length ≤ 100000) (k : R .non (gup G p (.lst ((addT fs t).map Tm.d)))) :
    dInE not t.d (.ref p) G fun x G1 => isB x fun b => br b (mty G1 (.ref p) = some "list" ∧ atL (G1 p) fun ds => ds.length < sizeLine ∧ ∃ G', DL.Sub G' (gup G1 p (.lst (ds ++ [t.d]))) ∧ R .non G') (∃ G', DL.Sub G' G1 ∧ R .non G') := by
  refine inR_go hM ht hd hf e ?_
  unfold addT at k
  by_cases h : t ∈ fs
  · rw [if_pos h, gup_id e] at k
    rw [decide_eq_true h]
    exact ⟨_, DL.Sub.refl _, k⟩
  · rw [if_neg h, List.map_append] at k
    rw [decide_eq_false h]
    refine ⟨mty_at e, ?_⟩
    rw [atL_at e]
    exact ⟨by rw [List.length_map, sizeLine_eq]; omega, _, DL.Sub.refl _, k⟩
theorem ok0_spread {P : Program} {w : World} {K : PySem.W.Frag} {mg : Str → Option Value} {base : Heap} {a : Ad} (T : Tx w K mg a) {n j : Nat} {sp' : DSp} (ih : FnD P w K mg base j a.f_spread a.fd_spread ["term", "found"] sp') (hj : j ≤ n + 0) (hs : ∀ m, n = m + 1 → ∀ ds G R, sp_spread m ds G R → sp' ds G R) : FnD P w K mg base (n + 1) a.f_spread a.fd_spread ["term", "found"] (sp_spread n) := by
  refine fun_okD T.F_spread sc_spread (fun ds G R h => ?_) (fun cdv A outer s H hr => ⟨_, (qss_cons (qs_asg (qv 0) (qg_star (n := 2) (i := 1) (is := [2, 3]) rfl (pgs_cons (pg_name (i := 2) sc_spread.nd rfl (.inl rfl)) (pgs_star (pg_name (i := 3) sc_spread.nd rfl (.inl rfl)) pgs_nil)) (by decide) rfl))
      (qss_cons (qs_if (qt_cmp (od_eq hr.units) (qv 2) qe_str (nomark _))
      (qss_one qs_retN)
      qss_nil)
      (qss_cons (qs_if (qt_cmp (od_ne hr.units) (qv 2) qe_str (nomark _))
      (qss_one (qs_for PassesOwn.never rfl (qi_seq (qv 3)) (qg_of (pg_name (i := 4) sc_spread.nd rfl (.inl rfl)) (tg_name (i := 4) (ws := [4]) (by decide)))
      (qss_one (qs_expr (qe_call ih (hr.mono (by omega)) rfl T.g_spread T.F_spread.kp T.b_spread (qa_cons (qv 4) (qa_cons (qv 1) qa_nil)))))))
      qss_nil)
      (qss_one (qs_if (qt_cmp (od_notInE (room100 hr)) (qv 0) (qv 1) rfl)
      (qss_one (qs_expr (qe_m PySem.F.plainAttrs_list PySem.F.slot_list_append PySem.F.type_list_append md_append (qv 1) (qa_cons (qv 0) qa_nil))))
      qss_nil))))), fun ds G R h => ?_⟩)
  · obtain ⟨M, t, p, fs, rfl, _⟩ := h; rfl
  · obtain ⟨M, t, p, fs, rfl, hM, ht, hf, hd, hn, e, hlen, h⟩ := h
    cases t with
    | reg x =>
      simp only [spreadF] at h
      rw [gup_id e] at h
      unfold Tm.d
      walk_at "go"
      exact ⟨_, DL.Sub.refl _, h⟩
    | num w =>
      simp only [spreadF] at h
      rw [show (Tm.num w).d = .tup [.str "num", .int w] from rfl]
      walk_at "go"
      exact put_go hM (t := .num w) ht (by simp only [Tm.dep]; omega) hf e (Nat.le_trans (Nat.le_add_right _ _) hlen) h
    | load t =>
      simp only [spreadF] at h
      simp only [Tm.dep] at hd hlen
      have hl := spread_len t fs
      have h1 : 1 ≤ 2 ^ t.dep := Nat.one_le_two_pow
      rw [Nat.pow_succ] at hlen
      rw [show (Tm.load t).d = .tup [.str "load", t.d] from rfl]
      walk_at "go"
      obtain ⟨m, rfl⟩ : ∃ m, n = m + 1 := ⟨n - 1, by omega⟩
      refine hs m rfl _ _ _ ⟨M, t, p, fs, rfl, hM, ht, hf, by omega, by omega, e, by omega, ?_⟩
      walk_at "go"
      refine put_go hM (t := .load t) ht (by simp only [Tm.dep]; omega) (spread_ok t fs ht hf) gup_same (by omega) ?_
      rw [gup_gup]
      exact h
    | op o t u =>
      simp only [spreadF] at h
      simp only [Tm.dep] at hd hlen
      have hl := spread_len t fs
      have hl2 := spread_len u (spreadF t fs)
      have h4 : 2 ^ t.dep ≤ 2 ^ max t.dep u.dep := Nat.pow_le_pow_right (by omega) (by omega)
      have h5 : 2 ^ u.dep ≤ 2 ^ max t.dep u.dep := Nat.pow_le_pow_right (by omega) (by omega)
      have h1 : 1 ≤ 2 ^ t.dep := Nat.one_le_two_pow
      have h2 : 1 ≤ 2 ^ u.dep := Nat.one_le_two_pow
      rw [Nat.pow_succ] at hlen
      obtain ⟨n1, n2⟩ := op_ne o ht.1
      rw [show (Tm.op o t u).d = .tup [.str o, t.d, u.d] from rfl]
      walk_at "go"
      rw [if_neg n1]
      walk_at "go"
      rw [if_neg n2]
      walk_at "go"
      obtain ⟨m, rfl⟩ : ∃ m, n = m + 1 := ⟨n - 1, by omega⟩
      refine hs m rfl _ _ _ ⟨M, t, p, fs, rfl, hM, ht.2.1, hf, by omega, by omega, e, by omega, ?_⟩
      walk_at "go"
      refine hs m rfl _ _ _ ⟨M, u, p, spreadF t fs, rfl, hM, ht.2.2, spread_ok t fs ht.2.1 hf, by omega, by omega, gup_same, by omega, ?_⟩
      walk_at "go"
      refine put_go hM (t := .op o t u) ht (by simp only [Tm.dep]; omega) (spread_ok u _ ht.2.2 (spread_ok t fs ht.2.1 hf)) gup_same (by omega) ?_
      rw [gup_gup]
      exact h
theorem ok_spread_n {P : Program} {w : World} {K : PySem.W.Frag} {mg : Str → Option Value} {base : Heap} {a : Ad} (T : Tx w K mg a) : ∀ n : Nat, FnD P w K mg base (n + 1) a.f_spread a.fd_spread ["term", "found"] (sp_spread n)
  | 0 => ok0_spread T (j := 0) fnd_never (by omega) (fun m e => by omega)
  | n + 1 => ok0_spread T (ok_spread_n T n) (by omega) (fun m e ds G R h => by
    have : n = m := by omega
    subst this
    exact h)
theorem ok_spread {P : Program} {w : World} {K : PySem.W.Frag} {mg : Str → Option Value} {base : Heap} {a : Ad} (T : Tx w K mg a) : FnD P w K mg base 8 a.f_spread a.fd_spread ["term", "found"] (sp_spread 7) := ok_spread_n T 7
theorem go_spread {M : Mach} {t : Tm} {p : Addr} {fs : List Tm} {G : Gp} {R : DK} (hM : M.ok) (ht : t.ok M) (hf : ∀ x ∈ fs, x.ok M) (hd : t.dep ≤ 7) (e : G p = some (.lst (fs.map Tm.d))) (hl : fs.length ≤ 9000) (k : R .non (gup G p (.lst ((spreadF t fs).map Tm.d)))) : sp_spread 7 [t.d, .ref p] G R := by
  have : 2 ^ t.dep ≤ 2 ^ 7 := Nat.pow_le_pow_right (by omega) hd
  exact ⟨M, t, p, fs, rfl, hM, ht, hf, hd, by omega, e, by omega, k⟩
end K42


set_option Elab.async false
set_option linter.all false
set_option maxRecDepth 100000
set_option maxHeartbeats 4000000
set_option autoImplicit false
namespace K42
open PySem PySem.Spec PyProof.Rows L2 DL
local macro_rules | `(tactic| walk_at "d") => `(tactic| dsimp only [dSeq, dNext, dIfS, dRet, dRetN, dAsg, dName, dVar, dC, dOp, dUn, dChain, dB, dAnd, dOr, dNot, dAndV, dOrV, dNotV, dIf, dNil, dCons, dTup, dLst, newL, dCallB, dCall, dCallK, dDrop, dAug, dAugS, dSub, dM, dM0, dSlice, dNoPart, dPart, dLc, dYes, dFor, dIter, dRng1, dEnum, dZipM, srcD, dStar, dInK, dIxK, dLenSet, dRev,
  startD, wipeD, setAll, dNames, List.map_cons, List.map_nil, List.length_cons, List.length_nil, List.replicate, List.cons_append, List.nil_append, List.append_nil, List.getElem?_cons_zero, List.getElem?_cons_succ, List.set_cons_zero, List.set_cons_succ, List.map, Nat.zero_add, Nat.reduceAdd, Nat.reduceSub, Nat.sub_self, Nat.succ_sub_succ_eq_sub])
local macro_rules | `(tactic| walk_at "o") => `(tactic| simp only [dAdd_ii, dAdd_ss, dAdd_tt, dAdd_ll, dMinus_ii, dMul_ii, dMod_ii, dFdiv_ii, dPow_ii, dShl_ii, dNeg_i, dIadd_ii, dLt_ii, dLe_ii, dGt_ii, dGe_ii, dEq_ii, dNe_ii, dEq_ss, dNe_ss, dEq_bb, dNe_bb, dIs_n, dIsNot_n, dMax2_ii, dMin2_ii, dTuple_t, dTuple_l, dList_t, dList_l, dIx_t, dIx_l, dIx_s, dSl_t, dSl_l, dSl_s, newL_f, len_tup, len_lst])
local macro_rules | `(tactic| walk_at "w") => `(tactic| dsimp only [x_var, x_c, x_op, x_un, x_b, x_and, x_or, x_not, x_chain, x_andV, x_orV, x_notV, x_if, x_nil, x_cons, x_tup, x_lst0, x_lst1, x_callB, x_call, x_callK, x_next, x_seq, x_break, x_cont, x_drop, x_ret, x_ifS, x_asg, x_name, x_names, x_sub, x_aug, x_augS, x_for, x_lc0, x_lc1, x_yes, x_noPart, x_part, x_slice, x_iter, it_t, it_l, it_n, it_s, it_r, x_rng1, x_enum, x_rev, x_m, x_m0, x_mX, x_zip, x_star_t, x_star_l, x_lenSet, x_forgo0, x_lcgo0, x_while, x_par, x_sortK,
  br_t, br_f, isB_bl, isI_int, isN_some, slo_some, atL_lst, ix_t, ix_l, ix_n,
  dAdd_ii, dAdd_ss, dAdd_tt, dAdd_ll, dMinus_ii, dMul_ii, dMod_ii, dFdiv_ii, dPow_ii, dShl_ii, dNeg_i, dIadd_ii, dLt_ii, dLe_ii, dGt_ii, dGe_ii, ltE_ii, ltE_ss, srcD, isi_i, isi_s, isi_b, isi_n, isi_t, isi_nt, isi_l, isi2_i, isi2_s, isi2_b, isi2_n, isi2_t, isi2_nt, isi2_l, inon_n, inon_i, inon_s, inon_b, inon_t, inon_l, inon_r, dEq_ii, dNe_ii, dEq_ss, dNe_ss, dEq_bb, dNe_bb, dIs_n, dIsNot_n, dMax2_ii, dMin2_ii, dTuple_t, dTuple_l, dList_t, dList_l, dSl_t, dSl_l, dSl_s, newL_f, newL_t, app_r, int_b, int_i, strI_i, strX_i, strX_s,
  startD, wipeD, setAll, permL, List.filterMap, List.map_cons, List.map_nil, List.length_cons, List.length_nil, List.replicate, List.cons_append, List.nil_append, List.append_nil, List.getElem?_cons_zero, List.getElem?_cons_succ, List.set_cons_zero, List.set_cons_succ, List.map, Nat.zero_add, Nat.reduceAdd, Nat.reduceSub, Nat.sub_self, Nat.succ_sub_succ_eq_sub])
local macro_rules | `(tactic| walk_at "v") => `(tactic| simp only [ofString_inj, String.reduceEq, at_0, at_1, at_2, at_3, at_4, at_5, isN_some, isBB_bl, isB_bl, br_t, br_f, br_not, br_and, br_or, br_dec, ix_r, len_tup, len_lst, len_nt, ltE_key, gup_gup, gup_same, starD_one, cut1, cut2, kt1, kt2, kt3, kt4, kt5, kt6, isTy, String.reduceBEq, Bool.or_false, Bool.false_or, Bool.true_or, Bool.or_true, Bool.and_false, Bool.false_and, Bool.true_and, Bool.and_true, Bool.not_true, Bool.not_false, decide_true, decide_false, eq_self_iff_true, Bool.false_eq_true, Int.reduceAdd, Int.add_zero, if_true, if_false, true_and, and_true])
local macro_rules | `(tactic| walk_at "side") => `(tactic| first | with_reducible assumption | omega | exact mty_up | exact True.intro | (simp only [List.mem_cons, ofString_inj, String.reduceEq, true_or, or_true, List.length_map]; done) | with_reducible exact (rfl : (_ : Nat) = _) | exact (rfl : (_ : Option String) = _) | (refine small_line ?_; omega) | (walk_at "ll"; first | omega | (refine small_line ?_; omega) | fail) | (exact log_small (by omega)) | fail)
local macro_rules | `(tactic| walk_at "x") => `(tactic| fail)
local macro_rules | `(tactic| walk_at "go") => `(tactic| repeat' (first | dsimp only [x_var, x_c, x_op, x_un, x_b, x_and, x_or, x_not, x_chain, x_andV, x_orV, x_notV, x_if, x_nil, x_cons, x_tup, x_lst0, x_lst1, x_callB, x_call, x_callK, x_next, x_seq, x_break, x_cont, x_drop, x_ret, x_ifS, x_asg, x_name, x_names, x_sub, x_aug, x_augS, x_for, x_lc0, x_lc1, x_yes, x_noPart, x_part, x_slice, x_iter, it_t, it_l, it_n, it_s, it_r, x_rng1, x_enum, x_rev, x_m, x_m0, x_mX, x_zip, x_star_t, x_star_l, x_lenSet, x_forgo0, x_lcgo0, x_while, x_par, x_sortK, br_t, br_f, isB_bl, isI_int, isN_some, slo_some, atL_lst, ix_t, ix_l, ix_n, dAdd_ii, dAdd_ss, dAdd_tt, dAdd_ll, dMinus_ii, dMul_ii, dMod_ii, dFdiv_ii, dPow_ii, dShl_ii, dNeg_i, dIadd_ii, dLt_ii, dLe_ii, dGt_ii, dGe_ii, ltE_ii, ltE_ss, srcD, isi_i, isi_s, isi_b, isi_n, isi_t, isi_nt, isi_l, isi2_i, isi2_s, isi2_b, isi2_n, isi2_t, isi2_nt, isi2_l, inon_n, inon_i, inon_s, inon_b, inon_t, inon_l, inon_r, dEq_ii, dNe_ii, dEq_ss, dNe_ss, dEq_bb, dNe_bb, dIs_n, dIsNot_n, dMax2_ii, dMin2_ii, dTuple_t, dTuple_l, dList_t, dList_l, dSl_t, dSl_l, dSl_s, newL_f, newL_t, app_r, int_b, int_i, strI_i, strX_i, strX_s, startD, wipeD, setAll, permL, List.filterMap, List.map_cons, List.map_nil, List.length_cons, List.length_nil, List.replicate, List.cons_append, List.nil_append, List.append_nil, List.getElem?_cons_zero, List.getElem?_cons_succ, List.set_cons_zero, List.set_cons_succ, List.map, Nat.zero_add, Nat.reduceAdd, Nat.reduceSub, Nat.sub_self, Nat.succ_sub_succ_eq_sub] | simp only [ofString_inj, String.reduceEq, at_0, at_1, at_2, at_3, at_4, at_5, isN_some, isBB_bl, isB_bl, br_t, br_f, br_not, br_and, br_or, br_dec, ix_r, len_tup, len_lst, len_nt, ltE_key, gup_gup, gup_same, starD_one, cut1, cut2, kt1, kt2, kt3, kt4, kt5, kt6, isTy, String.reduceBEq, Bool.or_false, Bool.false_or, Bool.true_or, Bool.or_true, Bool.and_false, Bool.false_and, Bool.true_and, Bool.and_true, Bool.not_true, Bool.not_false, decide_true, decide_false, eq_self_iff_true, Bool.false_eq_true, Int.reduceAdd, Int.add_zero, if_true, if_false, true_and, and_true] | walk_at "x" | with_reducible refine kont_go ?_ | with_reducible refine rt_sub (by assumption) ?_ | with_reducible refine rt_lst (by assumption) ?_ | with_reducible refine rt_drop (by assumption) ?_ | with_reducible refine rt_keep (by assumption) (by assumption) ?_ | with_reducible refine rt_same ?_ | (refine fun (p : Addr) (_ : _ = none) => ?_) | refine join_gor gup_same rfl (by walk_at "side") ?_ | with_reducible refine lc_cons ?_ | with_reducible refine for_cons ?_ | refine join_go rfl (by walk_at "side") ?_ | refine And.intro (by first | with_reducible assumption | omega | exact mty_up | exact True.intro | (simp only [List.mem_cons, ofString_inj, String.reduceEq, true_or, or_true, List.length_map]; done) | with_reducible exact (rfl : (_ : Nat) = _) | exact (rfl : (_ : Option String) = _) | (refine small_line ?_; omega) | (walk_at "ll"; first | omega | (refine small_line ?_; omega) | fail) | (exact log_small (by omega)) | fail) ?_ | fail))
local macro_rules | `(tactic| walk_at "ll") => `(tactic| simp only [List.length_map, List.length_append, List.length_cons, List.length_nil, List.map_cons, List.map_nil, List.sum_cons, List.sum_nil, len_app, rng_length, ll_0, ll_1, ll_2, ll_3, ll_4, ll_5, ll_6, ll_7, ll_8, ll_9, ll_10, ll_11, ll_12, ll_13, ll_14, ll_15, ll_16, ll_17, ll_18, ll_19, ll_20, ll_21, ll_22, ll_23, ll_24, ll_25, ll_26, ll_27, ll_28])
/-! ### meanings -/
inductive Mn where
  | doo (sets : List (Str × Tm)) (st : Option (Tm × Tm)) | ite (t : Tm) (m n : Mn)
def setD (p : Str × Tm) : D := .tup [.str p.1, p.2.d]
def stD (p : Tm × Tm) : D := .tup [p.1.d, p.2.d]
def Mn.d : Mn → D
  | .doo sets st => .tup [.str "do", .tup (sets.map setD), .tup (st.toList.map stD)]
  | .ite t m n => .tup [.str "if", t.d, m.d, n.d]
def Mn.lv : Mn → Nat
  | .doo _ _ => 0 | .ite _ m n => max m.lv n.lv + 1
/-- its terms are right, of few levels -/
def TOk (M : Mach) (t : Tm) : Prop := t.ok M ∧ t.dep ≤ 7
def Mn.ok (M : Mach) : Mn → Prop
  | .doo sets st => sets.length ≤ 6 ∧ (∀ p ∈ sets, TOk M p.2) ∧ (∀ p ∈ st, TOk M p.1 ∧ TOk M p.2) ∧ (∀ p ∈ sets, p.1 ∈ M.names) ∧ (sets.map (·.1)).Nodup
  | .ite t m n => TOk M t ∧ m.ok M ∧ n.ok M
def setsF (sets : List (Str × Tm)) (fs : List Tm) : List Tm := sets.foldl (fun fs p => spreadF p.2 fs) fs
def storeF (st : Option (Tm × Tm)) (fs : List Tm) : List Tm := match st with | none => fs | some p => spreadF p.2 (spreadF p.1 fs)
def termsF (sets : List (Str × Tm)) (st : Option (Tm × Tm)) : List Tm := storeF st (setsF sets [])
theorem spread_len7 {t : Tm} (h : t.dep ≤ 7) (fs : List Tm) : (spreadF t fs).length ≤ fs.length + 127 := by
  have h1 := spread_len t fs
  have : 2 ^ t.dep ≤ 2 ^ 7 := Nat.pow_le_pow_right (by omega) h
  omega
theorem setsF_len {M : Mach} : ∀ (sets : List (Str × Tm)) (fs : List Tm), (∀ p ∈ sets, TOk M p.2) → (setsF sets fs).length ≤ fs.length + 127 * sets.length
  | [], fs, _ => by simp [setsF]
  | p :: sets, fs, h => by
    have h1 := spread_len7 (h p List.mem_cons_self).2 fs
    have h2 := setsF_len sets (spreadF p.2 fs) fun q hq => h q (List.mem_cons_of_mem _ hq)
    simp only [setsF, List.foldl_cons, List.length_cons] at h2 ⊢
    omega
theorem setsF_ok {M : Mach} : ∀ (sets : List (Str × Tm)) (fs : List Tm), (∀ p ∈ sets, TOk M p.2) → (∀ x ∈ fs, x.ok M) → ∀ x ∈ setsF sets fs, x.ok M
  | [], fs, _, h => h
  | p :: sets, fs, h, hf => setsF_ok sets (spreadF p.2 fs) (fun q hq => h q (List.mem_cons_of_mem _ hq)) (spread_ok p.2 fs (h p List.mem_cons_self).1 hf)
local macro_rules | `(tactic| walk_at "x") => `(tactic| first | refine go_spread (by assumption) (by assumption) (by assumption) (by assumption) (by first | exact gup_same | assumption | fail) (by omega) ?_ | fail)
def sp_terms_of_do : DSp := fun ds G R => ∃ (M : Mach) (sets : List (Str × Tm)) (st : Option (Tm × Tm)), ds = [.tup (sets.map setD), .tup (st.toList.map stD)] ∧ M.ok ∧ (Mn.doo sets st).ok M ∧ R (.lst ((termsF sets st).map Tm.d)) G
theorem ok_terms_of_do {P : Program} {w : World} {K : PySem.W.Frag} {mg : Str → Option Value} {base : Heap} {a : Ad} (T : Tx w K mg a) : FnD P w K mg base 9 a.f_terms_of_do a.fd_terms_of_do ["sets", "stores"] sp_terms_of_do := by
  refine fun_okD T.F_terms_of_do sc_terms_of_do (fun ds G R h => ?_) (fun cdv A outer s H hr => ⟨_, (qss_cons (qs_set (i := 2) sc_terms_of_do.nd rfl (.inl rfl) (qe_lst true qa_nil))
      (qss_cons (qs_for PassesOwn.never rfl (qi_seq (qv 0)) (qg_of (pg_tup rfl (pgs_cons (pg_name (i := 3) sc_terms_of_do.nd rfl (.inl rfl)) (pgs_cons (pg_name (i := 4) sc_terms_of_do.nd rfl (.inl rfl)) pgs_nil))) (tg_names (is := [3, 4]) (ws := [3, 4]) (by decide) rfl))
      (qss_one (qs_expr (qe_call (ok_spread T) (hr.mono (by omega)) rfl T.g_spread T.F_spread.kp T.b_spread (qa_cons (qv 4) (qa_cons (qv 2) qa_nil))))))
      (qss_cons (qs_for PassesOwn.never rfl (qi_seq (qv 1)) (qg_of (pg_tup rfl (pgs_cons (pg_name (i := 5) sc_terms_of_do.nd rfl (.inl rfl)) (pgs_cons (pg_name (i := 4) sc_terms_of_do.nd rfl (.inl rfl)) pgs_nil))) (tg_names (is := [5, 4]) (ws := [5, 4]) (by decide) rfl))
      (qss_cons (qs_expr (qe_call (ok_spread T) (hr.mono (by omega)) rfl T.g_spread T.F_spread.kp T.b_spread (qa_cons (qv 5) (qa_cons (qv 2) qa_nil))))
      (qss_one (qs_expr (qe_call (ok_spread T) (hr.mono (by omega)) rfl T.g_spread T.F_spread.kp T.b_spread (qa_cons (qv 4) (qa_cons (qv 2) qa_nil)))))))
      (qss_one (qs_ret (qv 2)))))), fun ds G R h => ?_⟩)
  · obtain ⟨M, sets, st, rfl, _⟩ := h; rfl
  · obtain ⟨M, sets, st, rfl, hM, ⟨hl, hs1, hs2, _⟩, h⟩ := h
    walk_at "go"
    rename_i p np
    refine for_typ setD sets (fun k σ' G' => ∃ x3 x4, σ' = [some (.tup (sets.map setD)), some (.tup (st.toList.map stD)), some (.ref p), x3, x4, none] ∧ G' = gup G p (.lst ((setsF (sets.take k) []).map Tm.d))) (fun _ _ _ _ => trivial) ?turn ?fin _ _ ⟨none, none, rfl, rfl⟩
    case turn =>
      rintro k q σ' G' hq ⟨x3, x4, rfl, rfl⟩ N hN
      have hm := List.mem_of_getElem? hq
      have h1 := (hs1 q hm).1
      have h2 := (hs1 q hm).2
      have hsub : ∀ r ∈ sets.take k, TOk M r.2 := fun r hr => hs1 r (List.mem_of_mem_take hr)
      have hok := setsF_ok (sets.take k) [] hsub (fun x hx => by cases hx)
      have hlen := setsF_len (sets.take k) [] hsub
      have hkl : (sets.take k).length ≤ 6 := by rw [List.length_take]; omega
      simp only [List.length_nil] at hlen
      unfold setD
      walk_at "go"
      refine hN _ _ ⟨_, _, rfl, ?_⟩
      rw [List.take_succ, hq, setsF, setsF, List.foldl_append]
      rfl
    case fin =>
      rintro σ' G' ⟨x3, x4, rfl, rfl⟩
      rw [List.take_length]
      have hok := setsF_ok sets [] hs1 (fun x hx => by cases hx)
      have hlen := setsF_len sets [] hs1
      simp only [List.length_nil] at hlen
      walk_at "go"
      cases st with
      | none =>
        walk_at "go"
        exact h
      | some q =>
        obtain ⟨⟨h1, h2⟩, h3, h4⟩ := hs2 q rfl
        have hok2 := spread_ok q.1 _ h1 hok
        have hlen2 := spread_len7 h2 (setsF sets [])
        unfold stD
        walk_at "go"
        refine go_spread hM h1 hok h2 gup_same (by omega) ?_
        walk_at "go"
        exact h
theorem go_terms_do {M : Mach} {sets : List (Str × Tm)} {st : Option (Tm × Tm)} {G : Gp} {R : DK} (hM : M.ok) (h : (Mn.doo sets st).ok M) (k : R (.lst ((termsF sets st).map Tm.d)) G) : sp_terms_of_do [.tup (sets.map setD), .tup (st.toList.map stD)] G R := ⟨M, sets, st, rfl, hM, h, k⟩
def sp_terms_of_test : DSp := fun ds G R => ∃ (M : Mach) (t : Tm), ds = [t.d] ∧ M.ok ∧ TOk M t ∧ R (.lst ((spreadF t []).map Tm.d)) G
theorem ok_terms_of_test {P : Program} {w : World} {K : PySem.W.Frag} {mg : Str → Option Value} {base : Heap} {a : Ad} (T : Tx w K mg a) : FnD P w K mg base 9 a.f_terms_of_test a.fd_terms_of_test ["term"] sp_terms_of_test := by
  refine fun_okD T.F_terms_of_test sc_terms_of_test (fun ds G R h => ?_) (fun cdv A outer s H hr => ⟨_, (qss_cons (qs_set (i := 1) sc_terms_of_test.nd rfl (.inl rfl) (qe_lst true qa_nil))
      (qss_cons (qs_expr (qe_call (ok_spread T) (hr.mono (by omega)) rfl T.g_spread T.F_spread.kp T.b_spread (qa_cons (qv 0) (qa_cons (qv 1) qa_nil))))
      (qss_one (qs_ret (qv 1))))), fun ds G R h => ?_⟩)
  · obtain ⟨M, t, rfl, _⟩ := h; rfl
  · obtain ⟨M, t, rfl, hM, ⟨h1, h2⟩, h⟩ := h
    walk_at "go"
    rename_i p np
    refine go_spread hM h1 (fs := []) (fun x hx => by cases hx) h2 gup_same (by simp) ?_
    walk_at "go"
    exact h
theorem go_terms_test {M : Mach} {t : Tm} {G : Gp} {R : DK} (hM : M.ok) (h : TOk M t) (k : R (.lst ((spreadF t []).map Tm.d)) G) : sp_terms_of_test [t.d] G R := ⟨M, t, rfl, hM, h, k⟩
def Tm.isReg : Tm → Bool | .reg _ => true | _ => false
def copies (sets : List (Str × Tm)) : List Str := (sets.filter fun p => p.2.isReg).map (·.1)
def needsF : Mn → Nat
  | .doo sets st => (termsF sets st).length + (copies sets).length
  | .ite t m n => max (spreadF t []).length (max (needsF m) (needsF n))
def sp_needs (n : Nat) : DSp := fun ds G R => ∃ (M : Mach) (m : Mn), ds = [m.d] ∧ M.ok ∧ m.ok M ∧ m.lv ≤ n ∧ R (.int (needsF m : Nat)) G
theorem lc_flt' {α : Type} {g : DG} {tt : DT} {te : DE} {σ : Sd} {gd : Gp → Prop} {G : Gp} (d : α → D) (p : α → Option D) (hg : gd G) : ∀ (xs : List α) (acc : List D), (∀ x ∈ xs, ∀ (N : List D → Gp → Prop) (acc : List D), N (acc ++ (p x).toList) G → g (d x) σ G fun σ2 G2 => tt σ2 G2 fun b G3 => match b with | true => te σ2 G3 fun y G4 => N (acc ++ [y]) G4 | false => N acc G3) →
    ∀ Q : List D → Gp → Prop, Q (acc ++ xs.filterMap p) G → dLcGo g tt te gd σ (xs.map d) acc G Q
  | [], acc, _, Q, q => ⟨hg, by simpa using q⟩
  | x :: xs, acc, h, Q, q => by
    refine ⟨hg, h x List.mem_cons_self (fun acc' G' => dLcGo g tt te gd σ (xs.map d) acc' G' Q) acc (lc_flt' d p hg xs _ (fun y hy => h y (List.mem_cons_of_mem _ hy)) Q ?_)⟩
    cases e : p x with
    | none => simpa [List.filterMap_cons, e] using q
    | some y => simpa [List.filterMap_cons, e] using q
theorem copies_eq (sets : List (Str × Tm)) : sets.filterMap (fun p => if p.2.isReg = true then some (D.str p.1) else none) = (copies sets).map D.str := by
  unfold copies
  induction sets with
  | nil => rfl
  | cons p sets ih =>
    rw [List.filterMap_cons, List.filter_cons]
    by_cases h : p.2.isReg = true
    · simp only [if_pos h, List.map_cons, ih]
    · simp only [if_neg h, ih]
theorem ix_head {t : Tm} {G : Gp} {R : Bool → Gp → Prop} {M : Mach} (ht : t.ok M) (k : R t.isReg G) : dIx t.d (.int 0) G fun x G1 => dEq x (.str "reg") G1 fun x G2 => isB x fun b => R b G2 := by
  cases t with
  | num w => exact k
  | reg w => exact k
  | load w => exact k
  | op o w u =>
    have : decide (o = Str.ofString "reg") = false := decide_eq_false (op_ne o ht.1).1
    show R (decide (o = Str.ofString "reg")) G
    rw [this]; exact k
theorem ok0_needs {P : Program} {w : World} {K : PySem.W.Frag} {mg : Str → Option Value} {base : Heap} {a : Ad} (T : Tx w K mg a) {n j : Nat} {sp' : DSp} (ih : FnD P w K mg base j a.f_needs a.fd_needs ["meaning"] sp') (hj : j ≤ n + 9) (hs : ∀ m, n = m + 1 → ∀ ds G R, sp_needs m ds G R → sp' ds G R) : FnD P w K mg base (n + 10) a.f_needs a.fd_needs ["meaning"] (sp_needs n) := by
  refine fun_okD T.F_needs sc_needs (fun ds G R h => ?_) (fun cdv A outer s H hr => ⟨_, (qss_cons (qs_if (qt_cmp (od_eq hr.units) (qe_ix xd_ix (qv 0) qe_int (fun _ _ => rfl)) qe_str (nomark _))
      (qss_cons (qs_asg (qv 0) (qg_of (pg_tup rfl (pgs_cons (pg_name (i := 1) sc_needs.nd rfl (.inl rfl)) (pgs_cons (pg_name (i := 2) sc_needs.nd rfl (.inl rfl)) (pgs_cons (pg_name (i := 3) sc_needs.nd rfl (.inl rfl)) pgs_nil)))) (tg_names (is := [1, 2, 3]) (ws := [1, 2, 3]) (by decide) rfl)))
      (qss_one (qs_ret (qe_op (od_add false) (qe_callB cd_len rfl T.n_len (by decide +kernel) (qa_cons (qe_call (ok_terms_of_do T) (hr.mono (by omega)) rfl T.g_terms_of_do T.F_terms_of_do.kp T.b_terms_of_do (qa_cons (qv 2) (qa_cons (qv 3) qa_nil))) qa_nil)) (qe_callB cd_len rfl T.n_len (by decide +kernel) (qa_cons (qe_lc false rfl sc_needs.nd (qi_seq (qv 2)) (blkOk_by (own := [("name", 7), ("term", 8)]) (N := N_needs) (sc := defScope s_needs) (by decide +kernel)) (fun _ _ _ _ _ => (pg_tup rfl (pgs_cons (pg_name (i := 7) sc_needs.nd rfl (.inl rfl)) (pgs_cons (pg_name (i := 8) sc_needs.nd rfl (.inl rfl)) pgs_nil)))) (tg_names (is := [7, 8]) (by decide) rfl) (fun _ _ _ _ _ => (qts_one (qt_cmp (od_eq hr.units) (qe_ix xd_ix (qv 8) qe_int (fun _ _ => rfl)) qe_str (nomark _)))) (fun _ _ _ _ _ => (qv 7))) qa_nil))))))
      qss_nil)
      (qss_cons (qs_asg (qv 0) (qg_of (pg_tup rfl (pgs_cons (pg_name (i := 1) sc_needs.nd rfl (.inl rfl)) (pgs_cons (pg_name (i := 4) sc_needs.nd rfl (.inl rfl)) (pgs_cons (pg_name (i := 5) sc_needs.nd rfl (.inl rfl)) (pgs_cons (pg_name (i := 6) sc_needs.nd rfl (.inl rfl)) pgs_nil))))) (tg_names (is := [1, 4, 5, 6]) (ws := [1, 4, 5, 6]) (by decide) rfl)))
      (qss_one (qs_ret (qe_callB (cd_max3 rfl) rfl T.n_max (by decide +kernel) (qa_cons (qe_callB cd_len rfl T.n_len (by decide +kernel) (qa_cons (qe_call (ok_terms_of_test T) (hr.mono (by omega)) rfl T.g_terms_of_test T.F_terms_of_test.kp T.b_terms_of_test (qa_cons (qv 4) qa_nil)) qa_nil)) (qa_cons (qe_call ih (hr.mono (by omega)) rfl T.g_needs T.F_needs.kp T.b_needs (qa_cons (qv 5) qa_nil)) (qa_cons (qe_call ih (hr.mono (by omega)) rfl T.g_needs T.F_needs.kp T.b_needs (qa_cons (qv 6) qa_nil)) qa_nil)))))))), fun ds G R h => ?_⟩)
  · obtain ⟨M, m, rfl, _⟩ := h; rfl
  · obtain ⟨M, m, rfl, hM, hm, hd, h⟩ := h
    cases m with
    | doo sets st =>
      have hl := hm.1
      have hs1 := hm.2.1
      unfold Mn.d
      walk_at "go"
      refine go_terms_do hM hm ?_
      walk_at "go"
      refine lc_flt' setD (fun p => if p.2.isReg = true then some (D.str p.1) else none) True.intro sets [] (fun q hq N acc k => ?_) _ ?_
      · unfold setD
        walk_at "go"
        refine ix_head (hs1 q hq).1 ?_
        cases c : q.2.isReg with
        | true => rw [c] at k; simpa using k
        | false => rw [c] at k; simpa using k
      rw [List.nil_append, copies_eq]
      walk_at "go"
      simp only [List.length_map]
      exact h
    | ite t m1 m2 =>
      simp only [Mn.lv] at hd
      obtain ⟨j', rfl⟩ : ∃ m, n = m + 1 := ⟨n - 1, by omega⟩
      unfold Mn.d
      walk_at "go"
      refine go_terms_test hM hm.1 ?_
      walk_at "go"
      refine hs j' rfl _ _ _ ⟨M, m1, rfl, hM, hm.2.1, by omega, ?_⟩
      walk_at "go"
      refine hs j' rfl _ _ _ ⟨M, m2, rfl, hM, hm.2.2, by omega, ?_⟩
      walk_at "go"
      rw [max3_go]
      walk_at "go"
      simp only [List.length_map, needsF] at h ⊢
      have e : ∀ a b c : Nat, max (a : Int) (max (b : Int) (c : Int)) = ((max a (max b c) : Nat) : Int) := fun a b c => by omega
      rw [e]
      exact h
theorem ok_needs_n {P : Program} {w : World} {K : PySem.W.Frag} {mg : Str → Option Value} {base : Heap} {a : Ad} (T : Tx w K mg a) : ∀ n : Nat, FnD P w K mg base (n + 10) a.f_needs a.fd_needs ["meaning"] (sp_needs n)
  | 0 => ok0_needs T (j := 0) fnd_never (by omega) (fun m e => by omega)
  | n + 1 => ok0_needs T (ok_needs_n T n) (by omega) (fun m e ds G R h => by
    have : n = m := by omega
    subst this
    exact h)
theorem ok_needs {P : Program} {w : World} {K : PySem.W.Frag} {mg : Str → Option Value} {base : Heap} {a : Ad} (T : Tx w K mg a) : FnD P w K mg base 17 a.f_needs a.fd_needs ["meaning"] (sp_needs 7) := ok_needs_n T 7
theorem go_needs {M : Mach} {m : Mn} {G : Gp} {R : DK} (hM : M.ok) (hm : m.ok M) (hl : m.lv ≤ 7) (k : R (.int (needsF m : Nat)) G) : sp_needs 7 [m.d] G R := ⟨M, m, rfl, hM, hm, hl, k⟩
end K42


set_option Elab.async false
set_option linter.all false
set_option maxRecDepth 100000
set_option maxHeartbeats 4000000
set_option autoImplicit false
namespace K42
open PySem PySem.Spec PyProof.Rows L2 DL
local macro_rules | `(tactic| walk_at "d") => `(tactic| dsimp only [dSeq, dNext, dIfS, dRet, dRetN, dAsg, dName, dVar, dC, dOp, dUn, dChain, dB, dAnd, dOr, dNot, dAndV, dOrV, dNotV, dIf, dNil, dCons, dTup, dLst, newL, dCallB, dCall, dCallK, dDrop, dAug, dAugS, dSub, dM, dM0, dSlice, dNoPart, dPart, dLc, dYes, dFor, dIter, dRng1, dEnum, dZipM, srcD, dStar, dInK, dIxK, dLenSet, dRev,
  startD, wipeD, setAll, dNames, List.map_cons, List.map_nil, List.length_cons, List.length_nil, List.replicate, List.cons_append, List.nil_append, List.append_nil, List.getElem?_cons_zero, List.getElem?_cons_succ, List.set_cons_zero, List.set_cons_succ, List.map, Nat.zero_add, Nat.reduceAdd, Nat.reduceSub, Nat.sub_self, Nat.succ_sub_succ_eq_sub])
local macro_rules | `(tactic| walk_at "o") => `(tactic| simp only [dAdd_ii, dAdd_ss, dAdd_tt, dAdd_ll, dMinus_ii, dMul_ii, dMod_ii, dFdiv_ii, dPow_ii, dShl_ii, dNeg_i, dIadd_ii, dLt_ii, dLe_ii, dGt_ii, dGe_ii, dEq_ii, dNe_ii, dEq_ss, dNe_ss, dEq_bb, dNe_bb, dIs_n, dIsNot_n, dMax2_ii, dMin2_ii, dTuple_t, dTuple_l, dList_t, dList_l, dIx_t, dIx_l, dIx_s, dSl_t, dSl_l, dSl_s, newL_f, len_tup, len_lst])
local macro_rules | `(tactic| walk_at "w") => `(tactic| dsimp only [x_var, x_c, x_op, x_un, x_b, x_and, x_or, x_not, x_chain, x_andV, x_orV, x_notV, x_if, x_nil, x_cons, x_tup, x_lst0, x_lst1, x_callB, x_call, x_callK, x_next, x_seq, x_break, x_cont, x_drop, x_ret, x_ifS, x_asg, x_name, x_names, x_sub, x_aug, x_augS, x_for, x_lc0, x_lc1, x_yes, x_noPart, x_part, x_slice, x_iter, it_t, it_l, it_n, it_s, it_r, x_rng1, x_enum, x_rev, x_m, x_m0, x_mX, x_zip, x_star_t, x_star_l, x_lenSet, x_forgo0, x_lcgo0, x_while, x_par, x_sortK,
  br_t, br_f, isB_bl, isI_int, isN_some, slo_some, atL_lst, ix_t, ix_l, ix_n,
  dAdd_ii, dAdd_ss, dAdd_tt, dAdd_ll, dMinus_ii, dMul_ii, dMod_ii, dFdiv_ii, dPow_ii, dShl_ii, dNeg_i, dIadd_ii, dLt_ii, dLe_ii, dGt_ii, dGe_ii, ltE_ii, ltE_ss, srcD, isi_i, isi_s, isi_b, isi_n, isi_t, isi_nt, isi_l, isi2_i, isi2_s, isi2_b, isi2_n, isi2_t, isi2_nt, isi2_l, inon_n, inon_i, inon_s, inon_b, inon_t, inon_l, inon_r, dEq_ii, dNe_ii, dEq_ss, dNe_ss, dEq_bb, dNe_bb, dIs_n, dIsNot_n, dMax2_ii, dMin2_ii, dTuple_t, dTuple_l, dList_t, dList_l, dSl_t, dSl_l, dSl_s, newL_f, newL_t, app_r, int_b, int_i, strI_i, strX_i, strX_s,
  startD, wipeD, setAll, permL, List.filterMap, List.map_cons, List.map_nil, List.length_cons, List.length_nil, List.replicate, List.cons_append, List.nil_append, List.append_nil, List.getElem?_cons_zero, List.getElem?_cons_succ, List.set_cons_zero, List.set_cons_succ, List.map, Nat.zero_add, Nat.reduceAdd, Nat.reduceSub, Nat.sub_self, Nat.succ_sub_succ_eq_sub])
local macro_rules | `(tactic| walk_at "v") => `(tactic| simp only [ofString_inj, String.reduceEq, at_0, at_1, at_2, at_3, at_4, at_5, isN_some, isBB_bl, isB_bl, br_t, br_f, br_not, br_and, br_or, br_dec, ix_r, len_tup, len_lst, len_nt, ltE_key, gup_gup, gup_same, starD_one, cut1, cut2, kt1, kt2, kt3, kt4, kt5, kt6, isTy, String.reduceBEq, Bool.or_false, Bool.false_or, Bool.true_or, Bool.or_true, Bool.and_false, Bool.false_and, Bool.true_and, Bool.and_true, Bool.not_true, Bool.not_false, decide_true, decide_false, eq_self_iff_true, Bool.false_eq_true, Int.reduceAdd, Int.add_zero, if_true, if_false, true_and, and_true])
local macro_rules | `(tactic| walk_at "side") => `(tactic| first | with_reducible assumption | omega | exact mty_up | exact True.intro | (simp only [List.mem_cons, ofString_inj, String.reduceEq, true_or, or_true, List.length_map]; done) | with_reducible exact (rfl : (_ : Nat) = _) | exact (rfl : (_ : Option String) = _) | (refine small_line ?_; omega) | (walk_at "ll"; first | omega | (refine small_line ?_; omega) | fail) | (exact log_small (by omega)) | fail)
local macro_rules | `(tactic| walk_at "x") => `(tactic| fail)
local macro_rules | `(tactic| walk_at "go") => `(tactic| repeat' (first | dsimp only [x_var, x_c, x_op, x_un, x_b, x_and, x_or, x_not, x_chain, x_andV, x_orV, x_notV, x_if, x_nil, x_cons, x_tup, x_lst0, x_lst1, x_callB, x_call, x_callK, x_next, x_seq, x_break, x_cont, x_drop, x_ret, x_ifS, x_asg, x_name, x_names, x_sub, x_aug, x_augS, x_for, x_lc0, x_lc1, x_yes, x_noPart, x_part, x_slice, x_iter, it_t, it_l, it_n, it_s, it_r, x_rng1, x_enum, x_rev, x_m, x_m0, x_mX, x_zip, x_star_t, x_star_l, x_lenSet, x_forgo0, x_lcgo0, x_while, x_par, x_sortK, br_t, br_f, isB_bl, isI_int, isN_some, slo_some, atL_lst, ix_t, ix_l, ix_n, dAdd_ii, dAdd_ss, dAdd_tt, dAdd_ll, dMinus_ii, dMul_ii, dMod_ii, dFdiv_ii, dPow_ii, dShl_ii, dNeg_i, dIadd_ii, dLt_ii, dLe_ii, dGt_ii, dGe_ii, ltE_ii, ltE_ss, srcD, isi_i, isi_s, isi_b, isi_n, isi_t, isi_nt, isi_l, isi2_i, isi2_s, isi2_b, isi2_n, isi2_t, isi2_nt, isi2_l, inon_n, inon_i, inon_s, inon_b, inon_t, inon_l, inon_r, dEq_ii, dNe_ii, dEq_ss, dNe_ss, dEq_bb, dNe_bb, dIs_n, dIsNot_n, dMax2_ii, dMin2_ii, dTuple_t, dTuple_l, dList_t, dList_l, dSl_t, dSl_l, dSl_s, newL_f, newL_t, app_r, int_b, int_i, strI_i, strX_i, strX_s, startD, wipeD, setAll, permL, List.filterMap, List.map_cons, List.map_nil, List.length_cons, List.length_nil, List.replicate, List.cons_append, List.nil_append, List.append_nil, List.getElem?_cons_zero, List.getElem?_cons_succ, List.set_cons_zero, List.set_cons_succ, List.map, Nat.zero_add, Nat.reduceAdd, Nat.reduceSub, Nat.sub_self, Nat.succ_sub_succ_eq_sub] | simp only [ofString_inj, String.reduceEq, at_0, at_1, at_2, at_3, at_4, at_5, isN_some, isBB_bl, isB_bl, br_t, br_f, br_not, br_and, br_or, br_dec, ix_r, len_tup, len_lst, len_nt, ltE_key, gup_gup, gup_same, starD_one, cut1, cut2, kt1, kt2, kt3, kt4, kt5, kt6, isTy, String.reduceBEq, Bool.or_false, Bool.false_or, Bool.true_or, Bool.or_true, Bool.and_false, Bool.false_and, Bool.true_and, Bool.and_true, Bool.not_true, Bool.not_false, decide_true, decide_false, eq_self_iff_true, Bool.false_eq_true, Int.reduceAdd, Int.add_zero, if_true, if_false, true_and, and_true] | walk_at "x" | with_reducible refine kont_go ?_ | with_reducible refine rt_sub (by assumption) ?_ | with_reducible refine rt_lst (by assumption) ?_ | with_reducible refine rt_drop (by assumption) ?_ | with_reducible refine rt_keep (by assumption) (by assumption) ?_ | with_reducible refine rt_same ?_ | (refine fun (p : Addr) (_ : _ = none) => ?_) | refine join_gor gup_same rfl (by walk_at "side") ?_ | with_reducible refine lc_cons ?_ | with_reducible refine for_cons ?_ | refine join_go rfl (by walk_at "side") ?_ | refine And.intro (by first | with_reducible assumption | omega | exact mty_up | exact True.intro | (simp only [List.mem_cons, ofString_inj, String.reduceEq, true_or, or_true, List.length_map]; done) | with_reducible exact (rfl : (_ : Nat) = _) | exact (rfl : (_ : Option String) = _) | (refine small_line ?_; omega) | (walk_at "ll"; first | omega | (refine small_line ?_; omega) | fail) | (exact log_small (by omega)) | fail) ?_ | fail))
local macro_rules | `(tactic| walk_at "ll") => `(tactic| simp only [List.length_map, List.length_append, List.length_cons, List.length_nil, List.map_cons, List.map_nil, List.sum_cons, List.sum_nil, len_app, rng_length, ll_0, ll_1, ll_2, ll_3, ll_4, ll_5, ll_6, ll_7, ll_8, ll_9, ll_10, ll_11, ll_12, ll_13, ll_14, ll_15, ll_16, ll_17, ll_18, ll_19, ll_20, ll_21, ll_22, ll_23, ll_24, ll_25, ll_26, ll_27, ll_28])
/-! ### terms drawn and counted -/
theorem isi_tm (t : Tm) {G : Gp} {R : DK} : dIsiX [t.d, .ty "tuple"] G R = R (.bl true) G := by
  cases t <;> exact propext ⟨fun h => h.2, fun h => ⟨by decide, h⟩⟩
def sp__law_deep (n : Nat) : DSp := fun ds G R => ∃ (M : Mach) (t : Tm), ds = [t.d] ∧ t.ok M ∧ t.dep ≤ n ∧ R (.int (t.dep : Nat)) G
local macro_rules | `(tactic| walk_at "x") => `(tactic| first | simp only [isi_tm, x_maxDef] | fail)
theorem ok0__law_deep {P : Program} {w : World} {K : PySem.W.Frag} {mg : Str → Option Value} {base : Heap} {a : Ad} (T : Tx w K mg a) {n j : Nat} {sp' : DSp} (ih : FnD P w K mg base j a.f__law_deep a.fd__law_deep ["term"] sp') (hj : j ≤ n + 0) (hs : ∀ m, n = m + 1 → ∀ ds G R, sp__law_deep m ds G R → sp' ds G R) : FnD P w K mg base (n + 1) a.f__law_deep a.fd__law_deep ["term"] (sp__law_deep n) := by
  refine fun_okD T.F__law_deep sc__law_deep (fun ds G R h => ?_) (fun cdv A outer s H hr => ⟨_, (qss_one (qs_ret (qe_op (od_add false) qe_int (qe_maxDef rfl (room100 hr) rfl T.n_max (qe_lc false rfl sc__law_deep.nd (qi_seq (qe_slice false (qv 0) (qo_some qe_int) qo_none)) (blkOk_by (own := [("part", 1)]) (N := N__law_deep) (sc := defScope s__law_deep) (by decide +kernel)) (fun _ _ _ _ _ => (pg_name (i := 1) sc__law_deep.nd rfl (.inl rfl))) (tg_name (i := 1) (by decide)) (fun _ _ _ _ _ => (qts_one (qt_val (qe_callB cd_isiX rfl T.n_isinstance (by decide +kernel) (qa_cons (qv 1) (qa_cons (qe_ty (n := "tuple") rfl T.n_tuple (by decide +kernel)) qa_nil)))))) (fun _ _ _ _ _ => (qe_call ih (hr.mono (by omega)) rfl T.g__law_deep T.F__law_deep.kp T.b__law_deep (qa_cons (qv 1) qa_nil)))) qe_int)))), fun ds G R h => ?_⟩)
  · obtain ⟨M, t, rfl, _⟩ := h; rfl
  · obtain ⟨M, t, rfl, ht, hd, h⟩ := h
    have e1 : ∀ k : Nat, (1 : Int) + (k : Int) = ((k + 1 : Nat) : Int) := fun k => by omega
    cases t with
    | num w =>
      unfold Tm.d
      walk_at "go"
      exact maxDef_go (ns := []) (by walk_at "go"; exact h)
    | reg w =>
      unfold Tm.d
      walk_at "go"
      exact maxDef_go (ns := []) (by walk_at "go"; exact h)
    | load t =>
      simp only [Tm.dep] at hd h
      obtain ⟨j', rfl⟩ : ∃ m, n = m + 1 := ⟨n - 1, by omega⟩
      unfold Tm.d
      walk_at "go"
      refine hs j' rfl _ _ _ ⟨M, t, rfl, ht, by omega, ?_⟩
      walk_at "go"
      refine maxDef_go (ns := [(t.dep : Int)]) ?_
      walk_at "go"
      rw [← e1] at h
      exact h
    | op o t u =>
      simp only [Tm.dep] at hd h
      obtain ⟨j', rfl⟩ : ∃ m, n = m + 1 := ⟨n - 1, by omega⟩
      unfold Tm.d
      walk_at "go"
      refine hs j' rfl _ _ _ ⟨M, t, rfl, ht.2.1, by omega, ?_⟩
      walk_at "go"
      refine hs j' rfl _ _ _ ⟨M, u, rfl, ht.2.2, by omega, ?_⟩
      walk_at "go"
      refine maxDef_go (ns := [(t.dep : Int), (u.dep : Int)]) ?_
      walk_at "go"
      rw [← e1] at h
      have : maxI 0 [(t.dep : Int), (u.dep : Int)] = ((max t.dep u.dep : Nat) : Int) := by simp only [maxI, List.foldl_cons, List.foldl_nil]; split <;> omega
      rw [this]
      exact h
theorem ok__law_deep_n {P : Program} {w : World} {K : PySem.W.Frag} {mg : Str → Option Value} {base : Heap} {a : Ad} (T : Tx w K mg a) : ∀ n : Nat, FnD P w K mg base (n + 1) a.f__law_deep a.fd__law_deep ["term"] (sp__law_deep n)
  | 0 => ok0__law_deep T (j := 0) fnd_never (by omega) (fun m e => by omega)
  | n + 1 => ok0__law_deep T (ok__law_deep_n T n) (by omega) (fun m e ds G R h => by
    have : n = m := by omega
    subst this
    exact h)
theorem ok__law_deep {P : Program} {w : World} {K : PySem.W.Frag} {mg : Str → Option Value} {base : Heap} {a : Ad} (T : Tx w K mg a) : FnD P w K mg base 8 a.f__law_deep a.fd__law_deep ["term"] (sp__law_deep 7) := ok__law_deep_n T 7
theorem go_deep {M : Mach} {t : Tm} {G : Gp} {R : DK} (ht : t.ok M) (hd : t.dep ≤ 7) (k : R (.int (t.dep : Nat)) G) : sp__law_deep 7 [t.d] G R := ⟨M, t, rfl, ht, hd, k⟩
local macro_rules | `(tactic| walk_at "x") => `(tactic| first
  | refine go_draw (by first | exact gup_same | assumption | fail) (by assumption) (by omega) (by walk_at "side") (by walk_at "side") fun _ _ _ _ => ?_
  | refine go_word (by assumption) (by first | exact gup_same | assumption | fail) (by assumption) (by omega) fun _ _ _ _ => ?_
  | fail)
def sp__law_leaf : DSp := fun ds G R => ∃ s M n o, ds = [.ref s, Mach.d M] ∧ M.ok ∧ G s = some o ∧ BagO n o ∧ n ≤ 890000 ∧ ∀ (t : Tm) o', t.ok M → t.dep = 1 → BagO (n + 4) o' → R t.d (gup G s o')
theorem ok__law_leaf {P : Program} {w : World} {K : PySem.W.Frag} {mg : Str → Option Value} {base : Heap} {a : Ad} (T : Tx w K mg a) : FnD P w K mg base 3 a.f__law_leaf a.fd__law_leaf ["bag", "kit"] sp__law_leaf := by
  refine fun_okD T.F__law_leaf sc__law_leaf (fun ds G R h => ?_) (fun cdv A outer s H hr => ⟨_, (qss_cons (qs_if (qt_cmp (od_eq hr.units) (qe_call (ok__law_draw T) (hr.mono (by omega)) rfl T.g__law_draw T.F__law_draw.kp T.b__law_draw (qa_cons (qv 0) (qa_cons qe_int qa_nil))) qe_int (nomark _))
      (qss_one (qs_ret (qe_tup (qa_cons qe_str (qa_cons (qe_call (ok__law_word T) (hr.mono (by omega)) rfl T.g__law_word T.F__law_word.kp T.b__law_word (qa_cons (qv 0) (qa_cons (qv 1) qa_nil))) qa_nil)))))
      qss_nil)
      (qss_one (qs_ret (qe_tup (qa_cons qe_str (qa_cons (qe_ix xd_ix (qe_ix xd_ix (qv 1) qe_int (fun _ _ => rfl)) (qe_call (ok__law_draw T) (hr.mono (by omega)) rfl T.g__law_draw T.F__law_draw.kp T.b__law_draw (qa_cons (qv 0) (qa_cons (qe_callB cd_len rfl T.n_len (by decide +kernel) (qa_cons (qe_ix xd_ix (qv 1) qe_int (fun _ _ => rfl)) qa_nil)) qa_nil))) (fun _ _ => rfl)) qa_nil)))))), fun ds G R h => ?_⟩)
  · obtain ⟨s, M, n, o, rfl, _⟩ := h; rfl
  · obtain ⟨s, M, n, o, rfl, hM, e, ho, hn, h⟩ := h
    have hn1 := hM.n1; have hn2 := hM.n2
    walk_at "go"
    rename_i r o1 hr ho1
    split
    · walk_at "go"
      rename_i v o2 hv ho2
      exact h (.num v) o2 hv rfl (ho2.mono (by omega))
    · unfold Mach.d
      walk_at "go"
      rename_i r2 o2 hr2 ho2
      have hl : r2 < M.names.length := by omega
      rw [atI_nat (j := r2) (v := .str M.names[r2]) (by rw [List.getElem?_map, List.getElem?_eq_getElem hl]; rfl)]
      walk_at "go"
      exact h (.reg M.names[r2]) o2 (List.getElem_mem hl) rfl (ho2.mono (by omega))
theorem go_leaf {s : Addr} {M : Mach} {G : Gp} {R : DK} {o : GO} {n : Nat} (hM : M.ok) (e : G s = some o) (h : BagO n o) (hn : n ≤ 890000) (k : ∀ (t : Tm) o', t.ok M → t.dep = 1 → BagO (n + 4) o' → R t.d (gup G s o')) : sp__law_leaf [.ref s, M.d] G R := ⟨s, M, n, o, rfl, hM, e, h, hn, k⟩
def bud : Nat → Nat
  | 0 => 6 | n + 1 => 2 * bud n + 6
def plen : Nat → Nat
  | 0 => 0 | n + 1 => 2 * plen n + 1
theorem bud_pos (n : Nat) : 6 ≤ bud n := by cases n <;> simp [bud]
theorem bud7 {n : Nat} (h : n ≤ 7) : bud n ≤ 1530 ∧ plen n ≤ 127 := by
  rcases (show n = 0 ∨ n = 1 ∨ n = 2 ∨ n = 3 ∨ n = 4 ∨ n = 5 ∨ n = 6 ∨ n = 7 by omega) with rfl | rfl | rfl | rfl | rfl | rfl | rfl | rfl <;> decide
/-- terms that were there -/
def PoolOk (M : Mach) (ps : List Tm) : Prop := ∀ t ∈ ps, TOk M t
def sp__law_term (n : Nat) : DSp := fun ds G R => ∃ (s p : Addr) (M : Mach) (k : Nat) (o : GO) (left : Int) (ps : List Tm), ds = [.ref s, M.d, .int left, .ref p] ∧ M.ok ∧ left ≤ n ∧ -100 ≤ left ∧ n ≤ 7 ∧ s ≠ p ∧ G s = some o ∧ BagO k o ∧ k + bud n ≤ 800000 ∧ G p = some (.lst (ps.map Tm.d)) ∧ PoolOk M ps ∧ ps.length + plen n ≤ 900 ∧
  ∀ (t : Tm) (ps' : List Tm) (o' : GO), t.ok M → (t.dep : Int) ≤ max 1 left → PoolOk M ps' → ps'.length ≤ ps.length + plen n → BagO (k + bud n) o' → R t.d (gup (gup G p (.lst (ps'.map Tm.d))) s o')
theorem gnorm {G : Gp} {s p : Addr} {a b c : GO} (h : s ≠ p) : gup (gup (gup G s a) p b) s c = gup (gup G p b) s c := by
  funext x
  unfold gup
  by_cases e1 : x = s
  · simp only [if_pos e1]
  · by_cases e2 : x = p
    · simp only [if_neg e1, if_pos e2]
    · simp only [if_neg e1, if_neg e2]
theorem gnorm2 {G : Gp} {s p : Addr} {a b c d : GO} (h : s ≠ p) : gup (gup (gup (gup G p a) s b) p c) s d = gup (gup G p c) s d := by rw [gnorm h, gup_gup]
theorem tms_dep {M : Mach} (hM : M.ok) : ∀ {fs : List Tm}, PoolOk M fs → depDs (fs.map Tm.d) ≤ 7
  | [], _ => by simp [depDs]
  | t :: fs, h => by
    have h1 := (Tm.py hM (h t List.mem_cons_self).1).2
    have h2 := (h t List.mem_cons_self).2
    have h3 := tms_dep hM fun x hx => h x (List.mem_cons_of_mem _ hx)
    simp only [List.map_cons, depDs]
    omega
theorem ne_tms {M : Mach} (hM : M.ok) {fs : List Tm} (h : PoolOk M fs) {G : Gp} {R : DK} (k : R (.bl (!decide (fs = []))) G) : dNe (.lst (fs.map Tm.d)) (.lst []) G R := by
  have hd := tms_dep hM h
  refine (eqW_pure (by simpa only [pyD] using tms_py hM fun x hx => (h x hx).1) rfl (by simp only [depD]; omega) (by simp [depD, depDs])).mpr ?_
  have : eqD (.lst (fs.map Tm.d)) (.lst []) = decide (fs = []) := by cases fs <;> simp [eqD, eqDs]
  rw [this]; exact k
theorem sel_eq (left : Int) (ps : List Tm) : ps.filterMap (fun t => if (t.dep : Int) ≤ left then some t.d else none) = (ps.filter fun t => decide ((t.dep : Int) ≤ left)).map Tm.d := by
  induction ps with
  | nil => rfl
  | cons t ps ih =>
    rw [List.filterMap_cons, List.filter_cons]
    by_cases h : (t.dep : Int) ≤ left
    · simp only [if_pos h, decide_eq_true h, if_true, List.map_cons, ih]
    · simp only [if_neg h, decide_eq_false h, Bool.false_eq_true, if_false, ih]
theorem ok0__law_term {P : Program} {w : World} {K : PySem.W.Frag} {mg : Str → Option Value} {base : Heap} {a : Ad} (T : Tx w K mg a) {n j : Nat} {sp' : DSp} (ih : FnD P w K mg base j a.f__law_term a.fd__law_term ["bag", "kit", "left", "pool"] sp') (hj : j ≤ n + 8) (hs : ∀ m, n = m + 1 → ∀ ds G R, sp__law_term m ds G R → sp' ds G R) : FnD P w K mg base (n + 9) a.f__law_term a.fd__law_term ["bag", "kit", "left", "pool"] (sp__law_term n) := by
  refine fun_okD T.F__law_term sc__law_term (fun ds G R h => ?_) (fun cdv A outer s H hr => ⟨_, (qss_cons (qs_set (i := 4) sc__law_term.nd rfl (.inl rfl) (qe_call (ok__law_draw T) (hr.mono (by omega)) rfl T.g__law_draw T.F__law_draw.kp T.b__law_draw (qa_cons (qv 0) (qa_cons qe_int qa_nil))))
      (qss_cons (qs_setLc false (i := 5) rfl sc__law_term.nd rfl rfl (sw_true rfl rfl rfl (by decide +kernel)) (qi_seq (qv 3)) (blkOk_by (own := [("one", 8)]) (N := N__law_term) (sc := defScope s__law_term) (by decide +kernel)) (fun _ _ _ _ _ => (pg_name (i := 8) sc__law_term.nd rfl (.inl rfl))) (tg_name (i := 8) (by decide)) (fun _ _ _ _ _ => (qts_one (qt_cmp od_le (qe_call (ok__law_deep T) (hr.mono (by omega)) rfl T.g__law_deep T.F__law_deep.kp T.b__law_deep (qa_cons (qv 8) qa_nil)) (qv 2) (nomark _)))) (fun _ _ _ _ _ => (qv 8)))
      (qss_cons (qs_if (QW.pt (qw_and (qt_cmp (od_eq hr.units) (qv 4) qe_int (nomark _)) (qw_and1 (qt_cmp (od_ne hr.units) (qv 5) (qe_lst false qa_nil) (nomark _)))))
      (qss_one (qs_ret (qe_ix xd_ix (qv 5) (qe_call (ok__law_draw T) (hr.mono (by omega)) rfl T.g__law_draw T.F__law_draw.kp T.b__law_draw (qa_cons (qv 0) (qa_cons (qe_callB cd_len rfl T.n_len (by decide +kernel) (qa_cons (qv 5) qa_nil)) qa_nil))) (fun _ _ => rfl))))
      qss_nil)
      (qss_cons (qs_if (QW.pt (qw_or (qt_cmp (od_ltE (room100 hr)) (qv 2) qe_int (nomark _)) (qw_or1 (qt_cmp (od_ltE (room100 hr)) (qv 4) qe_int (nomark _)))))
      (qss_one (qs_ret (qe_call (ok__law_leaf T) (hr.mono (by omega)) rfl T.g__law_leaf T.F__law_leaf.kp T.b__law_leaf (qa_cons (qv 0) (qa_cons (qv 1) qa_nil)))))
      qss_nil)
      (qss_cons (qs_if (qt_cmp (od_eq hr.units) (qv 4) qe_int (nomark _))
      (qss_one (qs_set (i := 6) sc__law_term.nd rfl (.inl rfl) (qe_tup (qa_cons qe_str (qa_cons (qe_call ih (hr.mono (by omega)) rfl T.g__law_term T.F__law_term.kp T.b__law_term (qa_cons (qv 0) (qa_cons (qv 1) (qa_cons (qe_op od_sub (qv 2) qe_int) (qa_cons (qv 3) qa_nil))))) qa_nil)))))
      (qss_cons (qs_set (i := 7) sc__law_term.nd rfl (.inl rfl) (qe_ix xd_ix (qe_lst false (qa_cons qe_str (qa_cons qe_str (qa_cons qe_str (qa_cons qe_str (qa_cons qe_str (qa_cons qe_str (qa_cons qe_str qa_nil)))))))) (qe_call (ok__law_draw T) (hr.mono (by omega)) rfl T.g__law_draw T.F__law_draw.kp T.b__law_draw (qa_cons (qv 0) (qa_cons qe_int qa_nil))) (fun _ _ => rfl)))
      (qss_cons (qs_set (i := 8) sc__law_term.nd rfl (.inl rfl) (qe_call ih (hr.mono (by omega)) rfl T.g__law_term T.F__law_term.kp T.b__law_term (qa_cons (qv 0) (qa_cons (qv 1) (qa_cons (qe_op od_sub (qv 2) (qe_ix xd_ix (qe_lst false (qa_cons qe_int (qa_cons qe_int qa_nil))) (qe_call (ok__law_draw T) (hr.mono (by omega)) rfl T.g__law_draw T.F__law_draw.kp T.b__law_draw (qa_cons (qv 0) (qa_cons qe_int qa_nil))) (fun _ _ => rfl))) (qa_cons (qv 3) qa_nil))))))
      (qss_one (qs_set (i := 6) sc__law_term.nd rfl (.inl rfl) (qe_tup (qa_cons (qv 7) (qa_cons (qv 8) (qa_cons (qe_call ih (hr.mono (by omega)) rfl T.g__law_term T.F__law_term.kp T.b__law_term (qa_cons (qv 0) (qa_cons (qv 1) (qa_cons (qe_op od_sub (qv 2) qe_int) (qa_cons (qv 3) qa_nil))))) qa_nil)))))))))
      (qss_cons (qs_expr (qe_m PySem.F.plainAttrs_list PySem.F.slot_list_append PySem.F.type_list_append md_append (qv 3) (qa_cons (qv 6) qa_nil)))
      (qss_one (qs_ret (qv 6))))))))), fun ds G R h => ?_⟩)
  · obtain ⟨s, p, M, k, o, left, ps, rfl, _⟩ := h; rfl
  · obtain ⟨s, p, M, k, o, left, ps, rfl, hM, hln, hl0, hn7, hsp, e, ho, hk, ep, hps, hpl, h⟩ := h
    have hb := bud_pos n
    have hb7 := bud7 hn7
    have same : ∀ o' : GO, gup G s o' = gup (gup G p (.lst (ps.map Tm.d))) s o' := fun o' => by rw [gup_id ep]
    walk_at "go"
    rename_i way o1 hway ho1
    have ep1 : gup G s o1 p = some (.lst (ps.map Tm.d)) := by rw [gup_ne hsp.symm]; exact ep
    rw [ep1, atL_lst]
    refine ⟨small_line (by rw [List.length_map]; omega), ?_⟩
    refine lc_flt' Tm.d (fun t => if (t.dep : Int) ≤ left then some t.d else none) ep1 ps [] (fun t ht N acc q => ?_) _ ?_
    · walk_at "go"
      refine go_deep (hps t ht).1 (hps t ht).2 ?_
      walk_at "go"
      split
      · rename_i c; rw [if_pos (of_decide_eq_true c)] at q; simpa using q
      · rename_i c; rw [if_neg (of_decide_eq_false c)] at q; simpa using q
    rw [List.nil_append, sel_eq]
    have hsel : PoolOk M (ps.filter fun t => decide ((t.dep : Int) ≤ left)) := fun t ht => hps t (List.mem_filter.mp ht).1
    have hsel2 : ∀ t ∈ ps.filter fun t => decide ((t.dep : Int) ≤ left), (t.dep : Int) ≤ left := fun t ht => of_decide_eq_true (List.mem_filter.mp ht).2
    have hsel3 : (ps.filter fun t => decide ((t.dep : Int) ≤ left)).length ≤ ps.length := List.length_filter_le _ _
    generalize (ps.filter fun t => decide ((t.dep : Int) ≤ left)) = sel at hsel hsel2 hsel3 ⊢
    refine kont_go ?_
    refine seq_cut (fun σ' G' => σ' = [some (D.ref s), some M.d, some (D.int left), some (D.ref p), some (D.int (way : Nat)), some (.lst (sel.map Tm.d)), none, none, none] ∧ G' = gup G s o1) ?_ (fun N1 hN1 => ?_)
    rotate_left
    · walk_at "go"
      split
      · refine ⟨small_line (by omega), ne_tms hM hsel ?_⟩
        by_cases hse : sel = []
        · rw [decide_eq_true hse]
          walk_at "go"
          exact hN1 _ _ ⟨rfl, rfl⟩
        · rw [decide_eq_false hse]
          have hpos : 0 < sel.length := List.length_pos_iff.mpr hse
          rw [List.length_map]
          walk_at "go"
          rename_i r2 o2 hr2 ho2
          have hl : r2 < sel.length := by omega
          rw [atI_nat (j := r2) (v := sel[r2].d) (by rw [List.getElem?_map, List.getElem?_eq_getElem hl]; rfl)]
          walk_at "go"
          have hm := List.getElem_mem hl
          rw [same]
          exact h sel[r2] ps o2 (hsel _ hm).1 (by have := hsel2 _ hm; omega) hps (by omega) (ho2.mono (by omega))
      · walk_at "go"
        exact hN1 _ _ ⟨rfl, rfl⟩
    rintro σ G1 ⟨rfl, rfl⟩
    refine seq_cut (fun σ' G' => 2 ≤ left ∧ σ' = [some (D.ref s), some M.d, some (D.int left), some (D.ref p), some (D.int (way : Nat)), some (.lst (sel.map Tm.d)), none, none, none] ∧ G' = gup G s o1) ?_ (fun N1 hN1 => ?_)
    rotate_left
    · have leaf : sp__law_leaf [D.ref s, M.d] (gup G s o1) fun d G1 => Rt R d G1 := go_leaf hM gup_same ho1 (by omega) fun t o2 ht hd ho2 => rt_same (by
        rw [gup_gup, same]
        exact h t ps o2 ht (by omega) hps (by omega) (ho2.mono (by omega)))
      walk_at "go"
      split
      · exact leaf
      · rename_i hl2
        split
        · exact leaf
        · exact hN1 _ _ ⟨by omega, rfl, rfl⟩
    rintro σ G1 ⟨hl2, rfl, rfl⟩
    obtain ⟨n', rfl⟩ : ∃ m, n = m + 1 := ⟨n - 1, by omega⟩
    simp only [bud, plen] at *
    refine seq_cut (fun σ' G' => ∃ (t : Tm) (ps' : List Tm) (o2 : GO) (x7 x8 : Option D), σ' = [some (D.ref s), some M.d, some (D.int left), some (D.ref p), some (D.int (way : Nat)), some (.lst (sel.map Tm.d)), some t.d, x7, x8] ∧ t.ok M ∧ (t.dep : Int) ≤ left ∧ PoolOk M ps' ∧ ps'.length ≤ ps.length + 2 * plen n' ∧ BagO (k + (2 * bud n' + 6)) o2 ∧ G' = gup (gup G p (.lst (ps'.map Tm.d))) s o2) ?_ (fun N1 hN1 => ?_)
    rotate_left
    · walk_at "go"
      split
      · walk_at "go"
        refine hs n' rfl _ _ _ ⟨s, p, M, _, o1, left - 1, ps, rfl, hM, by omega, by omega, by omega, hsp, gup_same, ho1, by omega, ep1, hps, by omega, fun t ps' o2 ht hd hps' hpl' ho2 => ?_⟩
        walk_at "go"
        refine hN1 _ _ ⟨.load t, ps', o2, _, _, rfl, ht, by simp only [Tm.dep]; omega, hps', by omega, ho2.mono (by omega), ?_⟩
        rw [gnorm hsp]
      · walk_at "go"
        rename_i r2 o2 hr2 ho2
        refine pick (by walk_at "side") fun x hx => ?_
        obtain ⟨op, rfl, hop⟩ : ∃ op, x = .str op ∧ op ∈ opL := by
          simp only [List.mem_cons, List.not_mem_nil, or_false] at hx
          rcases hx with rfl | rfl | rfl | rfl | rfl | rfl | rfl <;> exact ⟨_, rfl, by simp [opL]⟩
        walk_at "go"
        rename_i r3 o3 hr3 ho3
        obtain ⟨dl, hdl, hd1, hd2⟩ : ∃ dl : Int, atI [D.int 1, D.int 2] (r3 : Nat) = some (.int dl) ∧ 1 ≤ dl ∧ dl ≤ 2 := by
          rcases (show r3 = 0 ∨ r3 = 1 by omega) with rfl | rfl
          · exact ⟨1, rfl, by omega, by omega⟩
          · exact ⟨2, rfl, by omega, by omega⟩
        rw [hdl]
        walk_at "go"
        refine hs n' rfl _ _ _ ⟨s, p, M, _, o3, left - dl, ps, rfl, hM, by omega, by omega, by omega, hsp, gup_same, ho3, by omega, (by rw [gup_ne hsp.symm]; exact ep), hps, by omega, fun t ps' o4 ht hd hps' hpl' ho4 => ?_⟩
        walk_at "go"
        refine hs n' rfl _ _ _ ⟨s, p, M, _, o4, left - 1, ps', rfl, hM, by omega, by omega, by omega, hsp, gup_same, ho4, by omega, (by rw [gup_ne hsp.symm, gup_same]), hps', by omega, fun u ps2 o5 hu hdu hps2 hpl2 ho5 => ?_⟩
        walk_at "go"
        refine hN1 _ _ ⟨.op op t u, ps2, o5, _, _, rfl, ⟨hop, ht, hu⟩, by simp only [Tm.dep]; omega, hps2, by omega, ho5.mono (by omega), ?_⟩
        rw [gnorm hsp, gup_gup, gnorm hsp]
    rintro σ G1 ⟨t, ps', o2, x7, x8, rfl, ht, htd, hps', hpl', ho2, rfl⟩
    have ep2 : gup (gup G p (.lst (ps'.map Tm.d))) s o2 p = some (.lst (ps'.map Tm.d)) := by rw [gup_ne hsp.symm, gup_same]
    walk_at "go"
    refine ⟨mty_at ep2, ?_⟩
    rw [atL_at ep2]
    refine ⟨by rw [List.length_map, sizeLine_eq]; omega, ?_⟩
    refine rt_same ?_
    rw [gup_swap hsp.symm]
    have := h t (ps' ++ [t]) o2 ht (by omega) (fun x hx => by
      rcases List.mem_append.mp hx with hx | hx
      · exact hps' x hx
      · rw [List.mem_singleton] at hx; subst hx; exact ⟨ht, by omega⟩) (by simp only [List.length_append, List.length_cons, List.length_nil]; omega) ho2
    rw [List.map_append] at this
    exact this
theorem ok__law_term_n {P : Program} {w : World} {K : PySem.W.Frag} {mg : Str → Option Value} {base : Heap} {a : Ad} (T : Tx w K mg a) : ∀ n : Nat, FnD P w K mg base (n + 9) a.f__law_term a.fd__law_term ["bag", "kit", "left", "pool"] (sp__law_term n)
  | 0 => ok0__law_term T (j := 0) fnd_never (by omega) (fun m e => by omega)
  | n + 1 => ok0__law_term T (ok__law_term_n T n) (by omega) (fun m e ds G R h => by
    have : n = m := by omega
    subst this
    exact h)
theorem ok__law_term {P : Program} {w : World} {K : PySem.W.Frag} {mg : Str → Option Value} {base : Heap} {a : Ad} (T : Tx w K mg a) : FnD P w K mg base 16 a.f__law_term a.fd__law_term ["bag", "kit", "left", "pool"] (sp__law_term 7) := ok__law_term_n T 7
theorem go_term {s p : Addr} {M : Mach} {G : Gp} {R : DK} {o : GO} {k : Nat} {left : Int} {ps : List Tm} (hM : M.ok) (hl : left ≤ 7) (hl0 : -100 ≤ left) (hsp : s ≠ p) (e : G s = some o) (h : BagO k o) (hk : k ≤ 790000) (ep : G p = some (.lst (ps.map Tm.d))) (hps : PoolOk M ps) (hpl : ps.length ≤ 770)
    (q : ∀ (t : Tm) (ps' : List Tm) (o' : GO), t.ok M → (t.dep : Int) ≤ max 1 left → PoolOk M ps' → ps'.length ≤ ps.length + 127 → BagO (k + 1530) o' → R t.d (gup (gup G p (.lst (ps'.map Tm.d))) s o')) : sp__law_term 7 [.ref s, M.d, .int left, .ref p] G R :=
  ⟨s, p, M, k, o, left, ps, rfl, hM, hl, hl0, by omega, hsp, e, h, by have := (bud7 (n := 7) (by omega)).1; omega, ep, hps, by have := (bud7 (n := 7) (by omega)).2; omega, fun t ps' o' h1 h2 h3 h4 h5 => q t ps' o' h1 h2 h3 (by have := (bud7 (n := 7) (by omega)).2; omega) (h5.mono (by have := (bud7 (n := 7) (by omega)).1; omega))⟩
end K42


set_option Elab.async false
set_option linter.all false
set_option maxRecDepth 100000
set_option maxHeartbeats 4000000
set_option autoImplicit false
namespace K42
open PySem PySem.Spec PyProof.Rows L2 DL
local macro_rules | `(tactic| walk_at "d") => `(tactic| dsimp only [dSeq, dNext, dIfS, dRet, dRetN, dAsg, dName, dVar, dC, dOp, dUn, dChain, dB, dAnd, dOr, dNot, dAndV, dOrV, dNotV, dIf, dNil, dCons, dTup, dLst, newL, dCallB, dCall, dCallK, dDrop, dAug, dAugS, dSub, dM, dM0, dSlice, dNoPart, dPart, dLc, dYes, dFor, dIter, dRng1, dEnum, dZipM, srcD, dStar, dInK, dIxK, dLenSet, dRev,
  startD, wipeD, setAll, dNames, List.map_cons, List.map_nil, List.length_cons, List.length_nil, List.replicate, List.cons_append, List.nil_append, List.append_nil, List.getElem?_cons_zero, List.getElem?_cons_succ, List.set_cons_zero, List.set_cons_succ, List.map, Nat.zero_add, Nat.reduceAdd, Nat.reduceSub, Nat.sub_self, Nat.succ_sub_succ_eq_sub])
local macro_rules | `(tactic| walk_at "o") => `(tactic| simp only [dAdd_ii, dAdd_ss, dAdd_tt, dAdd_ll, dMinus_ii, dMul_ii, dMod_ii, dFdiv_ii, dPow_ii, dShl_ii, dNeg_i, dIadd_ii, dLt_ii, dLe_ii, dGt_ii, dGe_ii, dEq_ii, dNe_ii, dEq_ss, dNe_ss, dEq_bb, dNe_bb, dIs_n, dIsNot_n, dMax2_ii, dMin2_ii, dTuple_t, dTuple_l, dList_t, dList_l, dIx_t, dIx_l, dIx_s, dSl_t, dSl_l, dSl_s, newL_f, len_tup, len_lst])
local macro_rules | `(tactic| walk_at "w") => `(tactic| dsimp only [x_var, x_c, x_op, x_un, x_b, x_and, x_or, x_not, x_chain, x_andV, x_orV, x_notV, x_if, x_nil, x_cons, x_tup, x_lst0, x_lst1, x_callB, x_call, x_callK, x_next, x_seq, x_break, x_cont, x_drop, x_ret, x_ifS, x_asg, x_name, x_names, x_sub, x_aug, x_augS, x_for, x_lc0, x_lc1, x_yes, x_noPart, x_part, x_slice, x_iter, it_t, it_l, it_n, it_s, it_r, x_rng1, x_enum, x_rev, x_m, x_m0, x_mX, x_zip, x_star_t, x_star_l, x_lenSet, x_forgo0, x_lcgo0, x_while, x_par, x_sortK,
  br_t, br_f, isB_bl, isI_int, isN_some, slo_some, atL_lst, ix_t, ix_l, ix_n,
  dAdd_ii, dAdd_ss, dAdd_tt, dAdd_ll, dMinus_ii, dMul_ii, dMod_ii, dFdiv_ii, dPow_ii, dShl_ii, dNeg_i, dIadd_ii, dLt_ii, dLe_ii, dGt_ii, dGe_ii, ltE_ii, ltE_ss, srcD, isi_i, isi_s, isi_b, isi_n, isi_t, isi_nt, isi_l, isi2_i, isi2_s, isi2_b, isi2_n, isi2_t, isi2_nt, isi2_l, inon_n, inon_i, inon_s, inon_b, inon_t, inon_l, inon_r, dEq_ii, dNe_ii, dEq_ss, dNe_ss, dEq_bb, dNe_bb, dIs_n, dIsNot_n, dMax2_ii, dMin2_ii, dTuple_t, dTuple_l, dList_t, dList_l, dSl_t, dSl_l, dSl_s, newL_f, newL_t, app_r, int_b, int_i, strI_i, strX_i, strX_s,
  startD, wipeD, setAll, permL, List.filterMap, List.map_cons, List.map_nil, List.length_cons, List.length_nil, List.replicate, List.cons_append, List.nil_append, List.append_nil, List.getElem?_cons_zero, List.getElem?_cons_succ, List.set_cons_zero, List.set_cons_succ, List.map, Nat.zero_add, Nat.reduceAdd, Nat.reduceSub, Nat.sub_self, Nat.succ_sub_succ_eq_sub])
local macro_rules | `(tactic| walk_at "v") => `(tactic| simp only [ofString_inj, String.reduceEq, at_0, at_1, at_2, at_3, at_4, at_5, isN_some, isBB_bl, isB_bl, br_t, br_f, br_not, br_and, br_or, br_dec, ix_r, len_tup, len_lst, len_nt, ltE_key, gup_gup, gup_same, starD_one, cut1, cut2, kt1, kt2, kt3, kt4, kt5, kt6, isTy, String.reduceBEq, Bool.or_false, Bool.false_or, Bool.true_or, Bool.or_true, Bool.and_false, Bool.false_and, Bool.true_and, Bool.and_true, Bool.not_true, Bool.not_false, decide_true, decide_false, eq_self_iff_true, Bool.false_eq_true, Int.reduceAdd, Int.add_zero, if_true, if_false, true_and, and_true])
local macro_rules | `(tactic| walk_at "side") => `(tactic| first | with_reducible assumption | omega | exact mty_up | exact True.intro | (simp only [List.mem_cons, ofString_inj, String.reduceEq, true_or, or_true, List.length_map]; done) | with_reducible exact (rfl : (_ : Nat) = _) | exact (rfl : (_ : Option String) = _) | (refine small_line ?_; omega) | (walk_at "ll"; first | omega | (refine small_line ?_; omega) | fail) | (exact log_small (by omega)) | fail)
local macro_rules | `(tactic| walk_at "x") => `(tactic| fail)
local macro_rules | `(tactic| walk_at "go") => `(tactic| repeat' (first | dsimp only [x_var, x_c, x_op, x_un, x_b, x_and, x_or, x_not, x_chain, x_andV, x_orV, x_notV, x_if, x_nil, x_cons, x_tup, x_lst0, x_lst1, x_callB, x_call, x_callK, x_next, x_seq, x_break, x_cont, x_drop, x_ret, x_ifS, x_asg, x_name, x_names, x_sub, x_aug, x_augS, x_for, x_lc0, x_lc1, x_yes, x_noPart, x_part, x_slice, x_iter, it_t, it_l, it_n, it_s, it_r, x_rng1, x_enum, x_rev, x_m, x_m0, x_mX, x_zip, x_star_t, x_star_l, x_lenSet, x_forgo0, x_lcgo0, x_while, x_par, x_sortK, br_t, br_f, isB_bl, isI_int, isN_some, slo_some, atL_lst, ix_t, ix_l, ix_n, dAdd_ii, dAdd_ss, dAdd_tt, dAdd_ll, dMinus_ii, dMul_ii, dMod_ii, dFdiv_ii, dPow_ii, dShl_ii, dNeg_i, dIadd_ii, dLt_ii, dLe_ii, dGt_ii, dGe_ii, ltE_ii, ltE_ss, srcD, isi_i, isi_s, isi_b, isi_n, isi_t, isi_nt, isi_l, isi2_i, isi2_s, isi2_b, isi2_n, isi2_t, isi2_nt, isi2_l, inon_n, inon_i, inon_s, inon_b, inon_t, inon_l, inon_r, dEq_ii, dNe_ii, dEq_ss, dNe_ss, dEq_bb, dNe_bb, dIs_n, dIsNot_n, dMax2_ii, dMin2_ii, dTuple_t, dTuple_l, dList_t, dList_l, dSl_t, dSl_l, dSl_s, newL_f, newL_t, app_r, int_b, int_i, strI_i, strX_i, strX_s, startD, wipeD, setAll, permL, List.filterMap, List.map_cons, List.map_nil, List.length_cons, List.length_nil, List.replicate, List.cons_append, List.nil_append, List.append_nil, List.getElem?_cons_zero, List.getElem?_cons_succ, List.set_cons_zero, List.set_cons_succ, List.map, Nat.zero_add, Nat.reduceAdd, Nat.reduceSub, Nat.sub_self, Nat.succ_sub_succ_eq_sub] | simp only [ofString_inj, String.reduceEq, at_0, at_1, at_2, at_3, at_4, at_5, isN_some, isBB_bl, isB_bl, br_t, br_f, br_not, br_and, br_or, br_dec, ix_r, len_tup, len_lst, len_nt, ltE_key, gup_gup, gup_same, starD_one, cut1, cut2, kt1, kt2, kt3, kt4, kt5, kt6, isTy, String.reduceBEq, Bool.or_false, Bool.false_or, Bool.true_or, Bool.or_true, Bool.and_false, Bool.false_and, Bool.true_and, Bool.and_true, Bool.not_true, Bool.not_false, decide_true, decide_false, eq_self_iff_true, Bool.false_eq_true, Int.reduceAdd, Int.add_zero, if_true, if_false, true_and, and_true] | walk_at "x" | with_reducible refine kont_go ?_ | with_reducible refine rt_sub (by assumption) ?_ | with_reducible refine rt_lst (by assumption) ?_ | with_reducible refine rt_drop (by assumption) ?_ | with_reducible refine rt_keep (by assumption) (by assumption) ?_ | with_reducible refine rt_same ?_ | (refine fun (p : Addr) (_ : _ = none) => ?_) | refine join_gor gup_same rfl (by walk_at "side") ?_ | with_reducible refine lc_cons ?_ | with_reducible refine for_cons ?_ | refine join_go rfl (by walk_at "side") ?_ | refine And.intro (by first | with_reducible assumption | omega | exact mty_up | exact True.intro | (simp only [List.mem_cons, ofString_inj, String.reduceEq, true_or, or_true, List.length_map]; done) | with_reducible exact (rfl : (_ : Nat) = _) | exact (rfl : (_ : Option String) = _) | (refine small_line ?_; omega) | (walk_at "ll"; first | omega | (refine small_line ?_; omega) | fail) | (exact log_small (by omega)) | fail) ?_ | fail))
local macro_rules | `(tactic| walk_at "ll") => `(tactic| simp only [List.length_map, List.length_append, List.length_cons, List.length_nil, List.map_cons, List.map_nil, List.sum_cons, List.sum_nil, len_app, rng_length, ll_0, ll_1, ll_2, ll_3, ll_4, ll_5, ll_6, ll_7, ll_8, ll_9, ll_10, ll_11, ll_12, ll_13, ll_14, ll_15, ll_16, ll_17, ll_18, ll_19, ll_20, ll_21, ll_22, ll_23, ll_24, ll_25, ll_26, ll_27, ll_28])
/-! ### unlike terms, by the law's own counting -/
def addNR (fs : List Tm) (x : Tm) : List Tm := if x.isReg = false ∧ x ∉ fs then fs ++ [x] else fs
def addAll (fs xs : List Tm) : List Tm := xs.foldl addNR fs
def kidsU : Tm → List Tm
  | .num _ => [] | .reg _ => []
  | .load t => addAll [] (kidsU t ++ [t])
  | .op _ t u => addAll (addAll [] (kidsU t ++ [t])) (kidsU u ++ [u])
def unlikeF (ts : List Tm) : List Tm := ts.foldl (fun fs t => addAll fs (kidsU t ++ [t])) []
def Tm.kids : Tm → List Tm
  | .num _ => [] | .reg _ => [] | .load t => [t] | .op _ t u => [t, u]
theorem unlike_kids (t : Tm) : unlikeF t.kids = kidsU t := by cases t <;> rfl
theorem addNR_mem {fs : List Tm} {x y : Tm} (h : y ∈ fs) : y ∈ addNR fs x := by
  unfold addNR; split
  · exact List.mem_append_left _ h
  · exact h
theorem addAll_mem : ∀ (xs : List Tm) {fs : List Tm} {y : Tm}, y ∈ fs → y ∈ addAll fs xs
  | [], _, _, h => h
  | x :: xs, fs, y, h => addAll_mem xs (addNR_mem h)
theorem addAll_in : ∀ (xs : List Tm) {fs : List Tm} {y : Tm}, y ∈ xs → y.isReg = false → y ∈ addAll fs xs
  | [], _, _, h, _ => by cases h
  | x :: xs, fs, y, h, hy => by
    rcases List.mem_cons.mp h with rfl | h
    · refine addAll_mem xs ?_
      unfold addNR
      by_cases c : y ∈ fs
      · rw [if_neg (fun z => z.2 c)]; exact c
      · rw [if_pos ⟨hy, c⟩]; simp
    · exact addAll_in xs h hy
theorem addNR_all (fs gs : List Tm) (x : Tm) : addAll fs (addNR gs x) = addNR (addAll fs gs) x := by
  unfold addNR
  by_cases c : x.isReg = false ∧ x ∉ gs
  · rw [if_pos c]
    simp only [addAll, List.foldl_append, List.foldl_cons, List.foldl_nil]
    rfl
  · rw [if_neg c]
    by_cases hr : x.isReg = false
    · have hg : x ∈ gs := Decidable.byContradiction fun z => c ⟨hr, z⟩
      rw [if_neg (fun z => z.2 (addAll_in gs hg hr))]
    · rw [if_neg (fun z => hr z.1)]
theorem addAll_addAll (fs : List Tm) : ∀ (xs gs : List Tm), addAll fs (addAll gs xs) = addAll (addAll fs gs) xs
  | [], gs => rfl
  | x :: xs, gs => by
    have e : addAll gs (x :: xs) = addAll (addNR gs x) xs := rfl
    rw [e, addAll_addAll fs xs (addNR gs x), addNR_all]
    rfl
theorem addAll_app (fs xs ys : List Tm) : addAll fs (xs ++ ys) = addAll (addAll fs xs) ys := by simp only [addAll, List.foldl_append]
theorem addNR_addT {fs : List Tm} {t : Tm} (h : t.isReg = false) : addNR fs t = addT fs t := by
  unfold addNR addT
  by_cases c : t ∈ fs
  · rw [if_pos c, if_neg (fun z => z.2 c)]
  · rw [if_neg c, if_pos ⟨h, c⟩]
theorem all_spread : ∀ (t : Tm) (fs : List Tm), addAll fs (kidsU t ++ [t]) = spreadF t fs
  | .num w, fs => addNR_addT rfl
  | .reg x, fs => by
    show addNR fs (.reg x) = fs
    unfold addNR
    rw [if_neg (fun z => by cases z.1)]
  | .load t, fs => by
    rw [addAll_app, kidsU, addAll_addAll]
    show addNR (addAll fs (kidsU t ++ [t])) (.load t) = _
    rw [all_spread t fs, addNR_addT rfl]
    rfl
  | .op o t u, fs => by
    rw [addAll_app, kidsU, addAll_addAll, addAll_addAll]
    show addNR (addAll (addAll fs (kidsU t ++ [t])) (kidsU u ++ [u])) (.op o t u) = _
    rw [all_spread t fs, all_spread u, addNR_addT rfl]
    rfl
theorem unlike_spread (ts : List Tm) : unlikeF ts = ts.foldl (fun fs t => spreadF t fs) [] := by
  unfold unlikeF
  congr 1
  funext fs t
  exact all_spread t fs
theorem Tm.kids_ok {M : Mach} {t : Tm} (h : t.ok M) {n : Nat} (hd : t.dep ≤ n + 1) : ∀ x ∈ t.kids, x.ok M ∧ x.dep ≤ n := by
  cases t with
  | num w => intro x hx; cases hx
  | reg w => intro x hx; cases hx
  | load t => intro x hx; rw [List.mem_singleton.mp hx]; simp only [Tm.dep] at hd; exact ⟨h, by omega⟩
  | op o t u =>
    intro x hx
    simp only [Tm.dep] at hd
    simp only [Tm.kids, List.mem_cons, List.not_mem_nil, or_false] at hx
    rcases hx with rfl | rfl
    · exact ⟨h.2.1, by omega⟩
    · exact ⟨h.2.2, by omega⟩
def sizeB : Nat → Nat → Nat := fun n k => k * 2 ^ n
theorem unlike_ok {M : Mach} {ts : List Tm} (h : ∀ t ∈ ts, t.ok M) : ∀ x ∈ unlikeF ts, x.ok M := by
  rw [unlike_spread]
  have : ∀ (ts fs : List Tm), (∀ t ∈ ts, t.ok M) → (∀ x ∈ fs, x.ok M) → ∀ x ∈ ts.foldl (fun fs t => spreadF t fs) fs, x.ok M := by
    intro ts
    induction ts with
    | nil => intro fs _ hf; exact hf
    | cons t ts ih => intro fs h hf; exact ih _ (fun x hx => h x (List.mem_cons_of_mem _ hx)) (spread_ok t fs (h t List.mem_cons_self) hf)
  exact this ts [] h fun x hx => by cases hx
theorem unlike_len {n : Nat} (hn : n ≤ 8) {ts : List Tm} (h : ∀ t ∈ ts, t.dep ≤ n) : (unlikeF ts).length ≤ 256 * ts.length := by
  rw [unlike_spread]
  have : ∀ (ts fs : List Tm), (∀ t ∈ ts, t.dep ≤ n) → (ts.foldl (fun fs t => spreadF t fs) fs).length ≤ fs.length + 256 * ts.length := by
    intro ts
    induction ts with
    | nil => intro fs _; simp
    | cons t ts ih =>
      intro fs h
      have h1 := ih (spreadF t fs) fun x hx => h x (List.mem_cons_of_mem _ hx)
      have h2 := spread_len t fs
      have h3 : 2 ^ t.dep ≤ 2 ^ 8 := Nat.pow_le_pow_right (by omega) (by have := h t List.mem_cons_self; omega)
      simp only [List.foldl_cons, List.length_cons]
      omega
  simpa using this ts [] h
theorem spread_dep {m : Nat} : ∀ (t : Tm) (fs : List Tm), t.dep ≤ m → (∀ x ∈ fs, x.dep ≤ m) → ∀ x ∈ spreadF t fs, x.dep ≤ m
  | .reg _, fs, _, h => h
  | .num w, fs, ht, h => fun x hx => by rcases addT_mem.mp hx with h1 | rfl; exact h x h1; exact ht
  | .load t, fs, ht, h => fun x hx => by
    rcases addT_mem.mp hx with h1 | rfl
    · exact spread_dep t fs (by simp only [Tm.dep] at ht; omega) h x h1
    · exact ht
  | .op o t u, fs, ht, h => fun x hx => by
    rcases addT_mem.mp hx with h1 | rfl
    · exact spread_dep u _ (by simp only [Tm.dep] at ht; omega) (spread_dep t fs (by simp only [Tm.dep] at ht; omega) h) x h1
    · exact ht
theorem unlike_dep {m : Nat} {ts : List Tm} (h : ∀ t ∈ ts, t.dep ≤ m) : ∀ x ∈ unlikeF ts, x.dep ≤ m := by
  rw [unlike_spread]
  have : ∀ (ts fs : List Tm), (∀ t ∈ ts, t.dep ≤ m) → (∀ x ∈ fs, x.dep ≤ m) → ∀ x ∈ ts.foldl (fun fs t => spreadF t fs) fs, x.dep ≤ m := by
    intro ts
    induction ts with
    | nil => intro fs _ hf; exact hf
    | cons t ts ih => intro fs h hf; exact ih _ (fun x hx => h x (List.mem_cons_of_mem _ hx)) (spread_dep t fs (h t List.mem_cons_self) hf)
  exact this ts [] h fun x hx => by cases hx
theorem addAll_ok {M : Mach} : ∀ (xs : List Tm) {fs : List Tm}, (∀ x ∈ xs, x.ok M) → (∀ x ∈ fs, x.ok M) → ∀ x ∈ addAll fs xs, x.ok M
  | [], _, _, h => h
  | y :: xs, fs, hx, h => addAll_ok xs (fun x hx' => hx x (List.mem_cons_of_mem _ hx')) fun x hx' => by
    unfold addNR at hx'
    split at hx'
    · rcases List.mem_append.mp hx' with h1 | h1
      · exact h x h1
      · rw [List.mem_singleton] at h1; subst h1; exact hx _ List.mem_cons_self
    · exact h x hx'
theorem addAll_len : ∀ (xs fs : List Tm), (addAll fs xs).length ≤ fs.length + xs.length
  | [], fs => by simp [addAll]
  | y :: xs, fs => by
    have h1 := addAll_len xs (addNR fs y)
    have h2 : (addNR fs y).length ≤ fs.length + 1 := by unfold addNR; split <;> simp
    have e : addAll fs (y :: xs) = addAll (addNR fs y) xs := rfl
    rw [e, List.length_cons]
    omega
def sp__law_unlike (n : Nat) : DSp := fun ds G R => ∃ (M : Mach) (ts : List Tm), ds = [.lst (ts.map Tm.d)] ∧ M.ok ∧ (∀ t ∈ ts, t.ok M ∧ t.dep ≤ n) ∧ n ≤ 8 ∧ ts.length ≤ 20 ∧ R (.lst ((unlikeF ts).map Tm.d)) G
local macro_rules | `(tactic| walk_at "x") => `(tactic| first | simp only [isi_tm] | fail)
theorem ne_reg {t : Tm} {M : Mach} (ht : t.ok M) {G : Gp} {R : DK} (k : R (.bl (!t.isReg)) G) : dIx t.d (.int 0) G fun x G1 => dNe x (.str "reg") G1 R := by
  cases t with
  | num w => exact k
  | reg w => exact k
  | load w => exact k
  | op o w u =>
    have : decide (o = Str.ofString "reg") = false := decide_eq_false (op_ne o ht.1).1
    show R (.bl (!decide (o = Str.ofString "reg"))) G
    rw [this]; exact k
theorem kids_lc {t : Tm} {M : Mach} (ht : t.ok M) : True := trivial
theorem ok0__law_unlike {P : Program} {w : World} {K : PySem.W.Frag} {mg : Str → Option Value} {base : Heap} {a : Ad} (T : Tx w K mg a) {n j : Nat} {sp' : DSp} (ih : FnD P w K mg base j a.f__law_unlike a.fd__law_unlike ["terms"] sp') (hj : j ≤ n + 0) (hs : ∀ m, n = m + 1 → ∀ ds G R, sp__law_unlike m ds G R → sp' ds G R) : FnD P w K mg base (n + 1) a.f__law_unlike a.fd__law_unlike ["terms"] (sp__law_unlike n) := by
  refine fun_okD T.F__law_unlike sc__law_unlike (fun ds G R h => ?_) (fun cdv A outer s H hr => ⟨_, (qss_cons (qs_set (i := 1) sc__law_unlike.nd rfl (.inl rfl) (qe_lst true qa_nil))
      (qss_cons (qs_for PassesOwn.never rfl (qi_seq (qv 0)) (qg_of (pg_name (i := 2) sc__law_unlike.nd rfl (.inl rfl)) (tg_name (i := 2) (ws := [2]) (by decide)))
      (qss_cons (qs_setLc false (i := 3) rfl sc__law_unlike.nd rfl rfl (sw_true rfl rfl rfl (by decide +kernel)) (qi_seq (qe_slice false (qv 2) (qo_some qe_int) qo_none)) (blkOk_by (own := [("part", 5)]) (N := N__law_unlike) (sc := defScope s__law_unlike) (by decide +kernel)) (fun _ _ _ _ _ => (pg_name (i := 5) sc__law_unlike.nd rfl (.inl rfl))) (tg_name (i := 5) (by decide)) (fun _ _ _ _ _ => (qts_one (qt_val (qe_callB cd_isiX rfl T.n_isinstance (by decide +kernel) (qa_cons (qv 5) (qa_cons (qe_ty (n := "tuple") rfl T.n_tuple (by decide +kernel)) qa_nil)))))) (fun _ _ _ _ _ => (qv 5)))
      (qss_one (qs_for PassesOwn.never rfl (qi_seq (qe_op (od_add false) (qe_call ih (hr.mono (by omega)) rfl T.g__law_unlike T.F__law_unlike.kp T.b__law_unlike (qa_cons (qv 3) qa_nil)) (qe_lst false (qa_cons (qv 2) qa_nil)))) (qg_of (pg_name (i := 4) sc__law_unlike.nd rfl (.inl rfl)) (tg_name (i := 4) (ws := [4]) (by decide)))
      (qss_one (qs_if (QW.pt (qw_and (qt_cmp (od_ne hr.units) (qe_ix xd_ix (qv 4) qe_int (fun _ _ => rfl)) qe_str (nomark _)) (qw_and1 (qt_cmp (od_notInE (room100 hr)) (qv 4) (qv 1) rfl))))
      (qss_one (qs_expr (qe_m PySem.F.plainAttrs_list PySem.F.slot_list_append PySem.F.type_list_append md_append (qv 1) (qa_cons (qv 4) qa_nil))))
      qss_nil))))))
      (qss_one (qs_ret (qv 1))))), fun ds G R h => ?_⟩)
  · obtain ⟨M, ts, rfl, _⟩ := h; rfl
  · obtain ⟨M, ts, rfl, hM, hts, hn, hl, h⟩ := h
    walk_at "go"
    rename_i p np
    refine for_lst Tm.d ts (fun k σ' G' => ∃ x2 x3 x4 x5, σ' = [some (.lst (ts.map Tm.d)), some (.ref p), x2, x3, x4, x5] ∧ G' = gup G p (.lst ((unlikeF (ts.take k)).map Tm.d))) ?turn ?fin _ _ ⟨none, none, none, none, rfl, rfl⟩
    case fin =>
      rintro σ' G' ⟨x2, x3, x4, x5, rfl, rfl⟩
      rw [List.take_length]
      walk_at "go"
      exact h
    case turn =>
      rintro k t σ' G' ht ⟨x2, x3, x4, x5, rfl, rfl⟩ N hN
      have hm := List.mem_of_getElem? ht
      obtain ⟨h1, h2⟩ := hts t hm
      obtain ⟨n', rfl⟩ : ∃ m, n = m + 1 := ⟨n - 1, by have := t.dep_pos; omega⟩
      refine seq_cut (fun σ' G' => ∃ x5, σ' = [some (.lst (ts.map Tm.d)), some (.ref p), some t.d, some (.lst (t.kids.map Tm.d)), x4, x5] ∧ G' = gup G p (.lst ((unlikeF (ts.take k)).map Tm.d))) ?_ (fun N1 hN1 => ?_)
      rotate_left
      · cases t <;> (unfold Tm.d; walk_at "go"; exact hN1 _ _ ⟨_, rfl, rfl⟩)
      rintro σ G1 ⟨x5, rfl, rfl⟩
      have hlu := unlike_len (n := n' + 1) hn (ts := ts.take k) fun x hx => (hts x (List.mem_of_mem_take hx)).2
      have hkt : (ts.take k).length ≤ 20 := by rw [List.length_take]; omega
      walk_at "go"
      have hku := Tm.kids_ok h1 h2
      have hkl : t.kids.length ≤ 2 := by cases t <;> simp [Tm.kids]
      refine hs n' rfl _ _ _ ⟨M, t.kids, rfl, hM, hku, by omega, by omega, ?_⟩
      rw [unlike_kids]
      have hkids := unlike_ok (ts := t.kids) fun x hx => (hku x hx).1
      have hkdep := unlike_dep (ts := t.kids) fun x hx => (hku x hx).2
      have hklen := unlike_len (n := n') (by omega) (ts := t.kids) fun x hx => (hku x hx).2
      rw [unlike_kids] at hkids hkdep hklen
      have hxs : ∀ x ∈ kidsU t ++ [t], x.ok M ∧ x.dep ≤ 8 := fun x hx => by
        rcases List.mem_append.mp hx with hx | hx
        · exact ⟨hkids x hx, by have := hkdep x hx; omega⟩
        · rw [List.mem_singleton] at hx; subst hx; exact ⟨h1, by omega⟩
      have hfs := unlike_ok (ts := ts.take k) fun x hx => (hts x (List.mem_of_mem_take hx)).1
      have hnext : unlikeF (ts.take (k + 1)) = addAll (unlikeF (ts.take k)) (kidsU t ++ [t]) := by
        rw [List.take_succ, ht]
        simp only [unlikeF, List.foldl_append]
        rfl
      walk_at "go"
      rw [show List.map Tm.d (kidsU t) ++ [t.d] = (kidsU t ++ [t]).map Tm.d by rw [List.map_append]; rfl]
      have hxl : (kidsU t ++ [t]).length ≤ 600 := by rw [List.length_append]; simp only [List.length_cons, List.length_nil]; omega
      refine for_lst Tm.d (kidsU t ++ [t]) (fun j σ' G' => ∃ x4, σ' = [some (.lst (ts.map Tm.d)), some (.ref p), some t.d, some (.lst (t.kids.map Tm.d)), x4, x5] ∧ G' = gup G p (.lst ((addAll (unlikeF (ts.take k)) ((kidsU t ++ [t]).take j)).map Tm.d))) ?turn2 ?fin2 _ _ ⟨_, rfl, rfl⟩
      case fin2 =>
        rintro σ' G' ⟨x4, rfl, rfl⟩
        rw [List.take_length]
        exact hN _ _ ⟨_, _, _, _, rfl, by rw [hnext]⟩
      case turn2 =>
        rintro j x σ' G' hx ⟨x4, rfl, rfl⟩ N2 hN2
        obtain ⟨g1, g2⟩ := hxs x (List.mem_of_getElem? hx)
        have hjl := (List.getElem?_eq_some_iff.mp hx).1
        have hok2 : ∀ y ∈ addAll (unlikeF (ts.take k)) ((kidsU t ++ [t]).take j), y.ok M := addAll_ok _ (fun y hy => (hxs y (List.mem_of_mem_take hy)).1) hfs
        have hlen2 := addAll_len ((kidsU t ++ [t]).take j) (unlikeF (ts.take k))
        have hjl2 : ((kidsU t ++ [t]).take j).length ≤ 600 := by rw [List.length_take]; omega
        have hstep : addAll (unlikeF (ts.take k)) ((kidsU t ++ [t]).take (j + 1)) = addNR (addAll (unlikeF (ts.take k)) ((kidsU t ++ [t]).take j)) x := by
          rw [List.take_succ, hx, addAll_app]; rfl
        generalize addAll (unlikeF (ts.take k)) ((kidsU t ++ [t]).take j) = fs at hok2 hlen2 hstep ⊢
        have hN3 := fun x4 => hN2 [some (.lst (ts.map Tm.d)), some (.ref p), some t.d, some (.lst (t.kids.map Tm.d)), x4, x5] _ ⟨x4, rfl, rfl⟩
        rw [hstep] at hN3
        unfold addNR at hN3
        walk_at "go"
        refine ne_reg g1 ?_
        cases hr : x.isReg with
        | true =>
          rw [if_neg (fun z => by rw [hr] at z; cases z.1)] at hN3
          walk_at "go"
          exact hN3 _
        | false =>
          walk_at "go"
          refine inR_go hM g1 (by omega) hok2 gup_same ?_
          by_cases c : x ∈ fs
          · rw [if_neg (fun z => z.2 c)] at hN3
            rw [decide_eq_true c]
            walk_at "go"
            exact hN3 _
          · rw [if_pos ⟨hr, c⟩] at hN3
            rw [decide_eq_false c]
            walk_at "go"
            refine ⟨by rw [List.length_map, sizeLine_eq]; omega, ?_⟩
            have := hN3 (some x.d)
            rw [List.map_append] at this
            exact this
theorem ok__law_unlike_n {P : Program} {w : World} {K : PySem.W.Frag} {mg : Str → Option Value} {base : Heap} {a : Ad} (T : Tx w K mg a) : ∀ n : Nat, FnD P w K mg base (n + 1) a.f__law_unlike a.fd__law_unlike ["terms"] (sp__law_unlike n)
  | 0 => ok0__law_unlike T (j := 0) fnd_never (by omega) (fun m e => by omega)
  | n + 1 => ok0__law_unlike T (ok__law_unlike_n T n) (by omega) (fun m e ds G R h => by
    have : n = m := by omega
    subst this
    exact h)
theorem ok__law_unlike {P : Program} {w : World} {K : PySem.W.Frag} {mg : Str → Option Value} {base : Heap} {a : Ad} (T : Tx w K mg a) : FnD P w K mg base 9 a.f__law_unlike a.fd__law_unlike ["terms"] (sp__law_unlike 8) := ok__law_unlike_n T 8
theorem go_unlike {M : Mach} {ts : List Tm} {G : Gp} {R : DK} (hM : M.ok) (h : ∀ t ∈ ts, TOk M t) (hl : ts.length ≤ 20) (k : R (.lst ((unlikeF ts).map Tm.d)) G) : sp__law_unlike 8 [.lst (ts.map Tm.d)] G R := ⟨M, ts, rfl, hM, fun t ht => ⟨(h t ht).1, by have := (h t ht).2; omega⟩, by omega, hl, k⟩
end K42


set_option Elab.async false
set_option linter.all false
set_option maxRecDepth 100000
set_option maxHeartbeats 4000000
set_option autoImplicit false
namespace K42
open PySem PySem.Spec PyProof.Rows L2 DL
local macro_rules | `(tactic| walk_at "d") => `(tactic| dsimp only [dSeq, dNext, dIfS, dRet, dRetN, dAsg, dName, dVar, dC, dOp, dUn, dChain, dB, dAnd, dOr, dNot, dAndV, dOrV, dNotV, dIf, dNil, dCons, dTup, dLst, newL, dCallB, dCall, dCallK, dDrop, dAug, dAugS, dSub, dM, dM0, dSlice, dNoPart, dPart, dLc, dYes, dFor, dIter, dRng1, dEnum, dZipM, srcD, dStar, dInK, dIxK, dLenSet, dRev,
  startD, wipeD, setAll, dNames, List.map_cons, List.map_nil, List.length_cons, List.length_nil, List.replicate, List.cons_append, List.nil_append, List.append_nil, List.getElem?_cons_zero, List.getElem?_cons_succ, List.set_cons_zero, List.set_cons_succ, List.map, Nat.zero_add, Nat.reduceAdd, Nat.reduceSub, Nat.sub_self, Nat.succ_sub_succ_eq_sub])
local macro_rules | `(tactic| walk_at "o") => `(tactic| simp only [dAdd_ii, dAdd_ss, dAdd_tt, dAdd_ll, dMinus_ii, dMul_ii, dMod_ii, dFdiv_ii, dPow_ii, dShl_ii, dNeg_i, dIadd_ii, dLt_ii, dLe_ii, dGt_ii, dGe_ii, dEq_ii, dNe_ii, dEq_ss, dNe_ss, dEq_bb, dNe_bb, dIs_n, dIsNot_n, dMax2_ii, dMin2_ii, dTuple_t, dTuple_l, dList_t, dList_l, dIx_t, dIx_l, dIx_s, dSl_t, dSl_l, dSl_s, newL_f, len_tup, len_lst])
local macro_rules | `(tactic| walk_at "w") => `(tactic| dsimp only [x_var, x_c, x_op, x_un, x_b, x_and, x_or, x_not, x_chain, x_andV, x_orV, x_notV, x_if, x_nil, x_cons, x_tup, x_lst0, x_lst1, x_callB, x_call, x_callK, x_next, x_seq, x_break, x_cont, x_drop, x_ret, x_ifS, x_asg, x_name, x_names, x_sub, x_aug, x_augS, x_for, x_lc0, x_lc1, x_yes, x_noPart, x_part, x_slice, x_iter, it_t, it_l, it_n, it_s, it_r, x_rng1, x_enum, x_rev, x_m, x_m0, x_mX, x_zip, x_star_t, x_star_l, x_lenSet, x_forgo0, x_lcgo0, x_while, x_par, x_sortK,
  br_t, br_f, isB_bl, isI_int, isN_some, slo_some, atL_lst, ix_t, ix_l, ix_n,
  dAdd_ii, dAdd_ss, dAdd_tt, dAdd_ll, dMinus_ii, dMul_ii, dMod_ii, dFdiv_ii, dPow_ii, dShl_ii, dNeg_i, dIadd_ii, dLt_ii, dLe_ii, dGt_ii, dGe_ii, ltE_ii, ltE_ss, srcD, isi_i, isi_s, isi_b, isi_n, isi_t, isi_nt, isi_l, isi2_i, isi2_s, isi2_b, isi2_n, isi2_t, isi2_nt, isi2_l, inon_n, inon_i, inon_s, inon_b, inon_t, inon_l, inon_r, dEq_ii, dNe_ii, dEq_ss, dNe_ss, dEq_bb, dNe_bb, dIs_n, dIsNot_n, dMax2_ii, dMin2_ii, dTuple_t, dTuple_l, dList_t, dList_l, dSl_t, dSl_l, dSl_s, newL_f, newL_t, app_r, int_b, int_i, strI_i, strX_i, strX_s,
  startD, wipeD, setAll, permL, List.filterMap, List.map_cons, List.map_nil, List.length_cons, List.length_nil, List.replicate, List.cons_append, List.nil_append, List.append_nil, List.getElem?_cons_zero, List.getElem?_cons_succ, List.set_cons_zero, List.set_cons_succ, List.map, Nat.zero_add, Nat.reduceAdd, Nat.reduceSub, Nat.sub_self, Nat.succ_sub_succ_eq_sub])
local macro_rules | `(tactic| walk_at "v") => `(tactic| simp only [ofString_inj, String.reduceEq, at_0, at_1, at_2, at_3, at_4, at_5, isN_some, isBB_bl, isB_bl, br_t, br_f, br_not, br_and, br_or, br_dec, ix_r, len_tup, len_lst, len_nt, ltE_key, gup_gup, gup_same, starD_one, cut1, cut2, kt1, kt2, kt3, kt4, kt5, kt6, isTy, String.reduceBEq, Bool.or_false, Bool.false_or, Bool.true_or, Bool.or_true, Bool.and_false, Bool.false_and, Bool.true_and, Bool.and_true, Bool.not_true, Bool.not_false, decide_true, decide_false, eq_self_iff_true, Bool.false_eq_true, Int.reduceAdd, Int.add_zero, if_true, if_false, true_and, and_true])
local macro_rules | `(tactic| walk_at "side") => `(tactic| first | with_reducible assumption | omega | exact mty_up | exact True.intro | (simp only [List.mem_cons, ofString_inj, String.reduceEq, true_or, or_true, List.length_map]; done) | with_reducible exact (rfl : (_ : Nat) = _) | exact (rfl : (_ : Option String) = _) | (refine small_line ?_; omega) | (walk_at "ll"; first | omega | (refine small_line ?_; omega) | fail) | (exact log_small (by omega)) | fail)
local macro_rules | `(tactic| walk_at "x") => `(tactic| fail)
local macro_rules | `(tactic| walk_at "go") => `(tactic| repeat' (first | dsimp only [x_var, x_c, x_op, x_un, x_b, x_and, x_or, x_not, x_chain, x_andV, x_orV, x_notV, x_if, x_nil, x_cons, x_tup, x_lst0, x_lst1, x_callB, x_call, x_callK, x_next, x_seq, x_break, x_cont, x_drop, x_ret, x_ifS, x_asg, x_name, x_names, x_sub, x_aug, x_augS, x_for, x_lc0, x_lc1, x_yes, x_noPart, x_part, x_slice, x_iter, it_t, it_l, it_n, it_s, it_r, x_rng1, x_enum, x_rev, x_m, x_m0, x_mX, x_zip, x_star_t, x_star_l, x_lenSet, x_forgo0, x_lcgo0, x_while, x_par, x_sortK, br_t, br_f, isB_bl, isI_int, isN_some, slo_some, atL_lst, ix_t, ix_l, ix_n, dAdd_ii, dAdd_ss, dAdd_tt, dAdd_ll, dMinus_ii, dMul_ii, dMod_ii, dFdiv_ii, dPow_ii, dShl_ii, dNeg_i, dIadd_ii, dLt_ii, dLe_ii, dGt_ii, dGe_ii, ltE_ii, ltE_ss, srcD, isi_i, isi_s, isi_b, isi_n, isi_t, isi_nt, isi_l, isi2_i, isi2_s, isi2_b, isi2_n, isi2_t, isi2_nt, isi2_l, inon_n, inon_i, inon_s, inon_b, inon_t, inon_l, inon_r, dEq_ii, dNe_ii, dEq_ss, dNe_ss, dEq_bb, dNe_bb, dIs_n, dIsNot_n, dMax2_ii, dMin2_ii, dTuple_t, dTuple_l, dList_t, dList_l, dSl_t, dSl_l, dSl_s, newL_f, newL_t, app_r, int_b, int_i, strI_i, strX_i, strX_s, startD, wipeD, setAll, permL, List.filterMap, List.map_cons, List.map_nil, List.length_cons, List.length_nil, List.replicate, List.cons_append, List.nil_append, List.append_nil, List.getElem?_cons_zero, List.getElem?_cons_succ, List.set_cons_zero, List.set_cons_succ, List.map, Nat.zero_add, Nat.reduceAdd, Nat.reduceSub, Nat.sub_self, Nat.succ_sub_succ_eq_sub] | simp only [ofString_inj, String.reduceEq, at_0, at_1, at_2, at_3, at_4, at_5, isN_some, isBB_bl, isB_bl, br_t, br_f, br_not, br_and, br_or, br_dec, ix_r, len_tup, len_lst, len_nt, ltE_key, gup_gup, gup_same, starD_one, cut1, cut2, kt1, kt2, kt3, kt4, kt5, kt6, isTy, String.reduceBEq, Bool.or_false, Bool.false_or, Bool.true_or, Bool.or_true, Bool.and_false, Bool.false_and, Bool.true_and, Bool.and_true, Bool.not_true, Bool.not_false, decide_true, decide_false, eq_self_iff_true, Bool.false_eq_true, Int.reduceAdd, Int.add_zero, if_true, if_false, true_and, and_true] | walk_at "x" | with_reducible refine kont_go ?_ | with_reducible refine rt_sub (by assumption) ?_ | with_reducible refine rt_lst (by assumption) ?_ | with_reducible refine rt_drop (by assumption) ?_ | with_reducible refine rt_keep (by assumption) (by assumption) ?_ | with_reducible refine rt_same ?_ | (refine fun (p : Addr) (_ : _ = none) => ?_) | refine join_gor gup_same rfl (by walk_at "side") ?_ | with_reducible refine lc_cons ?_ | with_reducible refine for_cons ?_ | refine join_go rfl (by walk_at "side") ?_ | refine And.intro (by first | with_reducible assumption | omega | exact mty_up | exact True.intro | (simp only [List.mem_cons, ofString_inj, String.reduceEq, true_or, or_true, List.length_map]; done) | with_reducible exact (rfl : (_ : Nat) = _) | exact (rfl : (_ : Option String) = _) | (refine small_line ?_; omega) | (walk_at "ll"; first | omega | (refine small_line ?_; omega) | fail) | (exact log_small (by omega)) | fail) ?_ | fail))
local macro_rules | `(tactic| walk_at "ll") => `(tactic| simp only [List.length_map, List.length_append, List.length_cons, List.length_nil, List.map_cons, List.map_nil, List.sum_cons, List.sum_nil, len_app, rng_length, ll_0, ll_1, ll_2, ll_3, ll_4, ll_5, ll_6, ll_7, ll_8, ll_9, ll_10, ll_11, ll_12, ll_13, ll_14, ll_15, ll_16, ll_17, ll_18, ll_19, ll_20, ll_21, ll_22, ll_23, ll_24, ll_25, ll_26, ll_27, ll_28])
/-! ### meanings drawn -/
def Mn.parts : Mn → List Tm
  | .ite t _ _ => [t]
  | .doo sets st => sets.map (·.2) ++ (match st with | none => [] | some p => [p.1, p.2])
def Mn.cops : Mn → List Str
  | .ite _ _ _ => [] | .doo sets _ => copies sets
def hidF (m : Mn) : Nat := (unlikeF m.parts).length + m.cops.length
theorem parts_terms (sets : List (Str × Tm)) (st : Option (Tm × Tm)) : unlikeF (Mn.doo sets st).parts = termsF sets st := by
  rw [unlike_spread]
  simp only [Mn.parts, List.foldl_append, termsF, setsF, List.foldl_map]
  cases st <;> rfl
theorem parts_test (t : Tm) (m n : Mn) : unlikeF (Mn.ite t m n).parts = spreadF t [] := by rw [unlike_spread]; rfl
theorem Mn.parts_ok {M : Mach} {m : Mn} (h : m.ok M) : (∀ t ∈ m.parts, TOk M t) ∧ m.parts.length ≤ 8 := by
  cases m with
  | ite t m n => exact ⟨fun x hx => by rw [List.mem_singleton.mp hx]; exact h.1, by simp [Mn.parts]⟩
  | doo sets st =>
    obtain ⟨h1, h2, h3, _⟩ := h
    refine ⟨fun x hx => ?_, ?_⟩
    · simp only [Mn.parts] at hx
      rcases List.mem_append.mp hx with hx | hx
      · obtain ⟨p, hp, rfl⟩ := List.mem_map.mp hx
        exact h2 p hp
      · cases st with
        | none => cases hx
        | some p =>
          simp only [List.mem_cons, List.not_mem_nil, or_false] at hx
          rcases hx with rfl | rfl
          · exact (h3 p rfl).1
          · exact (h3 p rfl).2
    · simp only [Mn.parts, List.length_append, List.length_map]
      cases st <;> simp <;> omega
local macro_rules | `(tactic| walk_at "x") => `(tactic| fail)
def sp__law_parts : DSp := fun ds G R => ∃ (M : Mach) (m : Mn), ds = [m.d] ∧ m.ok M ∧ R (.lst (m.parts.map Tm.d)) G
theorem ok__law_parts {P : Program} {w : World} {K : PySem.W.Frag} {mg : Str → Option Value} {base : Heap} {a : Ad} (T : Tx w K mg a) : FnD P w K mg base 1 a.f__law_parts a.fd__law_parts ["sense"] sp__law_parts := by
  refine fun_okD T.F__law_parts sc__law_parts (fun ds G R h => ?_) (fun cdv A outer s H hr => ⟨_, (qss_cons (qs_if (qt_cmp (od_eq hr.units) (qe_ix xd_ix (qv 0) qe_int (fun _ _ => rfl)) qe_str (nomark _))
      (qss_one (qs_ret (qe_lst false (qa_cons (qe_ix xd_ix (qv 0) qe_int (fun _ _ => rfl)) qa_nil))))
      qss_nil)
      (qss_cons (qs_setLc false (i := 1) rfl sc__law_parts.nd rfl rfl (sw_true rfl rfl rfl (by decide +kernel)) (qi_seq (qe_ix xd_ix (qv 0) qe_int (fun _ _ => rfl))) (blkOk_by (own := [("name", 3), ("term", 4)]) (N := N__law_parts) (sc := defScope s__law_parts) (by decide +kernel)) (fun _ _ _ _ _ => (pg_tup rfl (pgs_cons (pg_name (i := 3) sc__law_parts.nd rfl (.inl rfl)) (pgs_cons (pg_name (i := 4) sc__law_parts.nd rfl (.inl rfl)) pgs_nil)))) (tg_names (is := [3, 4]) (by decide) rfl) (fun _ _ _ _ _ => qts_nil) (fun _ _ _ _ _ => (qv 4)))
      (qss_cons (qs_for PassesOwn.never rfl (qi_seq (qe_ix xd_ix (qv 0) qe_int (fun _ _ => rfl))) (qg_of (pg_name (i := 2) sc__law_parts.nd rfl (.inl rfl)) (tg_name (i := 2) (ws := [2]) (by decide)))
      (qss_one (qs_set (i := 1) sc__law_parts.nd rfl (.inl rfl) (qe_op (od_add false) (qv 1) (qe_callTy (cd_list false) rfl T.n_list (by decide +kernel) (qa_cons (qv 2) qa_nil))))))
      (qss_one (qs_ret (qv 1)))))), fun ds G R h => ?_⟩)
  · obtain ⟨M, m, rfl, _⟩ := h; rfl
  · obtain ⟨M, m, rfl, hm, h⟩ := h
    cases m with
    | ite t m n => unfold Mn.d; walk_at "go"; exact h
    | doo sets st =>
      have hl := hm.1
      unfold Mn.d
      walk_at "go"
      refine lc_typ setD (fun p => p.2.d) True.intro sets [] (fun p hp Q q => by unfold setD; walk_at "go"; exact q) _ ?_
      rw [List.nil_append]
      have e : sets.map (fun p => p.2.d) = (sets.map (·.2)).map Tm.d := by rw [List.map_map]; rfl
      rw [e]
      cases st with
      | none =>
        walk_at "go"
        simpa [Mn.parts] using h
      | some p =>
        unfold stD
        walk_at "go"
        simpa [Mn.parts] using h
theorem go_parts {M : Mach} {m : Mn} {G : Gp} {R : DK} (hm : m.ok M) (k : R (.lst (m.parts.map Tm.d)) G) : sp__law_parts [m.d] G R := ⟨M, m, rfl, hm, k⟩
def sp__law_copies : DSp := fun ds G R => ∃ (M : Mach) (m : Mn), ds = [m.d] ∧ m.ok M ∧ R (.lst (m.cops.map D.str)) G
theorem ok__law_copies {P : Program} {w : World} {K : PySem.W.Frag} {mg : Str → Option Value} {base : Heap} {a : Ad} (T : Tx w K mg a) : FnD P w K mg base 1 a.f__law_copies a.fd__law_copies ["sense"] sp__law_copies := by
  refine fun_okD T.F__law_copies sc__law_copies (fun ds G R h => ?_) (fun cdv A outer s H hr => ⟨_, (qss_one (qs_ret (qe_ifExp (qt_cmp (od_eq hr.units) (qe_ix xd_ix (qv 0) qe_int (fun _ _ => rfl)) qe_str (nomark _)) (qe_lc false rfl sc__law_copies.nd (qi_seq (qe_ix xd_ix (qv 0) qe_int (fun _ _ => rfl))) (blkOk_by (own := [("name", 1), ("term", 2)]) (N := N__law_copies) (sc := defScope s__law_copies) (by decide +kernel)) (fun _ _ _ _ _ => (pg_tup rfl (pgs_cons (pg_name (i := 1) sc__law_copies.nd rfl (.inl rfl)) (pgs_cons (pg_name (i := 2) sc__law_copies.nd rfl (.inl rfl)) pgs_nil)))) (tg_names (is := [1, 2]) (by decide) rfl) (fun _ _ _ _ _ => (qts_one (qt_cmp (od_eq hr.units) (qe_ix xd_ix (qv 2) qe_int (fun _ _ => rfl)) qe_str (nomark _)))) (fun _ _ _ _ _ => (qv 1))) (qe_lst false qa_nil)))), fun ds G R h => ?_⟩)
  · obtain ⟨M, m, rfl, _⟩ := h; rfl
  · obtain ⟨M, m, rfl, hm, h⟩ := h
    cases m with
    | ite t m n => unfold Mn.d; walk_at "go"; exact h
    | doo sets st =>
      have hl := hm.1
      have hs1 := hm.2.1
      unfold Mn.d
      walk_at "go"
      refine lc_flt' setD (fun p => if p.2.isReg = true then some (D.str p.1) else none) True.intro sets [] (fun q hq N acc k => ?_) _ ?_
      · unfold setD
        walk_at "go"
        refine ix_head (hs1 q hq).1 ?_
        cases c : q.2.isReg with
        | true => rw [c] at k; simpa using k
        | false => rw [c] at k; simpa using k
      rw [List.nil_append, copies_eq]
      walk_at "go"
      exact h
theorem go_copies {M : Mach} {m : Mn} {G : Gp} {R : DK} (hm : m.ok M) (k : R (.lst (m.cops.map D.str)) G) : sp__law_copies [m.d] G R := ⟨M, m, rfl, hm, k⟩
def sp__law_hidden : DSp := fun ds G R => ∃ (M : Mach) (m : Mn), ds = [m.d] ∧ M.ok ∧ m.ok M ∧ R (.int (hidF m : Nat)) G
theorem ok__law_hidden {P : Program} {w : World} {K : PySem.W.Frag} {mg : Str → Option Value} {base : Heap} {a : Ad} (T : Tx w K mg a) : FnD P w K mg base 10 a.f__law_hidden a.fd__law_hidden ["sense"] sp__law_hidden := by
  refine fun_okD T.F__law_hidden sc__law_hidden (fun ds G R h => ?_) (fun cdv A outer s H hr => ⟨_, (qss_one (qs_ret (qe_op (od_add false) (qe_callB cd_len rfl T.n_len (by decide +kernel) (qa_cons (qe_call (ok__law_unlike T) (hr.mono (by omega)) rfl T.g__law_unlike T.F__law_unlike.kp T.b__law_unlike (qa_cons (qe_call (ok__law_parts T) (hr.mono (by omega)) rfl T.g__law_parts T.F__law_parts.kp T.b__law_parts (qa_cons (qv 0) qa_nil)) qa_nil)) qa_nil)) (qe_callB cd_len rfl T.n_len (by decide +kernel) (qa_cons (qe_call (ok__law_copies T) (hr.mono (by omega)) rfl T.g__law_copies T.F__law_copies.kp T.b__law_copies (qa_cons (qv 0) qa_nil)) qa_nil))))), fun ds G R h => ?_⟩)
  · obtain ⟨M, m, rfl, _⟩ := h; rfl
  · obtain ⟨M, m, rfl, hM, hm, h⟩ := h
    obtain ⟨h1, h2⟩ := Mn.parts_ok hm
    walk_at "go"
    refine go_parts hm ?_
    walk_at "go"
    refine go_unlike hM h1 (by omega) ?_
    walk_at "go"
    refine go_copies hm ?_
    walk_at "go"
    simp only [List.length_map]
    unfold hidF at h
    rw [Int.natCast_add] at h
    exact h
theorem go_hidden {M : Mach} {m : Mn} {G : Gp} {R : DK} (hM : M.ok) (hm : m.ok M) (k : R (.int (hidF m : Nat)) G) : sp__law_hidden [m.d] G R := ⟨M, m, rfl, hM, hm, k⟩
def manyF : Mn → Nat
  | .ite t m n => hidF (.ite t m n) | .doo sets st => hidF (.doo sets st) + sets.length + st.toList.length
def sp__law_many : DSp := fun ds G R => ∃ (M : Mach) (m : Mn), ds = [m.d] ∧ M.ok ∧ m.ok M ∧ R (.int (manyF m : Nat)) G
theorem ok__law_many {P : Program} {w : World} {K : PySem.W.Frag} {mg : Str → Option Value} {base : Heap} {a : Ad} (T : Tx w K mg a) : FnD P w K mg base 11 a.f__law_many a.fd__law_many ["sense"] sp__law_many := by
  refine fun_okD T.F__law_many sc__law_many (fun ds G R h => ?_) (fun cdv A outer s H hr => ⟨_, (qss_cons (qs_if (qt_cmp (od_eq hr.units) (qe_ix xd_ix (qv 0) qe_int (fun _ _ => rfl)) qe_str (nomark _))
      (qss_one (qs_ret (qe_call (ok__law_hidden T) (hr.mono (by omega)) rfl T.g__law_hidden T.F__law_hidden.kp T.b__law_hidden (qa_cons (qv 0) qa_nil))))
      qss_nil)
      (qss_one (qs_ret (qe_op (od_add false) (qe_op (od_add false) (qe_call (ok__law_hidden T) (hr.mono (by omega)) rfl T.g__law_hidden T.F__law_hidden.kp T.b__law_hidden (qa_cons (qv 0) qa_nil)) (qe_callB cd_len rfl T.n_len (by decide +kernel) (qa_cons (qe_ix xd_ix (qv 0) qe_int (fun _ _ => rfl)) qa_nil))) (qe_callB cd_len rfl T.n_len (by decide +kernel) (qa_cons (qe_ix xd_ix (qv 0) qe_int (fun _ _ => rfl)) qa_nil)))))), fun ds G R h => ?_⟩)
  · obtain ⟨M, m, rfl, _⟩ := h; rfl
  · obtain ⟨M, m, rfl, hM, hm, h⟩ := h
    cases m with
    | ite t m n =>
      rw [show (Mn.ite t m n).d = .tup [.str "if", t.d, m.d, n.d] from rfl]
      walk_at "go"
      refine go_hidden (m := .ite t m n) hM hm ?_
      walk_at "go"
      exact h
    | doo sets st =>
      rw [show (Mn.doo sets st).d = .tup [.str "do", .tup (sets.map setD), .tup (st.toList.map stD)] from rfl]
      walk_at "go"
      refine go_hidden (m := .doo sets st) hM hm ?_
      walk_at "go"
      simp only [List.length_map]
      unfold manyF at h
      rw [Int.natCast_add, Int.natCast_add] at h
      exact h
theorem go_many {M : Mach} {m : Mn} {G : Gp} {R : DK} (hM : M.ok) (hm : m.ok M) (k : R (.int (manyF m : Nat)) G) : sp__law_many [m.d] G R := ⟨M, m, rfl, hM, hm, k⟩
def sp__law_do : DSp := fun ds G R => ∃ (s : Addr) (M : Mach) (k : Nat) (o : GO) (left most : Int), ds = [.ref s, M.d, .int left, .int most] ∧ M.ok ∧ left ≤ 7 ∧ 0 ≤ left ∧ 0 ≤ most ∧ G s = some o ∧ BagO k o ∧ k ≤ 700000 ∧ ∀ (sets : List (Str × Tm)) (st : Option (Tm × Tm)) (o' : GO), (Mn.doo sets st).ok M → (manyF (.doo sets st) : Int) ≤ most → BagO (k + 8000) o' → R (Mn.doo sets st).d (gup G s o')
local macro_rules | `(tactic| walk_at "x") => `(tactic| first
  | refine go_draw (by first | exact gup_same | assumption | fail) (by assumption) (by omega) (by walk_at "side") (by walk_at "side") fun _ _ _ _ => ?_
  | fail)
/-- a do, less by a part -/
def lessDo (sets : List (Str × Tm)) (st : Option (Tm × Tm)) : List (Str × Tm) := if st = none ∨ 2 < sets.length then sets.tail else sets
theorem eq_st {st : Option (Tm × Tm)} {M : Mach} (hM : M.ok) (h : ∀ p ∈ st, TOk M p.1 ∧ TOk M p.2) {G : Gp} {R : DK} (k : R (.bl (decide (st = none))) G) : dEq (.tup (st.toList.map stD)) (.tup []) G R := by
  cases st with
  | none => rw [eq_pure rfl rfl (by simp [depD, depDs]) (by simp [depD, depDs])]; exact k
  | some p =>
    obtain ⟨h1, h2⟩ := h p rfl
    have a := Tm.py hM h1.1
    have b := Tm.py hM h2.1
    have a2 := h1.2
    have b2 := h2.2
    refine eq_t0 ?_ ?_ k
    · simp only [stD, pyDs, pyD, a.1, b.1]; rfl
    · simp only [Option.toList, List.map_cons, List.map_nil, stD, depDs, depD, a.2, b.2]; omega
theorem tail_ok {M : Mach} {sets : List (Str × Tm)} {st : Option (Tm × Tm)} (h : (Mn.doo sets st).ok M) : (Mn.doo (lessDo sets st) none).ok M := by
  obtain ⟨h1, h2, h3, h4, h5⟩ := h
  unfold lessDo
  split
  · exact ⟨by rw [List.length_tail]; omega, fun p hp => h2 p (List.mem_of_mem_tail hp), fun p hp => (by cases hp), fun p hp => h4 p (List.mem_of_mem_tail hp), by rw [List.map_tail]; exact h5.sublist (List.tail_sublist _)⟩
  · exact ⟨h1, h2, fun p hp => (by cases hp), h4, h5⟩
theorem tail_d (sets : List (Str × Tm)) : cutL (sets.map setD) (some 1) none = sets.tail.map setD := by
  cases sets with
  | nil => rfl
  | cons a l => exact cut1
theorem ok__law_do {P : Program} {w : World} {K : PySem.W.Frag} {mg : Str → Option Value} {base : Heap} {a : Ad} (T : Tx w K mg a) : FnD P w K mg base 17 a.f__law_do a.fd__law_do ["bag", "kit", "left", "most"] sp__law_do := by
  refine fun_okD T.F__law_do sc__law_do (fun ds G R h => ?_) (fun cdv A outer s H hr => ⟨_, (qss_cons (qs_set (i := 4) sc__law_do.nd rfl (.inl rfl) (qe_callTy (cd_list true) rfl T.n_list (by decide +kernel) (qa_cons (qe_ix xd_ix (qv 1) qe_int (fun _ _ => rfl)) qa_nil)))
      (qss_cons (qs_set (i := 5) sc__law_do.nd rfl (.inl rfl) (qe_lst true qa_nil))
      (qss_cons (qs_set (i := 6) sc__law_do.nd rfl (.inl rfl) (qe_lst true qa_nil))
      (qss_cons (qs_for PassesOwn.never rfl (qi_range1 rfl T.n_range (qa_cons (qe_callB (cd_min2 rfl) rfl T.n_min (by decide +kernel) (qa_cons (qe_callB cd_len rfl T.n_len (by decide +kernel) (qa_cons (qv 4) qa_nil)) (qa_cons (qe_call (ok__law_draw T) (hr.mono (by omega)) rfl T.g__law_draw T.F__law_draw.kp T.b__law_draw (qa_cons (qv 0) (qa_cons qe_int qa_nil))) qa_nil))) qa_nil)) (qg_of (pg_name (i := 7) sc__law_do.nd rfl (.inl rfl)) (tg_name (i := 7) (ws := [7]) (by decide)))
      (qss_cons (qs_set (i := 8) sc__law_do.nd rfl (.inl rfl) (qe_m PySem.F.plainAttrs_list PySem.F.slot_list_pop PySem.F.type_list_pop md_popAt (qv 4) (qa_cons (qe_call (ok__law_draw T) (hr.mono (by omega)) rfl T.g__law_draw T.F__law_draw.kp T.b__law_draw (qa_cons (qv 0) (qa_cons (qe_callB cd_len rfl T.n_len (by decide +kernel) (qa_cons (qv 4) qa_nil)) qa_nil))) qa_nil)))
      (qss_one (qs_expr (qe_m PySem.F.plainAttrs_list PySem.F.slot_list_append PySem.F.type_list_append md_append (qv 6) (qa_cons (qe_tup (qa_cons (qv 8) (qa_cons (qe_call (ok__law_term T) (hr.mono (by omega)) rfl T.g__law_term T.F__law_term.kp T.b__law_term (qa_cons (qv 0) (qa_cons (qv 1) (qa_cons (qe_op od_sub (qv 2) qe_int) (qa_cons (qv 5) qa_nil))))) qa_nil))) qa_nil))))))
      (qss_cons (qs_set (i := 9) sc__law_do.nd rfl (.inl rfl) (qe_tup qa_nil))
      (qss_cons (qs_if (qt_cmp (od_eq hr.units) (qe_call (ok__law_draw T) (hr.mono (by omega)) rfl T.g__law_draw T.F__law_draw.kp T.b__law_draw (qa_cons (qv 0) (qa_cons qe_int qa_nil))) qe_int (nomark _))
      (qss_one (qs_set (i := 9) sc__law_do.nd rfl (.inl rfl) (qe_tup (qa_cons (qe_tup (qa_cons (qe_call (ok__law_term T) (hr.mono (by omega)) rfl T.g__law_term T.F__law_term.kp T.b__law_term (qa_cons (qv 0) (qa_cons (qv 1) (qa_cons (qe_op od_sub (qv 2) qe_int) (qa_cons (qv 5) qa_nil))))) (qa_cons (qe_call (ok__law_term T) (hr.mono (by omega)) rfl T.g__law_term T.F__law_term.kp T.b__law_term (qa_cons (qv 0) (qa_cons (qv 1) (qa_cons (qe_op od_sub (qv 2) qe_int) (qa_cons (qv 5) qa_nil))))) qa_nil))) qa_nil))))
      qss_nil)
      (qss_cons (qs_set (i := 10) sc__law_do.nd rfl (.inl rfl) (qe_tup (qa_cons qe_str (qa_cons (qe_callTy cd_tuple rfl T.n_tuple (by decide +kernel) (qa_cons (qv 6) qa_nil)) (qa_cons (qv 9) qa_nil)))))
      (qss_cons (qs_while PassesOwn.never (qt_cmp od_gt (qe_call (ok__law_many T) (hr.mono (by omega)) rfl T.g__law_many T.F__law_many.kp T.b__law_many (qa_cons (qv 10) qa_nil)) (qv 3) (nomark _))
      (qss_one (qs_set (i := 10) sc__law_do.nd rfl (.inl rfl) (qe_ifExp (QW.pt (qw_or (qt_cmp (od_eq hr.units) (qe_ix xd_ix (qv 10) qe_int (fun _ _ => rfl)) (qe_tup qa_nil) (nomark _)) (qw_or1 (qt_cmp od_gt (qe_callB cd_len rfl T.n_len (by decide +kernel) (qa_cons (qe_ix xd_ix (qv 10) qe_int (fun _ _ => rfl)) qa_nil)) qe_int (nomark _))))) (qe_tup (qa_cons qe_str (qa_cons (qe_slice false (qe_ix xd_ix (qv 10) qe_int (fun _ _ => rfl)) (qo_some qe_int) qo_none) (qa_cons (qe_tup qa_nil) qa_nil)))) (qe_tup (qa_cons qe_str (qa_cons (qe_ix xd_ix (qv 10) qe_int (fun _ _ => rfl)) (qa_cons (qe_tup qa_nil) qa_nil))))))))
      (qss_one (qs_ret (qv 10))))))))))), fun ds G R h => ?_⟩)
  · obtain ⟨s, M, k, o, left, most, rfl, _⟩ := h; rfl
  · obtain ⟨s, M, k, o, left, most, rfl, hM, hl7, hl0, hmo, e, ho, hk, h⟩ := h
    have hn1 := hM.n1; have hn2 := hM.n2
    refine seq_cut (fun σ' G' => ∃ q, σ' = [some (.ref s), some M.d, some (.int left), some (.int most), some (.ref q), none, none, none, none, none, none] ∧ s ≠ q ∧ G q = none ∧ Ext s G G' ∧ G' s = some o ∧ G' q = some (.lst (M.names.map .str))) ?_ (fun N1 hN1 => ?_)
    rotate_left
    · unfold Mach.d
      walk_at "go"
      rename_i q nq
      have hsq := fr_ne e nq
      exact hN1 _ _ ⟨q, rfl, hsq, nq, (Ext.refl s G).new nq hsq, by rw [gup_ne hsq]; exact e, gup_same⟩
    rintro σ G1 ⟨q, rfl, hsq, nq, hx1, e1, eq1⟩
    refine seq_cut (fun σ' G' => ∃ p, σ' = [some (.ref s), some M.d, some (.int left), some (.int most), some (.ref q), some (.ref p), none, none, none, none, none] ∧ s ≠ p ∧ q ≠ p ∧ G p = none ∧ Ext s G G' ∧ G' s = some o ∧ G' q = some (.lst (M.names.map .str)) ∧ G' p = some (.lst [])) ?_ (fun N1 hN1 => ?_)
    rotate_left
    · walk_at "go"
      rename_i p np
      have hsp := fr_ne e1 np
      have hqp := fr_ne eq1 np
      exact hN1 _ _ ⟨p, rfl, hsp, hqp, hx1.nn hsp.symm np, hx1.new np hsp, by rw [gup_ne hsp]; exact e1, by rw [gup_ne hqp]; exact eq1, gup_same⟩
    rintro σ G2 ⟨p, rfl, hsp, hqp, np, hx2, e2, eq2, ep2⟩
    refine seq_cut (fun σ' G' => ∃ r, σ' = [some (.ref s), some M.d, some (.int left), some (.int most), some (.ref q), some (.ref p), some (.ref r), none, none, none, none] ∧ s ≠ r ∧ q ≠ r ∧ p ≠ r ∧ G r = none ∧ Ext s G G' ∧ G' s = some o ∧ G' q = some (.lst (M.names.map .str)) ∧ G' p = some (.lst []) ∧ G' r = some (.lst [])) ?_ (fun N1 hN1 => ?_)
    rotate_left
    · walk_at "go"
      rename_i r nr
      have hsr := fr_ne e2 nr
      have hqr := fr_ne eq2 nr
      have hpr := fr_ne ep2 nr
      exact hN1 _ _ ⟨r, rfl, hsr, hqr, hpr, hx2.nn hsr.symm nr, hx2.new nr hsr, by rw [gup_ne hsr]; exact e2, by rw [gup_ne hqr]; exact eq2, by rw [gup_ne hpr]; exact ep2, gup_same⟩
    rintro σ G3 ⟨r, rfl, hsr, hqr, hpr, nr, hx3, e3, eq3, ep3, er3⟩
    refine seq_cut (fun σ' G' => ∃ (sets : List (Str × Tm)) (nm : List Str) (ps : List Tm) (o1 : GO) (x7 x8 : Option D), σ' = [some (.ref s), some M.d, some (.int left), some (.int most), some (.ref q), some (.ref p), some (.ref r), x7, x8, none, none] ∧ Ext s G G' ∧ G' s = some o1 ∧ BagO (k + 1 + 1540 * 3) o1 ∧ G' p = some (.lst (ps.map Tm.d)) ∧ G' r = some (.lst (sets.map setD)) ∧ PoolOk M ps ∧ ps.length ≤ 400 ∧ sets.length ≤ 3 ∧ (∀ x ∈ sets, TOk M x.2) ∧ (sets.map (·.1) ++ nm).Perm M.names) ?_ (fun N1 hN1 => ?_)
    rotate_left
    · walk_at "go"
      rw [len_ref eq3, List.length_map]
      walk_at "go"
      rename_i r1 o1 hr1 ho1
      obtain ⟨m, em, hm1, hm2⟩ : ∃ m : Nat, (if (r1 : Int) < (M.names.length : Int) then (r1 : Int) else (M.names.length : Int)) = (m : Int) ∧ m ≤ M.names.length ∧ m ≤ 3 := ⟨(if (r1 : Int) < (M.names.length : Int) then (r1 : Int) else (M.names.length : Int)).toNat, by split <;> omega, by split <;> omega, by split <;> omega⟩
      rw [em, Int.toNat_natCast]
      refine for_rng m (fun j σ' G' => ∃ (sets : List (Str × Tm)) (nm : List Str) (ps : List Tm) (o1 : GO) (x7 x8 : Option D), σ' = [some (.ref s), some M.d, some (.int left), some (.int most), some (.ref q), some (.ref p), some (.ref r), x7, x8, none, none] ∧ Ext s G G' ∧ G' s = some o1 ∧ BagO (k + 1 + 1540 * j) o1 ∧ G' q = some (.lst (nm.map .str)) ∧ G' p = some (.lst (ps.map Tm.d)) ∧ G' r = some (.lst (sets.map setD)) ∧ PoolOk M ps ∧ ps.length ≤ 127 * j ∧ sets.length = j ∧ (∀ x ∈ sets, TOk M x.2) ∧ (sets.map (·.1) ++ nm).Perm M.names) ?turn ?fin _ _ ⟨[], M.names, [], o1, none, none, rfl, hx3.self, gup_same, ho1, by rw [gup_ne hsq.symm]; exact eq3, by rw [gup_ne hsp.symm]; exact ep3, by rw [gup_ne hsr.symm]; exact er3, fun _ h => (by cases h), by simp, rfl, fun _ h => (by cases h), .refl _⟩
      case fin =>
        rintro σ' G' ⟨sets, nm, ps, o2, x7, x8, rfl, hx, es, ho2, eq', ep', er', hps, hpl, hsl, hst, hpm⟩
        exact hN1 _ _ ⟨sets, nm, ps, o2, x7, x8, rfl, hx, es, ho2.mono (by omega), ep', er', hps, by omega, by omega, hst, hpm⟩
      case turn =>
        rintro j σ' G' hj ⟨sets, nm, ps, o2, x7, x8, rfl, hx, es, ho2, eq', ep', er', hps, hpl, hsl, hst, hpm⟩ N hN
        have hlen := hpm.length_eq
        rw [List.length_append, List.length_map] at hlen
        walk_at "go"
        refine ⟨mty_at eq', ?_⟩
        rw [len_ref eq', List.length_map]
        refine go_draw es ho2 (by omega) (by omega) (by omega) fun r2 o3 hr2 ho3 => ?_
        have hk2 : r2 < nm.length := by omega
        refine popAt_go (d := .str nm[r2]) (by rw [gup_ne hsq.symm]; exact eq') (by rw [List.getElem?_map, List.getElem?_eq_getElem hk2]; rfl) (by omega) ?_
        rw [erase_map]
        walk_at "go"
        refine ⟨mty_at (by rw [gup_ne hqr.symm, gup_ne hsr.symm]; exact er'), ?_⟩
        refine go_term hM (by omega) (by omega) hsp (by rw [gup_ne hsq, gup_same]) ho3 (by omega) (by rw [gup_ne hqp.symm, gup_ne hsp.symm]; exact ep') hps (by omega) fun t ps' o4 ht hd hps' hpl' ho4 => ?_
        have er2 : gup (gup (gup (gup G' s o3) q (.lst ((nm.eraseIdx r2).map .str))) p (.lst (ps'.map Tm.d))) s o4 r = some (.lst (sets.map setD)) := by rw [gup_ne hsr.symm, gup_ne hpr.symm, gup_ne hqr.symm, gup_ne hsr.symm]; exact er'
        walk_at "go"
        rw [atL_at er2]
        refine ⟨by rw [List.length_map, sizeLine_eq]; omega, ?_⟩
        refine hN _ _ ⟨sets ++ [(nm[r2], t)], nm.eraseIdx r2, ps', o4, _, _, rfl, ((((hx.self).put nq).put np).self).put nr, by rw [gup_ne hsr, gup_same], ho4.mono (by omega), by rw [gup_ne hqr, gup_ne hsq.symm, gup_ne hqp, gup_same], by rw [gup_ne hpr, gup_ne hsp.symm, gup_same], by rw [gup_same, List.map_append]; rfl, hps', by omega, by rw [List.length_append, hsl]; rfl, fun x hx' => ?_, ?_⟩
        · rcases List.mem_append.mp hx' with hx' | hx'
          · exact hst x hx'
          · rw [List.mem_singleton] at hx'; subst hx'; exact ⟨ht, by simp only; omega⟩
        · refine List.Perm.trans ?_ hpm
          rw [List.map_append, List.append_assoc]
          exact List.Perm.append_left _ (erase_perm hk2)
    rintro σ G4 ⟨sets, nm, ps, o1, x7, x8, rfl, hx4, e4, ho4, ep4, er4, hps, hpl, hsl, hst, hpm⟩
    have hnm : ∀ x ∈ sets, x.1 ∈ M.names := fun x hx => hpm.mem_iff.mp (List.mem_append_left _ (List.mem_map.mpr ⟨x, hx, rfl⟩))
    have hnd : (sets.map (·.1)).Nodup := (List.nodup_append.mp (hpm.nodup_iff.mpr hM.nm.nd)).1
    refine seq_cut (fun σ' G' => σ' = [some (.ref s), some M.d, some (.int left), some (.int most), some (.ref q), some (.ref p), some (.ref r), x7, x8, some (.tup []), none] ∧ G' = G4) ?_ (fun N1 hN1 => ?_)
    rotate_left
    · walk_at "go"
      exact hN1 _ _ ⟨rfl, rfl⟩
    rintro σ G5 ⟨rfl, rfl⟩
    refine seq_cut (fun σ' G' => ∃ (st : Option (Tm × Tm)) (o1 : GO), σ' = [some (.ref s), some M.d, some (.int left), some (.int most), some (.ref q), some (.ref p), some (.ref r), x7, x8, some (.tup (st.toList.map stD)), none] ∧ (∀ x ∈ st, TOk M x.1 ∧ TOk M x.2) ∧ Ext s G G' ∧ G' s = some o1 ∧ BagO (k + 8000) o1 ∧ G' r = some (.lst (sets.map setD))) ?_ (fun N1 hN1 => ?_)
    rotate_left
    · walk_at "go"
      rename_i r5 o5 hr5 ho5
      split
      · walk_at "go"
        refine go_term hM (by omega) (by omega) hsp gup_same ho5 (by omega) (by rw [gup_ne hsp.symm]; exact ep4) hps (by omega) fun t ps' o6 ht hd hps' hpl' ho6 => ?_
        walk_at "go"
        refine go_term hM (by omega) (by omega) hsp gup_same ho6 (by omega) (by rw [gup_ne hsp.symm, gup_same]) hps' (by omega) fun u ps2 o7 hu hdu hps2 hpl2 ho7 => ?_
        walk_at "go"
        refine hN1 _ _ ⟨some (t, u), o7, rfl, fun x hx => ?_, (((((hx4.self).put np).self).put np).self), gup_same, ho7.mono (by omega), by rw [gup_ne hsr.symm, gup_ne hpr.symm, gup_ne hsr.symm, gup_ne hpr.symm, gup_ne hsr.symm]; exact er4⟩
        cases hx
        exact ⟨⟨ht, by simp only; omega⟩, hu, by simp only; omega⟩
      · walk_at "go"
        exact hN1 _ _ ⟨none, o5, rfl, fun x hx => (by cases hx), hx4.self, gup_same, ho5.mono (by omega), by rw [gup_ne hsr.symm]; exact er4⟩
    rintro σ G6 ⟨st, o6, rfl, hst6, hx6, e6, ho6, er6⟩
    refine seq_cut (fun σ' G' => σ' = [some (.ref s), some M.d, some (.int left), some (.int most), some (.ref q), some (.ref p), some (.ref r), x7, x8, some (.tup (st.toList.map stD)), some (Mn.doo sets st).d] ∧ G' = G6) ?_ (fun N1 hN1 => ?_)
    rotate_left
    · walk_at "go"
      rw [tuple_r er6]
      walk_at "go"
      exact hN1 _ _ ⟨rfl, rfl⟩
    rintro σ G7 ⟨rfl, rfl⟩
    have hdo : (Mn.doo sets st).ok M := ⟨by omega, hst, hst6, hnm, hnd⟩
    refine seq_cut (fun σ' G' => ∃ (sets' : List (Str × Tm)) (st' : Option (Tm × Tm)), σ' = [some (.ref s), some M.d, some (.int left), some (.int most), some (.ref q), some (.ref p), some (.ref r), x7, x8, some (.tup (st.toList.map stD)), some (Mn.doo sets' st').d] ∧ G' = G7 ∧ (Mn.doo sets' st').ok M ∧ (manyF (.doo sets' st') : Int) ≤ most) ?_ (fun N1 hN1 => ?_)
    rotate_left
    · rw [x_while]
      refine ⟨_, wh_go (fun n σ' G' => ∃ (sets' : List (Str × Tm)) (st' : Option (Tm × Tm)), σ' = [some (.ref s), some M.d, some (.int left), some (.int most), some (.ref q), some (.ref p), some (.ref r), x7, x8, some (.tup (st.toList.map stD)), some (Mn.doo sets' st').d] ∧ G' = G7 ∧ (Mn.doo sets' st').ok M ∧ sets'.length + st'.toList.length ≤ n) ?turn (sets.length + st.toList.length) _ _ ⟨sets, st, rfl, rfl, hdo, Nat.le_refl _⟩⟩
      case turn =>
        rintro n σ' G' ⟨sets', st', rfl, rfl, hdo', hn⟩ N hN
        walk_at "go"
        refine go_many hM hdo' ?_
        walk_at "go"
        by_cases hmany : most < (manyF (.doo sets' st') : Int)
        · simp only [hmany, decide_true]
          have hd' := tail_ok hdo'
          have hne : lessDo sets' st' ≠ sets' ∨ st' ≠ none := by
            exact Decidable.byContradiction fun hc => by
              have h1 : lessDo sets' st' = sets' := Decidable.byContradiction fun z => hc (.inl z)
              have h2 : st' = none := Decidable.byContradiction fun z => hc (.inr z)
              subst h2
              unfold lessDo at h1
              rw [if_pos (.inl rfl)] at h1
              cases sets' with
              | nil => simp [manyF, hidF, Mn.parts, Mn.cops, copies, unlikeF] at hmany; omega
              | cons a l => have := congrArg List.length h1; simp at this
          have hlt : (lessDo sets' st').length + (none : Option (Tm × Tm)).toList.length < sets'.length + st'.toList.length := by
            unfold lessDo at hne ⊢
            split
            · rename_i c
              rw [if_pos c] at hne
              cases st' with
              | none =>
                rcases hne with hne | hne
                · cases sets' with
                  | nil => exact absurd rfl hne
                  | cons a l => simp
                · exact absurd rfl hne
              | some z => rw [List.length_tail]; simp; omega
            · rename_i c
              cases st' with
              | none => exact absurd (.inl rfl) c
              | some z => simp
          have hgo : N [some (.ref s), some M.d, some (.int left), some (.int most), some (.ref q), some (.ref p), some (.ref r), x7, x8, some (.tup (st.toList.map stD)), some (Mn.doo (lessDo sets' st') none).d] G' := hN (n - 1) _ _ (by omega) ⟨_, none, rfl, rfl, hd', by omega⟩
          rw [show (Mn.doo (lessDo sets' st') none).d = .tup [.str "do", .tup ((lessDo sets' st').map setD), .tup []] from rfl] at hgo
          rw [show (Mn.doo sets' st').d = .tup [.str "do", .tup (sets'.map setD), .tup (st'.toList.map stD)] from rfl]
          walk_at "go"
          refine eq_st hM hdo'.2.2.1 ?_
          unfold lessDo at hgo
          by_cases hst0 : st' = none
          · rw [if_pos (.inl hst0)] at hgo
            rw [decide_eq_true hst0]
            walk_at "go"
            rw [tail_d]
            exact hgo
          · rw [decide_eq_false hst0]
            walk_at "go"
            rw [List.length_map]
            by_cases hl2 : 2 < sets'.length
            · rw [if_pos (.inr hl2)] at hgo
              rw [if_pos (by omega)]
              walk_at "go"
              rw [tail_d]
              exact hgo
            · rw [if_neg (fun z => z.elim hst0 hl2)] at hgo
              rw [if_neg (by omega)]
              walk_at "go"
              exact hgo
        · simp only [hmany, decide_false]
          exact hN1 _ _ ⟨sets', st', rfl, rfl, hdo', by omega⟩
    rintro σ G8 ⟨sets', st', rfl, rfl, hdo', hmost⟩
    walk_at "w"
    exact rt_ext hx6 e6 (h sets' st' o6 hdo' hmost ho6)
theorem go_do {s : Addr} {M : Mach} {G : Gp} {R : DK} {o : GO} {k : Nat} {left most : Int} (hM : M.ok) (hl : left ≤ 7) (hl0 : 0 ≤ left) (hmo : 0 ≤ most) (e : G s = some o) (h : BagO k o) (hk : k ≤ 700000) (q : ∀ (sets : List (Str × Tm)) (st : Option (Tm × Tm)) (o' : GO), (Mn.doo sets st).ok M → (manyF (.doo sets st) : Int) ≤ most → BagO (k + 8000) o' → R (Mn.doo sets st).d (gup G s o')) : sp__law_do [.ref s, M.d, .int left, .int most] G R := ⟨s, M, k, o, left, most, rfl, hM, hl, hl0, hmo, e, h, hk, q⟩
end K42


set_option Elab.async false
set_option linter.all false
set_option maxRecDepth 100000
set_option maxHeartbeats 4000000
set_option autoImplicit false
namespace K42
open PySem PySem.Spec PyProof.Rows L2 DL
local macro_rules | `(tactic| walk_at "d") => `(tactic| dsimp only [dSeq, dNext, dIfS, dRet, dRetN, dAsg, dName, dVar, dC, dOp, dUn, dChain, dB, dAnd, dOr, dNot, dAndV, dOrV, dNotV, dIf, dNil, dCons, dTup, dLst, newL, dCallB, dCall, dCallK, dDrop, dAug, dAugS, dSub, dM, dM0, dSlice, dNoPart, dPart, dLc, dYes, dFor, dIter, dRng1, dEnum, dZipM, srcD, dStar, dInK, dIxK, dLenSet, dRev,
  startD, wipeD, setAll, dNames, List.map_cons, List.map_nil, List.length_cons, List.length_nil, List.replicate, List.cons_append, List.nil_append, List.append_nil, List.getElem?_cons_zero, List.getElem?_cons_succ, List.set_cons_zero, List.set_cons_succ, List.map, Nat.zero_add, Nat.reduceAdd, Nat.reduceSub, Nat.sub_self, Nat.succ_sub_succ_eq_sub])
local macro_rules | `(tactic| walk_at "o") => `(tactic| simp only [dAdd_ii, dAdd_ss, dAdd_tt, dAdd_ll, dMinus_ii, dMul_ii, dMod_ii, dFdiv_ii, dPow_ii, dShl_ii, dNeg_i, dIadd_ii, dLt_ii, dLe_ii, dGt_ii, dGe_ii, dEq_ii, dNe_ii, dEq_ss, dNe_ss, dEq_bb, dNe_bb, dIs_n, dIsNot_n, dMax2_ii, dMin2_ii, dTuple_t, dTuple_l, dList_t, dList_l, dIx_t, dIx_l, dIx_s, dSl_t, dSl_l, dSl_s, newL_f, len_tup, len_lst])
local macro_rules | `(tactic| walk_at "w") => `(tactic| dsimp only [x_var, x_c, x_op, x_un, x_b, x_and, x_or, x_not, x_chain, x_andV, x_orV, x_notV, x_if, x_nil, x_cons, x_tup, x_lst0, x_lst1, x_callB, x_call, x_callK, x_next, x_seq, x_break, x_cont, x_drop, x_ret, x_ifS, x_asg, x_name, x_names, x_sub, x_aug, x_augS, x_for, x_lc0, x_lc1, x_yes, x_noPart, x_part, x_slice, x_iter, it_t, it_l, it_n, it_s, it_r, x_rng1, x_enum, x_rev, x_m, x_m0, x_mX, x_zip, x_star_t, x_star_l, x_lenSet, x_forgo0, x_lcgo0, x_while, x_par, x_sortK,
  br_t, br_f, isB_bl, isI_int, isN_some, slo_some, atL_lst, ix_t, ix_l, ix_n,
  dAdd_ii, dAdd_ss, dAdd_tt, dAdd_ll, dMinus_ii, dMul_ii, dMod_ii, dFdiv_ii, dPow_ii, dShl_ii, dNeg_i, dIadd_ii, dLt_ii, dLe_ii, dGt_ii, dGe_ii, ltE_ii, ltE_ss, srcD, isi_i, isi_s, isi_b, isi_n, isi_t, isi_nt, isi_l, isi2_i, isi2_s, isi2_b, isi2_n, isi2_t, isi2_nt, isi2_l, inon_n, inon_i, inon_s, inon_b, inon_t, inon_l, inon_r, dEq_ii, dNe_ii, dEq_ss, dNe_ss, dEq_bb, dNe_bb, dIs_n, dIsNot_n, dMax2_ii, dMin2_ii, dTuple_t, dTuple_l, dList_t, dList_l, dSl_t, dSl_l, dSl_s, newL_f, newL_t, app_r, int_b, int_i, strI_i, strX_i, strX_s,
  startD, wipeD, setAll, permL, List.filterMap, List.map_cons, List.map_nil, List.length_cons, List.length_nil, List.replicate, List.cons_append, List.nil_append, List.append_nil, List.getElem?_cons_zero, List.getElem?_cons_succ, List.set_cons_zero, List.set_cons_succ, List.map, Nat.zero_add, Nat.reduceAdd, Nat.reduceSub, Nat.sub_self, Nat.succ_sub_succ_eq_sub])
local macro_rules | `(tactic| walk_at "v") => `(tactic| simp only [ofString_inj, String.reduceEq, at_0, at_1, at_2, at_3, at_4, at_5, isN_some, isBB_bl, isB_bl, br_t, br_f, br_not, br_and, br_or, br_dec, ix_r, len_tup, len_lst, len_nt, ltE_key, gup_gup, gup_same, starD_one, cut1, cut2, kt1, kt2, kt3, kt4, kt5, kt6, isTy, String.reduceBEq, Bool.or_false, Bool.false_or, Bool.true_or, Bool.or_true, Bool.and_false, Bool.false_and, Bool.true_and, Bool.and_true, Bool.not_true, Bool.not_false, decide_true, decide_false, eq_self_iff_true, Bool.false_eq_true, Int.reduceAdd, Int.add_zero, if_true, if_false, true_and, and_true])
local macro_rules | `(tactic| walk_at "side") => `(tactic| first | with_reducible assumption | omega | exact mty_up | exact True.intro | (simp only [List.mem_cons, ofString_inj, String.reduceEq, true_or, or_true, List.length_map]; done) | with_reducible exact (rfl : (_ : Nat) = _) | exact (rfl : (_ : Option String) = _) | (refine small_line ?_; omega) | (walk_at "ll"; first | omega | (refine small_line ?_; omega) | fail) | (exact log_small (by omega)) | fail)
local macro_rules | `(tactic| walk_at "x") => `(tactic| fail)
local macro_rules | `(tactic| walk_at "go") => `(tactic| repeat' (first | dsimp only [x_var, x_c, x_op, x_un, x_b, x_and, x_or, x_not, x_chain, x_andV, x_orV, x_notV, x_if, x_nil, x_cons, x_tup, x_lst0, x_lst1, x_callB, x_call, x_callK, x_next, x_seq, x_break, x_cont, x_drop, x_ret, x_ifS, x_asg, x_name, x_names, x_sub, x_aug, x_augS, x_for, x_lc0, x_lc1, x_yes, x_noPart, x_part, x_slice, x_iter, it_t, it_l, it_n, it_s, it_r, x_rng1, x_enum, x_rev, x_m, x_m0, x_mX, x_zip, x_star_t, x_star_l, x_lenSet, x_forgo0, x_lcgo0, x_while, x_par, x_sortK, br_t, br_f, isB_bl, isI_int, isN_some, slo_some, atL_lst, ix_t, ix_l, ix_n, dAdd_ii, dAdd_ss, dAdd_tt, dAdd_ll, dMinus_ii, dMul_ii, dMod_ii, dFdiv_ii, dPow_ii, dShl_ii, dNeg_i, dIadd_ii, dLt_ii, dLe_ii, dGt_ii, dGe_ii, ltE_ii, ltE_ss, srcD, isi_i, isi_s, isi_b, isi_n, isi_t, isi_nt, isi_l, isi2_i, isi2_s, isi2_b, isi2_n, isi2_t, isi2_nt, isi2_l, inon_n, inon_i, inon_s, inon_b, inon_t, inon_l, inon_r, dEq_ii, dNe_ii, dEq_ss, dNe_ss, dEq_bb, dNe_bb, dIs_n, dIsNot_n, dMax2_ii, dMin2_ii, dTuple_t, dTuple_l, dList_t, dList_l, dSl_t, dSl_l, dSl_s, newL_f, newL_t, app_r, int_b, int_i, strI_i, strX_i, strX_s, startD, wipeD, setAll, permL, List.filterMap, List.map_cons, List.map_nil, List.length_cons, List.length_nil, List.replicate, List.cons_append, List.nil_append, List.append_nil, List.getElem?_cons_zero, List.getElem?_cons_succ, List.set_cons_zero, List.set_cons_succ, List.map, Nat.zero_add, Nat.reduceAdd, Nat.reduceSub, Nat.sub_self, Nat.succ_sub_succ_eq_sub] | simp only [ofString_inj, String.reduceEq, at_0, at_1, at_2, at_3, at_4, at_5, isN_some, isBB_bl, isB_bl, br_t, br_f, br_not, br_and, br_or, br_dec, ix_r, len_tup, len_lst, len_nt, ltE_key, gup_gup, gup_same, starD_one, cut1, cut2, kt1, kt2, kt3, kt4, kt5, kt6, isTy, String.reduceBEq, Bool.or_false, Bool.false_or, Bool.true_or, Bool.or_true, Bool.and_false, Bool.false_and, Bool.true_and, Bool.and_true, Bool.not_true, Bool.not_false, decide_true, decide_false, eq_self_iff_true, Bool.false_eq_true, Int.reduceAdd, Int.add_zero, if_true, if_false, true_and, and_true] | walk_at "x" | with_reducible refine kont_go ?_ | with_reducible refine rt_sub (by assumption) ?_ | with_reducible refine rt_lst (by assumption) ?_ | with_reducible refine rt_drop (by assumption) ?_ | with_reducible refine rt_keep (by assumption) (by assumption) ?_ | with_reducible refine rt_same ?_ | (refine fun (p : Addr) (_ : _ = none) => ?_) | refine join_gor gup_same rfl (by walk_at "side") ?_ | with_reducible refine lc_cons ?_ | with_reducible refine for_cons ?_ | refine join_go rfl (by walk_at "side") ?_ | refine And.intro (by first | with_reducible assumption | omega | exact mty_up | exact True.intro | (simp only [List.mem_cons, ofString_inj, String.reduceEq, true_or, or_true, List.length_map]; done) | with_reducible exact (rfl : (_ : Nat) = _) | exact (rfl : (_ : Option String) = _) | (refine small_line ?_; omega) | (walk_at "ll"; first | omega | (refine small_line ?_; omega) | fail) | (exact log_small (by omega)) | fail) ?_ | fail))
local macro_rules | `(tactic| walk_at "ll") => `(tactic| simp only [List.length_map, List.length_append, List.length_cons, List.length_nil, List.map_cons, List.map_nil, List.sum_cons, List.sum_nil, len_app, rng_length, ll_0, ll_1, ll_2, ll_3, ll_4, ll_5, ll_6, ll_7, ll_8, ll_9, ll_10, ll_11, ll_12, ll_13, ll_14, ll_15, ll_16, ll_17, ll_18, ll_19, ll_20, ll_21, ll_22, ll_23, ll_24, ll_25, ll_26, ll_27, ll_28])
def sbud : Nat → Nat
  | 0 => 2 | 1 => 2 | n + 2 => 2 * sbud (n + 1) + 9000
theorem sbud_pos (n : Nat) : 2 ≤ sbud n := by
  rcases n with _ | _ | n <;> simp [sbud]
theorem sbud7 {n : Nat} (h : n ≤ 7) : sbud n ≤ 600000 := by
  rcases (show n = 0 ∨ n = 1 ∨ n = 2 ∨ n = 3 ∨ n = 4 ∨ n = 5 ∨ n = 6 ∨ n = 7 by omega) with rfl | rfl | rfl | rfl | rfl | rfl | rfl | rfl <;> decide
/-- how many orders the greatest do or test has -/
def mostF : Mn → Nat
  | .doo sets st => manyF (.doo sets st)
  | .ite t m n => max (spreadF t []).length (max (mostF m) (mostF n))
theorem many_nil : manyF (.doo [] none) = 0 := rfl
theorem nil_ok (M : Mach) : (Mn.doo [] none).ok M := ⟨by simp, fun _ h => (by cases h), fun _ h => (by cases h), fun _ h => (by cases h), by simp⟩
def sp__law_sense (n : Nat) : DSp := fun ds G R => ∃ (s : Addr) (M : Mach) (k : Nat) (o : GO) (left most : Int), ds = [.ref s, M.d, .int left, .int most] ∧ M.ok ∧ left ≤ n ∧ 0 ≤ left ∧ n ≤ 7 ∧ 1 ≤ most ∧ G s = some o ∧ BagO k o ∧ k + sbud n ≤ 690000 ∧ ∀ (m : Mn) (o' : GO), m.ok M → m.lv ≤ n → (mostF m : Int) ≤ most → BagO (k + sbud n) o' → R m.d (gup G s o')
theorem unlike_one (t : Tm) : unlikeF [t] = spreadF t [] := by rw [unlike_spread]; rfl
theorem ix_last {t : Tm} {M : Mach} (ht : TOk M t) (h2 : 1 < (unlikeF [t]).length) : ∃ u : Tm, TOk M u ∧ u.dep < t.dep ∧ ∀ {G : Gp} {R : DK}, R u.d G → dIx t.d (.int (-1)) G R := by
  cases t with
  | num w => exact absurd h2 (by rw [unlike_one]; simp [spreadF, addT])
  | reg w => exact absurd h2 (by rw [unlike_one]; simp [spreadF])
  | load t => exact ⟨t, ⟨ht.1, by have := ht.2; simp only [Tm.dep] at this; omega⟩, by simp [Tm.dep], fun k => k⟩
  | op o t u => exact ⟨u, ⟨ht.1.2.2, by have := ht.2; simp only [Tm.dep] at this; omega⟩, by simp only [Tm.dep]; omega, fun k => k⟩
local macro_rules | `(tactic| walk_at "x") => `(tactic| first
  | refine go_draw (by first | exact gup_same | assumption | fail) (by assumption) (by omega) (by walk_at "side") (by walk_at "side") fun _ _ _ _ => ?_
  | fail)
theorem ok0__law_sense {P : Program} {w : World} {K : PySem.W.Frag} {mg : Str → Option Value} {base : Heap} {a : Ad} (T : Tx w K mg a) {n j : Nat} {sp' : DSp} (ih : FnD P w K mg base j a.f__law_sense a.fd__law_sense ["bag", "kit", "left", "most"] sp') (hj : j ≤ n + 17) (hs : ∀ m, n = m + 1 → ∀ ds G R, sp__law_sense m ds G R → sp' ds G R) : FnD P w K mg base (n + 18) a.f__law_sense a.fd__law_sense ["bag", "kit", "left", "most"] (sp__law_sense n) := by
  refine fun_okD T.F__law_sense sc__law_sense (fun ds G R h => ?_) (fun cdv A outer s H hr => ⟨_, (qss_cons (qs_set (i := 4) sc__law_sense.nd rfl (.inl rfl) (qe_call (ok__law_draw T) (hr.mono (by omega)) rfl T.g__law_draw T.F__law_draw.kp T.b__law_draw (qa_cons (qv 0) (qa_cons qe_int qa_nil))))
      (qss_cons (qs_if (qt_cmp (od_ltE (room100 hr)) (qv 2) qe_int (nomark _))
      (qss_one (qs_ret (qe_tup (qa_cons qe_str (qa_cons (qe_tup qa_nil) (qa_cons (qe_tup qa_nil) qa_nil))))))
      qss_nil)
      (qss_cons (qs_if (QW.pt (qw_or (QW.pt (qw_and (qt_cmp od_gt (qv 4) qe_int (nomark _)) (qw_and1 (qt_cmp (od_ltE (room100 hr)) (qv 2) qe_int (nomark _))))) (qw_or1 (qt_cmp (od_eq hr.units) (qv 4) qe_int (nomark _)))))
      (qss_one (qs_ret (qe_call (ok__law_do T) (hr.mono (by omega)) rfl T.g__law_do T.F__law_do.kp T.b__law_do (qa_cons (qv 0) (qa_cons (qv 1) (qa_cons (qv 2) (qa_cons (qv 3) qa_nil)))))))
      qss_nil)
      (qss_cons (qs_set (i := 5) sc__law_sense.nd rfl (.inl rfl) (qe_call (ok__law_term T) (hr.mono (by omega)) rfl T.g__law_term T.F__law_term.kp T.b__law_term (qa_cons (qv 0) (qa_cons (qv 1) (qa_cons (qe_op od_sub (qv 2) qe_int) (qa_cons (qe_lst true qa_nil) qa_nil))))))
      (qss_cons (qs_while PassesOwn.never (qt_cmp od_gt (qe_callB cd_len rfl T.n_len (by decide +kernel) (qa_cons (qe_call (ok__law_unlike T) (hr.mono (by omega)) rfl T.g__law_unlike T.F__law_unlike.kp T.b__law_unlike (qa_cons (qe_lst false (qa_cons (qv 5) qa_nil)) qa_nil)) qa_nil)) (qv 3) (nomark _))
      (qss_one (qs_set (i := 5) sc__law_sense.nd rfl (.inl rfl) (qe_ix xd_ix (qv 5) (qe_un od_neg qe_int) (fun _ _ => rfl)))))
      (qss_cons (qs_set (i := 6) sc__law_sense.nd rfl (.inl rfl) (qe_call ih (hr.mono (by omega)) rfl T.g__law_sense T.F__law_sense.kp T.b__law_sense (qa_cons (qv 0) (qa_cons (qv 1) (qa_cons (qe_op od_sub (qv 2) qe_int) (qa_cons (qv 3) qa_nil))))))
      (qss_one (qs_ret (qe_tup (qa_cons qe_str (qa_cons (qv 5) (qa_cons (qv 6) (qa_cons (qe_call ih (hr.mono (by omega)) rfl T.g__law_sense T.F__law_sense.kp T.b__law_sense (qa_cons (qv 0) (qa_cons (qv 1) (qa_cons (qe_op od_sub (qv 2) qe_int) (qa_cons (qv 3) qa_nil))))) qa_nil))))))))))))), fun ds G R h => ?_⟩)
  · obtain ⟨s, M, k, o, left, most, rfl, _⟩ := h; rfl
  · obtain ⟨s, M, k, o, left, most, rfl, hM, hln, hl0, hn7, hmo, e, ho, hk, h⟩ := h
    have hb := sbud_pos n
    refine seq_cut (fun σ' G' => ∃ (way : Nat) (o1 : GO), σ' = [some (.ref s), some M.d, some (.int left), some (.int most), some (.int (way : Nat)), none, none] ∧ way < 3 ∧ G' = gup G s o1 ∧ BagO (k + 1) o1) ?_ (fun N1 hN1 => ?_)
    rotate_left
    · walk_at "go"
      rename_i way o1 hway ho1
      exact hN1 _ _ ⟨way, o1, rfl, by omega, rfl, ho1⟩
    rintro σ G1 ⟨way, o1, rfl, hway, rfl, ho1⟩
    refine seq_cut (fun σ' G' => 2 ≤ left ∧ σ' = [some (.ref s), some M.d, some (.int left), some (.int most), some (.int (way : Nat)), none, none] ∧ G' = gup G s o1) ?_ (fun N1 hN1 => ?_)
    rotate_left
    · walk_at "go"
      split
      · walk_at "go"
        exact h (.doo [] none) o1 (nil_ok M) (by simp [Mn.lv]) (by show ((manyF (.doo [] none) : Nat) : Int) ≤ most; rw [many_nil]; omega) (ho1.mono (by omega))
      · exact hN1 _ _ ⟨by omega, rfl, rfl⟩
    rintro σ G1 ⟨hl2, rfl, rfl⟩
    obtain ⟨n', rfl⟩ : ∃ m, n = m + 2 := ⟨n - 2, by omega⟩
    simp only [sbud] at *
    have hb7 := sbud_pos (n' + 1)
    refine seq_cut (fun σ' G' => σ' = [some (.ref s), some M.d, some (.int left), some (.int most), some (.int (way : Nat)), none, none] ∧ G' = gup G s o1) ?_ (fun N1 hN1 => ?_)
    rotate_left
    · have hdo : sp__law_do [.ref s, M.d, .int left, .int most] (gup G s o1) fun d G1 => Rt R d G1 := go_do hM (by omega) (by omega) (by omega) gup_same ho1 (by omega) fun sets st o2 h1 h2 ho2 => rt_same (by
        rw [gup_gup]
        exact h _ o2 h1 (by simp [Mn.lv]) h2 (ho2.mono (by omega)))
      walk_at "go"
      split
      · split
        · exact hdo
        · split
          · exact hdo
          · exact hN1 _ _ ⟨rfl, rfl⟩
      · split
        · exact hdo
        · exact hN1 _ _ ⟨rfl, rfl⟩
    rintro σ G1 ⟨rfl, rfl⟩
    refine seq_cut (fun σ' G' => ∃ (t : Tm) (o2 : GO), σ' = [some (.ref s), some M.d, some (.int left), some (.int most), some (.int (way : Nat)), some t.d, none] ∧ TOk M t ∧ Ext s G G' ∧ G' s = some o2 ∧ BagO (k + 1600) o2) ?_ (fun N1 hN1 => ?_)
    rotate_left
    · walk_at "go"
      rename_i p np
      have hsp : s ≠ p := fr_ne gup_same np
      have np' : G p = none := by rw [gup_ne hsp.symm] at np; exact np
      refine go_term hM (by omega) (by omega) hsp (ps := []) (by rw [gup_ne hsp, gup_same]) ho1 (by omega) gup_same (fun x hx => by cases hx) (by simp) fun t ps' o2 ht hd hps' hpl' ho2 => ?_
      walk_at "go"
      exact hN1 _ _ ⟨t, o2, rfl, ⟨ht, by omega⟩, ((((Ext.refl s G).self).put np').self), gup_same, ho2.mono (by omega)⟩
    rintro σ G2 ⟨t0, o2, rfl, ht0, hx2, e2, ho2⟩
    refine seq_cut (fun σ' G' => ∃ (t : Tm), σ' = [some (.ref s), some M.d, some (.int left), some (.int most), some (.int (way : Nat)), some t.d, none] ∧ TOk M t ∧ ((spreadF t []).length : Int) ≤ most ∧ G' = G2) ?_ (fun N1 hN1 => ?_)
    rotate_left
    · rw [x_while]
      refine ⟨_, wh_go (fun n σ' G' => ∃ (t : Tm), σ' = [some (.ref s), some M.d, some (.int left), some (.int most), some (.int (way : Nat)), some t.d, none] ∧ TOk M t ∧ t.dep ≤ n ∧ G' = G2) ?turn t0.dep _ _ ⟨t0, rfl, ht0, Nat.le_refl _, rfl⟩⟩
      rintro n σ' G' ⟨t, rfl, ht, htn, rfl⟩ N hN
      walk_at "go"
      refine go_unlike (ts := [t]) hM (fun x hx => by rw [List.mem_singleton.mp hx]; exact ht) (by simp) ?_
      walk_at "go"
      rw [List.length_map]
      by_cases hc : most < ((unlikeF [t]).length : Int)
      · simp only [hc, decide_true]
        obtain ⟨u, hu, hud, hix⟩ := ix_last ht (by omega)
        walk_at "go"
        refine hix ?_
        exact hN (n - 1) _ _ (by omega) ⟨u, rfl, hu, by omega, rfl⟩
      · simp only [hc, decide_false]
        exact hN1 _ _ ⟨t, rfl, ht, by rw [← unlike_one]; omega, rfl⟩
    rintro σ G3 ⟨t, rfl, ht, htm, rfl⟩
    refine seq_cut (fun σ' G' => ∃ (m : Mn) (o2 : GO), σ' = [some (.ref s), some M.d, some (.int left), some (.int most), some (.int (way : Nat)), some t.d, some m.d] ∧ m.ok M ∧ m.lv ≤ n' + 1 ∧ (mostF m : Int) ≤ most ∧ Ext s G G' ∧ G' s = some o2 ∧ BagO (k + 1600 + sbud (n' + 1)) o2) ?_ (fun N1 hN1 => ?_)
    rotate_left
    · walk_at "go"
      refine hs (n' + 1) rfl _ _ _ ⟨s, M, _, o2, left - 1, most, rfl, hM, by omega, by omega, by omega, hmo, e2, ho2, by omega, fun m o3 h1 h2 h3 ho3 => ?_⟩
      walk_at "go"
      exact hN1 _ _ ⟨m, o3, rfl, h1, h2, h3, hx2.self, gup_same, ho3⟩
    rintro σ G4 ⟨m1, o4, rfl, h1, h2, h3, hx4, e4, ho4⟩
    walk_at "w"
    refine hs (n' + 1) rfl _ _ _ ⟨s, M, _, o4, left - 1, most, rfl, hM, by omega, by omega, by omega, hmo, e4, ho4, by omega, fun m2 o5 g1 g2 g3 ho5 => ?_⟩
    refine ⟨small_line (by simp), ?_⟩
    refine rt_ext (hx4.self) gup_same ?_
    exact h (.ite t m1 m2) o5 ⟨ht, h1, g1⟩ (by simp only [Mn.lv]; omega) (by simp only [mostF]; omega) (ho5.mono (by omega))
theorem ok__law_sense_n {P : Program} {w : World} {K : PySem.W.Frag} {mg : Str → Option Value} {base : Heap} {a : Ad} (T : Tx w K mg a) : ∀ n : Nat, FnD P w K mg base (n + 18) a.f__law_sense a.fd__law_sense ["bag", "kit", "left", "most"] (sp__law_sense n)
  | 0 => ok0__law_sense T (j := 0) fnd_never (by omega) (fun m e => by omega)
  | n + 1 => ok0__law_sense T (ok__law_sense_n T n) (by omega) (fun m e ds G R h => by
    have : n = m := by omega
    subst this
    exact h)
theorem ok__law_sense {P : Program} {w : World} {K : PySem.W.Frag} {mg : Str → Option Value} {base : Heap} {a : Ad} (T : Tx w K mg a) : FnD P w K mg base 25 a.f__law_sense a.fd__law_sense ["bag", "kit", "left", "most"] (sp__law_sense 7) := ok__law_sense_n T 7
theorem go_sense {s : Addr} {M : Mach} {G : Gp} {R : DK} {o : GO} {k : Nat} {left most : Int} (hM : M.ok) (hl : left ≤ 7) (hl0 : 0 ≤ left) (hmo : 1 ≤ most) (e : G s = some o) (h : BagO k o) (hk : k ≤ 90000) (q : ∀ (m : Mn) (o' : GO), m.ok M → m.lv ≤ 7 → (mostF m : Int) ≤ most → BagO (k + 600000) o' → R m.d (gup G s o')) : sp__law_sense 7 [.ref s, M.d, .int left, .int most] G R :=
  ⟨s, M, k, o, left, most, rfl, hM, hl, hl0, by omega, hmo, e, h, by have := sbud7 (n := 7) (by omega); omega, fun m o' h1 h2 h3 h4 => q m o' h1 h2 h3 (h4.mono (by have := sbud7 (n := 7) (by omega); omega))⟩
def sensesF : Mn → List Mn
  | .doo sets st => [.doo sets st] | .ite t m n => [.ite t m n] ++ sensesF m ++ sensesF n
theorem senses_len : ∀ m : Mn, (sensesF m).length < 2 ^ (m.lv + 1)
  | .doo _ _ => by simp [sensesF, Mn.lv]
  | .ite t m n => by
    have h1 := senses_len m
    have h2 := senses_len n
    have h3 : 2 ^ (m.lv + 1) ≤ 2 ^ (max m.lv n.lv + 1) := Nat.pow_le_pow_right (by omega) (by omega)
    have h4 : 2 ^ (n.lv + 1) ≤ 2 ^ (max m.lv n.lv + 1) := Nat.pow_le_pow_right (by omega) (by omega)
    simp only [sensesF, Mn.lv, List.length_append, List.length_cons, List.length_nil]
    rw [Nat.pow_succ]
    omega
theorem senses_ok {M : Mach} : ∀ {m : Mn}, m.ok M → ∀ x ∈ sensesF m, x.ok M
  | .doo _ _, h => fun x hx => by rw [sensesF, List.mem_singleton] at hx; subst hx; exact h
  | .ite t m n, h => fun x hx => by
    simp only [sensesF, List.mem_append, List.mem_singleton] at hx
    rcases hx with (rfl | hx) | hx
    · exact h
    · exact senses_ok h.2.1 x hx
    · exact senses_ok h.2.2 x hx
theorem hid_doo (sets : List (Str × Tm)) (st : Option (Tm × Tm)) : hidF (.doo sets st) = needsF (.doo sets st) := by unfold hidF; rw [parts_terms]; rfl
theorem hid_ite (t : Tm) (m n : Mn) : hidF (.ite t m n) = (spreadF t []).length := by unfold hidF; rw [parts_test]; rfl
theorem needs_max : ∀ m : Mn, needsF m ∈ (sensesF m).map hidF ∧ ∀ x ∈ (sensesF m).map hidF, x ≤ needsF m
  | .doo sets st => by
    simp only [sensesF, List.map_cons, List.map_nil, List.mem_singleton]
    exact ⟨(hid_doo sets st).symm, fun x hx => by rw [hx, hid_doo]; exact Nat.le_refl _⟩
  | .ite t m n => by
    obtain ⟨a1, a2⟩ := needs_max m
    obtain ⟨b1, b2⟩ := needs_max n
    simp only [sensesF, List.map_append, List.map_cons, List.map_nil, List.mem_append, List.mem_singleton, needsF, hid_ite]
    refine ⟨?_, fun x hx => ?_⟩
    · rcases Nat.le_total (max (needsF m) (needsF n)) (spreadF t []).length with c | c
      · exact .inl (.inl (by omega))
      · rcases Nat.le_total (needsF n) (needsF m) with d | d
        · rw [show max (spreadF t []).length (max (needsF m) (needsF n)) = needsF m by omega]; exact .inl (.inr a1)
        · rw [show max (spreadF t []).length (max (needsF m) (needsF n)) = needsF n by omega]; exact .inr b1
    · rcases hx with (hx | hx) | hx
      · omega
      · have := a2 x hx; omega
      · have := b2 x hx; omega
def sp__law_senses (n : Nat) : DSp := fun ds G R => ∃ (m : Mn), ds = [m.d] ∧ m.lv ≤ n ∧ n ≤ 7 ∧ R (.lst ((sensesF m).map Mn.d)) G
theorem ok0__law_senses {P : Program} {w : World} {K : PySem.W.Frag} {mg : Str → Option Value} {base : Heap} {a : Ad} (T : Tx w K mg a) {n j : Nat} {sp' : DSp} (ih : FnD P w K mg base j a.f__law_senses a.fd__law_senses ["sense"] sp') (hj : j ≤ n + 0) (hs : ∀ m, n = m + 1 → ∀ ds G R, sp__law_senses m ds G R → sp' ds G R) : FnD P w K mg base (n + 1) a.f__law_senses a.fd__law_senses ["sense"] (sp__law_senses n) := by
  refine fun_okD T.F__law_senses sc__law_senses (fun ds G R h => ?_) (fun cdv A outer s H hr => ⟨_, (qss_cons (qs_set (i := 1) sc__law_senses.nd rfl (.inl rfl) (qe_lst false (qa_cons (qv 0) qa_nil)))
      (qss_cons (qs_if (qt_cmp (od_eq hr.units) (qe_ix xd_ix (qv 0) qe_int (fun _ _ => rfl)) qe_str (nomark _))
      (qss_one (qs_set (i := 1) sc__law_senses.nd rfl (.inl rfl) (qe_op (od_add false) (qe_op (od_add false) (qv 1) (qe_call ih (hr.mono (by omega)) rfl T.g__law_senses T.F__law_senses.kp T.b__law_senses (qa_cons (qe_ix xd_ix (qv 0) qe_int (fun _ _ => rfl)) qa_nil))) (qe_call ih (hr.mono (by omega)) rfl T.g__law_senses T.F__law_senses.kp T.b__law_senses (qa_cons (qe_ix xd_ix (qv 0) qe_int (fun _ _ => rfl)) qa_nil)))))
      qss_nil)
      (qss_one (qs_ret (qv 1))))), fun ds G R h => ?_⟩)
  · obtain ⟨m, rfl, _⟩ := h; rfl
  · obtain ⟨m, rfl, hd, hn, h⟩ := h
    cases m with
    | doo sets st => unfold Mn.d; walk_at "go"; exact h
    | ite t m1 m2 =>
      simp only [Mn.lv] at hd
      obtain ⟨n', rfl⟩ : ∃ m, n = m + 1 := ⟨n - 1, by omega⟩
      have l1 := senses_len m1
      have l2 := senses_len m2
      have l3 : 2 ^ (m1.lv + 1) ≤ 2 ^ 8 := Nat.pow_le_pow_right (by omega) (by omega)
      have l4 : 2 ^ (m2.lv + 1) ≤ 2 ^ 8 := Nat.pow_le_pow_right (by omega) (by omega)
      rw [show (Mn.ite t m1 m2).d = .tup [.str "if", t.d, m1.d, m2.d] from rfl]
      walk_at "go"
      refine hs n' rfl _ _ _ ⟨m1, rfl, by omega, by omega, ?_⟩
      walk_at "go"
      refine hs n' rfl _ _ _ ⟨m2, rfl, by omega, by omega, ?_⟩
      walk_at "go"
      simpa [sensesF, Mn.d] using h
theorem ok__law_senses_n {P : Program} {w : World} {K : PySem.W.Frag} {mg : Str → Option Value} {base : Heap} {a : Ad} (T : Tx w K mg a) : ∀ n : Nat, FnD P w K mg base (n + 1) a.f__law_senses a.fd__law_senses ["sense"] (sp__law_senses n)
  | 0 => ok0__law_senses T (j := 0) fnd_never (by omega) (fun m e => by omega)
  | n + 1 => ok0__law_senses T (ok__law_senses_n T n) (by omega) (fun m e ds G R h => by
    have : n = m := by omega
    subst this
    exact h)
theorem ok__law_senses {P : Program} {w : World} {K : PySem.W.Frag} {mg : Str → Option Value} {base : Heap} {a : Ad} (T : Tx w K mg a) : FnD P w K mg base 8 a.f__law_senses a.fd__law_senses ["sense"] (sp__law_senses 7) := ok__law_senses_n T 7
theorem go_senses {m : Mn} {G : Gp} {R : DK} (hl : m.lv ≤ 7) (k : R (.lst ((sensesF m).map Mn.d)) G) : sp__law_senses 7 [m.d] G R := ⟨m, rfl, hl, by omega, k⟩
end K42


set_option Elab.async false
set_option linter.all false
set_option maxRecDepth 100000
set_option maxHeartbeats 4000000
set_option autoImplicit false
namespace K42
open PySem PySem.Spec PyProof.Rows L2 DL
local macro_rules | `(tactic| walk_at "d") => `(tactic| dsimp only [dSeq, dNext, dIfS, dRet, dRetN, dAsg, dName, dVar, dC, dOp, dUn, dChain, dB, dAnd, dOr, dNot, dAndV, dOrV, dNotV, dIf, dNil, dCons, dTup, dLst, newL, dCallB, dCall, dCallK, dDrop, dAug, dAugS, dSub, dM, dM0, dSlice, dNoPart, dPart, dLc, dYes, dFor, dIter, dRng1, dEnum, dZipM, srcD, dStar, dInK, dIxK, dLenSet, dRev,
  startD, wipeD, setAll, dNames, List.map_cons, List.map_nil, List.length_cons, List.length_nil, List.replicate, List.cons_append, List.nil_append, List.append_nil, List.getElem?_cons_zero, List.getElem?_cons_succ, List.set_cons_zero, List.set_cons_succ, List.map, Nat.zero_add, Nat.reduceAdd, Nat.reduceSub, Nat.sub_self, Nat.succ_sub_succ_eq_sub])
local macro_rules | `(tactic| walk_at "o") => `(tactic| simp only [dAdd_ii, dAdd_ss, dAdd_tt, dAdd_ll, dMinus_ii, dMul_ii, dMod_ii, dFdiv_ii, dPow_ii, dShl_ii, dNeg_i, dIadd_ii, dLt_ii, dLe_ii, dGt_ii, dGe_ii, dEq_ii, dNe_ii, dEq_ss, dNe_ss, dEq_bb, dNe_bb, dIs_n, dIsNot_n, dMax2_ii, dMin2_ii, dTuple_t, dTuple_l, dList_t, dList_l, dIx_t, dIx_l, dIx_s, dSl_t, dSl_l, dSl_s, newL_f, len_tup, len_lst])
local macro_rules | `(tactic| walk_at "w") => `(tactic| dsimp only [x_var, x_c, x_op, x_un, x_b, x_and, x_or, x_not, x_chain, x_andV, x_orV, x_notV, x_if, x_nil, x_cons, x_tup, x_lst0, x_lst1, x_callB, x_call, x_callK, x_next, x_seq, x_break, x_cont, x_drop, x_ret, x_ifS, x_asg, x_name, x_names, x_sub, x_aug, x_augS, x_for, x_lc0, x_lc1, x_yes, x_noPart, x_part, x_slice, x_iter, it_t, it_l, it_n, it_s, it_r, x_rng1, x_enum, x_rev, x_m, x_m0, x_mX, x_zip, x_star_t, x_star_l, x_lenSet, x_forgo0, x_lcgo0, x_while, x_par, x_sortK,
  br_t, br_f, isB_bl, isI_int, isN_some, slo_some, atL_lst, ix_t, ix_l, ix_n,
  dAdd_ii, dAdd_ss, dAdd_tt, dAdd_ll, dMinus_ii, dMul_ii, dMod_ii, dFdiv_ii, dPow_ii, dShl_ii, dNeg_i, dIadd_ii, dLt_ii, dLe_ii, dGt_ii, dGe_ii, ltE_ii, ltE_ss, srcD, isi_i, isi_s, isi_b, isi_n, isi_t, isi_nt, isi_l, isi2_i, isi2_s, isi2_b, isi2_n, isi2_t, isi2_nt, isi2_l, inon_n, inon_i, inon_s, inon_b, inon_t, inon_l, inon_r, dEq_ii, dNe_ii, dEq_ss, dNe_ss, dEq_bb, dNe_bb, dIs_n, dIsNot_n, dMax2_ii, dMin2_ii, dTuple_t, dTuple_l, dList_t, dList_l, dSl_t, dSl_l, dSl_s, newL_f, newL_t, app_r, int_b, int_i, strI_i, strX_i, strX_s,
  startD, wipeD, setAll, permL, List.filterMap, List.map_cons, List.map_nil, List.length_cons, List.length_nil, List.replicate, List.cons_append, List.nil_append, List.append_nil, List.getElem?_cons_zero, List.getElem?_cons_succ, List.set_cons_zero, List.set_cons_succ, List.map, Nat.zero_add, Nat.reduceAdd, Nat.reduceSub, Nat.sub_self, Nat.succ_sub_succ_eq_sub])
local macro_rules | `(tactic| walk_at "v") => `(tactic| simp only [ofString_inj, String.reduceEq, at_0, at_1, at_2, at_3, at_4, at_5, isN_some, isBB_bl, isB_bl, br_t, br_f, br_not, br_and, br_or, br_dec, ix_r, len_tup, len_lst, len_nt, ltE_key, gup_gup, gup_same, starD_one, cut1, cut2, kt1, kt2, kt3, kt4, kt5, kt6, isTy, String.reduceBEq, Bool.or_false, Bool.false_or, Bool.true_or, Bool.or_true, Bool.and_false, Bool.false_and, Bool.true_and, Bool.and_true, Bool.not_true, Bool.not_false, decide_true, decide_false, eq_self_iff_true, Bool.false_eq_true, Int.reduceAdd, Int.add_zero, if_true, if_false, true_and, and_true])
local macro_rules | `(tactic| walk_at "side") => `(tactic| first | with_reducible assumption | omega | exact mty_up | exact True.intro | (simp only [List.mem_cons, ofString_inj, String.reduceEq, true_or, or_true, List.length_map]; done) | with_reducible exact (rfl : (_ : Nat) = _) | exact (rfl : (_ : Option String) = _) | (refine small_line ?_; omega) | (walk_at "ll"; first | omega | (refine small_line ?_; omega) | fail) | (exact log_small (by omega)) | fail)
local macro_rules | `(tactic| walk_at "x") => `(tactic| fail)
local macro_rules | `(tactic| walk_at "go") => `(tactic| repeat' (first | dsimp only [x_var, x_c, x_op, x_un, x_b, x_and, x_or, x_not, x_chain, x_andV, x_orV, x_notV, x_if, x_nil, x_cons, x_tup, x_lst0, x_lst1, x_callB, x_call, x_callK, x_next, x_seq, x_break, x_cont, x_drop, x_ret, x_ifS, x_asg, x_name, x_names, x_sub, x_aug, x_augS, x_for, x_lc0, x_lc1, x_yes, x_noPart, x_part, x_slice, x_iter, it_t, it_l, it_n, it_s, it_r, x_rng1, x_enum, x_rev, x_m, x_m0, x_mX, x_zip, x_star_t, x_star_l, x_lenSet, x_forgo0, x_lcgo0, x_while, x_par, x_sortK, br_t, br_f, isB_bl, isI_int, isN_some, slo_some, atL_lst, ix_t, ix_l, ix_n, dAdd_ii, dAdd_ss, dAdd_tt, dAdd_ll, dMinus_ii, dMul_ii, dMod_ii, dFdiv_ii, dPow_ii, dShl_ii, dNeg_i, dIadd_ii, dLt_ii, dLe_ii, dGt_ii, dGe_ii, ltE_ii, ltE_ss, srcD, isi_i, isi_s, isi_b, isi_n, isi_t, isi_nt, isi_l, isi2_i, isi2_s, isi2_b, isi2_n, isi2_t, isi2_nt, isi2_l, inon_n, inon_i, inon_s, inon_b, inon_t, inon_l, inon_r, dEq_ii, dNe_ii, dEq_ss, dNe_ss, dEq_bb, dNe_bb, dIs_n, dIsNot_n, dMax2_ii, dMin2_ii, dTuple_t, dTuple_l, dList_t, dList_l, dSl_t, dSl_l, dSl_s, newL_f, newL_t, app_r, int_b, int_i, strI_i, strX_i, strX_s, startD, wipeD, setAll, permL, List.filterMap, List.map_cons, List.map_nil, List.length_cons, List.length_nil, List.replicate, List.cons_append, List.nil_append, List.append_nil, List.getElem?_cons_zero, List.getElem?_cons_succ, List.set_cons_zero, List.set_cons_succ, List.map, Nat.zero_add, Nat.reduceAdd, Nat.reduceSub, Nat.sub_self, Nat.succ_sub_succ_eq_sub] | simp only [ofString_inj, String.reduceEq, at_0, at_1, at_2, at_3, at_4, at_5, isN_some, isBB_bl, isB_bl, br_t, br_f, br_not, br_and, br_or, br_dec, ix_r, len_tup, len_lst, len_nt, ltE_key, gup_gup, gup_same, starD_one, cut1, cut2, kt1, kt2, kt3, kt4, kt5, kt6, isTy, String.reduceBEq, Bool.or_false, Bool.false_or, Bool.true_or, Bool.or_true, Bool.and_false, Bool.false_and, Bool.true_and, Bool.and_true, Bool.not_true, Bool.not_false, decide_true, decide_false, eq_self_iff_true, Bool.false_eq_true, Int.reduceAdd, Int.add_zero, if_true, if_false, true_and, and_true] | walk_at "x" | with_reducible refine kont_go ?_ | with_reducible refine rt_sub (by assumption) ?_ | with_reducible refine rt_lst (by assumption) ?_ | with_reducible refine rt_drop (by assumption) ?_ | with_reducible refine rt_keep (by assumption) (by assumption) ?_ | with_reducible refine rt_same ?_ | (refine fun (p : Addr) (_ : _ = none) => ?_) | refine join_gor gup_same rfl (by walk_at "side") ?_ | with_reducible refine lc_cons ?_ | with_reducible refine for_cons ?_ | refine join_go rfl (by walk_at "side") ?_ | refine And.intro (by first | with_reducible assumption | omega | exact mty_up | exact True.intro | (simp only [List.mem_cons, ofString_inj, String.reduceEq, true_or, or_true, List.length_map]; done) | with_reducible exact (rfl : (_ : Nat) = _) | exact (rfl : (_ : Option String) = _) | (refine small_line ?_; omega) | (walk_at "ll"; first | omega | (refine small_line ?_; omega) | fail) | (exact log_small (by omega)) | fail) ?_ | fail))
local macro_rules | `(tactic| walk_at "ll") => `(tactic| simp only [List.length_map, List.length_append, List.length_cons, List.length_nil, List.map_cons, List.map_nil, List.sum_cons, List.sum_nil, len_app, rng_length, ll_0, ll_1, ll_2, ll_3, ll_4, ll_5, ll_6, ll_7, ll_8, ll_9, ll_10, ll_11, ll_12, ll_13, ll_14, ll_15, ll_16, ll_17, ll_18, ll_19, ll_20, ll_21, ll_22, ll_23, ll_24, ll_25, ll_26, ll_27, ll_28])
theorem max_hid (ns : List Nat) (k : Nat) (h1 : k ∈ ns) (h2 : ∀ x ∈ ns, x ≤ k) {x : D} {G : Gp} {R : DK} (e : lstOf G x = some (ns.map fun n => D.int (n : Nat))) (q : R (.int (k : Nat)) G) : dMaxL [x] G R := by
  refine ⟨x, ns.map (fun n : Nat => (n : Int)), rfl, by rw [e, List.map_map]; rfl, by rw [List.length_map]; exact List.length_pos_of_mem h1, fun m hm hy => ?_⟩
  obtain ⟨j, hj, rfl⟩ := List.mem_map.mp hm
  have h3 := hy k (List.mem_map.mpr ⟨k, h1, rfl⟩)
  have h4 := h2 j hj
  have : j = k := by omega
  rw [this]; exact q
def sp__law_right : DSp := fun ds G R => ∃ s o, ds = [.ref s] ∧ G s = some o ∧ BagO 100 o ∧ ∀ G', R (.bl true) G'
local macro_rules | `(tactic| walk_at "x") => `(tactic| first
  | refine go_draw (by first | exact gup_same | assumption | fail) (by assumption) (by omega) (by walk_at "side") (by walk_at "side") fun _ _ _ _ => ?_
  | refine go_kit (by first | exact gup_same | assumption | fail) (by assumption) (by omega) fun _ _ _ _ => ?_
  | refine go_needs (by assumption) (by assumption) (by assumption) ?_
  | refine go_senses (by assumption) ?_
  | fail)
theorem eq_ints2 {a b c d : Int} {G : Gp} {R : DK} (k : R (.bl (decide (a = c) && decide (b = d))) G) : dEq (.lst [.int a, .int b]) (.lst [.int c, .int d]) G R := by
  rw [eq_pure rfl rfl (by simp [depD, depDs]) (by simp [depD, depDs])]
  have : eqD (.lst [.int a, .int b]) (.lst [.int c, .int d]) = (decide (a = c) && decide (b = d)) := by
    rw [show eqD (.lst [.int a, .int b]) (.lst [.int c, .int d]) = eqDs [.int a, .int b] [.int c, .int d] by simp only [eqD], eqs_cons, eqs_cons, eqs_nil, eq_i, eq_i, Bool.and_true]
  rw [this]; exact k
theorem any_bls (bs : List Bool) {G : Gp} {R : DK} (k : R (.bl (bs.any id)) G) : dAny [.lst (bs.map D.bl)] G R := by rw [any_lst]; exact k
theorem ok__law_right {P : Program} {w : World} {K : PySem.W.Frag} {mg : Str → Option Value} {base : Heap} {a : Ad} (T : Tx w K mg a) : FnD P w K mg base 26 a.f__law_right a.fd__law_right ["bag"] sp__law_right := by
  refine fun_okD T.F__law_right sc__law_right (fun ds G R h => ?_) (fun cdv A outer s H hr => ⟨_, (qss_cons (qs_set (i := 1) sc__law_right.nd rfl (.inl rfl) (qe_call (ok__law_sense T) (hr.mono (by omega)) rfl T.g__law_sense T.F__law_sense.kp T.b__law_sense (qa_cons (qv 0) (qa_cons (qe_call (ok__law_kit T) (hr.mono (by omega)) rfl T.g__law_kit T.F__law_kit.kp T.b__law_kit (qa_cons (qv 0) qa_nil)) (qa_cons (qe_op (od_add false) qe_int (qe_call (ok__law_draw T) (hr.mono (by omega)) rfl T.g__law_draw T.F__law_draw.kp T.b__law_draw (qa_cons (qv 0) (qa_cons qe_int qa_nil)))) (qa_cons (qe_ix xd_ix (qe_lst false (qa_cons qe_int (qa_cons qe_int qa_nil))) (qe_call (ok__law_draw T) (hr.mono (by omega)) rfl T.g__law_draw T.F__law_draw.kp T.b__law_draw (qa_cons (qv 0) (qa_cons qe_int qa_nil))) (fun _ _ => rfl)) qa_nil))))))
      (qss_cons (qs_set (i := 2) sc__law_right.nd rfl (.inl rfl) (qe_callB (cd_maxL rfl) rfl T.n_max (by decide +kernel) (qa_cons (qe_lc false rfl sc__law_right.nd (qi_seq (qe_call (ok__law_senses T) (hr.mono (by omega)) rfl T.g__law_senses T.F__law_senses.kp T.b__law_senses (qa_cons (qv 1) qa_nil))) (blkOk_by (own := [("one", 4)]) (N := N__law_right) (sc := defScope s__law_right) (by decide +kernel)) (fun _ _ _ _ _ => (pg_name (i := 4) sc__law_right.nd rfl (.inl rfl))) (tg_name (i := 4) (by decide)) (fun _ _ _ _ _ => qts_nil) (fun _ _ _ _ _ => (qe_call (ok__law_hidden T) (hr.mono (by omega)) rfl T.g__law_hidden T.F__law_hidden.kp T.b__law_hidden (qa_cons (qv 4) qa_nil)))) qa_nil)))
      (qss_cons (qs_set (i := 3) sc__law_right.nd rfl (.inl rfl) (qe_lst false (qa_cons (qe_call (ok_needs T) (hr.mono (by omega)) rfl T.g_needs T.F_needs.kp T.b_needs (qa_cons (qv 1) qa_nil)) (qa_cons (qe_callK (ks := ["meaning"]) (g := permL [0]) (gu := permL [0]) (gv := permL [0]) (ok_needs T) (hr.mono (by omega)) rfl T.g_needs T.F_needs.kp (T.kb0_needs) (fun h => vals_perm h [0]) (fun h => rds_perm h [0]) (qk_cons (qv 1) (qk_nil))) qa_nil))))
      (qss_one (qs_ret (qe_and (qe_cmp (od_eq hr.units) (qv 3) (qe_lst false (qa_cons (qv 2) (qa_cons (qv 2) qa_nil))) (nomark _)) (qe_one (qe_not (qe_callB (cd_any rfl) rfl T.n_any (by decide +kernel) (qa_cons (qe_lc false rfl sc__law_right.nd (qi_seq (qv 3)) (blkOk_by (own := [("one", 4)]) (N := N__law_right) (sc := defScope s__law_right) (by decide +kernel)) (fun _ _ _ _ _ => (pg_name (i := 4) sc__law_right.nd rfl (.inl rfl))) (tg_name (i := 4) (by decide)) (fun _ _ _ _ _ => qts_nil) (fun _ _ _ _ _ => (qe_callB cd_isiX rfl T.n_isinstance (by decide +kernel) (qa_cons (qv 4) (qa_cons (qe_ty (n := "bool") rfl T.n_bool (by decide +kernel)) qa_nil))))) qa_nil)))))))))), fun ds G R h => ?_⟩)
  · obtain ⟨s, o, rfl, _⟩ := h; rfl
  · obtain ⟨s, o, rfl, e, ho, h⟩ := h
    walk_at "go"
    rename_i M o1 hM ho1 r2 o2 hr2 ho2 r3 o3 hr3 ho3
    obtain ⟨mo, hmo, hmo1⟩ : ∃ mo : Int, atI [D.int 10, D.int 100] (r3 : Nat) = some (.int mo) ∧ 1 ≤ mo := by
      rcases (show r3 = 0 ∨ r3 = 1 by omega) with rfl | rfl
      · exact ⟨10, rfl, by omega⟩
      · exact ⟨100, rfl, by omega⟩
    rw [hmo]
    walk_at "go"
    refine go_sense hM (by omega) (by omega) hmo1 gup_same ho3 (by omega) fun m o4 hm hlv _ ho4 => ?_
    walk_at "go"
    have hl := senses_len m
    have hl2 : 2 ^ (m.lv + 1) ≤ 2 ^ 8 := Nat.pow_le_pow_right (by omega) (by omega)
    refine ⟨small_line (by rw [List.length_map]; omega), ?_⟩
    refine lc_typ Mn.d (fun x => .int (hidF x : Nat)) True.intro (sensesF m) [] (fun x hx Q q => by walk_at "go"; exact go_hidden hM (senses_ok hm x hx) q) _ ?_
    rw [List.nil_append]
    obtain ⟨n1, n2⟩ := needs_max m
    refine max_hid ((sensesF m).map hidF) (needsF m) n1 n2 (by simp only [lstOf, List.map_map]; rfl) ?_
    walk_at "go"
    refine eq_ints2 ?_
    rw [decide_eq_true rfl]
    walk_at "go"
    refine any_bls [false, false] ?_
    walk_at "go"
    exact h _
def sp_law : DSp := fun ds G R => match ds with
  | [.lst xs] => ∃ ns : List Int, xs = ns.map D.int ∧ ns.length ≤ 63 ∧ (∀ z ∈ ns, Builtin.Int.intBits z ≤ 1048576) ∧ ∀ G', R (.bl true) G'
  | _ => False
theorem ok_law {P : Program} {w : World} {K : PySem.W.Frag} {mg : Str → Option Value} {base : Heap} {a : Ad} (T : Tx w K mg a) : FnD P w K mg base 27 a.f_law a.fd_law ["script"] sp_law := by
  refine fun_okD T.F_law sc_law (fun ds G R h => ?_) (fun cdv A outer s H hr => ⟨_, (qss_cons (qs_for PassesOwn.never rfl (qi_range1 rfl T.n_range (qa_cons (qe_callB (cd_max2 rfl) rfl T.n_max (by decide +kernel) (qa_cons qe_int (qa_cons (qe_callB (cd_min2 rfl) rfl T.n_min (by decide +kernel) (qa_cons (qe_callB cd_len rfl T.n_len (by decide +kernel) (qa_cons (qv 0) qa_nil)) (qa_cons qe_int qa_nil))) qa_nil))) qa_nil)) (qg_of (pg_name (i := 1) sc_law.nd rfl (.inl rfl)) (tg_name (i := 1) (ws := [1]) (by decide)))
      (qss_one (qs_if (qt_not (qt_val (qe_call (ok__law_right T) (hr.mono (by omega)) rfl T.g__law_right T.F__law_right.kp T.b__law_right (qa_cons (qe_call (ok__law_bag T) (hr.mono (by omega)) rfl T.g__law_bag T.F__law_bag.kp T.b__law_bag (qa_cons (qe_ix xd_ix (qe_op (od_add false) (qv 0) (qe_lst false (qa_cons qe_int qa_nil))) (qv 1) (fun _ _ => rfl)) (qa_cons (qv 1) qa_nil))) qa_nil))))
      (qss_one (qs_ret qe_bl))
      qss_nil)))
      (qss_one (qs_ret qe_bl))), fun ds G R h => ?_⟩)
  · unfold sp_law at h; split at h; rfl; exact h.elim
  · unfold sp_law at h
    split at h
    · obtain ⟨ns, rfl, hl, hb, h⟩ := h
      walk_at "go"
      rw [List.length_map]
      obtain ⟨m, em, hm⟩ : ∃ m : Nat, (if (if 12 < (ns.length : Int) then 12 else (ns.length : Int)) > 1 then if 12 < (ns.length : Int) then 12 else (ns.length : Int) else 1) = (m : Int) ∧ m ≤ ns.length + 1 := ⟨(if (if 12 < (ns.length : Int) then 12 else (ns.length : Int)) > 1 then if 12 < (ns.length : Int) then 12 else (ns.length : Int) else 1).toNat, by split <;> (try split) <;> omega, by split <;> (try split) <;> omega⟩
      rw [em, Int.toNat_natCast]
      refine for_rng m (fun k σ' G' => ∃ x1, σ' = [some (D.lst (ns.map D.int)), x1]) ?turn ?fin _ _ ⟨none, rfl⟩
      case fin =>
        rintro σ' G' ⟨x1, rfl⟩
        walk_at "go"
        exact h _
      case turn =>
        rintro k σ' G' hk ⟨x1, rfl⟩ N hN
        have hg : ∃ c : Int, (ns.map D.int ++ [D.int 0])[k]? = some (.int c) ∧ Builtin.Int.intBits c ≤ 1048576 := by
          by_cases hkl : k < ns.length
          · refine ⟨ns[k], ?_, hb _ (List.getElem_mem hkl)⟩
            rw [List.getElem?_append_left (by rw [List.length_map]; exact hkl), List.getElem?_map, List.getElem?_eq_getElem hkl]; rfl
          · refine ⟨0, ?_, by decide⟩
            rw [List.getElem?_append_right (by rw [List.length_map]; omega), List.length_map, show k - ns.length = 0 by omega]; rfl
        obtain ⟨c, hc1, hc2⟩ := hg
        walk_at "go"
        rw [atI_nat hc1]
        walk_at "go"
        refine fun p o np ho => ?_
        refine ⟨p, o, rfl, gup_same, ho, fun G2 => ?_⟩
        walk_at "go"
        exact hN _ _ ⟨_, rfl⟩
    · exact h.elim
def spV_law (K : PySem.W.Frag) : Sp := upSp K sp_law
theorem rds_ints {K : PySem.W.Frag} {H : Hp} {N : Ns} : ∀ ns : List Int, RDs K H N (ns.map D.int) (ns.map V.int)
  | [] => by simp only [List.map_nil, RDs]
  | n :: ns => by simp only [List.map_cons, RDs]; exact ⟨_, _, rfl, by simp only [RD], rds_ints ns⟩
theorem spV_at {K : PySem.W.Frag} {H : Hp} {a : Addr} {ns : List Int} (hl : ns.length ≤ 63) (hb : ∀ z ∈ ns, Builtin.Int.intBits z ≤ 1048576) (hS : SqL K H a (ns.map V.int)) : spV_law K [.ref a] H (fun v _ => v = .bl true) (fun _ _ _ => False) := by
  have hA : LstAt K H (fun _ => False) a (ns.map V.int) := by
    rcases hS with (h | h) | h
    · exact .inl ⟨h, fun z => z⟩
    · exact .inr (.inl h)
    · exact .inr (.inr h)
  refine ⟨[.lst (ns.map D.int)], fun _ => none, fun _ => False, fun d _ => d = .bl true, ?_, fun p o e => (by cases e), ⟨ns, rfl, hl, hb, fun _ => rfl⟩, fun d G' N' v H' hd _ r => ?_⟩
  · simp only [RDs]
    exact ⟨_, [], rfl, RD.lst hA (rds_ints ns), rfl⟩
  · subst hd
    exact r.of_bl
end K42


set_option Elab.async false
set_option linter.all false
set_option maxRecDepth 100000
set_option maxHeartbeats 4000000
set_option autoImplicit false
namespace K42
open PySem PySem.Spec PyProof.Rows L2 DL
local macro_rules | `(tactic| walk_at "d") => `(tactic| dsimp only [dSeq, dNext, dIfS, dRet, dRetN, dAsg, dName, dVar, dC, dOp, dUn, dChain, dB, dAnd, dOr, dNot, dAndV, dOrV, dNotV, dIf, dNil, dCons, dTup, dLst, newL, dCallB, dCall, dCallK, dDrop, dAug, dAugS, dSub, dM, dM0, dSlice, dNoPart, dPart, dLc, dYes, dFor, dIter, dRng1, dEnum, dZipM, srcD, dStar, dInK, dIxK, dLenSet, dRev,
  startD, wipeD, setAll, dNames, List.map_cons, List.map_nil, List.length_cons, List.length_nil, List.replicate, List.cons_append, List.nil_append, List.append_nil, List.getElem?_cons_zero, List.getElem?_cons_succ, List.set_cons_zero, List.set_cons_succ, List.map, Nat.zero_add, Nat.reduceAdd, Nat.reduceSub, Nat.sub_self, Nat.succ_sub_succ_eq_sub])
local macro_rules | `(tactic| walk_at "o") => `(tactic| simp only [dAdd_ii, dAdd_ss, dAdd_tt, dAdd_ll, dMinus_ii, dMul_ii, dMod_ii, dFdiv_ii, dPow_ii, dShl_ii, dNeg_i, dIadd_ii, dLt_ii, dLe_ii, dGt_ii, dGe_ii, dEq_ii, dNe_ii, dEq_ss, dNe_ss, dEq_bb, dNe_bb, dIs_n, dIsNot_n, dMax2_ii, dMin2_ii, dTuple_t, dTuple_l, dList_t, dList_l, dIx_t, dIx_l, dIx_s, dSl_t, dSl_l, dSl_s, newL_f, len_tup, len_lst])
local macro_rules | `(tactic| walk_at "w") => `(tactic| dsimp only [x_var, x_c, x_op, x_un, x_b, x_and, x_or, x_not, x_chain, x_andV, x_orV, x_notV, x_if, x_nil, x_cons, x_tup, x_lst0, x_lst1, x_callB, x_call, x_callK, x_next, x_seq, x_break, x_cont, x_drop, x_ret, x_ifS, x_asg, x_name, x_names, x_sub, x_aug, x_augS, x_for, x_lc0, x_lc1, x_yes, x_noPart, x_part, x_slice, x_iter, it_t, it_l, it_n, it_s, it_r, x_rng1, x_enum, x_rev, x_m, x_m0, x_mX, x_zip, x_star_t, x_star_l, x_lenSet, x_forgo0, x_lcgo0, x_while, x_par, x_sortK,
  br_t, br_f, isB_bl, isI_int, isN_some, slo_some, atL_lst, ix_t, ix_l, ix_n,
  dAdd_ii, dAdd_ss, dAdd_tt, dAdd_ll, dMinus_ii, dMul_ii, dMod_ii, dFdiv_ii, dPow_ii, dShl_ii, dNeg_i, dIadd_ii, dLt_ii, dLe_ii, dGt_ii, dGe_ii, ltE_ii, ltE_ss, srcD, isi_i, isi_s, isi_b, isi_n, isi_t, isi_nt, isi_l, isi2_i, isi2_s, isi2_b, isi2_n, isi2_t, isi2_nt, isi2_l, inon_n, inon_i, inon_s, inon_b, inon_t, inon_l, inon_r, dEq_ii, dNe_ii, dEq_ss, dNe_ss, dEq_bb, dNe_bb, dIs_n, dIsNot_n, dMax2_ii, dMin2_ii, dTuple_t, dTuple_l, dList_t, dList_l, dSl_t, dSl_l, dSl_s, newL_f, newL_t, app_r, int_b, int_i, strI_i, strX_i, strX_s,
  startD, wipeD, setAll, permL, List.filterMap, List.map_cons, List.map_nil, List.length_cons, List.length_nil, List.replicate, List.cons_append, List.nil_append, List.append_nil, List.getElem?_cons_zero, List.getElem?_cons_succ, List.set_cons_zero, List.set_cons_succ, List.map, Nat.zero_add, Nat.reduceAdd, Nat.reduceSub, Nat.sub_self, Nat.succ_sub_succ_eq_sub])
local macro_rules | `(tactic| walk_at "v") => `(tactic| simp only [ofString_inj, String.reduceEq, at_0, at_1, at_2, at_3, at_4, at_5, isN_some, isBB_bl, isB_bl, br_t, br_f, br_not, br_and, br_or, br_dec, ix_r, len_tup, len_lst, len_nt, ltE_key, gup_gup, gup_same, starD_one, cut1, cut2, kt1, kt2, kt3, kt4, kt5, kt6, isTy, String.reduceBEq, Bool.or_false, Bool.false_or, Bool.true_or, Bool.or_true, Bool.and_false, Bool.false_and, Bool.true_and, Bool.and_true, Bool.not_true, Bool.not_false, decide_true, decide_false, eq_self_iff_true, Bool.false_eq_true, Int.reduceAdd, Int.add_zero, if_true, if_false, true_and, and_true])
local macro_rules | `(tactic| walk_at "side") => `(tactic| first | with_reducible assumption | omega | exact mty_up | exact True.intro | (simp only [List.mem_cons, ofString_inj, String.reduceEq, true_or, or_true, List.length_map]; done) | with_reducible exact (rfl : (_ : Nat) = _) | exact (rfl : (_ : Option String) = _) | (refine small_line ?_; omega) | (walk_at "ll"; first | omega | (refine small_line ?_; omega) | fail) | (exact log_small (by omega)) | fail)
local macro_rules | `(tactic| walk_at "x") => `(tactic| fail)
local macro_rules | `(tactic| walk_at "go") => `(tactic| repeat' (first | dsimp only [x_var, x_c, x_op, x_un, x_b, x_and, x_or, x_not, x_chain, x_andV, x_orV, x_notV, x_if, x_nil, x_cons, x_tup, x_lst0, x_lst1, x_callB, x_call, x_callK, x_next, x_seq, x_break, x_cont, x_drop, x_ret, x_ifS, x_asg, x_name, x_names, x_sub, x_aug, x_augS, x_for, x_lc0, x_lc1, x_yes, x_noPart, x_part, x_slice, x_iter, it_t, it_l, it_n, it_s, it_r, x_rng1, x_enum, x_rev, x_m, x_m0, x_mX, x_zip, x_star_t, x_star_l, x_lenSet, x_forgo0, x_lcgo0, x_while, x_par, x_sortK, br_t, br_f, isB_bl, isI_int, isN_some, slo_some, atL_lst, ix_t, ix_l, ix_n, dAdd_ii, dAdd_ss, dAdd_tt, dAdd_ll, dMinus_ii, dMul_ii, dMod_ii, dFdiv_ii, dPow_ii, dShl_ii, dNeg_i, dIadd_ii, dLt_ii, dLe_ii, dGt_ii, dGe_ii, ltE_ii, ltE_ss, srcD, isi_i, isi_s, isi_b, isi_n, isi_t, isi_nt, isi_l, isi2_i, isi2_s, isi2_b, isi2_n, isi2_t, isi2_nt, isi2_l, inon_n, inon_i, inon_s, inon_b, inon_t, inon_l, inon_r, dEq_ii, dNe_ii, dEq_ss, dNe_ss, dEq_bb, dNe_bb, dIs_n, dIsNot_n, dMax2_ii, dMin2_ii, dTuple_t, dTuple_l, dList_t, dList_l, dSl_t, dSl_l, dSl_s, newL_f, newL_t, app_r, int_b, int_i, strI_i, strX_i, strX_s, startD, wipeD, setAll, permL, List.filterMap, List.map_cons, List.map_nil, List.length_cons, List.length_nil, List.replicate, List.cons_append, List.nil_append, List.append_nil, List.getElem?_cons_zero, List.getElem?_cons_succ, List.set_cons_zero, List.set_cons_succ, List.map, Nat.zero_add, Nat.reduceAdd, Nat.reduceSub, Nat.sub_self, Nat.succ_sub_succ_eq_sub] | simp only [ofString_inj, String.reduceEq, at_0, at_1, at_2, at_3, at_4, at_5, isN_some, isBB_bl, isB_bl, br_t, br_f, br_not, br_and, br_or, br_dec, ix_r, len_tup, len_lst, len_nt, ltE_key, gup_gup, gup_same, starD_one, cut1, cut2, kt1, kt2, kt3, kt4, kt5, kt6, isTy, String.reduceBEq, Bool.or_false, Bool.false_or, Bool.true_or, Bool.or_true, Bool.and_false, Bool.false_and, Bool.true_and, Bool.and_true, Bool.not_true, Bool.not_false, decide_true, decide_false, eq_self_iff_true, Bool.false_eq_true, Int.reduceAdd, Int.add_zero, if_true, if_false, true_and, and_true] | walk_at "x" | with_reducible refine kont_go ?_ | with_reducible refine rt_sub (by assumption) ?_ | with_reducible refine rt_lst (by assumption) ?_ | with_reducible refine rt_drop (by assumption) ?_ | with_reducible refine rt_keep (by assumption) (by assumption) ?_ | with_reducible refine rt_same ?_ | (refine fun (p : Addr) (_ : _ = none) => ?_) | refine join_gor gup_same rfl (by walk_at "side") ?_ | with_reducible refine lc_cons ?_ | with_reducible refine for_cons ?_ | refine join_go rfl (by walk_at "side") ?_ | refine And.intro (by first | with_reducible assumption | omega | exact mty_up | exact True.intro | (simp only [List.mem_cons, ofString_inj, String.reduceEq, true_or, or_true, List.length_map]; done) | with_reducible exact (rfl : (_ : Nat) = _) | exact (rfl : (_ : Option String) = _) | (refine small_line ?_; omega) | (walk_at "ll"; first | omega | (refine small_line ?_; omega) | fail) | (exact log_small (by omega)) | fail) ?_ | fail))
local macro_rules | `(tactic| walk_at "ll") => `(tactic| simp only [List.length_map, List.length_append, List.length_cons, List.length_nil, List.map_cons, List.map_nil, List.sum_cons, List.sum_nil, len_app, rng_length, ll_0, ll_1, ll_2, ll_3, ll_4, ll_5, ll_6, ll_7, ll_8, ll_9, ll_10, ll_11, ll_12, ll_13, ll_14, ll_15, ll_16, ll_17, ll_18, ll_19, ll_20, ll_21, ll_22, ll_23, ll_24, ll_25, ll_26, ll_27, ll_28])
theorem all_mk {w : World} {K : PySem.W.Frag} {h : Heap} {mg : Str → Option Value} (X : K.In h) (G : h.Ns mainGlobals mg)
    {f0 : Addr} {od0 an0 : Option Addr} {sl0 : Array (Option Value)} {oc0 kV0 dc0 pm0 cd0 ct0 : Value}
    (a0 : PySem.W.nsIn K mainGlobals "spread" = some (some (.ref f0))) (l0 : K.lookup f0 = some ⟨oc0, od0, .func (PySem.W.fnOf "spread" "spread" (defArgs s_spread) (defBody s_spread) (defScope s_spread) .none kV0 dc0 pm0 an0 cd0 ct0), sl0⟩) (c0 : PySem.W.codeIn K cd0 "spread" = true) (k0 : PySem.W.keepIn K (.ref f0) = true)
    {f1 : Addr} {od1 an1 : Option Addr} {sl1 : Array (Option Value)} {oc1 kV1 dc1 pm1 cd1 ct1 : Value}
    (a1 : PySem.W.nsIn K mainGlobals "terms_of_do" = some (some (.ref f1))) (l1 : K.lookup f1 = some ⟨oc1, od1, .func (PySem.W.fnOf "terms_of_do" "terms_of_do" (defArgs s_terms_of_do) (defBody s_terms_of_do) (defScope s_terms_of_do) .none kV1 dc1 pm1 an1 cd1 ct1), sl1⟩) (c1 : PySem.W.codeIn K cd1 "terms_of_do" = true) (k1 : PySem.W.keepIn K (.ref f1) = true)
    {f2 : Addr} {od2 an2 : Option Addr} {sl2 : Array (Option Value)} {oc2 kV2 dc2 pm2 cd2 ct2 : Value}
    (a2 : PySem.W.nsIn K mainGlobals "terms_of_test" = some (some (.ref f2))) (l2 : K.lookup f2 = some ⟨oc2, od2, .func (PySem.W.fnOf "terms_of_test" "terms_of_test" (defArgs s_terms_of_test) (defBody s_terms_of_test) (defScope s_terms_of_test) .none kV2 dc2 pm2 an2 cd2 ct2), sl2⟩) (c2 : PySem.W.codeIn K cd2 "terms_of_test" = true) (k2 : PySem.W.keepIn K (.ref f2) = true)
    {f3 : Addr} {od3 an3 : Option Addr} {sl3 : Array (Option Value)} {oc3 kV3 dc3 pm3 cd3 ct3 : Value}
    (a3 : PySem.W.nsIn K mainGlobals "needs" = some (some (.ref f3))) (l3 : K.lookup f3 = some ⟨oc3, od3, .func (PySem.W.fnOf "needs" "needs" (defArgs s_needs) (defBody s_needs) (defScope s_needs) .none kV3 dc3 pm3 an3 cd3 ct3), sl3⟩) (c3 : PySem.W.codeIn K cd3 "needs" = true) (k3 : PySem.W.keepIn K (.ref f3) = true)
    {f4 : Addr} {od4 an4 : Option Addr} {sl4 : Array (Option Value)} {oc4 kV4 dc4 pm4 cd4 ct4 : Value}
    (a4 : PySem.W.nsIn K mainGlobals "_law_bag" = some (some (.ref f4))) (l4 : K.lookup f4 = some ⟨oc4, od4, .func (PySem.W.fnOf "_law_bag" "_law_bag" (defArgs s__law_bag) (defBody s__law_bag) (defScope s__law_bag) .none kV4 dc4 pm4 an4 cd4 ct4), sl4⟩) (c4 : PySem.W.codeIn K cd4 "_law_bag" = true) (k4 : PySem.W.keepIn K (.ref f4) = true)
    {f5 : Addr} {od5 an5 : Option Addr} {sl5 : Array (Option Value)} {oc5 kV5 dc5 pm5 cd5 ct5 : Value}
    (a5 : PySem.W.nsIn K mainGlobals "_law_draw" = some (some (.ref f5))) (l5 : K.lookup f5 = some ⟨oc5, od5, .func (PySem.W.fnOf "_law_draw" "_law_draw" (defArgs s__law_draw) (defBody s__law_draw) (defScope s__law_draw) .none kV5 dc5 pm5 an5 cd5 ct5), sl5⟩) (c5 : PySem.W.codeIn K cd5 "_law_draw" = true) (k5 : PySem.W.keepIn K (.ref f5) = true)
    {f6 : Addr} {od6 an6 : Option Addr} {sl6 : Array (Option Value)} {oc6 kV6 dc6 pm6 cd6 ct6 : Value}
    (a6 : PySem.W.nsIn K mainGlobals "_law_top" = some (some (.ref f6))) (l6 : K.lookup f6 = some ⟨oc6, od6, .func (PySem.W.fnOf "_law_top" "_law_top" (defArgs s__law_top) (defBody s__law_top) (defScope s__law_top) .none kV6 dc6 pm6 an6 cd6 ct6), sl6⟩) (c6 : PySem.W.codeIn K cd6 "_law_top" = true) (k6 : PySem.W.keepIn K (.ref f6) = true)
    {f7 : Addr} {od7 an7 : Option Addr} {sl7 : Array (Option Value)} {oc7 kV7 dc7 pm7 cd7 ct7 : Value}
    (a7 : PySem.W.nsIn K mainGlobals "_law_kit" = some (some (.ref f7))) (l7 : K.lookup f7 = some ⟨oc7, od7, .func (PySem.W.fnOf "_law_kit" "_law_kit" (defArgs s__law_kit) (defBody s__law_kit) (defScope s__law_kit) .none kV7 dc7 pm7 an7 cd7 ct7), sl7⟩) (c7 : PySem.W.codeIn K cd7 "_law_kit" = true) (k7 : PySem.W.keepIn K (.ref f7) = true)
    {f8 : Addr} {od8 an8 : Option Addr} {sl8 : Array (Option Value)} {oc8 kV8 dc8 pm8 cd8 ct8 : Value}
    (a8 : PySem.W.nsIn K mainGlobals "_law_word" = some (some (.ref f8))) (l8 : K.lookup f8 = some ⟨oc8, od8, .func (PySem.W.fnOf "_law_word" "_law_word" (defArgs s__law_word) (defBody s__law_word) (defScope s__law_word) .none kV8 dc8 pm8 an8 cd8 ct8), sl8⟩) (c8 : PySem.W.codeIn K cd8 "_law_word" = true) (k8 : PySem.W.keepIn K (.ref f8) = true)
    {f9 : Addr} {od9 an9 : Option Addr} {sl9 : Array (Option Value)} {oc9 kV9 dc9 pm9 cd9 ct9 : Value}
    (a9 : PySem.W.nsIn K mainGlobals "_law_leaf" = some (some (.ref f9))) (l9 : K.lookup f9 = some ⟨oc9, od9, .func (PySem.W.fnOf "_law_leaf" "_law_leaf" (defArgs s__law_leaf) (defBody s__law_leaf) (defScope s__law_leaf) .none kV9 dc9 pm9 an9 cd9 ct9), sl9⟩) (c9 : PySem.W.codeIn K cd9 "_law_leaf" = true) (k9 : PySem.W.keepIn K (.ref f9) = true)
    {f10 : Addr} {od10 an10 : Option Addr} {sl10 : Array (Option Value)} {oc10 kV10 dc10 pm10 cd10 ct10 : Value}
    (a10 : PySem.W.nsIn K mainGlobals "_law_deep" = some (some (.ref f10))) (l10 : K.lookup f10 = some ⟨oc10, od10, .func (PySem.W.fnOf "_law_deep" "_law_deep" (defArgs s__law_deep) (defBody s__law_deep) (defScope s__law_deep) .none kV10 dc10 pm10 an10 cd10 ct10), sl10⟩) (c10 : PySem.W.codeIn K cd10 "_law_deep" = true) (k10 : PySem.W.keepIn K (.ref f10) = true)
    {f11 : Addr} {od11 an11 : Option Addr} {sl11 : Array (Option Value)} {oc11 kV11 dc11 pm11 cd11 ct11 : Value}
    (a11 : PySem.W.nsIn K mainGlobals "_law_term" = some (some (.ref f11))) (l11 : K.lookup f11 = some ⟨oc11, od11, .func (PySem.W.fnOf "_law_term" "_law_term" (defArgs s__law_term) (defBody s__law_term) (defScope s__law_term) .none kV11 dc11 pm11 an11 cd11 ct11), sl11⟩) (c11 : PySem.W.codeIn K cd11 "_law_term" = true) (k11 : PySem.W.keepIn K (.ref f11) = true)
    {f12 : Addr} {od12 an12 : Option Addr} {sl12 : Array (Option Value)} {oc12 kV12 dc12 pm12 cd12 ct12 : Value}
    (a12 : PySem.W.nsIn K mainGlobals "_law_unlike" = some (some (.ref f12))) (l12 : K.lookup f12 = some ⟨oc12, od12, .func (PySem.W.fnOf "_law_unlike" "_law_unlike" (defArgs s__law_unlike) (defBody s__law_unlike) (defScope s__law_unlike) .none kV12 dc12 pm12 an12 cd12 ct12), sl12⟩) (c12 : PySem.W.codeIn K cd12 "_law_unlike" = true) (k12 : PySem.W.keepIn K (.ref f12) = true)
    {f13 : Addr} {od13 an13 : Option Addr} {sl13 : Array (Option Value)} {oc13 kV13 dc13 pm13 cd13 ct13 : Value}
    (a13 : PySem.W.nsIn K mainGlobals "_law_parts" = some (some (.ref f13))) (l13 : K.lookup f13 = some ⟨oc13, od13, .func (PySem.W.fnOf "_law_parts" "_law_parts" (defArgs s__law_parts) (defBody s__law_parts) (defScope s__law_parts) .none kV13 dc13 pm13 an13 cd13 ct13), sl13⟩) (c13 : PySem.W.codeIn K cd13 "_law_parts" = true) (k13 : PySem.W.keepIn K (.ref f13) = true)
    {f14 : Addr} {od14 an14 : Option Addr} {sl14 : Array (Option Value)} {oc14 kV14 dc14 pm14 cd14 ct14 : Value}
    (a14 : PySem.W.nsIn K mainGlobals "_law_copies" = some (some (.ref f14))) (l14 : K.lookup f14 = some ⟨oc14, od14, .func (PySem.W.fnOf "_law_copies" "_law_copies" (defArgs s__law_copies) (defBody s__law_copies) (defScope s__law_copies) .none kV14 dc14 pm14 an14 cd14 ct14), sl14⟩) (c14 : PySem.W.codeIn K cd14 "_law_copies" = true) (k14 : PySem.W.keepIn K (.ref f14) = true)
    {f15 : Addr} {od15 an15 : Option Addr} {sl15 : Array (Option Value)} {oc15 kV15 dc15 pm15 cd15 ct15 : Value}
    (a15 : PySem.W.nsIn K mainGlobals "_law_hidden" = some (some (.ref f15))) (l15 : K.lookup f15 = some ⟨oc15, od15, .func (PySem.W.fnOf "_law_hidden" "_law_hidden" (defArgs s__law_hidden) (defBody s__law_hidden) (defScope s__law_hidden) .none kV15 dc15 pm15 an15 cd15 ct15), sl15⟩) (c15 : PySem.W.codeIn K cd15 "_law_hidden" = true) (k15 : PySem.W.keepIn K (.ref f15) = true)
    {f16 : Addr} {od16 an16 : Option Addr} {sl16 : Array (Option Value)} {oc16 kV16 dc16 pm16 cd16 ct16 : Value}
    (a16 : PySem.W.nsIn K mainGlobals "_law_many" = some (some (.ref f16))) (l16 : K.lookup f16 = some ⟨oc16, od16, .func (PySem.W.fnOf "_law_many" "_law_many" (defArgs s__law_many) (defBody s__law_many) (defScope s__law_many) .none kV16 dc16 pm16 an16 cd16 ct16), sl16⟩) (c16 : PySem.W.codeIn K cd16 "_law_many" = true) (k16 : PySem.W.keepIn K (.ref f16) = true)
    {f17 : Addr} {od17 an17 : Option Addr} {sl17 : Array (Option Value)} {oc17 kV17 dc17 pm17 cd17 ct17 : Value}
    (a17 : PySem.W.nsIn K mainGlobals "_law_do" = some (some (.ref f17))) (l17 : K.lookup f17 = some ⟨oc17, od17, .func (PySem.W.fnOf "_law_do" "_law_do" (defArgs s__law_do) (defBody s__law_do) (defScope s__law_do) .none kV17 dc17 pm17 an17 cd17 ct17), sl17⟩) (c17 : PySem.W.codeIn K cd17 "_law_do" = true) (k17 : PySem.W.keepIn K (.ref f17) = true)
    {f18 : Addr} {od18 an18 : Option Addr} {sl18 : Array (Option Value)} {oc18 kV18 dc18 pm18 cd18 ct18 : Value}
    (a18 : PySem.W.nsIn K mainGlobals "_law_sense" = some (some (.ref f18))) (l18 : K.lookup f18 = some ⟨oc18, od18, .func (PySem.W.fnOf "_law_sense" "_law_sense" (defArgs s__law_sense) (defBody s__law_sense) (defScope s__law_sense) .none kV18 dc18 pm18 an18 cd18 ct18), sl18⟩) (c18 : PySem.W.codeIn K cd18 "_law_sense" = true) (k18 : PySem.W.keepIn K (.ref f18) = true)
    {f19 : Addr} {od19 an19 : Option Addr} {sl19 : Array (Option Value)} {oc19 kV19 dc19 pm19 cd19 ct19 : Value}
    (a19 : PySem.W.nsIn K mainGlobals "_law_senses" = some (some (.ref f19))) (l19 : K.lookup f19 = some ⟨oc19, od19, .func (PySem.W.fnOf "_law_senses" "_law_senses" (defArgs s__law_senses) (defBody s__law_senses) (defScope s__law_senses) .none kV19 dc19 pm19 an19 cd19 ct19), sl19⟩) (c19 : PySem.W.codeIn K cd19 "_law_senses" = true) (k19 : PySem.W.keepIn K (.ref f19) = true)
    {f20 : Addr} {od20 an20 : Option Addr} {sl20 : Array (Option Value)} {oc20 kV20 dc20 pm20 cd20 ct20 : Value}
    (a20 : PySem.W.nsIn K mainGlobals "_law_right" = some (some (.ref f20))) (l20 : K.lookup f20 = some ⟨oc20, od20, .func (PySem.W.fnOf "_law_right" "_law_right" (defArgs s__law_right) (defBody s__law_right) (defScope s__law_right) .none kV20 dc20 pm20 an20 cd20 ct20), sl20⟩) (c20 : PySem.W.codeIn K cd20 "_law_right" = true) (k20 : PySem.W.keepIn K (.ref f20) = true)
    {f21 : Addr} {od21 an21 : Option Addr} {sl21 : Array (Option Value)} {oc21 kV21 dc21 pm21 cd21 ct21 : Value}
    (a21 : PySem.W.nsIn K mainGlobals "law" = some (some (.ref f21))) (l21 : K.lookup f21 = some ⟨oc21, od21, .func (PySem.W.fnOf "law" "law" (defArgs s_law) (defBody s_law) (defScope s_law) .none kV21 dc21 pm21 an21 cd21 ct21), sl21⟩) (c21 : PySem.W.codeIn K cd21 "law" = true) (k21 : PySem.W.keepIn K (.ref f21) = true)
    (z_any : PySem.W.nsIn K mainGlobals "any" = some none)
    (z_bool : PySem.W.nsIn K mainGlobals "bool" = some none)
    (z_isinstance : PySem.W.nsIn K mainGlobals "isinstance" = some none)
    (z_len : PySem.W.nsIn K mainGlobals "len" = some none)
    (z_list : PySem.W.nsIn K mainGlobals "list" = some none)
    (z_max : PySem.W.nsIn K mainGlobals "max" = some none)
    (z_min : PySem.W.nsIn K mainGlobals "min" = some none)
    (z_range : PySem.W.nsIn K mainGlobals "range" = some none)
    (z_tuple : PySem.W.nsIn K mainGlobals "tuple" = some none)
    : ∃ a : Ad, Tx w K mg a ∧ mg "law" = some (.ref a.f_law) ∧ ∀ (s : Shared) (v : Value), BindsTo s a.fd_law ⟨[v], []⟩ [("script", v)] := by
  refine ⟨⟨f0, PySem.W.fnOf "spread" "spread" (defArgs s_spread) (defBody s_spread) (defScope s_spread) .none kV0 dc0 pm0 an0 cd0 ct0, f1, PySem.W.fnOf "terms_of_do" "terms_of_do" (defArgs s_terms_of_do) (defBody s_terms_of_do) (defScope s_terms_of_do) .none kV1 dc1 pm1 an1 cd1 ct1, f2, PySem.W.fnOf "terms_of_test" "terms_of_test" (defArgs s_terms_of_test) (defBody s_terms_of_test) (defScope s_terms_of_test) .none kV2 dc2 pm2 an2 cd2 ct2, f3, PySem.W.fnOf "needs" "needs" (defArgs s_needs) (defBody s_needs) (defScope s_needs) .none kV3 dc3 pm3 an3 cd3 ct3, f4, PySem.W.fnOf "_law_bag" "_law_bag" (defArgs s__law_bag) (defBody s__law_bag) (defScope s__law_bag) .none kV4 dc4 pm4 an4 cd4 ct4, f5, PySem.W.fnOf "_law_draw" "_law_draw" (defArgs s__law_draw) (defBody s__law_draw) (defScope s__law_draw) .none kV5 dc5 pm5 an5 cd5 ct5, f6, PySem.W.fnOf "_law_top" "_law_top" (defArgs s__law_top) (defBody s__law_top) (defScope s__law_top) .none kV6 dc6 pm6 an6 cd6 ct6, f7, PySem.W.fnOf "_law_kit" "_law_kit" (defArgs s__law_kit) (defBody s__law_kit) (defScope s__law_kit) .none kV7 dc7 pm7 an7 cd7 ct7, f8, PySem.W.fnOf "_law_word" "_law_word" (defArgs s__law_word) (defBody s__law_word) (defScope s__law_word) .none kV8 dc8 pm8 an8 cd8 ct8, f9, PySem.W.fnOf "_law_leaf" "_law_leaf" (defArgs s__law_leaf) (defBody s__law_leaf) (defScope s__law_leaf) .none kV9 dc9 pm9 an9 cd9 ct9, f10, PySem.W.fnOf "_law_deep" "_law_deep" (defArgs s__law_deep) (defBody s__law_deep) (defScope s__law_deep) .none kV10 dc10 pm10 an10 cd10 ct10, f11, PySem.W.fnOf "_law_term" "_law_term" (defArgs s__law_term) (defBody s__law_term) (defScope s__law_term) .none kV11 dc11 pm11 an11 cd11 ct11, f12, PySem.W.fnOf "_law_unlike" "_law_unlike" (defArgs s__law_unlike) (defBody s__law_unlike) (defScope s__law_unlike) .none kV12 dc12 pm12 an12 cd12 ct12, f13, PySem.W.fnOf "_law_parts" "_law_parts" (defArgs s__law_parts) (defBody s__law_parts) (defScope s__law_parts) .none kV13 dc13 pm13 an13 cd13 ct13, f14, PySem.W.fnOf "_law_copies" "_law_copies" (defArgs s__law_copies) (defBody s__law_copies) (defScope s__law_copies) .none kV14 dc14 pm14 an14 cd14 ct14, f15, PySem.W.fnOf "_law_hidden" "_law_hidden" (defArgs s__law_hidden) (defBody s__law_hidden) (defScope s__law_hidden) .none kV15 dc15 pm15 an15 cd15 ct15, f16, PySem.W.fnOf "_law_many" "_law_many" (defArgs s__law_many) (defBody s__law_many) (defScope s__law_many) .none kV16 dc16 pm16 an16 cd16 ct16, f17, PySem.W.fnOf "_law_do" "_law_do" (defArgs s__law_do) (defBody s__law_do) (defScope s__law_do) .none kV17 dc17 pm17 an17 cd17 ct17, f18, PySem.W.fnOf "_law_sense" "_law_sense" (defArgs s__law_sense) (defBody s__law_sense) (defScope s__law_sense) .none kV18 dc18 pm18 an18 cd18 ct18, f19, PySem.W.fnOf "_law_senses" "_law_senses" (defArgs s__law_senses) (defBody s__law_senses) (defScope s__law_senses) .none kV19 dc19 pm19 an19 cd19 ct19, f20, PySem.W.fnOf "_law_right" "_law_right" (defArgs s__law_right) (defBody s__law_right) (defScope s__law_right) .none kV20 dc20 pm20 an20 cd20 ct20, f21, PySem.W.fnOf "law" "law" (defArgs s_law) (defBody s_law) (defScope s_law) .none kV21 dc21 pm21 an21 cd21 ct21⟩, ?_, PySem.W.mg_of X G a21, fun s v => .of_eq rfl⟩
  exact ⟨fun_mk (st := s_spread) l0 c0 k0, (fun_mk (st := s_spread) l0 c0 k0).binds (fun _ _ _ _ _ _ us hl => match us, hl with | [_, _], _ => rfl), PySem.W.mg_of X G a0,
    fun_mk (st := s_terms_of_do) l1 c1 k1, (fun_mk (st := s_terms_of_do) l1 c1 k1).binds (fun _ _ _ _ _ _ us hl => match us, hl with | [_, _], _ => rfl), PySem.W.mg_of X G a1,
    fun_mk (st := s_terms_of_test) l2 c2 k2, (fun_mk (st := s_terms_of_test) l2 c2 k2).binds (fun _ _ _ _ _ _ us hl => match us, hl with | [_], _ => rfl), PySem.W.mg_of X G a2,
    fun_mk (st := s_needs) l3 c3 k3, (fun_mk (st := s_needs) l3 c3 k3).binds (fun _ _ _ _ _ _ us hl => match us, hl with | [_], _ => rfl), PySem.W.mg_of X G a3,
    fun_mk (st := s__law_bag) l4 c4 k4, (fun_mk (st := s__law_bag) l4 c4 k4).binds (fun _ _ _ _ _ _ us hl => match us, hl with | [_, _], _ => rfl), PySem.W.mg_of X G a4,
    fun_mk (st := s__law_draw) l5 c5 k5, (fun_mk (st := s__law_draw) l5 c5 k5).binds (fun _ _ _ _ _ _ us hl => match us, hl with | [_, _], _ => rfl), PySem.W.mg_of X G a5,
    fun_mk (st := s__law_top) l6 c6 k6, (fun_mk (st := s__law_top) l6 c6 k6).binds (fun _ _ _ _ _ _ us hl => match us, hl with | [_], _ => rfl), PySem.W.mg_of X G a6,
    fun_mk (st := s__law_kit) l7 c7 k7, (fun_mk (st := s__law_kit) l7 c7 k7).binds (fun _ _ _ _ _ _ us hl => match us, hl with | [_], _ => rfl), PySem.W.mg_of X G a7,
    fun_mk (st := s__law_word) l8 c8 k8, (fun_mk (st := s__law_word) l8 c8 k8).binds (fun _ _ _ _ _ _ us hl => match us, hl with | [_, _], _ => rfl), PySem.W.mg_of X G a8,
    fun_mk (st := s__law_leaf) l9 c9 k9, (fun_mk (st := s__law_leaf) l9 c9 k9).binds (fun _ _ _ _ _ _ us hl => match us, hl with | [_, _], _ => rfl), PySem.W.mg_of X G a9,
    fun_mk (st := s__law_deep) l10 c10 k10, (fun_mk (st := s__law_deep) l10 c10 k10).binds (fun _ _ _ _ _ _ us hl => match us, hl with | [_], _ => rfl), PySem.W.mg_of X G a10,
    fun_mk (st := s__law_term) l11 c11 k11, (fun_mk (st := s__law_term) l11 c11 k11).binds (fun _ _ _ _ _ _ us hl => match us, hl with | [_, _, _, _], _ => rfl), PySem.W.mg_of X G a11,
    fun_mk (st := s__law_unlike) l12 c12 k12, (fun_mk (st := s__law_unlike) l12 c12 k12).binds (fun _ _ _ _ _ _ us hl => match us, hl with | [_], _ => rfl), PySem.W.mg_of X G a12,
    fun_mk (st := s__law_parts) l13 c13 k13, (fun_mk (st := s__law_parts) l13 c13 k13).binds (fun _ _ _ _ _ _ us hl => match us, hl with | [_], _ => rfl), PySem.W.mg_of X G a13,
    fun_mk (st := s__law_copies) l14 c14 k14, (fun_mk (st := s__law_copies) l14 c14 k14).binds (fun _ _ _ _ _ _ us hl => match us, hl with | [_], _ => rfl), PySem.W.mg_of X G a14,
    fun_mk (st := s__law_hidden) l15 c15 k15, (fun_mk (st := s__law_hidden) l15 c15 k15).binds (fun _ _ _ _ _ _ us hl => match us, hl with | [_], _ => rfl), PySem.W.mg_of X G a15,
    fun_mk (st := s__law_many) l16 c16 k16, (fun_mk (st := s__law_many) l16 c16 k16).binds (fun _ _ _ _ _ _ us hl => match us, hl with | [_], _ => rfl), PySem.W.mg_of X G a16,
    fun_mk (st := s__law_do) l17 c17 k17, (fun_mk (st := s__law_do) l17 c17 k17).binds (fun _ _ _ _ _ _ us hl => match us, hl with | [_, _, _, _], _ => rfl), PySem.W.mg_of X G a17,
    fun_mk (st := s__law_sense) l18 c18 k18, (fun_mk (st := s__law_sense) l18 c18 k18).binds (fun _ _ _ _ _ _ us hl => match us, hl with | [_, _, _, _], _ => rfl), PySem.W.mg_of X G a18,
    fun_mk (st := s__law_senses) l19 c19 k19, (fun_mk (st := s__law_senses) l19 c19 k19).binds (fun _ _ _ _ _ _ us hl => match us, hl with | [_], _ => rfl), PySem.W.mg_of X G a19,
    fun_mk (st := s__law_right) l20 c20 k20, (fun_mk (st := s__law_right) l20 c20 k20).binds (fun _ _ _ _ _ _ us hl => match us, hl with | [_], _ => rfl), PySem.W.mg_of X G a20,
    fun_mk (st := s_law) l21 c21 k21, (fun_mk (st := s_law) l21 c21 k21).binds (fun _ _ _ _ _ _ us hl => match us, hl with | [_], _ => rfl), PySem.W.mg_of X G a21,
    fun s ws hl => match ws, hl with | [_], _ => .of_eq rfl,
    PySem.W.mg_none_of X G z_any,
    PySem.W.mg_none_of X G z_bool,
    PySem.W.mg_none_of X G z_isinstance,
    PySem.W.mg_none_of X G z_len,
    PySem.W.mg_none_of X G z_list,
    PySem.W.mg_none_of X G z_max,
    PySem.W.mg_none_of X G z_min,
    PySem.W.mg_none_of X G z_range,
    PySem.W.mg_none_of X G z_tuple⟩
end K42
open PySem PySem.W PyProof.Rows
set_option maxHeartbeats 0 in
theorem PySem.Challenge.cw_steploft_k42_needs_counted_holds : PySem.Challenge.rw_steploft_k42_needs_counted.Holds := by
  w_on; o_law; k_head; (case hw => w_witness2)
  k_fill
  refine L2.walk_ofB (l := PySem.Challenge.rw_steploft_k42_needs_counted) (n := 63) (k := 27) (x := "script") (CX := fun _ => L2.CX0) (sp := fun w => K42.spV_law _) rfl (by decide) rfl ⟨rfl, by decide, by decide⟩ (fun w h Y => PySem.W.kIn_of Y) ?F (fun _ H a ns hl hb _ hS => K42.spV_at hl hb hS) (fun _ _ _ _ _ h => h)
  case F =>
    intro w mg fa h KX G hmg
    have z := DL.at_K KX (fun K' => ∃ a : K42.Ad, K42.Tx w K' mg a ∧ mg "law" = some (.ref a.f_law) ∧ ∀ (s : Shared) (v : Value), BindsTo s a.fd_law ⟨[v], []⟩ [("script", v)]) (by
      refine' K42.all_mk KX G ?a0 ?l0 ?c0 ?k0 ?a1 ?l1 ?c1 ?k1 ?a2 ?l2 ?c2 ?k2 ?a3 ?l3 ?c3 ?k3 ?a4 ?l4 ?c4 ?k4 ?a5 ?l5 ?c5 ?k5 ?a6 ?l6 ?c6 ?k6 ?a7 ?l7 ?c7 ?k7 ?a8 ?l8 ?c8 ?k8 ?a9 ?l9 ?c9 ?k9 ?a10 ?l10 ?c10 ?k10 ?a11 ?l11 ?c11 ?k11 ?a12 ?l12 ?c12 ?k12 ?a13 ?l13 ?c13 ?k13 ?a14 ?l14 ?c14 ?k14 ?a15 ?l15 ?c15 ?k15 ?a16 ?l16 ?c16 ?k16 ?a17 ?l17 ?c17 ?k17 ?a18 ?l18 ?c18 ?k18 ?a19 ?l19 ?c19 ?k19 ?a20 ?l20 ?c20 ?k20 ?a21 ?l21 ?c21 ?k21 ?z_any ?z_bool ?z_isinstance ?z_len ?z_list ?z_max ?z_min ?z_range ?z_tuple
      (case a0 => k_is); (case l0 => k_is); (case c0 => k_is); (case k0 => k_is); (case a1 => k_is); (case l1 => k_is); (case c1 => k_is); (case k1 => k_is); (case a2 => k_is); (case l2 => k_is); (case c2 => k_is); (case k2 => k_is); (case a3 => k_is); (case l3 => k_is); (case c3 => k_is); (case k3 => k_is); (case a4 => k_is); (case l4 => k_is); (case c4 => k_is); (case k4 => k_is); (case a5 => k_is); (case l5 => k_is); (case c5 => k_is); (case k5 => k_is); (case a6 => k_is); (case l6 => k_is); (case c6 => k_is); (case k6 => k_is); (case a7 => k_is); (case l7 => k_is); (case c7 => k_is); (case k7 => k_is); (case a8 => k_is); (case l8 => k_is); (case c8 => k_is); (case k8 => k_is); (case a9 => k_is); (case l9 => k_is); (case c9 => k_is); (case k9 => k_is); (case a10 => k_is); (case l10 => k_is); (case c10 => k_is); (case k10 => k_is); (case a11 => k_is); (case l11 => k_is); (case c11 => k_is); (case k11 => k_is); (case a12 => k_is); (case l12 => k_is); (case c12 => k_is); (case k12 => k_is); (case a13 => k_is); (case l13 => k_is); (case c13 => k_is); (case k13 => k_is); (case a14 => k_is); (case l14 => k_is); (case c14 => k_is); (case k14 => k_is); (case a15 => k_is); (case l15 => k_is); (case c15 => k_is); (case k15 => k_is); (case a16 => k_is); (case l16 => k_is); (case c16 => k_is); (case k16 => k_is); (case a17 => k_is); (case l17 => k_is); (case c17 => k_is); (case k17 => k_is); (case a18 => k_is); (case l18 => k_is); (case c18 => k_is); (case k18 => k_is); (case a19 => k_is); (case l19 => k_is); (case c19 => k_is); (case k19 => k_is); (case a20 => k_is); (case l20 => k_is); (case c20 => k_is); (case k20 => k_is); (case a21 => k_is); (case l21 => k_is); (case c21 => k_is); (case k21 => k_is); (case z_any => k_is); (case z_bool => k_is); (case z_isinstance => k_is); (case z_len => k_is); (case z_list => k_is); (case z_max => k_is); (case z_min => k_is); (case z_range => k_is); (case z_tuple => k_is))
    obtain ⟨a, T, hm, hb⟩ := z
    have e := hmg.symm.trans hm
    cases e
    exact ⟨_, hb, fun base _ _ => K42.ok_law T⟩



