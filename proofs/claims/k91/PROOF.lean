import PyProof.Rows.All
import Wide.All
import OpenK.AllK
import Wide.FinOn
import HandS.ForMost
import HandS.ForExc
import HandS.Zip
import HandS.IsInst
import HandS.TupAny
import HandS.StrMore
import HandS.RaiseMore
import HandS.ExcInit
import HandS.ExcIs
import HandS.ExcField
import PyProof.Rows.NestShow
import HandS.Iter
import KE.KExcIs
import PySem.Challenge.RW_likewebs_k91_no_texts_and_where
set_option Elab.async false
set_option linter.all false
set_option maxRecDepth 100000
set_option maxHeartbeats 4000000
namespace DL
open PySem PySem.Spec PyProof.Rows L2

/-- a value as data: tuples, lists that nobody changes, instances that nobody changes are values -/
inductive D where
  | non | bl (b : Bool) | int (i : Int) | str (x : Str) | ref (a : Addr) | ty (n : String)
  | tup (l : List D) | lst (l : List D) | ins (C : Addr) (ns : List Str) (vs : List D) | dic (ks : List Key) (vs : List D)

/-- what stands at an address that may change -/
inductive DO where
  | lst (l : List D) | ins (C : Addr) (fs : List (Str × D)) | dic (kvs : List (Key × D)) | raw (o : HO)
abbrev DS := Addr → Option DO
def sup (S : DS) (a : Addr) (o : DO) : DS := fun b => if b = a then some o else S b
theorem sup_same {S : DS} {a : Addr} {o : DO} : sup S a o a = some o := by unfold sup; rw [if_pos rfl]
theorem sup_ne {S : DS} {a b : Addr} {o : DO} (h : b ≠ a) : sup S a o b = S b := by unfold sup; rw [if_neg h]
theorem sup_sup {S : DS} {a : Addr} {o u : DO} : sup (sup S a o) a u = sup S a u := by
  funext b; unfold sup; split <;> rfl
def sdel (S : DS) (a : Addr) : DS := fun b => if b = a then none else S b
theorem sdel_same {S : DS} {a : Addr} : sdel S a a = none := by unfold sdel; rw [if_pos rfl]
theorem sdel_ne {S : DS} {a b : Addr} (h : b ≠ a) : sdel S a b = S b := by unfold sdel; rw [if_neg h]
theorem sdel_sup {S : DS} {a : Addr} {o : DO} (h : S a = none) : sdel (sup S a o) a = S := by
  funext b; unfold sdel sup; split
  · rename_i e; rw [e]; exact h.symm
  · rfl

def KTup (K : PySem.W.Frag) (a : Addr) (xs : List V) : Prop :=
  ∃ (o : Obj) (its : Array Value) (n : Nat), K.lookup a = some o ∧ o.cls = .type "tuple" ∧ o.data = .seq its n ∧ its.size ≤ sizeLine ∧ Vals xs its.toList
def KLst (K : PySem.W.Frag) (a : Addr) (xs : List V) : Prop :=
  ∃ (o : Obj) (its : Array Value) (n : Nat), K.lookup a = some o ∧ o.cls = .type "list" ∧ o.dict = none ∧ o.data = .seq its n ∧ its.size ≤ sizeLine ∧ Vals xs its.toList
/-- a tuple that stands: tracked and not in the store, or written -/
def DT_ (K : PySem.W.Frag) (H : Hp) (S : DS) (a : Addr) (xs : List V) : Prop := (Rd H a (.tup xs) ∧ S a = none) ∨ KTup K a xs
def DLs (K : PySem.W.Frag) (H : Hp) (S : DS) (a : Addr) (xs : List V) : Prop := (Rd H a (.lst xs) ∧ S a = none) ∨ KLst K a xs
theorem DT_.sq {K : PySem.W.Frag} {H : Hp} {S : DS} {a : Addr} {xs : List V} (h : DT_ K H S a xs) : SqT K H a xs := by
  rcases h with ⟨h, _⟩ | h
  · exact .inl h
  · exact .inr h
theorem DLs.sq {K : PySem.W.Frag} {H : Hp} {S : DS} {a : Addr} {xs : List V} (h : DLs K H S a xs) : SqL K H a xs := by
  rcases h with ⟨h, _⟩ | h
  · exact .inl h
  · exact .inr h

section
variable (K : PySem.W.Frag) (H : Hp) (S : DS)
mutual
def RepV (v : V) : D → Prop
  | .non => v = .non
  | .bl b => v = .bl b
  | .int i => v = .int i
  | .str x => v = .str x ∧ x.length ≤ sizeLine
  | .ty n => v = .ty n
  | .ref a => v = .ref a
  | .tup l => ∃ a xs, v = .ref a ∧ DT_ K H S a xs ∧ RepVs xs l ∧ l.length ≤ sizeLine
  | .lst l => ∃ a xs, v = .ref a ∧ DLs K H S a xs ∧ RepVs xs l ∧ l.length ≤ sizeLine
  | .ins C ns vs => ∃ a dx fs, v = .ref a ∧ H a = some (.ins C dx fs) ∧ S a = none ∧ fs.map (·.1) = ns ∧ RepVs (fs.map (·.2)) vs
  | .dic ks vs => ∃ a kvs, v = .ref a ∧ Rd H a (.dK kvs) ∧ S a = none ∧ kvs.map (·.1) = ks ∧ RepVs (kvs.map (·.2)) vs
def RepVs (xs : List V) : List D → Prop
  | [] => xs = []
  | d :: ds => ∃ x r, xs = x :: r ∧ RepV x d ∧ RepVs r ds
end
/-- what stands at an address of the store -/
def RepO (p : Addr) : DO → Prop
  | .lst l => ∃ xs, H p = some (.lst xs) ∧ RepVs K H S xs l ∧ l.length ≤ sizeLine
  | .ins C fs => ∃ dx hs, H p = some (.ins C dx hs) ∧ hs.map (·.1) = fs.map (·.1) ∧ RepVs K H S (hs.map (·.2)) (fs.map (·.2))
  | .dic kvs => ∃ hs, H p = some (.dK hs) ∧ hs.map (·.1) = kvs.map (·.1) ∧ RepVs K H S (hs.map (·.2)) (kvs.map (·.2))
  | .raw o => H p = some o
def RepS : Prop := ∀ p o, S p = some o → RepO K H S p o
abbrev DEnv := List (Option D)
def RepE (σ : L2.St) (ρ : DEnv) : Prop := σ.length = ρ.length ∧ ∀ (i : Nat) (d : D), ρ[i]? = some (some d) → ∃ v, σ[i]? = some (some v) ∧ RepV K H S v d
end

/-- all that stood outside the store stands, outside the store -/
def Frm (H : Hp) (S : DS) (H' : Hp) (S' : DS) : Prop := ∀ a o, H a = some o → S a = none → H' a = some o ∧ S' a = none
theorem Frm.refl (H : Hp) (S : DS) : Frm H S H S := fun _ _ h h' => ⟨h, h'⟩
theorem Frm.trans {H H1 H2 : Hp} {S S1 S2 : DS} (a : Frm H S H1 S1) (b : Frm H1 S1 H2 S2) : Frm H S H2 S2 := fun c o h h' => by
  obtain ⟨e, e'⟩ := a c o h h'
  exact b c o e e'
section
variable {K : PySem.W.Frag} {H H' : Hp} {S S' : DS}
theorem Frm.rd {a : Addr} {u : HO} (f : Frm H S H' S') (h : Rd H a u) (h' : S a = none) : Rd H' a u ∧ S' a = none := by
  rcases h with h | ⟨o, h⟩
  · exact ⟨.inl (f _ _ h h').1, (f _ _ h h').2⟩
  · exact ⟨.inr ⟨o, (f _ _ h h').1⟩, (f _ _ h h').2⟩
theorem Frm.tup {a : Addr} {xs : List V} (f : Frm H S H' S') (h : DT_ K H S a xs) : DT_ K H' S' a xs := by
  rcases h with ⟨h, h'⟩ | h
  · exact .inl (f.rd h h')
  · exact .inr h
theorem Frm.lst {a : Addr} {xs : List V} (f : Frm H S H' S') (h : DLs K H S a xs) : DLs K H' S' a xs := by
  rcases h with ⟨h, h'⟩ | h
  · exact .inl (f.rd h h')
  · exact .inr h
mutual
theorem RepV.frm (f : Frm H S H' S') : ∀ (d : D) (v : V), RepV K H S v d → RepV K H' S' v d
  | .non, _, h => by simpa only [RepV] using h
  | .bl _, _, h => by simpa only [RepV] using h
  | .int _, _, h => by simpa only [RepV] using h
  | .str _, _, h => by simpa only [RepV] using h
  | .ty _, _, h => by simpa only [RepV] using h
  | .ref _, _, h => by simpa only [RepV] using h
  | .tup l, v, h => by
    simp only [RepV] at h ⊢
    obtain ⟨a, xs, e, t, r, z⟩ := h
    exact ⟨a, xs, e, f.tup t, RepVs.frm f l xs r, z⟩
  | .lst l, v, h => by
    simp only [RepV] at h ⊢
    obtain ⟨a, xs, e, t, r, z⟩ := h
    exact ⟨a, xs, e, f.lst t, RepVs.frm f l xs r, z⟩
  | .ins C ns vs, v, h => by
    simp only [RepV] at h ⊢
    obtain ⟨a, dx, fs, e, h1, h2, h3, r⟩ := h
    exact ⟨a, dx, fs, e, (f _ _ h1 h2).1, (f _ _ h1 h2).2, h3, RepVs.frm f vs _ r⟩
  | .dic ks vs, v, h => by
    simp only [RepV] at h ⊢
    obtain ⟨a, fs, e, h1, h2, h3, r⟩ := h
    exact ⟨a, fs, e, (f.rd h1 h2).1, (f.rd h1 h2).2, h3, RepVs.frm f vs _ r⟩
theorem RepVs.frm (f : Frm H S H' S') : ∀ (ds : List D) (xs : List V), RepVs K H S xs ds → RepVs K H' S' xs ds
  | [], _, h => by simpa only [RepVs] using h
  | d :: ds, xs, h => by
    simp only [RepVs] at h ⊢
    obtain ⟨x, r, e, h1, h2⟩ := h
    exact ⟨x, r, e, RepV.frm f d x h1, RepVs.frm f ds r h2⟩
end
theorem RepE.frm {σ : L2.St} {ρ : DEnv} (f : Frm H S H' S') (h : RepE K H S σ ρ) : RepE K H' S' σ ρ := ⟨h.1, fun i d e => by
  obtain ⟨v, e', r⟩ := h.2 i d e
  exact ⟨v, e', RepV.frm f d v r⟩⟩
theorem RepVs.nil_iff {xs : List V} : RepVs K H S xs [] ↔ xs = [] := by simp only [RepVs]
theorem RepVs.nil : RepVs K H S [] [] := by simp only [RepVs]
theorem RepVs.cons {x : V} {r : List V} {d : D} {ds : List D} (h1 : RepV K H S x d) (h2 : RepVs K H S r ds) : RepVs K H S (x :: r) (d :: ds) := by
  simp only [RepVs]; exact ⟨x, r, rfl, h1, h2⟩
theorem RepVs.cons_iff {x : V} {r : List V} {d : D} {ds : List D} : RepVs K H S (x :: r) (d :: ds) ↔ RepV K H S x d ∧ RepVs K H S r ds := by
  simp only [RepVs]
  constructor
  · rintro ⟨x', r', e, h1, h2⟩; cases e; exact ⟨h1, h2⟩
  · rintro ⟨h1, h2⟩; exact ⟨x, r, rfl, h1, h2⟩
theorem RepVs.length : ∀ {ds : List D} {xs : List V}, RepVs K H S xs ds → xs.length = ds.length
  | [], xs, h => by simp only [RepVs] at h; subst h; rfl
  | d :: ds, xs, h => by
    simp only [RepVs] at h
    obtain ⟨x, r, rfl, _, h2⟩ := h
    rw [List.length_cons, List.length_cons, RepVs.length h2]
theorem RepVs.get : ∀ {ds : List D} {xs : List V} {i : Nat} {d : D}, RepVs K H S xs ds → ds[i]? = some d → ∃ v, xs[i]? = some v ∧ RepV K H S v d
  | [], _, _, _, _, e => by simp at e
  | d' :: ds, xs, 0, d, h, e => by
    simp only [RepVs] at h
    obtain ⟨x, r, rfl, h1, h2⟩ := h
    simp at e; subst e
    exact ⟨x, rfl, h1⟩
  | d' :: ds, xs, i + 1, d, h, e => by
    simp only [RepVs] at h
    obtain ⟨x, r, rfl, h1, h2⟩ := h
    obtain ⟨v, e', q⟩ := RepVs.get (i := i) h2 (by simpa using e)
    exact ⟨v, by simpa using e', q⟩
theorem RepVs.append : ∀ {ds es : List D} {xs ys : List V}, RepVs K H S xs ds → RepVs K H S ys es → RepVs K H S (xs ++ ys) (ds ++ es)
  | [], es, xs, ys, h, h' => by simp only [RepVs] at h; subst h; exact h'
  | d :: ds, es, xs, ys, h, h' => by
    simp only [RepVs] at h
    obtain ⟨x, r, rfl, h1, h2⟩ := h
    exact RepVs.cons h1 (RepVs.append h2 h')
theorem RepVs.take : ∀ {ds : List D} {xs : List V} (n : Nat), RepVs K H S xs ds → RepVs K H S (xs.take n) (ds.take n)
  | _, _, 0, _ => by simp only [List.take_zero]; exact RepVs.nil
  | [], xs, n + 1, h => by simp only [RepVs] at h; subst h; exact RepVs.nil
  | d :: ds, xs, n + 1, h => by
    simp only [RepVs] at h
    obtain ⟨x, r, rfl, h1, h2⟩ := h
    exact RepVs.cons h1 (RepVs.take n h2)
theorem RepVs.drop : ∀ {ds : List D} {xs : List V} (n : Nat), RepVs K H S xs ds → RepVs K H S (xs.drop n) (ds.drop n)
  | _, _, 0, h => h
  | [], xs, n + 1, h => by simp only [RepVs] at h; subst h; exact RepVs.nil
  | d :: ds, xs, n + 1, h => by
    simp only [RepVs] at h
    obtain ⟨x, r, rfl, h1, h2⟩ := h
    exact RepVs.drop n h2
theorem RepVs.set : ∀ {ds : List D} {xs : List V} (i : Nat) {v : V} {d : D}, RepVs K H S xs ds → RepV K H S v d → RepVs K H S (xs.set i v) (ds.set i d)
  | [], xs, _, _, _, h, _ => by simp only [RepVs] at h; subst h; exact RepVs.nil
  | d' :: ds, xs, 0, _, _, h, q => by
    simp only [RepVs] at h
    obtain ⟨x, r, rfl, h1, h2⟩ := h
    exact RepVs.cons q h2
  | d' :: ds, xs, i + 1, _, _, h, q => by
    simp only [RepVs] at h
    obtain ⟨x, r, rfl, h1, h2⟩ := h
    exact RepVs.cons h1 (RepVs.set i h2 q)
theorem RepE.set {σ : L2.St} {ρ : DEnv} {i : Nat} {v : V} {d : D} (h : RepE K H S σ ρ) (r : RepV K H S v d) : RepE K H S (σ.set i (some v)) (ρ.set i (some d)) := by
  refine ⟨by simpa using h.1, fun j e hj => ?_⟩
  by_cases c : j = i
  · subst c
    have hl : j < ρ.length := by
      have := (List.getElem?_eq_some_iff.mp hj).1
      simpa using this
    rw [List.getElem?_set_self hl] at hj
    cases hj
    exact ⟨v, by rw [List.getElem?_set_self (by rw [h.1]; exact hl)], r⟩
  · rw [List.getElem?_set_ne (Ne.symm c)] at hj
    obtain ⟨w, e1, e2⟩ := h.2 j e hj
    exact ⟨w, by rw [List.getElem?_set_ne (Ne.symm c)]; exact e1, e2⟩
/-- the store is left to what is needed of it -/
def Sub (S S' : DS) : Prop := ∀ p o, S p = some o → S' p = some o
theorem Sub.none {p : Addr} (h : Sub S S') (e : S' p = Option.none) : S p = Option.none := by
  cases q : S p with
  | none => rfl
  | some o => rw [h p o q] at e; cases e
theorem Sub.refl (S : DS) : Sub S S := fun _ _ h => h
theorem Sub.trans {S1 S2 S3 : DS} (a : Sub S1 S2) (b : Sub S2 S3) : Sub S1 S3 := fun p o h => b p o (a p o h)
theorem Sub.sup {p : Addr} {o : DO} (h : S p = Option.none) : Sub S (DL.sup S p o) := fun q u e => by
  rw [sup_ne (fun z => by rw [z, h] at e; cases e)]; exact e
theorem Sub.del {p : Addr} : Sub (sdel S p) S := fun q u e => by
  unfold sdel at e
  split at e
  · cases e
  · exact e
theorem Frm.sub {S2 : DS} (f : Frm H S H' S') (h : Sub S2 S') : Frm H S H' S2 := fun a o e e' => ⟨(f a o e e').1, h.none (f a o e e').2⟩
theorem Frm.less (h : Sub S' S) : Frm H S H S' := fun a o e e' => ⟨e, h.none e'⟩
theorem RepS.sub (h : Sub S' S) (r : RepS K H S) : RepS K H S' := fun p o e => by
  have q := r p o (h p o e)
  have f : Frm H S H S' := Frm.less h
  cases o with
  | lst l => obtain ⟨xs, e1, e2, z⟩ := q; exact ⟨xs, e1, RepVs.frm f _ _ e2, z⟩
  | ins C fs => obtain ⟨dx, hs, e1, e2, e3⟩ := q; exact ⟨dx, hs, e1, e2, RepVs.frm f _ _ e3⟩
  | dic kvs => obtain ⟨hs, e1, e2, e3⟩ := q; exact ⟨hs, e1, e2, RepVs.frm f _ _ e3⟩
  | raw o => exact q
theorem RepS.there {p : Addr} (r : RepS K H S) (e : H p = none) : S p = none := by
  cases q : S p with
  | none => rfl
  | some o =>
    have z := r p o q
    cases o with
    | lst l => obtain ⟨xs, e1, _⟩ := z; rw [e] at e1; cases e1
    | ins C fs => obtain ⟨dx, hs, e1, _⟩ := z; rw [e] at e1; cases e1
    | dic kvs => obtain ⟨hs, e1, _⟩ := z; rw [e] at e1; cases e1
    | raw o => rw [show H p = some o from z] at e; cases e
end
end DL

namespace DL
open PySem PySem.Spec PyProof.Rows L2

abbrev DQ := D → DS → Prop
abbrev DTm := DEnv → DS → DQ → Prop
abbrev DTt := DEnv → DS → (Bool → DS → Prop) → Prop
structure DB where
  H : Hp
  S : DS
structure Std (K : PySem.W.Frag) (B : DB) (H : Hp) (S : DS) (σ : L2.St) (ρ : DEnv) : Prop where
  frm : Frm B.H B.S H S
  st : RepS K H S
  env : RepE K H S σ ρ
/-- behind: what is wanted of data gives what is wanted of values -/
def Thn (K : PySem.W.Frag) (H : Hp) (S : DS) (Qd : DQ) (Q : VK) : Prop := ∀ v H' d S', Frm H S H' S' → RepS K H' S' → RepV K H' S' v d → Qd d S' → Q v H'
def lift (K : PySem.W.Frag) (B : DB) (t : DTm) : TE := fun σ H Q => ∃ ρ S Qd, Std K B H S σ ρ ∧ t ρ S Qd ∧ Thn K H S Qd Q
def liftT (K : PySem.W.Frag) (B : DB) (t : DTt) : TT := fun σ H Q => ∃ ρ S Qd, Std K B H S σ ρ ∧ t ρ S Qd ∧ ∀ b H' S', Frm H S H' S' → RepS K H' S' → Qd b S' → Q b H'
def dArgs : List DTm → DEnv → DS → (List D → DS → Prop) → Prop
  | [], _, S, Q => Q [] S
  | t :: ts, ρ, S, Q => t ρ S fun d S1 => dArgs ts ρ S1 fun ds S2 => Q (d :: ds) S2
def liftA (K : PySem.W.Frag) (B : DB) (ts : List DTm) : TA := fun σ H Q => ∃ ρ S Qd, Std K B H S σ ρ ∧ dArgs ts ρ S Qd ∧
  ∀ vs H' ds S', Frm H S H' S' → RepS K H' S' → RepVs K H' S' vs ds → ds.length = ts.length → Qd ds S' → Q vs H'
abbrev DE (X : Cx) (B : DB) (e : Expr) (t : DTm) : Prop := PE X e (lift X.K B t)
abbrev DT (X : Cx) (B : DB) (e : Expr) (t : DTt) : Prop := PT X e (liftT X.K B t)
abbrev DW_ (X : Cx) (B : DB) (e : Expr) (t : DTt) : Prop := PW X e (liftT X.K B t)
abbrev DA (X : Cx) (B : DB) (es : List Expr) (ts : List DTm) : Prop := PA X es (liftA X.K B ts)
theorem PE.imp {X : Cx} {e : Expr} {t t' : TE} (h : PE X e t) (i : ∀ σ H Q, t' σ H Q → t σ H Q) : PE X e t' := ⟨fun pins s σ H Q I q => h.run pins s σ H Q I (i σ H Q q)⟩
theorem PT.imp {X : Cx} {e : Expr} {t t' : TT} (h : PT X e t) (i : ∀ σ H Q, t' σ H Q → t σ H Q) : PT X e t' := ⟨fun pins s σ H Q I q => h.run pins s σ H Q I (i σ H Q q)⟩
theorem PW.imp {X : Cx} {e : Expr} {t t' : TT} (h : PW X e t) (i : ∀ σ H Q, t' σ H Q → t σ H Q) : PW X e t' := ⟨fun wh pins s σ H Q I q => h.run wh pins s σ H Q I (i σ H Q q)⟩
theorem PA.imp {X : Cx} {e : List Expr} {t t' : TA} (h : PA X e t) (i : ∀ σ H Q, t' σ H Q → t σ H Q) : PA X e t' := ⟨fun pos pins s σ H Q I q => h.run pos pins s σ H Q I (i σ H Q q)⟩
theorem PS.imp {X : Cx} {e : Stmt} {t t' : TS} (h : PS X e t) (i : ∀ D σ H, t' D σ H → t D σ H) : PS X e t' := ⟨fun pins s σ H D I q => h.run pins s σ H D I (i D σ H q)⟩
theorem PSs.imp {X : Cx} {e : List Stmt} {t t' : TS} (h : PSs X e t) (i : ∀ D σ H, t' D σ H → t D σ H) : PSs X e t' := ⟨fun pins s σ H D I q => h.run pins s σ H D I (i D σ H q)⟩

section
variable {K : PySem.W.Frag} {B : DB} {H H' : Hp} {S S' : DS} {σ : L2.St} {ρ : DEnv}
theorem Std.next (s : Std K B H S σ ρ) (f : Frm H S H' S') (r : RepS K H' S') : Std K B H' S' σ ρ := ⟨s.frm.trans f, r, s.env.frm f⟩
theorem Thn.here {Qd : DQ} {Q : VK} {v : V} {d : D} (k : Thn K H S Qd Q) (rs : RepS K H S) (r : RepV K H S v d) (q : Qd d S) : Q v H := k v H d S (Frm.refl H S) rs r q
theorem Thn.next {Qd : DQ} {Q : VK} (k : Thn K H S Qd Q) (f : Frm H S H' S') : Thn K H' S' Qd Q := fun v H2 d S2 f2 rs r q => k v H2 d S2 (f.trans f2) rs r q
theorem rep_bl {b : Bool} : RepV K H S (.bl b) (.bl b) := by simp only [RepV]
theorem rep_int {i : Int} : RepV K H S (.int i) (.int i) := by simp only [RepV]
theorem rep_non : RepV K H S .non .non := by simp only [RepV]
theorem rep_str {x : Str} (h : x.length ≤ sizeLine) : RepV K H S (.str x) (.str x) := by simp only [RepV, true_and]; exact h
theorem rep_ref {a : Addr} : RepV K H S (.ref a) (.ref a) := by simp only [RepV]
theorem of_bl {v : V} {b : Bool} (h : RepV K H S v (.bl b)) : v = .bl b := by simpa only [RepV] using h
theorem of_int {v : V} {b : Int} (h : RepV K H S v (.int b)) : v = .int b := by simpa only [RepV] using h
theorem of_non {v : V} (h : RepV K H S v .non) : v = .non := by simpa only [RepV] using h
theorem of_str {v : V} {x : Str} (h : RepV K H S v (.str x)) : v = .str x ∧ x.length ≤ sizeLine := by simpa only [RepV] using h
theorem of_ref {v : V} {a : Addr} (h : RepV K H S v (.ref a)) : v = .ref a := by simpa only [RepV] using h
theorem of_tup {v : V} {l : List D} (h : RepV K H S v (.tup l)) : ∃ a xs, v = .ref a ∧ DT_ K H S a xs ∧ RepVs K H S xs l ∧ l.length ≤ sizeLine := by simpa only [RepV] using h
theorem of_lst {v : V} {l : List D} (h : RepV K H S v (.lst l)) : ∃ a xs, v = .ref a ∧ DLs K H S a xs ∧ RepVs K H S xs l ∧ l.length ≤ sizeLine := by simpa only [RepV] using h
/-- a new object that is not of the store -/
theorem Frm.new {p : Addr} {o : HO} (h : H p = none) : Frm H S (upd H p o) S := fun a u e e' => ⟨by rw [upd_ne (ne_of_none e h)]; exact e, e'⟩
theorem Frm.newS {p : Addr} {o : HO} {u : DO} (h : H p = none) : Frm H S (upd H p o) (sup S p u) := fun a w e e' => by
  have n := ne_of_none e h
  exact ⟨by rw [upd_ne n]; exact e, by rw [sup_ne n]; exact e'⟩
/-- an object of the store is changed -/
theorem Frm.chg {p : Addr} {o : HO} {u w : DO} (h : S p = some w) : Frm H S (upd H p o) (sup S p u) := fun a x e e' => by
  have n : a ≠ p := fun z => by rw [z, h] at e'; cases e'
  exact ⟨by rw [upd_ne n]; exact e, by rw [sup_ne n]; exact e'⟩
theorem RepO.frm {p : Addr} {o : DO} (f : Frm H S H' S') (e : H' p = H p) (q : RepO K H S p o) : RepO K H' S' p o := by
  cases o with
  | lst l => obtain ⟨xs, e1, e2, z⟩ := q; exact ⟨xs, e.trans e1, RepVs.frm f _ _ e2, z⟩
  | ins C fs => obtain ⟨dx, hs, e1, e2, e3⟩ := q; exact ⟨dx, hs, e.trans e1, e2, RepVs.frm f _ _ e3⟩
  | dic kvs => obtain ⟨hs, e1, e2, e3⟩ := q; exact ⟨hs, e.trans e1, e2, RepVs.frm f _ _ e3⟩
  | raw o => exact Eq.trans e q
theorem RepS.new {p : Addr} {o : HO} (r : RepS K H S) (h : H p = none) : RepS K (upd H p o) S := fun q u e => by
  have n : q ≠ p := fun z => by rw [z, r.there h] at e; cases e
  exact RepO.frm (Frm.new h) (upd_ne n) (r q u e)
theorem RepS.put {p : Addr} {o : HO} {u : DO} (r : RepS K H S) (f : Frm H S (upd H p o) (sup S p u)) (h : RepO K (upd H p o) (sup S p u) p u) : RepS K (upd H p o) (sup S p u) := fun q w e => by
  by_cases n : q = p
  · subst n; rw [sup_same] at e; cases e; exact h
  · rw [sup_ne n] at e
    exact RepO.frm f (upd_ne n) (r q w e)
theorem rep_newTup {p : Addr} {xs : List V} {ds : List D} (rs : RepS K H S) (h : H p = none) (r : RepVs K H S xs ds) (z : ds.length ≤ sizeLine) : RepV K (upd H p (.tup xs)) S (.ref p) (.tup ds) := by
  simp only [RepV]
  exact ⟨p, xs, rfl, .inl ⟨.inl upd_same, rs.there h⟩, RepVs.frm (Frm.new h) _ _ r, z⟩
theorem rep_newLst {p : Addr} {xs : List V} {ds : List D} (rs : RepS K H S) (h : H p = none) (r : RepVs K H S xs ds) (z : ds.length ≤ sizeLine) : RepV K (upd H p (.lst xs)) S (.ref p) (.lst ds) := by
  simp only [RepV]
  exact ⟨p, xs, rfl, .inl ⟨.inl upd_same, rs.there h⟩, RepVs.frm (Frm.new h) _ _ r, z⟩
theorem Thn.tup {Qd : DQ} {Q : VK} {p : Addr} {xs : List V} {ds : List D} (k : Thn K H S Qd Q) (rs : RepS K H S) (h : H p = none) (r : RepVs K H S xs ds) (z : ds.length ≤ sizeLine) (q : Qd (.tup ds) S) : Q (.ref p) (upd H p (.tup xs)) :=
  k _ _ _ S (Frm.new h) (rs.new h) (rep_newTup rs h r z) q
theorem Thn.lst {Qd : DQ} {Q : VK} {p : Addr} {xs : List V} {ds : List D} (k : Thn K H S Qd Q) (rs : RepS K H S) (h : H p = none) (r : RepVs K H S xs ds) (z : ds.length ≤ sizeLine) (q : Qd (.lst ds) S) : Q (.ref p) (upd H p (.lst xs)) :=
  k _ _ _ S (Frm.new h) (rs.new h) (rep_newLst rs h r z) q
/-- a new list of the store -/
theorem Thn.lstM {Qd : DQ} {Q : VK} {p : Addr} {xs : List V} {ds : List D} (k : Thn K H S Qd Q) (rs : RepS K H S) (h : H p = none) (r : RepVs K H S xs ds) (z : ds.length ≤ sizeLine)
    (q : ∀ p, S p = none → Qd (.ref p) (sup S p (.lst ds))) : Q (.ref p) (upd H p (.lst xs)) := by
  have f : Frm H S (upd H p (.lst xs)) (sup S p (.lst ds)) := Frm.newS h
  exact k _ _ _ (sup S p (.lst ds)) f (rs.put f ⟨xs, upd_same, RepVs.frm f _ _ r, z⟩) rep_ref (q p (rs.there h))
end

section
variable {X : Cx} {B : DB} {a b c e : Expr} {es : List Expr} {ta tb tc t : DTm} {ts : List DTm} {pos : Pos}
def dVar (i : Nat) (ρ : DEnv) (S : DS) (Q : DQ) : Prop := match ρ[i]? with
  | some (some d) => Q d S
  | _ => False
def dC (d : D) (_ : DEnv) (S : DS) (Q : DQ) : Prop := Q d S
theorem de_of (h : PE X e (tVar i)) : DE X B e (dVar i) := PE.imp h fun σ H Q ⟨ρ, S, Qd, st, q, k⟩ => by
  unfold dVar at q
  split at q
  · rename_i d hd
    obtain ⟨v, e1, r⟩ := st.env.2 _ d hd
    exact ⟨v, e1, k.here st.st r q⟩
  · exact q.elim
theorem dv (i : Nat) {x : Str} {pos : Pos} (hN : X.N[i]? = some x := by rfl) (hv : Vis X.env.scope x := by first | exact Or.inl rfl | exact Or.inr (Or.inl rfl) | exact Or.inr (Or.inr rfl)) (hd : (x == ("__debug__" : Str)) = false := by decide)
    (hcd : (x == ("__classdict__" : Str)) = false := by decide) : DE X B (.Name x pos) (dVar i) := de_of (pv i hN hv hd hcd)
theorem de_c {v : V} {d : D} (h : PE X e (tC v)) (r : ∀ K H S, RepV K H S v d) : DE X B e (dC d) := PE.imp h fun σ H Q ⟨ρ, S, Qd, st, q, k⟩ => k.here st.st (r _ _ _) q
theorem de_int {i j pos} : DE X B (.Constant (.int i) j pos) (dC (.int i)) := de_c pe_int fun _ _ _ => rep_int
theorem de_bl {i j pos} : DE X B (.Constant (.bool i) j pos) (dC (.bl i)) := de_c pe_bl fun _ _ _ => rep_bl
theorem de_non {j pos} : DE X B (.Constant .none j pos) (dC .non) := de_c pe_non fun _ _ _ => rep_non
theorem de_str {x j pos} (h : x.length ≤ sizeLine := by decide) : DE X B (.Constant (.str x) j pos) (dC (.str x)) := de_c pe_str fun _ _ _ => rep_str h
/-- a module's constant that is an int, a text -/
theorem de_gint {x : Str} {i : Int} {t : Tok} (hg : Gl X x) (hm : X.mg x = some (.int i t)) (hd : (x == ("__debug__" : Str)) = false := by decide) : DE X B (.Name x pos) (dC (.int i)) := de_c (pe_glob (v := .int i) hg hm ⟨_, rfl⟩ hd) fun _ _ _ => rep_int
theorem de_gstr {x y : Str} {t : Tok} (hg : Gl X x) (hm : X.mg x = some (.str y t)) (h : y.length ≤ sizeLine := by decide) (hd : (x == ("__debug__" : Str)) = false := by decide) : DE X B (.Name x pos) (dC (.str y)) := de_c (pe_glob (v := .str y) hg hm ⟨_, rfl⟩ hd) fun _ _ _ => rep_str h

abbrev DO2 := D → D → DS → DQ → Prop
def dOp (o : DO2) (ta tb : DTm) (ρ : DEnv) (S : DS) (Q : DQ) : Prop := ta ρ S fun x S1 => tb ρ S1 fun y S2 => o x y S2 Q
def OpD (K : PySem.W.Frag) (r : R2) (o : DO2) : Prop := ∀ H S v u x y Q Qd, RepS K H S → RepV K H S v x → RepV K H S u y → o x y S Qd → Thn K H S Qd Q → r v u H Q
theorem lift_op {K : PySem.W.Frag} {r : R2} {o : DO2} (hd : OpD K r o) {σ : L2.St} {H : Hp} {Q : VK} (h : lift K B (dOp o ta tb) σ H Q) : tOp r (lift K B ta) (lift K B tb) σ H Q := by
  obtain ⟨ρ, S, Qd, st, q, k⟩ := h
  refine ⟨ρ, S, _, st, q, fun v H1 x S1 f1 r1 v1 q1 => ?_⟩
  refine ⟨ρ, S1, _, st.next f1 r1, q1, fun u H2 y S2 f2 r2 v2 q2 => ?_⟩
  exact hd H2 S2 v u x y Q Qd r2 (RepV.frm f2 _ _ v1) v2 q2 (k.next (f1.trans f2))
theorem de_op {op : Operator} {r : R2} {o : DO2} (ho : OpR X (binaryOp op) r) (hd : OpD X.K r o) (ha : DE X B a ta) (hb : DE X B b tb) : DE X B (.BinOp a op b pos) (dOp o ta tb) := PE.imp (pe_op ho ha hb) fun _ _ _ h => lift_op hd h
theorem de_cmp {op : CmpOp} {r : R2} {o : DO2} (ho : OpR X (compareOp op) r) (hd : OpD X.K r o) (ha : DE X B a ta) (hb : DE X B b tb) (hm : behindInMarks op b = false) : DE X B (.Compare a [op] [b] pos) (dOp o ta tb) := PE.imp (pe_cmpR ho ha hb hm) fun _ _ _ h => lift_op hd h
def oI (C : Int → Int → Prop) (g : Int → Int → D) : DO2 := fun x y S Q => match x, y with
  | .int i, .int j => C i j ∧ Q (g i j) S
  | _, _ => False
def oI0 (g : Int → Int → D) : DO2 := fun x y S Q => match x, y with
  | .int i, .int j => Q (g i j) S
  | _, _ => False
theorem od_I {K : PySem.W.Frag} {C : Int → Int → Prop} {g : Int → Int → Int} : OpD K (rI C fun i j => .int (g i j)) (oI C fun i j => .int (g i j)) := fun H S v u x y Q Qd rs rx ry h k => by
  unfold oI at h
  split at h
  · rw [of_int rx, of_int ry]; exact ⟨_, _, rfl, rfl, h.1, k.here rs rep_int h.2⟩
  · exact h.elim
theorem od_I0 {K : PySem.W.Frag} {g : Int → Int → Int} : OpD K (rI0 fun i j => .int (g i j)) (oI0 fun i j => .int (g i j)) := fun H S v u x y Q Qd rs rx ry h k => by
  unfold oI0 at h
  split at h
  · rw [of_int rx, of_int ry]; exact ⟨_, _, rfl, rfl, k.here rs rep_int h⟩
  · exact h.elim
theorem od_B0 {K : PySem.W.Frag} {g : Int → Int → Bool} : OpD K (rI0 fun i j => .bl (g i j)) (oI0 fun i j => .bl (g i j)) := fun H S v u x y Q Qd rs rx ry h k => by
  unfold oI0 at h
  split at h
  · rw [of_int rx, of_int ry]; exact ⟨_, _, rfl, rfl, k.here rs rep_bl h⟩
  · exact h.elim

def dB (t : DTm) (ρ : DEnv) (S : DS) (Q : Bool → DS → Prop) : Prop := t ρ S fun x S1 => match x with
  | .bl b => Q b S1
  | _ => False
theorem lift_B {K : PySem.W.Frag} {σ : L2.St} {H : Hp} {Q : Bool → Hp → Prop} (h : liftT K B (dB t) σ H Q) : lift K B t σ H fun x H1 => ∃ c, x = .bl c ∧ Q c H1 := by
  obtain ⟨ρ, S, Qd, st, q, k⟩ := h
  refine ⟨ρ, S, _, st, q, fun v H1 x S1 f1 r1 v1 q1 => ?_⟩
  split at q1
  · exact ⟨_, of_bl v1, k _ _ _ f1 r1 q1⟩
  · exact q1.elim
theorem dt_val (h : DE X B e t) (he : ∀ whole, isTrue e X.env whole = (do let v ← whole; standAt e.pos; holding [v] (truthy v)) := by intro _; rfl) : DT X B e (dB t) := PT.imp (pt_val h he) fun _ _ _ h => lift_B h
theorem dt_cmp {op : CmpOp} {r : R2} {o : DO2} (ho : OpR X (compareOp op) r) (hd : OpD X.K r o) (ha : DE X B a ta) (hb : DE X B b tb) (hm : behindInMarks op b = false) : DT X B (.Compare a [op] [b] pos) (dB (dOp o ta tb)) := PT.imp (pt_cmpR ho ha hb hm) fun σ H Q h => by
  have z := lift_op hd (lift_B h)
  exact z
def dAnd (t u : DTt) (ρ : DEnv) (S : DS) (Q : Bool → DS → Prop) : Prop := t ρ S fun b S1 => (b = true → u ρ S1 Q) ∧ (b = false → Q false S1)
def dOr (t u : DTt) (ρ : DEnv) (S : DS) (Q : Bool → DS → Prop) : Prop := t ρ S fun b S1 => (b = true → Q true S1) ∧ (b = false → u ρ S1 Q)
def dNot (t : DTt) (ρ : DEnv) (S : DS) (Q : Bool → DS → Prop) : Prop := t ρ S fun b S1 => Q (!b) S1
variable {tA tB : DTt} {rest : List Expr}
theorem dw_and1 (ha : DT X B a tA) : DW_ X B (.BoolOp .And [a] pos) tA := pw_and1 ha
theorem dw_or1 (ha : DT X B a tA) : DW_ X B (.BoolOp .Or [a] pos) tA := pw_or1 ha
theorem dw_and (ha : DT X B a tA) (hb : DW_ X B (.BoolOp .And (b :: rest) pos) tB) : DW_ X B (.BoolOp .And (a :: b :: rest) pos) (dAnd tA tB) := PW.imp (pw_and ha hb) fun σ H Q ⟨ρ, S, Qd, st, q, k⟩ => by
  refine ⟨ρ, S, _, st, q, fun b H1 S1 f1 r1 q1 => ?_⟩
  cases b with
  | true => rw [if_pos rfl]; exact ⟨ρ, S1, _, st.next f1 r1, q1.1 rfl, fun b H2 S2 f2 r2 q2 => k _ _ _ (f1.trans f2) r2 q2⟩
  | false => rw [if_neg Bool.false_ne_true]; exact k _ _ _ f1 r1 (q1.2 rfl)
theorem dw_or (ha : DT X B a tA) (hb : DW_ X B (.BoolOp .Or (b :: rest) pos) tB) : DW_ X B (.BoolOp .Or (a :: b :: rest) pos) (dOr tA tB) := PW.imp (pw_or ha hb) fun σ H Q ⟨ρ, S, Qd, st, q, k⟩ => by
  refine ⟨ρ, S, _, st, q, fun b H1 S1 f1 r1 q1 => ?_⟩
  cases b with
  | true => rw [if_pos rfl]; exact k _ _ _ f1 r1 (q1.1 rfl)
  | false => rw [if_neg Bool.false_ne_true]; exact ⟨ρ, S1, _, st.next f1 r1, q1.2 rfl, fun b H2 S2 f2 r2 q2 => k _ _ _ (f1.trans f2) r2 q2⟩
theorem dt_w (h : DW_ X B e tA) : DT X B e tA := h.pt
theorem dt_not (ha : DT X B a tA) : DT X B (.UnaryOp .Not a pos) (dNot tA) := PT.imp (pt_not ha) fun σ H Q ⟨ρ, S, Qd, st, q, k⟩ =>
  ⟨ρ, S, _, st, q, fun b H1 S1 f1 r1 q1 => k _ _ _ f1 r1 q1⟩
/-- and, or, not as values of bools -/
def dAndV (ta tb : DTm) (ρ : DEnv) (S : DS) (Q : DQ) : Prop := ta ρ S fun x S1 => match x with
  | .bl b => (b = true → tb ρ S1 Q) ∧ (b = false → Q (.bl false) S1)
  | _ => False
def dOrV (ta tb : DTm) (ρ : DEnv) (S : DS) (Q : DQ) : Prop := ta ρ S fun x S1 => match x with
  | .bl b => (b = true → Q (.bl true) S1) ∧ (b = false → tb ρ S1 Q)
  | _ => False
def dNotV (ta : DTm) (ρ : DEnv) (S : DS) (Q : DQ) : Prop := ta ρ S fun x S1 => match x with
  | .bl b => Q (.bl (!b)) S1
  | _ => False
theorem de_one {op} (h : DE X B a t) : DE X B (.BoolOp op [a] pos) t := pe_one h
theorem de_and (ha : DE X B a ta) (hb : DE X B (.BoolOp .And (b :: rest) pos) tb) : DE X B (.BoolOp .And (a :: b :: rest) pos) (dAndV ta tb) := PE.imp (pe_and ha hb) fun σ H Q ⟨ρ, S, Qd, st, q, k⟩ => by
  refine ⟨ρ, S, _, st, q, fun v H1 x S1 f1 r1 v1 q1 => ?_⟩
  split at q1
  · rename_i c
    refine ⟨c, of_bl v1, ?_⟩
    cases c with
    | true => rw [if_pos rfl]; exact ⟨ρ, S1, _, st.next f1 r1, q1.1 rfl, k.next f1⟩
    | false => rw [if_neg Bool.false_ne_true]; exact (k.next f1).here r1 rep_bl (q1.2 rfl)
  · exact q1.elim
theorem de_or (ha : DE X B a ta) (hb : DE X B (.BoolOp .Or (b :: rest) pos) tb) : DE X B (.BoolOp .Or (a :: b :: rest) pos) (dOrV ta tb) := PE.imp (pe_or ha hb) fun σ H Q ⟨ρ, S, Qd, st, q, k⟩ => by
  refine ⟨ρ, S, _, st, q, fun v H1 x S1 f1 r1 v1 q1 => ?_⟩
  split at q1
  · rename_i c
    refine ⟨c, of_bl v1, ?_⟩
    cases c with
    | true => rw [if_pos rfl]; exact (k.next f1).here r1 rep_bl (q1.1 rfl)
    | false => rw [if_neg Bool.false_ne_true]; exact ⟨ρ, S1, _, st.next f1 r1, q1.2 rfl, k.next f1⟩
  · exact q1.elim
theorem de_not (ha : DE X B a ta) : DE X B (.UnaryOp .Not a pos) (dNotV ta) := PE.imp (pe_not ha) fun σ H Q ⟨ρ, S, Qd, st, q, k⟩ => by
  refine ⟨ρ, S, _, st, q, fun v H1 x S1 f1 r1 v1 q1 => ?_⟩
  split at q1
  · exact ⟨_, of_bl v1, (k.next f1).here r1 rep_bl q1⟩
  · exact q1.elim
def dIfE (t : DTt) (ta tb : DTm) (ρ : DEnv) (S : DS) (Q : DQ) : Prop := t ρ S fun b S1 => (b = true → ta ρ S1 Q) ∧ (b = false → tb ρ S1 Q)
theorem de_ifExp (hc : DT X B c tA) (ha : DE X B a ta) (hb : DE X B b tb) : DE X B (.IfExp c a b pos) (dIfE tA ta tb) := PE.imp (pe_ifExp hc ha hb) fun σ H Q ⟨ρ, S, Qd, st, q, k⟩ => by
  refine ⟨ρ, S, _, st, q, fun d H1 S1 f1 r1 q1 => ?_⟩
  cases d with
  | true => rw [if_pos rfl]; exact ⟨ρ, S1, _, st.next f1 r1, q1.1 rfl, k.next f1⟩
  | false => rw [if_neg Bool.false_ne_true]; exact ⟨ρ, S1, _, st.next f1 r1, q1.2 rfl, k.next f1⟩
/-- a < b < c -/
def dChain (o o' : DO2) (ta tb tc : DTm) (ρ : DEnv) (S : DS) (Q : DQ) : Prop := ta ρ S fun x S1 => tb ρ S1 fun y S2 => o x y S2 fun z S3 => match z with
  | .bl b => (b = true → tc ρ S3 fun w S4 => o' y w S4 Q) ∧ (b = false → Q (.bl false) S3)
  | _ => False
theorem lift_chain {K : PySem.W.Frag} {r r' : R2} {o o' : DO2} (hd : OpD K r o) (hd' : OpD K r' o') {σ : L2.St} {H : Hp} {Q : VK} (h : lift K B (dChain o o' ta tb tc) σ H Q) : tChain r r' (lift K B ta) (lift K B tb) (lift K B tc) σ H Q := by
  obtain ⟨ρ, S, Qd, st, q, k⟩ := h
  refine ⟨ρ, S, _, st, q, fun v H1 x S1 f1 r1 v1 q1 => ?_⟩
  have st1 := st.next f1 r1
  refine ⟨ρ, S1, _, st1, q1, fun u H2 y S2 f2 r2 v2 q2 => ?_⟩
  have st2 := st1.next f2 r2
  refine hd H2 S2 v u x y _ _ r2 (RepV.frm f2 _ _ v1) v2 q2 (fun z H3 zd S3 f3 r3 v3 q3 => ?_)
  split at q3
  · rename_i cc
    refine ⟨cc, of_bl v3, ?_⟩
    cases cc with
    | true =>
      rw [if_pos rfl]
      refine ⟨ρ, S3, _, st2.next f3 r3, q3.1 rfl, fun ww H4 wd S4 f4 r4 v4 q4 => ?_⟩
      exact hd' H4 S4 u ww y wd Q Qd r4 (RepV.frm (f3.trans f4) _ _ v2) v4 q4 (k.next (((f1.trans f2).trans f3).trans f4))
    | false => rw [if_neg Bool.false_ne_true]; exact (k.next ((f1.trans f2).trans f3)).here r3 rep_bl (q3.2 rfl)
  · exact q3.elim
theorem de_chain {op op' : CmpOp} {r r' : R2} {o o' : DO2} (ho : OpR X (compareOp op) r) (hd : OpD X.K r o) (ho' : OpR X (compareOp op') r') (hd' : OpD X.K r' o') (ha : DE X B a ta) (hb : DE X B b tb) (hc : DE X B c tc)
    (hm : lastMarks [op, op'] [b, c] = false := by with_unfolding_all rfl) : DE X B (.Compare a [op, op'] [b, c] pos) (dChain o o' ta tb tc) := PE.imp (pe_chain ho ho' ha hb hc hm) fun _ _ _ h => lift_chain hd hd' h
theorem dt_chain {op op' : CmpOp} {r r' : R2} {o o' : DO2} (ho : OpR X (compareOp op) r) (hd : OpD X.K r o) (ho' : OpR X (compareOp op') r') (hd' : OpD X.K r' o') (ha : DE X B a ta) (hb : DE X B b tb) (hc : DE X B c tc)
    (hm : lastMarks [op, op'] [b, c] = false := by with_unfolding_all rfl) : DT X B (.Compare a [op, op'] [b, c] pos) (dB (dChain o o' ta tb tc)) := PT.imp (pt_chain ho ho' ha hb hc hm) fun σ H Q h => lift_chain hd hd' (lift_B h)

theorem da_nil : DA X B [] [] := PA.imp pa_nil fun σ H Q ⟨ρ, S, Qd, st, q, k⟩ => k [] H [] S (Frm.refl _ _) st.st RepVs.nil rfl q
theorem da_cons (ha : DE X B e t) (hr : DA X B es ts) (hs : starEach (e :: es) X.env = (false, eval e X.env) :: starEach es X.env := by rfl) : DA X B (e :: es) (t :: ts) := PA.imp (pa_cons ha hr hs) fun σ H Q ⟨ρ, S, Qd, st, q, k⟩ => by
  refine ⟨ρ, S, _, st, q, fun v H1 x S1 f1 r1 v1 q1 => ?_⟩
  refine ⟨ρ, S1, _, st.next f1 r1, q1, fun vs H2 ds S2 f2 r2 v2 l2 q2 => ?_⟩
  exact k _ H2 (x :: ds) S2 (f1.trans f2) r2 (RepVs.cons (RepV.frm f2 _ _ v1) v2) (by rw [List.length_cons, List.length_cons, l2]) q2
def dTup (ts : List DTm) (ρ : DEnv) (S : DS) (Q : DQ) : Prop := dArgs ts ρ S fun ds S1 => Q (.tup ds) S1
/-- a list that nobody changes; one that is changed -/
def dLst (ts : List DTm) (ρ : DEnv) (S : DS) (Q : DQ) : Prop := dArgs ts ρ S fun ds S1 => Q (.lst ds) S1
def dLstM (ts : List DTm) (ρ : DEnv) (S : DS) (Q : DQ) : Prop := dArgs ts ρ S fun ds S1 => ∀ p, S1 p = none → Q (.ref p) (sup S1 p (.lst ds))
theorem small_ts {n : Nat} (h : n ≤ 1000) : n ≤ sizeLine := Nat.le_of_lt (small1000 h)
theorem de_tup {x1} (h : DA X B es ts) (hz : ts.length ≤ 1000 := by first | decide | simp) : DE X B (.Tuple es x1 pos) (dTup ts) := PE.imp (pe_tup h) fun σ H Q ⟨ρ, S, Qd, st, q, k⟩ => by
  refine ⟨ρ, S, _, st, q, fun vs H1 ds S1 f1 r1 v1 l1 q1 => ?_⟩
  have z : ds.length ≤ sizeLine := by rw [l1]; exact small_ts hz
  exact ⟨by rw [v1.length]; exact z, fun p hp => (k.next f1).tup r1 hp v1 z q1⟩
theorem de_lst (h : DA X B es ts) (hz : ts.length ≤ 1000 := by first | decide | simp) : DE X B (.List es pos) (dLst ts) := PE.imp (pe_lst h) fun σ H Q ⟨ρ, S, Qd, st, q, k⟩ => by
  refine ⟨ρ, S, _, st, q, fun vs H1 ds S1 f1 r1 v1 l1 q1 => ?_⟩
  have z : ds.length ≤ sizeLine := by rw [l1]; exact small_ts hz
  exact ⟨by rw [v1.length]; exact z, fun p hp => (k.next f1).lst r1 hp v1 z q1⟩
theorem de_lstM (h : DA X B es ts) (hz : ts.length ≤ 1000 := by first | decide | simp) : DE X B (.List es pos) (dLstM ts) := PE.imp (pe_lst h) fun σ H Q ⟨ρ, S, Qd, st, q, k⟩ => by
  refine ⟨ρ, S, _, st, q, fun vs H1 ds S1 f1 r1 v1 l1 q1 => ?_⟩
  have z : ds.length ≤ sizeLine := by rw [l1]; exact small_ts hz
  exact ⟨by rw [v1.length]; exact z, fun p hp => (k.next f1).lstM r1 hp v1 z q1⟩
abbrev DCl := List D → DS → DQ → Prop
def ClD (K : PySem.W.Frag) (r : List V → Hp → VK → Prop) (o : DCl) : Prop := ∀ H S vs ds Q Qd, RepS K H S → RepVs K H S vs ds → o ds S Qd → Thn K H S Qd Q → r vs H Q
def dCB (o : DCl) (ts : List DTm) (ρ : DEnv) (S : DS) (Q : DQ) : Prop := dArgs ts ρ S fun ds S1 => o ds S1 Q
theorem lift_CB {K : PySem.W.Frag} {r : List V → Hp → VK → Prop} {o : DCl} (hd : ClD K r o) {σ : L2.St} {H : Hp} {Q : VK} (h : lift K B (dCB o ts) σ H Q) : tCB r (liftA K B ts) σ H Q := by
  obtain ⟨ρ, S, Qd, st, q, k⟩ := h
  exact ⟨ρ, S, _, st, q, fun vs H1 ds S1 f1 r1 v1 l1 q1 => hd H1 S1 vs ds Q Qd r1 v1 q1 (k.next f1)⟩
theorem de_callB {x : Str} {id : String} {r : List V → Hp → VK → Prop} {o : DCl} {p : Pos} (hc : CallR X (.builtin id) r) (hd : ClD X.K r o) (hg : Gl X x) (hm : X.mg x = none) (hv : bootBuiltins x = some (.builtin id)) (ha : DA X B (e :: es) ts) (hn : x ≠ "__name__" := by decide) (hdb : (x == ("__debug__" : Str)) = false := by decide)
    (he : starEach (e :: es) X.env = (false, eval e X.env) :: starEach es X.env := by rfl) (hpl : (backTo pos (starEach es X.env)).any (·.1) = false := by rfl) : DE X B (.Call (.Name x p) (e :: es) [] pos) (dCB o ts) := PE.imp (pe_callB hc hg hm hv ha hn hdb he hpl) fun _ _ _ h => lift_CB hd h
theorem de_callTy {x : Str} {T : String} {r : List V → Hp → VK → Prop} {o : DCl} {p : Pos} (hc : CallR X (.type T) r) (hd : ClD X.K r o) (hg : Gl X x) (hm : X.mg x = none) (hv : bootBuiltins x = some (.type T)) (ha : DA X B (e :: es) ts) (hn : x ≠ "__name__" := by decide) (hdb : (x == ("__debug__" : Str)) = false := by decide)
    (he : starEach (e :: es) X.env = (false, eval e X.env) :: starEach es X.env := by rfl) (hpl : (backTo pos (starEach es X.env)).any (·.1) = false := by rfl) : DE X B (.Call (.Name x p) (e :: es) [] pos) (dCB o ts) := PE.imp (pe_callTy hc hg hm hv ha hn hdb he hpl) fun _ _ _ h => lift_CB hd h
end
end DL

namespace DL
open PySem PySem.Spec PyProof.Rows L2

structure DEnds where
  nx : DEnv → DS → Prop
  rt : DQ
  bk : DEnv → DS → Prop := fun _ _ => False
  ct : DEnv → DS → Prop := fun _ _ => False
abbrev DTs := DEnds → DEnv → DS → Prop
def ThnS (K : PySem.W.Frag) (H : Hp) (S : DS) (Qd : DEnv → DS → Prop) (Q : L2.St → Hp → Prop) : Prop := ∀ σ H' ρ S', Frm H S H' S' → RepS K H' S' → RepE K H' S' σ ρ → Qd ρ S' → Q σ H'
structure EOk (K : PySem.W.Frag) (H : Hp) (S : DS) (Dd : DEnds) (E : Ends) : Prop where
  nx : ThnS K H S Dd.nx E.nx
  rt : Thn K H S Dd.rt E.rt
  bk : ThnS K H S Dd.bk E.bk
  ct : ThnS K H S Dd.ct E.ct
def liftS (K : PySem.W.Frag) (B : DB) (t : DTs) : TS := fun E σ H => ∃ ρ S Dd, Std K B H S σ ρ ∧ t Dd ρ S ∧ EOk K H S Dd E
abbrev DSt (X : Cx) (B : DB) (st : Stmt) (t : DTs) : Prop := PS X st (liftS X.K B t)
abbrev DSs (X : Cx) (B : DB) (sts : List Stmt) (t : DTs) : Prop := PSs X sts (liftS X.K B t)
section
variable {K : PySem.W.Frag} {B : DB} {H H' : Hp} {S S' : DS} {σ σ' : L2.St} {ρ ρ' : DEnv}
theorem ThnS.next {Qd : DEnv → DS → Prop} {Q : L2.St → Hp → Prop} (k : ThnS K H S Qd Q) (f : Frm H S H' S') : ThnS K H' S' Qd Q := fun v H2 d S2 f2 rs r q => k v H2 d S2 (f.trans f2) rs r q
theorem ThnS.here {Qd : DEnv → DS → Prop} {Q : L2.St → Hp → Prop} (k : ThnS K H S Qd Q) (rs : RepS K H S) (r : RepE K H S σ ρ) (q : Qd ρ S) : Q σ H := k σ H ρ S (Frm.refl H S) rs r q
theorem EOk.next {Dd : DEnds} {E : Ends} (k : EOk K H S Dd E) (f : Frm H S H' S') : EOk K H' S' Dd E := ⟨k.nx.next f, k.rt.next f, k.bk.next f, k.ct.next f⟩
theorem Std.env' (s : Std K B H S σ ρ) (r : RepE K H S σ' ρ') : Std K B H S σ' ρ' := ⟨s.frm, s.st, r⟩
end

section
variable {X : Cx} {B : DB} {a b c e : Expr} {es : List Expr} {ta tb tc t : DTm} {ts : List DTm} {pos : Pos} {st : Stmt} {rest body : List Stmt} {u v w : DTs}
def dNext : DTs := fun D ρ S => D.nx ρ S
def dSeq (t u : DTs) : DTs := fun D ρ S => t { D with nx := u D } ρ S
theorem lift_seq {K : PySem.W.Frag} {t u : DTs} {E : Ends} {σ : L2.St} {H : Hp} (h : liftS K B (dSeq t u) E σ H) : tSeq (liftS K B t) (liftS K B u) E σ H := by
  obtain ⟨ρ, S, Dd, st, q, k⟩ := h
  refine ⟨ρ, S, _, st, q, ⟨fun σ' H' ρ' S' f rs re q' => ?_, k.rt, k.bk, k.ct⟩⟩
  exact ⟨ρ', S', Dd, ⟨st.frm.trans f, rs, re⟩, q', k.next f⟩
theorem dss_nil : DSs X B [] dNext := PSs.imp pss_nil fun E σ H ⟨ρ, S, Dd, st, q, k⟩ => k.nx.here st.st st.env q
theorem dss_cons (h1 : DSt X B st u) (h2 : DSs X B rest v) : DSs X B (st :: rest) (dSeq u v) := PSs.imp (pss_cons h1 h2) fun E σ H h => lift_seq h
theorem dss_one (h1 : DSt X B st u) : DSs X B [st] u := pss_one h1
def dBreak : DTs := fun D ρ S => D.bk ρ S
def dCont : DTs := fun D ρ S => D.ct ρ S
theorem ds_pass : DSt X B (.Pass pos) dNext := PS.imp ps_pass fun E σ H ⟨ρ, S, Dd, st, q, k⟩ => k.nx.here st.st st.env q
theorem ds_break : DSt X B (.Break pos) dBreak := PS.imp ps_break fun E σ H ⟨ρ, S, Dd, st, q, k⟩ => k.bk.here st.st st.env q
theorem ds_continue : DSt X B (.Continue pos) dCont := PS.imp ps_continue fun E σ H ⟨ρ, S, Dd, st, q, k⟩ => k.ct.here st.st st.env q
def dExpr (t : DTm) : DTs := fun D ρ S => t ρ S fun _ S1 => D.nx ρ S1
theorem ds_expr (he : DE X B e t) (hs : swapsWith e none pos.line X.env = pure false := by rfl) : DSt X B (.Expr e pos) (dExpr t) := PS.imp (ps_expr he hs) fun E σ H ⟨ρ, S, Dd, st, q, k⟩ =>
  ⟨ρ, S, _, st, q, fun v H1 d S1 f1 r1 v1 q1 => k.nx σ H1 ρ S1 f1 r1 (st.env.frm f1) q1⟩
def dRet (t : DTm) : DTs := fun D ρ S => t ρ S D.rt
theorem ds_ret (he : DE X B e t) : DSt X B (.Return (some e) pos) (dRet t) := PS.imp (ps_ret he) fun E σ H ⟨ρ, S, Dd, st, q, k⟩ => ⟨ρ, S, _, st, q, k.rt⟩
def dRetN : DTs := fun D _ S => D.rt .non S
theorem ds_retN : DSt X B (.Return none pos) dRetN := PS.imp ps_retN fun E σ H ⟨ρ, S, Dd, st, q, k⟩ => k.rt.here st.st rep_non q
def dIf (t : DTt) (u v : DTs) : DTs := fun D ρ S => t ρ S fun b S1 => (b = true → u D ρ S1) ∧ (b = false → v D ρ S1)
theorem ds_if {tt : DTt} {sa sb : List Stmt} (hc : DT X B c tt) (ha : DSs X B sa u) (hb : DSs X B sb v) : DSt X B (.If c sa sb pos) (dIf tt u v) := PS.imp (ps_if hc ha hb) fun E σ H ⟨ρ, S, Dd, st, q, k⟩ => by
  refine ⟨ρ, S, _, st, q, fun d H1 S1 f1 r1 q1 => ?_⟩
  cases d with
  | true => rw [if_pos rfl]; exact ⟨ρ, S1, Dd, st.next f1 r1, q1.1 rfl, k.next f1⟩
  | false => rw [if_neg Bool.false_ne_true]; exact ⟨ρ, S1, Dd, st.next f1 r1, q1.2 rfl, k.next f1⟩
/-- the store, the names are left to what is needed of them -/
def dWk (u : DTs) : DTs := fun D ρ S => ∃ ρ2 S2, Sub S2 S ∧ (∀ K H σ, RepS K H S → RepE K H S σ ρ → RepE K H S2 σ ρ2) ∧ u D ρ2 S2
theorem lift_wk {K : PySem.W.Frag} {u : DTs} {E : Ends} {σ : L2.St} {H : Hp} (h : liftS K B (dWk u) E σ H) : liftS K B u E σ H := by
  obtain ⟨ρ, S, Dd, st, ⟨ρ2, S2, sb, rr, q⟩, k⟩ := h
  exact ⟨ρ2, S2, Dd, ⟨st.frm.sub sb, st.st.sub sb, rr _ _ _ st.st st.env⟩, q, k.next (Frm.less sb)⟩
theorem dss_wk (h : DSs X B rest u) : DSs X B rest (dWk u) := PSs.imp h fun _ _ _ => lift_wk
def dNever : DTs := fun _ _ _ => False
theorem ds_never : DSt X B st dNever := PS.imp ps_never fun E σ H ⟨ρ, S, Dd, _, q, _⟩ => q
theorem dss_never : DSs X B rest dNever := PSs.imp pss_never fun E σ H ⟨ρ, S, Dd, _, q, _⟩ => q

abbrev DGt := D → DEnv → DS → (DEnv → DS → Prop) → Prop
def liftG (K : PySem.W.Frag) (B : DB) (g : DGt) : TG := fun v σ H Q => ∃ ρ S d Qd, Std K B H S σ ρ ∧ RepV K H S v d ∧ g d ρ S Qd ∧ ThnS K H S Qd Q
abbrev DG (X : Cx) (B : DB) (e : Expr) (g : DGt) : Prop := PG X e (liftG X.K B g)
theorem PG.imp {X : Cx} {e : Expr} {t t' : TG} (h : PG X e t) (i : ∀ v σ H Q, t' v σ H Q → t v σ H Q) : PG X e t' := ⟨fun pins s σ H v u Q I r q => h.run pins s σ H v u Q I r (i v σ H Q q)⟩
def dgName (i : Nat) : DGt := fun d ρ S Q => Q (ρ.set i (some d)) S
theorem dg_name {i : Nat} {x : Str} (hN : X.N.Nodup) (hi : X.N[i]? = some x := by rfl) (hx : Loc X.env.scope x := by first | exact .inl rfl | exact .inr rfl) (hf : X.fn x = true ∨ X.env.scope.names.lookup x = some .local := by first | exact .inl rfl | exact .inr rfl) : DG X B (.Name x pos) (dgName i) :=
  PG.imp (pg_name hN hi hx hf) fun v σ H Q ⟨ρ, S, d, Qd, st, r, q, k⟩ => k _ H _ S (Frm.refl _ _) st.st (st.env.set r) q
def dGs : List DGt → List D → DEnv → DS → (DEnv → DS → Prop) → Prop
  | [], [], ρ, S, Q => Q ρ S
  | g :: gs, d :: ds, ρ, S, Q => g d ρ S fun ρ1 S1 => dGs gs ds ρ1 S1 Q
  | _, _, _, _, _ => False
def liftGs (K : PySem.W.Frag) (B : DB) (gs : List DGt) : TGs := fun vs σ H Q => ∃ ρ S ds Qd, Std K B H S σ ρ ∧ RepVs K H S vs ds ∧ dGs gs ds ρ S Qd ∧ ThnS K H S Qd Q
abbrev DGs (X : Cx) (B : DB) (es : List Expr) (gs : List DGt) : Prop := PGs X es (liftGs X.K B gs)
theorem PGs.imp {X : Cx} {e : List Expr} {t t' : TGs} (h : PGs X e t) (i : ∀ v σ H Q, t' v σ H Q → t v σ H Q) : PGs X e t' := ⟨fun pins s σ H v u Q I r q => h.run pins s σ H v u Q I r (i v σ H Q q)⟩
theorem dgs_nil : DGs X B [] [] := PGs.imp pgs_nil fun v σ H Q ⟨ρ, S, ds, Qd, st, r, q, k⟩ => by
  cases ds with
  | nil => exact ⟨RepVs.nil_iff.mp r, k.here st.st st.env q⟩
  | cons d ds => exact q.elim
theorem dgs_cons {g : DGt} {gs : List DGt} (h1 : DG X B e g) (h2 : DGs X B es gs)
    (hs : (assignEach (e :: es) X.env).map (·.2) = assign e X.env :: (assignEach es X.env).map (·.2) := by rfl) : DGs X B (e :: es) (g :: gs) := PGs.imp (pgs_cons h1 h2 hs) fun v σ H Q ⟨ρ, S, ds, Qd, st, r, q, k⟩ => by
  cases ds with
  | nil => exact q.elim
  | cons d ds =>
    simp only [RepVs] at r
    obtain ⟨x, xr, rfl, r1, r2⟩ := r
    refine ⟨x, xr, rfl, ρ, S, d, _, st, r1, q, fun σ' H' ρ' S' f rs re q' => ?_⟩
    exact ⟨ρ', S', ds, Qd, ⟨st.frm.trans f, rs, re⟩, RepVs.frm f _ _ r2, q', k.next f⟩
def dgTup (gs : List DGt) : DGt := fun d ρ S Q => match d with
  | .tup ds => dGs gs ds ρ S Q
  | _ => False
theorem dg_tup {k : Nat} {gs : List DGt} {n : Nat} (hc : X.calm = true) (h : DGs X B es gs) (hl : gs.length = n := by rfl)
    (hn : (assignEach es X.env).length = n := by rfl) (hst : (assignEach es X.env).findIdx? (·.1) = none := by rfl) : DG X B (.Tuple es k pos) (fun d ρ S Q => (match d with | .tup ds => ds.length = n | _ => False) ∧ dgTup gs d ρ S Q) :=
  PG.imp (pg_tup hc h hn hst) fun v σ H Q ⟨ρ, S, d, Qd, st, r, ⟨ql, q⟩, k⟩ => by
  unfold dgTup at q
  split at q
  · rename_i ds
    obtain ⟨a, xs, rfl, dt, rv, _⟩ := of_tup r
    exact ⟨a, xs, rfl, dt.sq, by rw [rv.length]; exact ql, ρ, S, ds, Qd, st, rv, q, k⟩
  · exact q.elim
def dAsg (t : DTm) (g : DGt) : DTs := fun D ρ S => t ρ S fun d S1 => g d ρ S1 D.nx
theorem lift_asg {K : PySem.W.Frag} {t : DTm} {g : DGt} {E : Ends} {σ : L2.St} {H : Hp} (h : liftS K B (dAsg t g) E σ H) : tAsg (lift K B t) (liftG K B g) E σ H := by
  obtain ⟨ρ, S, Dd, st, q, k⟩ := h
  exact ⟨ρ, S, _, st, q, fun v H1 d S1 f1 r1 v1 q1 => ⟨ρ, S1, d, Dd.nx, st.next f1 r1, v1, q1, k.nx.next f1⟩⟩
theorem ds_asg {tg : Expr} {g : DGt} (he : DE X B e t) (hg : DG X B tg g) (hs : swapsWithSole [tg] e pos.line X.env = pure false := by rfl) (hw : swappedStores [tg] e X.env = pure none := by rfl)
    (h1 : (assignEach [tg] X.env).map (·.2) = [assign tg X.env] := by rfl) : DSt X B (.Assign [tg] e pos) (dAsg t g) := PS.imp (ps_asg he hg hs hw h1) fun _ _ _ h => lift_asg h
def dSet (i : Nat) (t : DTm) : DTs := fun D ρ S => t ρ S fun d S1 => D.nx (ρ.set i (some d)) S1
theorem lift_set {K : PySem.W.Frag} {i : Nat} {t : DTm} {E : Ends} {σ : L2.St} {H : Hp} (h : liftS K B (dSet i t) E σ H) : tAsg (lift K B t) (gName i) E σ H := by
  obtain ⟨ρ, S, Dd, st, q, k⟩ := h
  exact ⟨ρ, S, _, st, q, fun v H1 d S1 f1 r1 v1 q1 => k.nx _ H1 _ S1 f1 r1 ((st.env.frm f1).set v1) q1⟩
theorem ds_set (i : Nat) {x : Str} {pos' : Pos} (hN : X.N.Nodup) (he : DE X B e t) (hi : X.N[i]? = some x := by rfl) (hx : Loc X.env.scope x := by first | exact .inl rfl | exact .inr rfl) (hs : swapsWith e (some (.Name x pos')) pos.line X.env = pure false := by rfl) (hf : X.fn x = true ∨ X.env.scope.names.lookup x = some .local := by first | exact .inl rfl | exact .inr rfl) :
    DSt X B (.Assign [.Name x pos'] e pos) (dSet i t) := PS.imp (ps_set hN hi hx he hs hf) fun _ _ _ h => lift_set h
/-- name op= e -/
def dAug (i : Nat) (t : DTm) (o : DO2) : DTs := fun D ρ S => dVar i ρ S fun x _ => t ρ S fun y S1 => o x y S1 fun z S2 => D.nx (ρ.set i (some z)) S2
theorem ds_aug (i : Nat) {x : Str} {op : Operator} {ti : TIp} {o : DO2} {pos' : Pos} (ho : PIp X op ti) (hd : OpD X.K ti o) (hN : X.N.Nodup) (he : DE X B e t) (hi : X.N[i]? = some x := by rfl) (hx : Loc X.env.scope x := by first | exact .inl rfl | exact .inr rfl) (hf : X.fn x = true ∨ X.env.scope.names.lookup x = some .local := by first | exact .inl rfl | exact .inr rfl) :
    DSt X B (.AugAssign (.Name x pos') op e pos) (dAug i t o) := PS.imp (ps_aug hN hi hx he ho hf) fun E σ H ⟨ρ, S, Dd, st, q, k⟩ => by
  unfold dAug dVar at q
  split at q
  · rename_i d hd'
    obtain ⟨v, e1, r⟩ := st.env.2 _ d hd'
    refine ⟨v, e1, ρ, S, _, st, q, fun y H1 yd S1 f1 r1 v1 q1 => ?_⟩
    refine hd H1 S1 v y d yd _ _ r1 (RepV.frm f1 _ _ r) v1 q1 (fun z H2 zd S2 f2 r2 v2 q2 => ?_)
    exact k.nx _ H2 _ S2 (f1.trans f2) r2 ((st.env.frm (f1.trans f2)).set v2) q2
  · exact q.elim
theorem od_ip {K : PySem.W.Frag} {g : Int → Int → Int} : OpD K (ipI g) (oI0 fun i j => .int (g i j)) := fun H S v u x y Q Qd rs rx ry h k => by
  unfold oI0 at h
  split at h
  · rw [of_int rx, of_int ry]; exact ⟨_, _, rfl, rfl, k.here rs rep_int h⟩
  · exact h.elim
end

/-- J yields xs, whatever is done -/
structure ItOk (K : PySem.W.Frag) (J : It) (H : Hp) (S : DS) (xs : List D) : Prop where
  go : ∀ i H' S', Frm H S H' S' → RepS K H' S' → i < xs.length → J.go i H'
  yld : ∀ i H' S' x H'', Frm H S H' S' → RepS K H' S' → i < xs.length → J.yld i H' x H'' → ∃ d, xs[i]? = some d ∧ Frm H' S' H'' S' ∧ RepS K H'' S' ∧ RepV K H'' S' x d ∧ ∀ b o, H' b = some o → H'' b = some o
  stop : ∀ H' S', Frm H S H' S' → RepS K H' S' → J.stop xs.length H'
abbrev DIt := DEnv → DS → (List D → DS → Prop) → Prop
/-- what is walked yields the data's items; they are no more than a list may have -/
def DI (X : Cx) (B : DB) (tg iter : Expr) (it : DIt) : Prop := ∃ wi : TI, PI X tg iter wi ∧ ∀ σ H ρ S Qd (R : It → Hp → Prop), Std X.K B H S σ ρ → it ρ S Qd →
  (∀ J H1 xs S1, Frm H S H1 S1 → RepS X.K H1 S1 → ItOk X.K J H1 S1 xs → xs.length ≤ sizeLine → Qd xs S1 → R J H1) → wi σ H R
def dItems (t : DTm) : DIt := fun ρ S Q => t ρ S fun d S1 => match d with
  | .tup ds => Q ds S1
  | .lst ds => Q ds S1
  | _ => False
section
variable {K : PySem.W.Frag} {H : Hp} {S : DS}
theorem itOk_tup {a : Addr} {xs : List V} {ds : List D} (h : DT_ K H S a xs) (r : RepVs K H S xs ds) : ItOk K (Itt K a) H S ds where
  go := fun i H' S' f rs hi => by
    have hl := r.length
    obtain ⟨v, e, _⟩ := r.get (i := i) (List.getElem?_eq_getElem hi)
    exact ⟨xs, v, (f.tup h).sq, e⟩
  yld := fun i H' S' x H'' f rs hi y => by
    obtain ⟨e1, e2⟩ := y
    subst e1
    obtain ⟨v, e, rv⟩ := r.get (i := i) (List.getElem?_eq_getElem hi)
    have ex := e2 xs (f.tup h).sq
    rw [e] at ex; cases ex
    exact ⟨_, List.getElem?_eq_getElem hi, Frm.refl _ _, rs, RepV.frm f _ _ rv, fun _ _ z => z⟩
  stop := fun H' S' f rs => ⟨xs, (f.tup h).sq, Nat.le_of_eq r.length⟩
theorem itOk_lst {a : Addr} {xs : List V} {ds : List D} (h : DLs K H S a xs) (r : RepVs K H S xs ds) : ItOk K (Itl K a) H S ds where
  go := fun i H' S' f rs hi => by
    have hl := r.length
    obtain ⟨v, e, _⟩ := r.get (i := i) (List.getElem?_eq_getElem hi)
    exact ⟨xs, v, (f.lst h).sq, e⟩
  yld := fun i H' S' x H'' f rs hi y => by
    obtain ⟨e1, e2⟩ := y
    subst e1
    obtain ⟨v, e, rv⟩ := r.get (i := i) (List.getElem?_eq_getElem hi)
    have ex := e2 xs (f.lst h).sq
    rw [e] at ex; cases ex
    exact ⟨_, List.getElem?_eq_getElem hi, Frm.refl _ _, rs, RepV.frm f _ _ rv, fun _ _ z => z⟩
  stop := fun H' S' f rs => ⟨xs, (f.lst h).sq, Nat.le_of_eq r.length⟩
theorem itOk_rng {lo : Int} {n : Nat} : ItOk K (Itr lo n) H S ((List.range n).map fun i => D.int (lo + (i : Nat))) where
  go := fun i H' S' f rs hi => by
    show i < n
    simpa using hi
  yld := fun i H' S' x H'' f rs hi y => by
    obtain ⟨e1, e2⟩ := y
    subst e1 e2
    have hi' : i < n := by simpa using hi
    refine ⟨.int (lo + (i : Nat)), ?_, Frm.refl _ _, rs, rep_int, fun _ _ z => z⟩
    rw [List.getElem?_map, List.getElem?_range hi']
    rfl
  stop := fun H' S' f rs => by show n ≤ _; simp
end
section
variable {X : Cx} {B : DB} {tg e : Expr} {es : List Expr} {t : DTm} {ts : List DTm} {p pos : Pos}
theorem di_tup (h : DE X B e t) : DI X B tg e (fun ρ S Q => t ρ S fun d S1 => match d with | .tup ds => Q ds S1 | _ => False) := ⟨_, pi_tup h, fun σ H ρ S Qd R st q k => by
  refine ⟨ρ, S, _, st, q, fun v H1 d S1 f1 r1 v1 q1 => ?_⟩
  split at q1
  · obtain ⟨a, xs, rfl, dt, rv, z⟩ := of_tup v1
    exact ⟨a, rfl, ⟨xs, dt.sq⟩, k _ _ _ _ f1 r1 (itOk_tup dt rv) z q1⟩
  · exact q1.elim⟩
theorem di_lst (h : DE X B e t) : DI X B tg e (fun ρ S Q => t ρ S fun d S1 => match d with | .lst ds => Q ds S1 | _ => False) := ⟨_, pi_list h, fun σ H ρ S Qd R st q k => by
  refine ⟨ρ, S, _, st, q, fun v H1 d S1 f1 r1 v1 q1 => ?_⟩
  split at q1
  · obtain ⟨a, xs, rfl, dt, rv, z⟩ := of_lst v1
    exact ⟨a, rfl, ⟨xs, dt.sq⟩, k _ _ _ _ f1 r1 (itOk_lst dt rv) z q1⟩
  · exact q1.elim⟩
def dRng1 (ts : List DTm) : DIt := fun ρ S Q => dArgs ts ρ S fun ds S1 => match ds with
  | [.int j] => j ≤ 16000000 ∧ -(2 ^ 62) ≤ j ∧ Q ((List.range j.toNat).map fun i => D.int (0 + (i : Nat))) S1
  | _ => False
def dRng2 (ts : List DTm) : DIt := fun ρ S Q => dArgs ts ρ S fun ds S1 => match ds with
  | [.int i, .int j] => (-(2 ^ 61) ≤ i ∧ i < 2 ^ 61 ∧ j - i ≤ 16000000 ∧ -(2 ^ 62) ≤ j) ∧ Q ((List.range (j - i).toNat).map fun k => D.int (i + (k : Nat))) S1
  | _ => False
theorem of_vs1 {K : PySem.W.Frag} {H : Hp} {S : DS} {vs : List V} {d : D} (h : RepVs K H S vs [d]) : ∃ v, vs = [v] ∧ RepV K H S v d := by
  simp only [RepVs] at h
  obtain ⟨x, r, rfl, h1, rfl⟩ := h
  exact ⟨x, rfl, h1⟩
theorem of_vs2 {K : PySem.W.Frag} {H : Hp} {S : DS} {vs : List V} {d d2 : D} (h : RepVs K H S vs [d, d2]) : ∃ v w, vs = [v, w] ∧ RepV K H S v d ∧ RepV K H S w d2 := by
  simp only [RepVs] at h
  obtain ⟨x, r, rfl, h1, y, r2, rfl, h2, rfl⟩ := h
  exact ⟨x, y, rfl, h1, h2⟩
theorem of_vs3 {K : PySem.W.Frag} {H : Hp} {S : DS} {vs : List V} {d d2 d3 : D} (h : RepVs K H S vs [d, d2, d3]) : ∃ v w u, vs = [v, w, u] ∧ RepV K H S v d ∧ RepV K H S w d2 ∧ RepV K H S u d3 := by
  simp only [RepVs] at h
  obtain ⟨x, r, rfl, h1, y, r2, rfl, h2, z, r3, rfl, h3, rfl⟩ := h
  exact ⟨x, y, z, rfl, h1, h2, h3⟩
theorem di_range1 (hg : Gl X "range") (hm : X.mg "range" = none) (ha : DA X B [e] ts) (hs : starEach [e] X.env = [(false, eval e X.env)] := by rfl) : DI X B tg (.Call (.Name "range" p) [e] [] pos) (dRng1 ts) := ⟨_, pi_range1 hg hm ha hs, fun σ H ρ S Qd R st q k => by
  refine ⟨ρ, S, _, st, q, fun vs H1 ds S1 f1 r1 v1 l1 q1 => ?_⟩
  split at q1
  · rename_i j
    obtain ⟨v, rfl, rv⟩ := of_vs1 v1
    rw [of_int rv]
    obtain ⟨z1, z2, q1⟩ := q1
    have z3 : sizeLine = 16777216 := sizeLine_eq
    exact ⟨j, rfl, z2, by omega, k _ _ _ _ f1 r1 itOk_rng (by rw [List.length_map, List.length_range, z3]; omega) q1⟩
  · exact q1.elim⟩
theorem di_range2 {a b : Expr} (hg : Gl X "range") (hm : X.mg "range" = none) (ha : DA X B [a, b] ts) (hs : starEach [a, b] X.env = [(false, eval a X.env), (false, eval b X.env)] := by rfl) (hs2 : starEach [b] X.env = [(false, eval b X.env)] := by rfl) : DI X B tg (.Call (.Name "range" p) [a, b] [] pos) (dRng2 ts) := ⟨_, pi_range2 hg hm ha hs hs2, fun σ H ρ S Qd R st q k => by
  refine ⟨ρ, S, _, st, q, fun vs H1 ds S1 f1 r1 v1 l1 q1 => ?_⟩
  split at q1
  · rename_i i j
    obtain ⟨v, w, rfl, rv, rw'⟩ := of_vs2 v1
    rw [of_int rv, of_int rw']
    obtain ⟨⟨z1, z2, z4, z5⟩, q1⟩ := q1
    have z3 : sizeLine = 16777216 := sizeLine_eq
    exact ⟨i, j, rfl, by omega, k _ _ _ _ f1 r1 itOk_rng (by rw [List.length_map, List.length_range, z3]; omega) q1⟩
  · exact q1.elim⟩
end

def dLoop (g : DGt) (tb : DTs) : List D → DTs
  | [], D, ρ, S => D.nx ρ S
  | x :: xs, D, ρ, S => g x ρ S fun ρ1 S1 => tb { nx := dLoop g tb xs D, ct := dLoop g tb xs D, bk := D.nx, rt := D.rt } ρ1 S1
def dFor (it : DIt) (g : DGt) (tb : DTs) : DTs := fun D ρ S => it ρ S fun xs S1 => dLoop g tb xs D ρ S1
section
variable {X : Cx} {B : DB} {tg iter : Expr} {it : DIt} {g : DGt} {tb : DTs} {body : List Stmt} {pos : Pos}
theorem ds_for (hp : PassesOwn (model X.prog X.w) X.A X.env X.xe) (hc : X.calm = true) (hi : DI X B tg iter it) (hg : DG X B tg g) (hb : DSs X B body tb)
    (hs : ∀ x, foldedSetIterable iter X.env x = pure x := by intro _; rfl) : DSt X B (.For tg iter body [] pos) (dFor it g tb) := by
  obtain ⟨wi, hi, hw⟩ := hi
  refine PS.imp (ps_for hp hc hi hg hb hs) fun E σ H ⟨ρ, S, Dd, st, q, k⟩ => ?_
  refine hw σ H ρ S _ _ st q (fun J H1 xs S1 f1 r1 io z q1 => ?_)
  have st1 := st.next f1 r1
  refine ⟨fun i m σ' H' => m = xs.length - i ∧ i ≤ xs.length ∧ ∃ ρ' S', Frm H1 S1 H' S' ∧ Std X.K B H' S' σ' ρ' ∧ dLoop g tb (xs.drop i) Dd ρ' S', ⟨xs.length, by simp, Nat.zero_le _, ρ, S1, Frm.refl _ _, st1, by simpa using q1⟩, ?_⟩
  rintro i m σ' H' ⟨rfl, hi, ρ', S', f', st', q'⟩
  have k' := k.next (f1.trans f')
  by_cases hlt : i < xs.length
  · refine .inr ⟨io.go i H' S' f' st'.st hlt, fun σ2 H2 => ∃ ρ2 S2, Frm H1 S1 H2 S2 ∧ Std X.K B H2 S2 σ2 ρ2 ∧ dLoop g tb (xs.drop (i + 1)) Dd ρ2 S2, fun σ2 H2 ⟨ρ2, S2, a, b, c⟩ => ⟨xs.length - (i + 1), by omega, rfl, hlt, ρ2, S2, a, b, c⟩, fun x H'' y => ?_⟩
    obtain ⟨d, ed, fy, ry, rv, _⟩ := io.yld i H' S' x H'' f' st'.st hlt y
    have sy := st'.next fy ry
    rw [List.drop_eq_getElem_cons hlt] at q'
    have ed' : xs[i] = d := by rw [List.getElem?_eq_getElem hlt] at ed; exact Option.some.inj ed
    rw [ed'] at q'
    refine ⟨ρ', S', d, _, sy, rv, q', fun σ3 H3 ρ3 S3 f3 r3 e3 q3 => ?_⟩
    have s3 : Std X.K B H3 S3 σ3 ρ3 := ⟨sy.frm.trans f3, r3, e3⟩
    have ff : Frm H1 S1 H3 S3 := (f'.trans fy).trans f3
    have k3 := k'.next (fy.trans f3)
    refine ⟨ρ3, S3, _, s3, q3, ⟨fun σ4 H4 ρ4 S4 f4 r4 e4 q4 => ⟨ρ4, S4, ff.trans f4, ⟨s3.frm.trans f4, r4, e4⟩, q4⟩, k3.rt, k3.nx, fun σ4 H4 ρ4 S4 f4 r4 e4 q4 => ⟨ρ4, S4, ff.trans f4, ⟨s3.frm.trans f4, r4, e4⟩, q4⟩⟩⟩
  · have e : i = xs.length := by omega
    subst e
    rw [List.drop_length] at q'
    exact .inl ⟨io.stop H' S' f' st'.st, k'.nx.here st'.st st'.env q'⟩
end

def dWh (c : DTt) (tb : DTs) : Nat → DTs
  | 0, _, _, _ => False
  | n + 1, D, ρ, S => c ρ S fun b S1 => (b = true → tb { nx := dWh c tb n D, ct := dWh c tb n D, bk := D.nx, rt := D.rt } ρ S1) ∧ (b = false → D.nx ρ S1)
def dWhile (c : DTt) (tb : DTs) : DTs := fun D ρ S => ∃ n, dWh c tb n D ρ S
section
variable {X : Cx} {B : DB} {c : Expr} {tc : DTt} {tb : DTs} {body : List Stmt} {pos : Pos}
theorem ds_while (hp : PassesOwn (model X.prog X.w) X.A X.env X.xe) (hc : DT X B c tc) (hb : DSs X B body tb) : DSt X B (.While c body [] pos) (dWhile tc tb) := by
  refine PS.imp (ps_while hp hc hb) fun E σ H ⟨ρ, S, Dd, st, ⟨n, q⟩, k⟩ => ?_
  refine ⟨fun m σ' H' => ∃ ρ' S', Frm H S H' S' ∧ Std X.K B H' S' σ' ρ' ∧ dWh tc tb m Dd ρ' S', ⟨n, ρ, S, Frm.refl _ _, st, q⟩, ?_⟩
  rintro m σ' H' ⟨ρ', S', f', st', q'⟩
  cases m with
  | zero => exact q'.elim
  | succ m =>
    refine ⟨ρ', S', _, st', q', fun b H2 S2 f2 r2 q2 => ?_⟩
    have st2 := st'.next f2 r2
    have ff := f'.trans f2
    have k2 := k.next ff
    cases b with
    | true =>
      refine iteT ?_
      refine ⟨fun σ3 H3 => ∃ ρ3 S3, Frm H S H3 S3 ∧ Std X.K B H3 S3 σ3 ρ3 ∧ dWh tc tb m Dd ρ3 S3, fun σ3 H3 h3 => ⟨m, Nat.lt_succ_self m, h3⟩, ?_⟩
      exact ⟨ρ', S2, _, st2, q2.1 rfl, ⟨fun σ4 H4 ρ4 S4 f4 r4 e4 q4 => ⟨ρ4, S4, ff.trans f4, ⟨st2.frm.trans f4, r4, e4⟩, q4⟩, k2.rt, k2.nx, fun σ4 H4 ρ4 S4 f4 r4 e4 q4 => ⟨ρ4, S4, ff.trans f4, ⟨st2.frm.trans f4, r4, e4⟩, q4⟩⟩⟩
    | false =>
      refine iteF ?_
      exact k2.nx.here r2 st2.env (q2.2 rfl)
end
end DL

namespace DL
open PySem PySem.Spec PyProof.Rows L2

abbrev DFl := Option (List (Str × D))
abbrev DXk := Value → DFl → DS → Prop
abbrev DWx := Value → DFl → DEnv → DS → Prop
def RepX (K : PySem.W.Frag) (H : Hp) (S : DS) (d : Option Addr) : DFl → Prop
  | none => d = none
  | some fs => ∃ dd hs, d = some dd ∧ H dd = some (.xd hs) ∧ S dd = none ∧ hs.map (·.1) = fs.map (·.1) ∧ RepVs K H S (hs.map (·.2)) (fs.map (·.2))
theorem RepX.frm {K : PySem.W.Frag} {H H' : Hp} {S S' : DS} {d : Option Addr} (f : Frm H S H' S') : ∀ {fl : DFl}, RepX K H S d fl → RepX K H' S' d fl
  | none, h => h
  | some fs, h => by
    obtain ⟨dd, hs, e, e1, e2, e3, r⟩ := h
    exact ⟨dd, hs, e, (f _ _ e1 e2).1, (f _ _ e1 e2).2, e3, RepVs.frm f _ _ r⟩
/-- a wish of data about exceptions, as a wish of values -/
def LW (K : PySem.W.Frag) (B : DB) (W : DWx) : WX := fun cls d σ H => ∃ ρ S fl, Std K B H S σ ρ ∧ RepX K H S d fl ∧ W cls fl ρ S
def Wno : DWx := fun _ _ _ _ => False
theorem takesNo {X : Cx} {B : DB} : Takes X (LW X.K B Wno) := takes0.imp fun _ _ _ _ ⟨_, _, _, _, _, w⟩ => w

abbrev DSp := List D → DS → DQ → DXk → Prop
def liftSp (K : PySem.W.Frag) (sp : DSp) : Sp := fun vs H Q E => ∃ ds S Qd Wd, RepS K H S ∧ RepVs K H S vs ds ∧ sp ds S Qd Wd ∧ Thn K H S Qd Q ∧
  ∀ cls d fl H' S', Frm H S H' S' → RepS K H' S' → RepX K H' S' d fl → Wd cls fl S' → E cls d H'
section
variable {P : Program} {w : World} {K : PySem.W.Frag} {mg : Str → Option Value} {base : Heap}
/-- a def keeps its promise wherever there is room and nothing is being shown -/
structure FnG (P : Program) (w : World) (K : PySem.W.Frag) (mg : Str → Option Value) (base : Heap) (k : Nat) (f : Addr) (fd : FuncData) (ps : List Str) (sp : Sp) : Prop where
  len : ∀ vs H Q E, sp vs H Q E → vs.length = ps.length
  run : ∀ (A : Around) (fr : List Env) (s : Shared) (H : Hp) (as : Args) (us : List Value) (vs : List V) (Q : VK) (E : XK), Room k A → A.guards = some [] →
    Env0 P w K mg base A fr s H → BindsTo s fd as (ps.zip us) → Vals vs us → sp vs H Q E → codeAny (model P w) A (.call (.ref f) as) (CR (L2.CX P w) fr P w H s Q E) s
theorem FnG.mono {j k : Nat} {f : Addr} {fd : FuncData} {ps : List Str} {sp : Sp} (F : FnG P w K mg base j f fd ps sp) (h : j ≤ k) : FnG P w K mg base k f fd ps sp :=
  ⟨F.len, fun A fr s H as us vs Q E r => F.run A fr s H as us vs Q E (r.mono h)⟩
theorem FnG.imp {k : Nat} {f : Addr} {fd : FuncData} {ps : List Str} {sp sp' : Sp} (F : FnG P w K mg base k f fd ps sp) (h : ∀ vs H Q E, sp' vs H Q E → sp vs H Q E) : FnG P w K mg base k f fd ps sp' :=
  ⟨fun vs H Q E q => F.len vs H Q E (h vs H Q E q), fun A fr s H as us vs Q E r g e b rv q => F.run A fr s H as us vs Q E r g e b rv (h vs H Q E q)⟩
theorem fng_of {x qual : Str} {st : Stmt} {f : Addr} {fd : FuncData} {N ps : List Str} {k : Nat} {sp : Sp} (F : Fun K x qual st f fd) (sc : FnScope N ps (defScope st)) (len : ∀ vs H Q E, sp vs H Q E → vs.length = ps.length)
    (hbody : ∀ (cdv : Value) (A : Around) (fr : List Env) (s : Shared) (H : Hp) (vs : List V) (Q : VK) (E : XK), Room k (A.deeper (envOfC qual (defScope st) s.heap.objs.size f cdv)) → A.guards = some [] → sp vs H Q E →
      ∃ t, PSs (cxOf (L2.CX P w) P w K mg base N qual (defScope st) f cdv A fr s H E) (defBody st) t ∧ t { nx := fun _ H' => Q .non H', rt := Q } (L2.start N vs) H) : FnG P w K mg base (k + 1) f fd ps sp := by
  obtain ⟨oc, od, kV, doc, pm, an, cdv, ct, osl, rfl, lk, hcd⟩ := F.ex
  refine ⟨len, fun A fr s H as us vs Q E room gd e0 bd rv hsp => ?_⟩
  -- the promise for this one call, by the layer's rule for a promise that speaks of it alone
  let sp1 : Sp := fun vs' H' Q' E' => sp vs' H' Q' E'
  have KX : K.In s.heap := e0.mod.kin.keeps fun b o q => (e0.bs b o q).1
  have lim : s.heap.NoLimit := e0.mod.nolimit.keeps fun b o q => (e0.bs b o q).1
  have vlen := len vs H Q E hsp
  have kinds : ∀ y ∈ ps.zip us, (defScope st).names.lookup y.1 = some .local ∨ ((defScope st).names.lookup y.1 = some .cell ∧ ((cellsFrom (s.heap.objs.size + 1) (defScope st).names []).lookup y.1).isSome = true) := by
    rintro ⟨n, v⟩ hy
    have hn := (List.of_mem_zip hy).1
    cases sc.par n hn with
    | inl q => exact .inl q
    | inr q => exact .inr ⟨q, PySem.W.cellsFrom_some _ _ _ (.inl q)⟩
  refine codeAny_call_function room.depth (KX _ _ lk) rfl sc.co sc.gen rfl (PySem.W.codeRec_of KX hcd) (bd _ _ _ _ ?_)
  refine wpAny_newFunctionEnv_cells sc.kind kinds fun env he s1 fr1 => ?_
  subst he
  refine ⟨lim.keeps fr1.toInCall.keep, codeAny_func ?_⟩
  obtain ⟨t, ht, hq⟩ := hbody cdv A fr s H vs Q E (room.deeper _) gd hsp
  have J0 : Inv (cxOf (L2.CX P w) P w K mg base N qual (defScope st) f cdv A fr s H E) [] (L2.start N vs) H s1 := inv_start sc room.hd e0 vlen rv fr1
  refine wpAny_mono (ht.run [] s1 (L2.start N vs) H _ J0 hq) (fun fl s' hs => ?_) fun _ _ z => z
  have bye : ∀ (σ' : L2.St) (H' : Hp) (v : V) (u : Value), Inv (cxOf (L2.CX P w) P w K mg base N qual (defScope st) f cdv A fr s H E) [] σ' H' s' → RelV v u → Q v H' → CE fr P w H s Q u s' :=
    fun σ' H' v u J rv' q => ⟨v, H', J.os, J.bare, J.base, J.hok, rv', q⟩
  match fl, hs with
  | .ret u, ⟨v, σ', H', J, rv', q⟩ => exact bye σ' H' v u J rv' q
  | .next, ⟨σ', H', J, q⟩ => exact bye σ' H' V.non Value.none J rfl q
  | .brk, ⟨_, _, _, q⟩ => exact q.elim
  | .cont, ⟨_, _, _, q⟩ => exact q.elim
abbrev DFn (P : Program) (w : World) (K : PySem.W.Frag) (mg : Str → Option Value) (base : Heap) (k : Nat) (f : Addr) (fd : FuncData) (ps : List Str) (sp : DSp) : Prop := FnG P w K mg base k f fd ps (liftSp K sp)
/-- what is known behind a def may be less: of the store what stood, of the value what is left -/
def Fit (S' : DS) (d : D) (S2 : DS) (d2 : D) : Prop := Sub S2 S' ∧ ∀ K H v, RepS K H S' → RepV K H S' v d → RepV K H S2 v d2
theorem Fit.refl (S : DS) (d : D) : Fit S d S d := ⟨Sub.refl S, fun _ _ _ _ r => r⟩
theorem Fit.sub {S S2 : DS} (d : D) (h : Sub S2 S) : Fit S d S2 d := ⟨h, fun K H v _ r => RepV.frm (Frm.less h) _ _ r⟩
/-- a list of the store is told as a list -/
theorem Fit.lst {S S2 : DS} {p : Addr} {l : List D} (h : S p = some (.lst l)) (sb : Sub S2 S) (hn : S2 p = none) : Fit S (.ref p) S2 (.lst l) := ⟨sb, fun K H v rs r => by
  obtain ⟨xs, e, rv, z⟩ := rs p _ h
  rw [of_ref r]
  simp only [RepV]
  exact ⟨p, xs, rfl, .inl ⟨.inl e, hn⟩, RepVs.frm (Frm.less sb) _ _ rv, z⟩⟩
def fin (Qd : DQ) : DQ := fun d S => ∃ d2 S2, Fit S d S2 d2 ∧ Qd d2 S2
theorem fin_same {Qd : DQ} {d : D} {S : DS} (h : Qd d S) : fin Qd d S := ⟨d, S, Fit.refl _ _, h⟩
theorem fin_drop {Qd : DQ} {d : D} {S S2 : DS} (sb : Sub S2 S) (h : Qd d S2) : fin Qd d S := ⟨d, S2, Fit.sub d sb, h⟩
def finX (Wd : DXk) : DWx := fun cls fl _ S => ∃ S2 fl2, Sub S2 S ∧ (∀ K H d, RepS K H S → RepX K H S d fl → RepX K H S2 d fl2) ∧ Wd cls fl2 S2
theorem finX_same {Wd : DXk} {cls : Value} {fl : DFl} {ρ : DEnv} {S : DS} (h : Wd cls fl S) : finX Wd cls fl ρ S := ⟨S, fl, Sub.refl _, fun _ _ _ _ r => r, h⟩
theorem finX_drop {Wd : DXk} {cls : Value} {fl : DFl} {ρ : DEnv} {S S2 : DS} (sb : Sub S2 S) (h : Wd cls fl S2) : finX Wd cls fl ρ S := ⟨S2, fl, sb, fun _ _ _ _ r => r.frm (Frm.less sb), h⟩
/-- the names' data at the entry -/
def dstart (N : List Str) (ds : List D) : DEnv := ds.map some ++ List.replicate (N.length - ds.length) none
theorem repE_start {H : Hp} {S : DS} {N : List Str} {vs : List V} {ds : List D} (r : RepVs K H S vs ds) : RepE K H S (L2.start N vs) (dstart N ds) := by
  have hl := r.length
  refine ⟨by unfold L2.start dstart; simp only [List.length_append, List.length_map, List.length_replicate, hl], fun i d e => ?_⟩
  unfold dstart at e
  by_cases hi : i < ds.length
  · rw [List.getElem?_append_left (by simpa using hi), List.getElem?_map] at e
    cases e1 : ds[i]? with
    | none => rw [e1] at e; cases e
    | some d' =>
      rw [e1] at e
      have e' : d' = d := by simpa using e
      subst e'
      obtain ⟨v, ev, rv⟩ := r.get e1
      refine ⟨v, ?_, rv⟩
      unfold L2.start
      rw [List.getElem?_append_left (by rw [List.length_map, hl]; exact hi), List.getElem?_map, ev]
      rfl
  · rw [List.getElem?_append_right (by simpa using hi), List.getElem?_replicate] at e
    split at e <;> cases e
/-- the context of a def's body -/
abbrev Cxf (P : Program) (w : World) (K : PySem.W.Frag) (mg : Str → Option Value) (base : Heap) (N : List Str) (qual : Str) (st : Stmt) (f : Addr) (cdv : Value) (A : Around) (fr : List Env) (s : Shared) (H : Hp) (E : XK) : Cx :=
  cxOf (L2.CX P w) P w K mg base N qual (defScope st) f cdv A fr s H E
/-- THE RULE for a def -/
theorem dfn_ok {x qual : Str} {st : Stmt} {f : Addr} {fd : FuncData} {N ps : List Str} {k : Nat} {sp : DSp} (F : Fun K x qual st f fd) (sc : FnScope N ps (defScope st)) (len : ∀ ds S Q E, sp ds S Q E → ds.length = ps.length)
    (hbody : ∀ (cdv : Value) (A : Around) (fr : List Env) (s : Shared) (H : Hp) (S : DS) (E : XK) (ds : List D) (Qd : DQ) (Wd : DXk), Room k (Cxf P w K mg base N qual st f cdv A fr s H E).A → (Cxf P w K mg base N qual st f cdv A fr s H E).A.guards = some [] →
      Takes (Cxf P w K mg base N qual st f cdv A fr s H E) (LW (Cxf P w K mg base N qual st f cdv A fr s H E).K ⟨H, S⟩ (finX Wd)) → PassesOwn (model P w) (Cxf P w K mg base N qual st f cdv A fr s H E).A (Cxf P w K mg base N qual st f cdv A fr s H E).env (Cxf P w K mg base N qual st f cdv A fr s H E).xe → sp ds S Qd Wd →
      ∃ t, DSs (Cxf P w K mg base N qual st f cdv A fr s H E) ⟨H, S⟩ (defBody st) t ∧ t { nx := fun _ S' => fin Qd .non S', rt := fin Qd } (dstart N ds) S) : DFn P w K mg base (k + 1) f fd ps sp := by
  refine fng_of F sc (fun vs H Q E ⟨ds, S, Qd, Wd, _, rv, h, _⟩ => by rw [rv.length]; exact len _ _ _ _ h) (fun cdv A outer s H vs Q E hr hgd h => ?_)
  obtain ⟨ds, S, Qd, Wd, rs, rv, h, kq, ke⟩ := h
  have tk : Takes (cxOf (L2.CX P w) P w K mg base N qual (defScope st) f cdv A outer s H E) (LW K ⟨H, S⟩ (finX Wd)) := (takes_of (E := E) rfl rfl rfl rfl).imp fun c d σ H' hw => by
    obtain ⟨ρ, S1, fl, st1, rx, S2, fl2, sb, hx, hw⟩ := hw
    exact ke c d fl2 H' S2 (st1.frm.sub sb) (st1.st.sub sb) (hx _ _ _ st1.st rx) hw
  obtain ⟨t, ht, hq⟩ := hbody cdv A outer s H S E ds Qd Wd hr hgd tk (passes_of rfl) h
  refine ⟨_, ht, dstart N ds, S, _, ⟨Frm.refl _ _, rs, repE_start rv⟩, hq, ⟨?_, ?_, fun _ _ _ _ _ _ _ q => q.elim, fun _ _ _ _ _ _ _ q => q.elim⟩⟩
  · intro σ' H' ρ' S' f1 r1 e1 ⟨d2, S2, ⟨sb, ft⟩, q⟩
    exact kq .non H' d2 S2 (f1.sub sb) (r1.sub sb) (ft _ _ _ r1 rep_non) q
  · intro v H' d S' f1 r1 v1 ⟨d2, S2, ⟨sb, ft⟩, q⟩
    exact kq v H' d2 S2 (f1.sub sb) (r1.sub sb) (ft _ _ _ r1 v1) q
end

section
variable {X : Cx} {B : DB} {k : Nat} {f C : Addr} {fd : FuncData} {ps : List Str} {sp : DSp} {W : DWx} {x m : Str} {p pos apos : Pos} {e o : Expr} {es : List Expr} {t : DTm} {ts : List DTm} {dds : List D} {dvs : List V} {ds : List Value}
def dCall (sp : DSp) (W : DWx) (dds : List D) (ts : List DTm) (ρ : DEnv) (S : DS) (Q : DQ) : Prop := dArgs ts ρ S fun ds S1 => sp (ds ++ dds) S1 Q fun cls fl S' => W cls fl ρ S'
theorem run_fnD {pins : List (Addr × Obj)} {σ : L2.St} {H : Hp} {s : Shared} {Q : VK} {us : List Value} {vs : List V} {s0 : Sp} {E : XK} (F : FnG X.prog X.w X.K X.mg X.base k f fd ps s0) (hr : Room k X.A) (gd : X.A.guards = some []) (hb : Binds X.K fd ps ds) (hd : Vals dvs ds) (hx : PassesAt (L2.CX X.prog X.w) X σ E)
    (I : Inv X pins σ H s) (r : Vals vs us) (h : s0 (vs ++ dvs) H Q E) : wpAny (model X.prog X.w) X.A (call (.ref f) us) (EP X pins σ Q) X.xe s := by
  have r2 : Vals (vs ++ dvs) (us ++ ds) := r.append hd
  have hl : (us ++ ds).length = ps.length := by rw [← r2.length]; exact F.len _ _ _ _ h
  refine wpAny_call (codeAny_mono (F.run X.A X.stack s H ⟨us, []⟩ (us ++ ds) (vs ++ dvs) Q E hr gd I.env0 (hb s us I.kIn hl) r2 h) fun r s' hq => ?_)
  cases r with
  | error e => exact hx pins H s e s' I hq
  | ok fl =>
    cases fl with
    | ret u => exact I.after hq
    | next => exact False.elim hq
    | brk => exact False.elim hq
    | cont => exact False.elim hq
structure Dfl (ds : List Value) (dvs : List V) (dds : List D) : Prop where
  v : Vals dvs ds
  d : ∀ K H S, RepVs K H S dvs dds
theorem dfl0 : Dfl [] [] [] := ⟨.nil, fun _ _ _ => RepVs.nil⟩
theorem call_sp {σ : L2.St} {H : Hp} {Q : VK} {ρ : DEnv} {S : DS} {Qd : DQ} {vs : List V} {xs : List D} (st : Std X.K B H S σ ρ) (rv : RepVs X.K H S vs xs) (hd : Dfl ds dvs dds) (h : sp (xs ++ dds) S Qd fun cls fl S' => W cls fl ρ S') (k : Thn X.K H S Qd Q) :
    liftSp X.K sp (vs ++ dvs) H Q (WE (LW X.K B W) σ) :=
  ⟨xs ++ dds, S, Qd, _, st.st, RepVs.append rv (hd.d _ _ _), h, k, fun cls d fl H' S' f r rx w => ⟨ρ, S', fl, st.next f r, rx, w⟩⟩
theorem de_call (F : DFn X.prog X.w X.K X.mg X.base k f fd ps sp) (hr : Room k X.A) (gd : X.A.guards = some []) (hm : X.mg x = some (.ref f)) (hk : PySem.W.keepIn X.K (.ref f) = true) (hb : Binds X.K fd ps ds) (hd : Dfl ds dvs dds) (tk : Takes X (LW X.K B W))
    (ha : DA X B (e :: es) ts) (hg : Gl X x := by rfl) (hdb : (x == ("__debug__" : Str)) = false := by decide) (he : starEach (e :: es) X.env = (false, eval e X.env) :: starEach es X.env := by rfl) (hpl : (backTo pos (starEach es X.env)).any (·.1) = false := by rfl) :
    DE X B (.Call (.Name x p) (e :: es) [] pos) (dCall sp W dds ts) := by
  refine ⟨fun pins s σ H Q I ⟨ρ, S, Qd, st, q, kk⟩ => ?_⟩
  refine wpAny_Call_Name_kw (ld_glob I hg hm ?_ hdb)
  have h : liftA X.K B ts σ H fun vs H1 => liftSp X.K sp (vs ++ dvs) H1 Q (WE (LW X.K B W) σ) := ⟨ρ, S, _, st, q, fun vs H1 ds1 S1 f1 r1 v1 l1 q1 => call_sp (st.next f1 r1) v1 hd q1 (kk.next f1)⟩
  refine PySem.W.callWith_K (h₀ := X.base) I.ok.mod.kin hk (thn (ha.run pos pins s σ H _ I h) fun us s1 ⟨vs, H1, I1, r, q⟩ => ⟨I1.kIn, ?_⟩) he hpl
  exact run_fnD F hr gd hb hd.v (passAt tk σ) I1 r q
theorem de_call0 (F : DFn X.prog X.w X.K X.mg X.base k f fd ps sp) (hr : Room k X.A) (gd : X.A.guards = some []) (hm : X.mg x = some (.ref f)) (hk : PySem.W.keepIn X.K (.ref f) = true) (hb : Binds X.K fd ps ds) (hd : Dfl ds dvs dds) (tk : Takes X (LW X.K B W))
    (hg : Gl X x := by rfl) (hdb : (x == ("__debug__" : Str)) = false := by decide) : DE X B (.Call (.Name x p) [] [] pos) (dCall sp W dds []) := by
  refine ⟨fun pins s σ H Q I ⟨ρ, S, Qd, st, q, kk⟩ => ?_⟩
  refine wpAny_Call_Name_kw (ld_glob I hg hm ?_ hdb)
  exact PySem.W.callWith_K0 I.kIn hk (run_fnD (us := []) F hr gd hb hd.v (passAt tk σ) I .nil (call_sp st RepVs.nil hd q kk))
end

def dwipe (ρ : DEnv) : List Nat → DEnv
  | [] => ρ
  | v :: vs => (dwipe ρ vs).set v none
theorem RepE.wipe {K : PySem.W.Frag} {H : Hp} {S : DS} {σ : L2.St} {ρ : DEnv} (h : RepE K H S σ ρ) : ∀ vs : List Nat, RepE K H S (wipe σ vs) (dwipe ρ vs)
  | [] => h
  | v :: vs => by
    have ih := RepE.wipe h vs
    unfold L2.wipe dwipe
    refine ⟨by rw [List.length_set, List.length_set]; exact ih.1, fun i d e => ?_⟩
    by_cases c : v = i
    · subst c
      by_cases hl : v < (dwipe ρ vs).length
      · rw [List.getElem?_set_self hl] at e; cases e
      · rw [List.getElem?_eq_none (by rw [List.length_set]; omega)] at e; cases e
    · rw [List.getElem?_set_ne c] at e ⊢
      exact ih.2 i d e
/-- a comprehension's target: it stores its own names alone -/
def CTg (K : PySem.W.Frag) (vs : List Nat) (g : TG) (gd : DGt) : Prop := ∀ v d σ ρ H S Qd (Q : L2.St → Hp → Prop), RepS K H S → RepE K H S σ ρ → RepV K H S v d → gd d ρ S Qd →
  (∀ σ2 ρ2, RepE K H S σ2 ρ2 → L2.wipe σ2 vs = L2.wipe σ vs → Qd ρ2 S → Q σ2 H) → g v σ H Q
def CTgs (K : PySem.W.Frag) (vs : List Nat) (g : TGs) (gd : List DGt) : Prop := ∀ us ds σ ρ H S Qd (Q : L2.St → Hp → Prop), RepS K H S → RepE K H S σ ρ → RepVs K H S us ds → dGs gd ds ρ S Qd →
  (∀ σ2 ρ2, RepE K H S σ2 ρ2 → L2.wipe σ2 vs = L2.wipe σ vs → Qd ρ2 S → Q σ2 H) → g us σ H Q
theorem wipe_set {σ : L2.St} {i : Nat} {o : Option V} : ∀ {vs : List Nat}, i ∈ vs → L2.wipe (σ.set i o) vs = L2.wipe σ vs
  | [], h => by simp at h
  | v :: vs, h => by
    unfold L2.wipe
    by_cases c : i ∈ vs
    · rw [wipe_set c]
    · have e : i = v := by rcases List.mem_cons.mp h with e | e; exact e; exact absurd e c
      subst e
      have aux : ∀ {ws : List Nat}, i ∉ ws → L2.wipe (σ.set i o) ws = (L2.wipe σ ws).set i o := by
        intro ws
        induction ws with
        | nil => intro _; rfl
        | cons w ws ih =>
          intro hn
          have h1 : i ∉ ws := fun z => hn (List.mem_cons_of_mem _ z)
          have h2 : i ≠ w := fun z => hn (z ▸ List.mem_cons_self)
          show (L2.wipe (σ.set i o) ws).set w none = ((L2.wipe σ ws).set w none).set i o
          rw [ih h1, List.set_comm _ _ h2]
      rw [aux c, List.set_set]
theorem ct_name {K : PySem.W.Frag} {vs : List Nat} {i : Nat} (h : i ∈ vs) : CTg K vs (gName i) (dgName i) := fun v d σ ρ H S Qd Q rs re rv q k => k _ _ (re.set rv) (wipe_set h) q
theorem cts_nil {K : PySem.W.Frag} {vs : List Nat} : CTgs K vs gNil [] := fun us ds σ ρ H S Qd Q rs re rv q k => by
  cases ds with
  | nil => exact ⟨RepVs.nil_iff.mp rv, k σ ρ re rfl q⟩
  | cons d ds => exact q.elim
theorem cts_cons {K : PySem.W.Frag} {vs : List Nat} {g : TG} {gd : DGt} {u : TGs} {ud : List DGt} (h1 : CTg K vs g gd) (h2 : CTgs K vs u ud) : CTgs K vs (gCons g u) (gd :: ud) := fun us ds σ ρ H S Qd Q rs re rv q k => by
  cases ds with
  | nil => exact q.elim
  | cons d ds =>
    simp only [RepVs] at rv
    obtain ⟨x, r, rfl, r1, r2⟩ := rv
    refine ⟨x, r, rfl, h1 x d σ ρ H S _ _ rs re r1 q (fun σ2 ρ2 re2 ew q2 => ?_)⟩
    exact h2 r ds σ2 ρ2 H S Qd Q rs re2 r2 q2 fun σ3 ρ3 re3 ew3 q3 => k σ3 ρ3 re3 (ew3.trans ew) q3
theorem ct_tup {K : PySem.W.Frag} {vs : List Nat} {u : TGs} {ud : List DGt} {n : Nat} (h : CTgs K vs u ud) : CTg K vs (gTup K n u) (fun d ρ S Q => (match d with | .tup ds => ds.length = n | _ => False) ∧ dgTup ud d ρ S Q) := fun v d σ ρ H S Qd Q rs re rv ⟨ql, q⟩ k => by
  unfold dgTup at q
  split at q
  · rename_i ds _
    obtain ⟨a, xs, rfl, dt, rv, _⟩ := of_tup rv
    exact ⟨a, xs, rfl, dt.sq, by rw [rv.length]; exact ql, h xs ds σ ρ H S Qd Q rs re rv q k⟩
  · exact q.elim
/-- the turns of a comprehension whose list lies at p -/
def dLcGo (g : DGt) (tt : DTt) (te : DTm) (p : Addr) : List D → DEnv → DS → (List D → DS → Prop) → Prop
  | [], _, S, Q => Q [] S
  | x :: xs, ρ, S, Q => ∀ o, g x ρ (sup S p (.raw o)) fun ρ2 S2 => tt ρ2 S2 fun b S3 => (b = true → te ρ2 S3 fun y S4 => S4 p = some (.raw o) ∧ dLcGo g tt te p xs ρ (sdel S4 p) fun ys S5 => Q (y :: ys) S5) ∧
      (b = false → S3 p = some (.raw o) ∧ dLcGo g tt te p xs ρ (sdel S3 p) Q)
def dLc (vs : List Nat) (it : DIt) (g : DGt) (tt : DTt) (te : DTm) (ρ : DEnv) (S : DS) (Q : DQ) : Prop := it ρ S fun xs S1 => ∀ p, S1 p = none → dLcGo g tt te p xs (dwipe ρ vs) S1 fun ys S2 => Q (.lst ys) S2
/-- .. whose list is changed behind -/
def dLcM (vs : List Nat) (it : DIt) (g : DGt) (tt : DTt) (te : DTm) (ρ : DEnv) (S : DS) (Q : DQ) : Prop := it ρ S fun xs S1 => ∀ p, S1 p = none → dLcGo g tt te p xs (dwipe ρ vs) S1 fun ys S2 => Q (.ref p) (sup S2 p (.lst ys))
theorem sup_sdel {S : DS} {p : Addr} {o : DO} : sup (sdel S p) p o = sup S p o := by
  funext b; unfold sup sdel; split <;> rfl
theorem sup_self {S : DS} {p : Addr} {o : DO} (h : S p = some o) : sup S p o = S := by
  funext b; unfold sup; split
  · rename_i e; rw [e, h]
  · rfl
def dYes : DTt := fun _ S Q => Q true S
theorem dts_nil {X : Cx} {B : DB} : PTs X [] (liftT X.K B dYes) := ⟨fun pins s σ H Q I ⟨ρ, S, Qd, st, q, k⟩ => pts_nil.run pins s σ H Q I (k _ _ _ (Frm.refl _ _) st.st q)⟩
theorem dts_one {X : Cx} {B : DB} {c : Expr} {t : DTt} (h : DT X B c t) : PTs X [c] (liftT X.K B t) := pts_one h
theorem wipe_twice {σ : L2.St} (vs : List Nat) : L2.wipe (L2.wipe σ vs) vs = L2.wipe σ vs := by
  have hn : ∀ (ws : List Nat) (i : Nat), i ∈ ws → ∀ v, (L2.wipe σ ws)[i]? ≠ some (some v) := fun ws i hi v e => (wipe_some e).2 hi
  have aux : ∀ (τ : L2.St) (ws : List Nat), (∀ i, i ∈ ws → ∀ v, τ[i]? ≠ some (some v)) → L2.wipe τ ws = τ := by
    intro τ ws
    induction ws with
    | nil => intro _; rfl
    | cons w ws ih =>
      intro h
      unfold L2.wipe
      rw [ih fun i hi => h i (List.mem_cons_of_mem _ hi)]
      apply List.ext_getElem?
      intro j
      by_cases c : w = j
      · subst c
        by_cases hl : w < τ.length
        · rw [List.getElem?_set_self hl]
          cases e : τ[w]? with
          | none => rw [List.getElem?_eq_getElem hl] at e; cases e
          | some o =>
            cases o with
            | none => rfl
            | some v => exact absurd e (h w List.mem_cons_self v)
        · rw [List.getElem?_eq_none (by rw [List.length_set]; omega), List.getElem?_eq_none (by omega)]
      · rw [List.getElem?_set_ne c]
  exact aux _ _ (hn vs)
theorem lift_lc {X : Cx} {B : DB} {wi : TI} {it : DIt} {g : TG} {gd : DGt} {tt : DTt} {te : DTm} {vs : List Nat} {σ : L2.St} {H : Hp} {Q : VK} {ρ : DEnv} {S : DS}
    (hw : ∀ σ H ρ S Qd (R : It → Hp → Prop), Std X.K B H S σ ρ → it ρ S Qd → (∀ J H1 xs S1, Frm H S H1 S1 → RepS X.K H1 S1 → ItOk X.K J H1 S1 xs → xs.length ≤ sizeLine → Qd xs S1 → R J H1) → wi σ H R)
    (hg : CTg X.K vs g gd) (st : Std X.K B H S σ ρ) (Fq : List D → Addr → DS → Prop)
    (q : it ρ S fun xs S1 => ∀ p, S1 p = none → dLcGo gd tt te p xs (dwipe ρ vs) S1 fun ys S2 => Fq ys p S2)
    (kk : ∀ ys acc p H' S', Frm H S H' S' → RepS X.K H' (sup S' p (.raw (.lst acc))) → S' p = none → RepVs X.K H' (sup S' p (.raw (.lst acc))) acc ys → ys.length ≤ sizeLine → (∀ o, H p = some o → S p = none → False) → Fq ys p S' → Q (.ref p) H') :
    tLc wi g (liftT X.K B tt) (lift X.K B te) vs σ H Q := by
  refine hw σ H ρ S _ _ st q (fun J H1 xs S1 f1 r1 io z q1 => ?_)
  intro p hp
  have pn : ∀ o, H p = some o → S p = none → False := fun o e e2 => by
    have := (f1 p o e e2).1
    rw [hp] at this; cases this
  have q2 := q1 p (r1.there hp)
  have fr0 : Frm H1 S1 (upd H1 p (.lst [])) (sup S1 p (.raw (.lst []))) := Frm.newS hp
  have rs0 : RepS X.K (upd H1 p (.lst [])) (sup S1 p (.raw (.lst []))) := r1.put fr0 upd_same
  let R : Nat → Hp → Prop := fun i H' => ∃ S' acc done, Frm H1 S1 H' (sup S' p (.raw (.lst acc))) ∧ RepS X.K H' (sup S' p (.raw (.lst acc))) ∧ S' p = none ∧ RepVs X.K H' (sup S' p (.raw (.lst acc))) acc done ∧ done.length ≤ i ∧
    dLcGo gd tt te p (xs.drop i) (dwipe ρ vs) S' (fun ys S2 => Fq (done ++ ys) p S2)
  refine ⟨fun i m H' => m = xs.length - i ∧ i ≤ xs.length ∧ R i H', ⟨xs.length, by simp, Nat.zero_le _, S1, [], [], fr0, rs0, r1.there hp, RepVs.nil, Nat.zero_le _, by simpa using q2⟩, ?_⟩
  rintro i m H' ⟨rfl, hi, S', acc, done, f', rs', sn, rv, dl, q'⟩
  by_cases hlt : i < xs.length
  · refine .inr ⟨io.go i H' _ f' rs' hlt, R (i + 1), fun H2 h2 => ⟨xs.length - (i + 1), by omega, rfl, hlt, h2⟩, fun x H'' y => ?_⟩
    obtain ⟨d, ed, fy, ry, rvx, kp⟩ := io.yld i H' _ x H'' f' rs' hlt y
    rw [List.drop_eq_getElem_cons hlt] at q'
    have ed' : xs[i] = d := by rw [List.getElem?_eq_getElem hlt] at ed; exact Option.some.inj ed
    rw [ed'] at q'
    have q3 := q' (.lst acc)
    have sy : Std X.K B H'' (sup S' p (.raw (.lst acc))) σ ρ := ⟨st.frm.trans (f1.trans (f'.trans fy)), ry, st.env.frm (f1.trans (f'.trans fy))⟩
    refine hg x d (L2.wipe σ vs) (dwipe ρ vs) H'' _ _ _ ry (sy.env.wipe vs) rvx q3 (fun σ2 ρ2 re2 ew q4 => ⟨ew.trans (wipe_twice vs), ?_⟩)
    refine ⟨ρ2, _, _, ⟨sy.frm, ry, re2⟩, q4, fun b H3 S3 f3 r3 q5 => ?_⟩
    have s3 : Std X.K B H3 S3 σ2 ρ2 := ⟨sy.frm.trans f3, r3, re2.frm f3⟩
    cases b with
    | true =>
      refine iteT ?_
      refine ⟨ρ2, S3, _, s3, q5.1 rfl, fun v H4 yd S4 f4 r4 v4 q6 => ?_⟩
      obtain ⟨e4, q6⟩ := q6
      have h4 : H4 p = some (.lst acc) := r4 p _ e4
      have hacc : acc.length = done.length := rv.length
      refine ⟨acc, h4, by omega, ?_⟩
      have f5 : Frm H4 S4 (upd H4 p (.lst (acc ++ [v]))) (sup S4 p (.raw (.lst (acc ++ [v])))) := Frm.chg e4
      have es : sup (sdel S4 p) p (.raw (.lst (acc ++ [v]))) = sup S4 p (.raw (.lst (acc ++ [v]))) := sup_sdel
      refine ⟨sdel S4 p, acc ++ [v], done ++ [yd], ?_, ?_, sdel_same, ?_, ?_, ?_⟩
      · rw [es]; exact (((f'.trans fy).trans f3).trans f4).trans f5
      · rw [es]; exact r4.put f5 upd_same
      · rw [es]
        exact RepVs.append (RepVs.frm (((fy.trans f3).trans f4).trans f5) _ _ rv) (RepVs.cons (RepV.frm f5 _ _ v4) RepVs.nil)
      · rw [List.length_append]; simp only [List.length_cons, List.length_nil]; omega
      · have e : (fun ys S2 => Fq (done ++ [yd] ++ ys) p S2) = (fun ys S2 => Fq (done ++ yd :: ys) p S2) := by
          funext ys S2
          rw [List.append_assoc]; rfl
        rw [e]; exact q6
    | false =>
      refine iteF ?_
      obtain ⟨e3, q6⟩ := q5.2 rfl
      have es : sup (sdel S3 p) p (.raw (.lst acc)) = S3 := by rw [sup_sdel, sup_self e3]
      refine ⟨sdel S3 p, acc, done, ?_, ?_, sdel_same, ?_, by omega, q6⟩
      · rw [es]; exact (f'.trans fy).trans f3
      · rw [es]; exact r3
      · rw [es]; exact RepVs.frm (fy.trans f3) _ _ rv
  · have e : i = xs.length := by omega
    subst e
    rw [List.drop_length] at q'
    have sb : Sub S' (sup S' p (.raw (.lst acc))) := Sub.sup sn
    refine .inl ⟨io.stop H' _ f' rs', kk done acc p H' S' ((f1.trans f').sub sb) rs' sn rv (by omega) pn ?_⟩
    have q7 : Fq (done ++ []) p S' := q'
    rwa [List.append_nil] at q7
section
variable {X : Cx} {B : DB} {elt tg iter : Expr} {ifs : List Expr} {scope : Scope} {own : List (Str × Nat)} {pos spos : Pos} {it : DIt} {g : TG} {gd : DGt} {tt : DTt} {te : DTm}
abbrev Bk (X : Cx) (s : Shared) (H : Hp) (scope : Scope) (C : Addr) (cl : List (Str × Addr)) (fp : List Addr) : Cx := X.blk s H scope (compEnvC scope cl C X.env) fp
theorem lc_end {K : PySem.W.Frag} {H : Hp} {S : DS} {Qd : DQ} {Q : VK} (k : Thn K H S Qd Q) : ∀ ys acc p H' S', Frm H S H' S' → RepS K H' (sup S' p (.raw (.lst acc))) → S' p = none → RepVs K H' (sup S' p (.raw (.lst acc))) acc ys → ys.length ≤ sizeLine → (∀ o, H p = some o → S p = none → False) → Qd (.lst ys) S' → Q (.ref p) H' :=
  fun ys acc p H' S' f rs sn rv z _ q => by
    have sb : Sub S' (sup S' p (.raw (.lst acc))) := Sub.sup sn
    have hp : H' p = some (.lst acc) := rs p _ sup_same
    refine k (.ref p) H' (.lst ys) S' f (rs.sub sb) ?_ q
    simp only [RepV]
    exact ⟨p, acc, rfl, .inl ⟨.inl hp, sn⟩, RepVs.frm (Frm.less sb) _ _ rv, z⟩
theorem lc_endM {K : PySem.W.Frag} {H : Hp} {S : DS} {Qd : DQ} {Q : VK} (k : Thn K H S Qd Q) : ∀ ys acc p H' S', Frm H S H' S' → RepS K H' (sup S' p (.raw (.lst acc))) → S' p = none → RepVs K H' (sup S' p (.raw (.lst acc))) acc ys → ys.length ≤ sizeLine → (∀ o, H p = some o → S p = none → False) → Qd (.ref p) (sup S' p (.lst ys)) → Q (.ref p) H' :=
  fun ys acc p H' S' f rs sn rv z pn q => by
    have hp : H' p = some (.lst acc) := rs p _ sup_same
    have fc : Frm H' (sup S' p (.raw (.lst acc))) H' (sup S' p (.lst ys)) := fun a o e e' => by
      have n : a ≠ p := fun z => by rw [z, sup_same] at e'; cases e'
      rw [sup_ne n] at e'
      exact ⟨e, by rw [sup_ne n]; exact e'⟩
    refine k (.ref p) H' (.ref p) (sup S' p (.lst ys)) (fun a o e e' => ?_) (fun b u e => ?_) rep_ref q
    · have n : a ≠ p := fun z => pn o (z ▸ e) (z ▸ e')
      obtain ⟨e1, e2⟩ := f a o e e'
      exact ⟨e1, by rw [sup_ne n]; exact e2⟩
    · by_cases n : b = p
      · subst n
        rw [sup_same] at e; cases e
        exact ⟨acc, hp, RepVs.frm fc _ _ rv, z⟩
      · rw [sup_ne n] at e
        exact RepO.frm fc rfl (rs b u (by rw [sup_ne n]; exact e))
theorem de_lc (hc : X.calm = true) (hN : X.N.Nodup) (hi : DI X B tg iter it) (ok : BlkOk X.N X.env.scope scope own) (hct : CTg X.K (own.map (·.2)) g gd)
    (hg : ∀ s H C cl fp, PG (Bk X s H scope C cl fp) tg g) (ht : ∀ s H C cl fp, PTs (Bk X s H scope C cl fp) ifs (liftT X.K B tt)) (he : ∀ s H C cl fp, DE (Bk X s H scope C cl fp) B elt te)
    (hs : ∀ x, foldedSetIterable iter X.env x = pure x := by intro _; rfl) : DE X B (.ListComp elt [⟨tg, iter, ifs, 0⟩] scope pos) (dLc (own.map (·.2)) it gd tt te) := by
  obtain ⟨wi, hi, hw⟩ := hi
  exact PE.imp (pe_lc hc hN hi ok hg ht he hs) fun σ H Q ⟨ρ, S, Qd, st, q, k⟩ => lift_lc hw hct st _ q (lc_end k)
theorem de_lcM (hc : X.calm = true) (hN : X.N.Nodup) (hi : DI X B tg iter it) (ok : BlkOk X.N X.env.scope scope own) (hct : CTg X.K (own.map (·.2)) g gd)
    (hg : ∀ s H C cl fp, PG (Bk X s H scope C cl fp) tg g) (ht : ∀ s H C cl fp, PTs (Bk X s H scope C cl fp) ifs (liftT X.K B tt)) (he : ∀ s H C cl fp, DE (Bk X s H scope C cl fp) B elt te)
    (hs : ∀ x, foldedSetIterable iter X.env x = pure x := by intro _; rfl) : DE X B (.ListComp elt [⟨tg, iter, ifs, 0⟩] scope pos) (dLcM (own.map (·.2)) it gd tt te) := by
  obtain ⟨wi, hi, hw⟩ := hi
  exact PE.imp (pe_lc hc hN hi ok hg ht he hs) fun σ H Q ⟨ρ, S, Qd, st, q, k⟩ => lift_lc hw hct st _ q (lc_endM k)
/-- name = [..] on one line -/
theorem ds_setLc (i : Nat) {y : Str} {py : Pos} (hc : X.calm = true) (hN : X.N.Nodup) (hyl : X.env.scope.names.lookup y = some .local)
    (hsw : swapsWith (.ListComp elt [⟨tg, iter, ifs, 0⟩] scope pos) (some (.Name y py)) spos.line X.env = pure true) (hi : DI X B tg iter it) (ok : BlkOk X.N X.env.scope scope own) (hct : CTg X.K (own.map (·.2)) g gd)
    (hg : ∀ s H C cl fp, PG (Bk X s H scope C cl fp) tg g) (ht : ∀ s H C cl fp, PTs (Bk X s H scope C cl fp) ifs (liftT X.K B tt)) (he : ∀ s H C cl fp, DE (Bk X s H scope C cl fp) B elt te)
    (hs : ∀ x, foldedSetIterable iter X.env x = pure x := by intro _; rfl) (hy : X.N[i]? = some y := by rfl) : DSt X B (.Assign [.Name y py] (.ListComp elt [⟨tg, iter, ifs, 0⟩] scope pos) spos) (dSet i (dLc (own.map (·.2)) it gd tt te)) := by
  obtain ⟨wi, hi, hw⟩ := hi
  refine PS.imp (ps_setLc (te := lift X.K B te) hc hN hy hyl hsw hi ok hg ht he hs) fun E σ H ⟨ρ, S, Dd, st, q, k⟩ => ?_
  have kt : Thn X.K H S (fun d S1 => Dd.nx (ρ.set i (some d)) S1) (fun x H1 => gName i x σ H1 E.nx) := fun v H1 d S1 f1 r1 v1 q1 => k.nx _ H1 _ S1 f1 r1 ((st.env.frm f1).set v1) q1
  exact lift_lc hw hct st _ q (lc_end kt)
theorem ds_setLcM (i : Nat) {y : Str} {py : Pos} (hc : X.calm = true) (hN : X.N.Nodup) (hyl : X.env.scope.names.lookup y = some .local)
    (hsw : swapsWith (.ListComp elt [⟨tg, iter, ifs, 0⟩] scope pos) (some (.Name y py)) spos.line X.env = pure true) (hi : DI X B tg iter it) (ok : BlkOk X.N X.env.scope scope own) (hct : CTg X.K (own.map (·.2)) g gd)
    (hg : ∀ s H C cl fp, PG (Bk X s H scope C cl fp) tg g) (ht : ∀ s H C cl fp, PTs (Bk X s H scope C cl fp) ifs (liftT X.K B tt)) (he : ∀ s H C cl fp, DE (Bk X s H scope C cl fp) B elt te)
    (hs : ∀ x, foldedSetIterable iter X.env x = pure x := by intro _; rfl) (hy : X.N[i]? = some y := by rfl) : DSt X B (.Assign [.Name y py] (.ListComp elt [⟨tg, iter, ifs, 0⟩] scope pos) spos) (dSet i (dLcM (own.map (·.2)) it gd tt te)) := by
  obtain ⟨wi, hi, hw⟩ := hi
  refine PS.imp (ps_setLc (te := lift X.K B te) hc hN hy hyl hsw hi ok hg ht he hs) fun E σ H ⟨ρ, S, Dd, st, q, k⟩ => ?_
  have kt : Thn X.K H S (fun d S1 => Dd.nx (ρ.set i (some d)) S1) (fun x H1 => gName i x σ H1 E.nx) := fun v H1 d S1 f1 r1 v1 q1 => k.nx _ H1 _ S1 f1 r1 ((st.env.frm f1).set v1) q1
  exact lift_lc hw hct st _ q (lc_endM kt)
end
end DL

namespace DL
open PySem PySem.Spec PyProof.Rows L2

section
variable {K : PySem.W.Frag} {H : Hp} {S : DS}
mutual
def toP : D → Option PyData
  | .non => some .none
  | .bl b => some (.bool b)
  | .int i => some (.int i)
  | .str x => some (.str x)
  | .tup l => (toPs l).map .tuple
  | .lst l => (toPs l).map .list
  | _ => none
def toPs : List D → Option (List PyData)
  | [] => some []
  | d :: ds => match toP d, toPs ds with
    | some p, some ps => some (p :: ps)
    | _, _ => none
end
mutual
theorem dp_of : ∀ (d : D) (v : V) (p : PyData), RepV K H S v d → toP d = some p → Dp K H v p
  | .non, v, p, r, e => by simp only [toP] at e; cases e; rw [of_non r]; exact .non
  | .bl b, v, p, r, e => by simp only [toP] at e; cases e; rw [of_bl r]; exact .bl b
  | .int b, v, p, r, e => by simp only [toP] at e; cases e; rw [of_int r]; exact .int b
  | .str b, v, p, r, e => by simp only [toP] at e; cases e; rw [(of_str r).1]; exact .str b
  | .tup l, v, p, r, e => by
    obtain ⟨a, xs, rfl, dt, rv, _⟩ := of_tup r
    simp only [toP, Option.map_eq_some_iff] at e
    obtain ⟨ps, e1, rfl⟩ := e
    exact .tup dt.sq (dps_of l xs ps rv e1)
  | .lst l, v, p, r, e => by
    obtain ⟨a, xs, rfl, dt, rv, _⟩ := of_lst r
    simp only [toP, Option.map_eq_some_iff] at e
    obtain ⟨ps, e1, rfl⟩ := e
    exact .lst dt.sq (dps_of l xs ps rv e1)
  | .ref _, _, _, _, e => by simp only [toP] at e; cases e
  | .ty _, _, _, _, e => by simp only [toP] at e; cases e
  | .ins _ _ _, _, _, _, e => by simp only [toP] at e; cases e
  | .dic _ _, _, _, _, e => by simp only [toP] at e; cases e
theorem dps_of : ∀ (ds : List D) (xs : List V) (ps : List PyData), RepVs K H S xs ds → toPs ds = some ps → DpAll K H xs ps
  | [], xs, ps, r, e => by simp only [toPs] at e; cases e; rw [RepVs.nil_iff.mp r]; exact .nil
  | d :: ds, xs, ps, r, e => by
    simp only [RepVs] at r
    obtain ⟨x, xr, rfl, r1, r2⟩ := r
    simp only [toPs] at e
    split at e
    · rename_i p ps' e1 e2
      cases e
      exact .cons (dp_of d x p r1 e1) (dps_of ds xr ps' r2 e2)
    · cases e
end
/-- .. a list of the store too -/
def toPS (S : DS) (d : D) : Option PyData := match d with
  | .ref p => match S p with
    | some (.lst l) => (toPs l).map .list
    | _ => none
  | d => toP d
theorem dpS_of {d : D} {v : V} {p : PyData} (rs : RepS K H S) (r : RepV K H S v d) (e : toPS S d = some p) : Dp K H v p := by
  unfold toPS at e
  split at e
  · rename_i a
    split at e
    · rename_i l hl
      obtain ⟨xs, e1, rv, _⟩ := rs a _ hl
      simp only [Option.map_eq_some_iff] at e
      obtain ⟨ps, e2, rfl⟩ := e
      rw [of_ref r]
      exact .lst (SqL.of e1) (dps_of l xs ps rv e2)
    · cases e
  · exact dp_of _ _ _ r e
def oEq : DO2 := fun x y S Q => ∃ p q, toPS S x = some p ∧ toPS S y = some q ∧ SeqAt.shaped p = true ∧ SeqAt.shaped q = true ∧ Q (.bl (PyData.eqv p q)) S
def oNe : DO2 := fun x y S Q => ∃ p q, toPS S x = some p ∧ toPS S y = some q ∧ SeqAt.shaped p = true ∧ SeqAt.shaped q = true ∧ Q (.bl (!PyData.eqv p q)) S
theorem od_eq : OpD K (rEqD K) oEq := fun H S v u x y Q Qd rs rx ry ⟨p, q, e1, e2, s1, s2, h⟩ k => ⟨p, q, dpS_of rs rx e1, dpS_of rs ry e2, s1, s2, k.here rs rep_bl h⟩
theorem od_ne : OpD K (rNeD K) oNe := fun H S v u x y Q Qd rs rx ry ⟨p, q, e1, e2, s1, s2, h⟩ k => ⟨p, q, dpS_of rs rx e1, dpS_of rs ry e2, s1, s2, k.here rs rep_bl h⟩
/-- ints, texts, bools by themselves -/
def oEqS (neg : Bool) : DO2 := fun x y S Q => match x, y with
  | .int i, .int j => Q (.bl (neg != decide (i = j))) S
  | .str i, .str j => Q (.bl (neg != decide (i = j))) S
  | .bl i, .bl j => Q (.bl (neg != decide (i = j))) S
  | _, _ => False
theorem rep_bl' {b c : Bool} (e : b = c) : RepV K H S (.bl b) (.bl c) := by subst e; exact rep_bl
theorem od_eqS : OpD K rEq (oEqS false) := fun H S v u x y Q Qd rs rx ry h k => by
  unfold oEqS at h
  split at h
  · rw [of_int rx, of_int ry]; exact ⟨rfl, k.here rs (rep_bl' (by simp)) h⟩
  · rw [(of_str rx).1, (of_str ry).1]; exact ⟨rfl, k.here rs (rep_bl' (by simp)) h⟩
  · rw [of_bl rx, of_bl ry]; exact ⟨rfl, k.here rs (rep_bl' (by simp)) h⟩
  · exact h.elim
theorem od_neS : OpD K rNe (oEqS true) := fun H S v u x y Q Qd rs rx ry h k => by
  unfold oEqS at h
  split at h
  · rw [of_int rx, of_int ry]; exact ⟨rfl, k.here rs (rep_bl' (by simp)) h⟩
  · rw [(of_str rx).1, (of_str ry).1]; exact ⟨rfl, k.here rs (rep_bl' (by simp)) h⟩
  · rw [of_bl rx, of_bl ry]; exact ⟨rfl, k.here rs (rep_bl' (by simp)) h⟩
  · exact h.elim
/-- is None -/
def isNon : D → Bool
  | .non => true
  | _ => false
theorem isNon_v {v : V} {d : D} (r : RepV K H S v d) : decide (v = .non) = isNon d := by
  cases d with
  | non => rw [of_non r]; rfl
  | bl b => rw [of_bl r]; rfl
  | int b => rw [of_int r]; rfl
  | str b => rw [(of_str r).1]; rfl
  | ref a => rw [of_ref r]; rfl
  | ty n => simp only [RepV] at r; rw [r]; rfl
  | tup l => obtain ⟨a, xs, rfl, _⟩ := of_tup r; rfl
  | lst l => obtain ⟨a, xs, rfl, _⟩ := of_lst r; rfl
  | ins C ns vs => simp only [RepV] at r; obtain ⟨a, _, _, rfl, _⟩ := r; rfl
  | dic ks vs => simp only [RepV] at r; obtain ⟨a, _, rfl, _⟩ := r; rfl
def oIsN (neg : Bool) : DO2 := fun x y S Q => match y with
  | .non => Q (.bl (neg != isNon x)) S
  | _ => False
theorem od_isN : OpD K (fun x y H Q => y = .non ∧ Q (.bl (decide (x = .non))) H) (oIsN false) := fun H S v u x y Q Qd rs rx ry h k => by
  unfold oIsN at h
  split at h
  · exact ⟨of_non ry, k.here rs (rep_bl' (by rw [isNon_v rx, Bool.false_bne])) h⟩
  · exact h.elim
theorem od_notN : OpD K (fun x y H Q => y = .non ∧ Q (.bl (!decide (x = .non))) H) (oIsN true) := fun H S v u x y Q Qd rs rx ry h k => by
  unfold oIsN at h
  split at h
  · exact ⟨of_non ry, k.here rs (rep_bl' (by rw [isNon_v rx, Bool.true_bne])) h⟩
  · exact h.elim
def oAddS : DO2 := fun x y S Q => match x, y with
  | .str i, .str j => i.length + j.length ≤ sizeLine ∧ Q (.str (i ++ j)) S
  | _, _ => False
theorem len_app (i j : Str) : (i ++ j).length = i.length + j.length := by
  show (Str.append i j).length = _
  simp [Str.append, Str.length]
theorem od_addS : OpD K (fun x y H Q => ∃ i j, x = .str i ∧ y = .str j ∧ i.length + j.length ≤ sizeLine ∧ Q (.str (i ++ j)) H) oAddS := fun H S v u x y Q Qd rs rx ry h k => by
  unfold oAddS at h
  split at h
  · exact ⟨_, _, (of_str rx).1, (of_str ry).1, h.1, k.here rs (rep_str (by rw [len_app]; exact h.1)) h.2⟩
  · exact h.elim
def oInS (neg : Bool) : DO2 := fun x y S Q => match x, y with
  | .str i, .str j => Q (.bl (neg != !(Builtin.Str.occurrences j i 0 j.length 1).isEmpty)) S
  | _, _ => False
theorem od_inS : OpD K (fun x y H Q => ∃ i j, x = .str i ∧ y = .str j ∧ Q (.bl (!(Builtin.Str.occurrences j i 0 j.length 1).isEmpty)) H) (oInS false) := fun H S v u x y Q Qd rs rx ry h k => by
  unfold oInS at h
  split at h
  · rw [Bool.false_bne] at h; exact ⟨_, _, (of_str rx).1, (of_str ry).1, k.here rs rep_bl h⟩
  · exact h.elim
theorem od_notInS : OpD K (fun x y H Q => ∃ i j, x = .str i ∧ y = .str j ∧ Q (.bl (!(!(Builtin.Str.occurrences j i 0 j.length 1).isEmpty))) H) (oInS true) := fun H S v u x y Q Qd rs rx ry h k => by
  unfold oInS at h
  split at h
  · rw [Bool.true_bne] at h; exact ⟨_, _, (of_str rx).1, (of_str ry).1, k.here rs rep_bl h⟩
  · exact h.elim
theorem repVs_nil {xs : List V} {ds : List D} (r : RepVs K H S xs ds) : (xs = [] ↔ ds = []) := by
  have e := r.length
  constructor
  · intro z; rw [z] at e; exact List.length_eq_zero_iff.mp e.symm
  · intro z; rw [z] at e; exact List.length_eq_zero_iff.mp e
def oCatT : DO2 := fun x y S Q => match x, y with
  | .tup l, .tup m => l.length + m.length ≤ sizeLine ∧ Q (.tup (l ++ m)) S
  | _, _ => False
theorem od_catT : OpD K (rCatA K) oCatT := fun H S v u x y Q Qd rs rx ry h k => by
  unfold oCatT at h
  split at h
  · rename_i l m
    obtain ⟨a, xs, rfl, d1, r1, _⟩ := of_tup rx
    obtain ⟨b, ys, rfl, d2, r2, _⟩ := of_tup ry
    refine ⟨a, b, xs, ys, rfl, rfl, d1.sq, d2.sq, by rw [r1.length, r2.length]; exact h.1, fun z => ?_, fun _ z => ?_, fun _ _ p hp => ?_⟩
    · have e := (repVs_nil r1).mp z
      subst e
      exact k.here rs ry h.2
    · have e := (repVs_nil r2).mp z
      subst e
      exact k.here rs rx (by have := h.2; rwa [List.append_nil] at this)
    · exact k.tup rs hp (RepVs.append r1 r2) (by rw [List.length_append]; exact h.1) h.2
  · exact h.elim
/-- two lists of the store -/
def oCatM : DO2 := fun x y S Q => match x, y with
  | .ref p, .ref q => ∃ l m, S p = some (.lst l) ∧ S q = some (.lst m) ∧ l.length + m.length ≤ sizeLine ∧ Q (.lst (l ++ m)) S
  | _, _ => False
theorem od_catM : OpD K rCat oCatM := fun H S v u x y Q Qd rs rx ry h k => by
  unfold oCatM at h
  split at h
  · rename_i a b
    obtain ⟨l, m, e1, e2, z, q⟩ := h
    obtain ⟨xs, h1, r1, _⟩ := rs a _ e1
    obtain ⟨ys, h2, r2, _⟩ := rs b _ e2
    exact ⟨a, b, xs, ys, of_ref rx, of_ref ry, h1, h2, by rw [r1.length, r2.length]; exact z, fun p hp => k.lst rs hp (RepVs.append r1 r2) (by rw [List.length_append]; exact z) q⟩
  · exact h.elim
theorem atI_rep {xs : List V} {ds : List D} {i : Int} {d : D} (r : RepVs K H S xs ds) (e : atI ds i = some d) : ∃ v, atI xs i = some v ∧ RepV K H S v d := by
  unfold atI at e ⊢
  rw [r.length]
  cases q : ixN ds.length i with
  | none => rw [q] at e; cases e
  | some j =>
    rw [q] at e
    obtain ⟨v, e1, e2⟩ := r.get (i := j) (d := d) e
    exact ⟨v, e1, e2⟩
def oIx : DO2 := fun x y S Q => match x, y with
  | .tup l, .int i => ∃ d, atI l i = some d ∧ Q d S
  | .lst l, .int i => ∃ d, atI l i = some d ∧ Q d S
  | .ref p, .int i => ∃ l d, S p = some (.lst l) ∧ atI l i = some d ∧ Q d S
  | .str z, .int i => ∃ c, atI z.cps.toList i = some c ∧ Q (.str ⟨#[c]⟩) S
  | _, _ => False
theorem one_len (c : Nat) : (⟨#[c]⟩ : Str).length ≤ sizeLine := by
  show 1 ≤ sizeLine
  rw [sizeLine_eq]; decide
theorem od_ix : OpD K (rIx K) oIx := fun H S v u x y Q Qd rs rx ry h k => by
  unfold oIx at h
  split at h
  · obtain ⟨d, e, q⟩ := h
    obtain ⟨a, xs, rfl, d1, r1, _⟩ := of_tup rx
    obtain ⟨w, e1, e2⟩ := atI_rep r1 e
    exact .inr (.inl ⟨a, xs, _, w, rfl, of_int ry, d1.sq, e1, k.here rs e2 q⟩)
  · obtain ⟨d, e, q⟩ := h
    obtain ⟨a, xs, rfl, d1, r1, _⟩ := of_lst rx
    obtain ⟨w, e1, e2⟩ := atI_rep r1 e
    exact .inl ⟨a, xs, _, w, rfl, of_int ry, d1.sq, e1, k.here rs e2 q⟩
  · obtain ⟨l, d, e0, e, q⟩ := h
    obtain ⟨xs, h1, r1, _⟩ := rs _ _ e0
    obtain ⟨w, e1, e2⟩ := atI_rep r1 e
    exact .inl ⟨_, xs, _, w, of_ref rx, of_int ry, SqL.of h1, e1, k.here rs e2 q⟩
  · obtain ⟨c, e, q⟩ := h
    exact .inr (.inr ⟨_, _, c, (of_str rx).1, of_int ry, (of_str rx).2, e, k.here rs (rep_str (one_len c)) q⟩)
  · exact h.elim
end
section
variable {X : Cx} {B : DB} {a b e : Expr} {es : List Expr} {ta tb t : DTm} {ts : List DTm} {pos p2 : Pos}
theorem de_ix (ha : DE X B a ta) (hb : DE X B b tb) (hs : PlainIx b := by exact fun _ _ => rfl) : DE X B (.Subscript a b pos) (dOp oIx ta tb) := PE.imp (pe_ix ix_seq ha hb hs) fun _ _ _ h => lift_op od_ix h
def cutD {α : Type} (xs : List α) (lo hi : Option Int) : List α := (xs.drop (HT.sIx xs.length 0 lo)).take (HT.sIx xs.length xs.length hi - HT.sIx xs.length 0 lo)
abbrev DTo := DEnv → DS → (Option Int → DS → Prop) → Prop
def liftO (K : PySem.W.Frag) (B : DB) (t : DTo) : TO := fun σ H Q => ∃ ρ S Qd, Std K B H S σ ρ ∧ t ρ S Qd ∧ ∀ o H' S', Frm H S H' S' → RepS K H' S' → Qd o S' → Q o H'
def dNoP : DTo := fun _ S Q => Q none S
def dPart (t : DTm) : DTo := fun ρ S Q => t ρ S fun d S1 => match d with
  | .int i => Q (some i) S1
  | _ => False
theorem PO.imp {X : Cx} {e : Option Expr} {t t' : TO} (h : PO X e t) (i : ∀ σ H Q, t' σ H Q → t σ H Q) : PO X e t' := ⟨fun pins s σ H Q I q => h.run pins s σ H Q I (i σ H Q q)⟩
theorem do_none : PO X none (liftO X.K B dNoP) := PO.imp po_none fun σ H Q ⟨ρ, S, Qd, st, q, k⟩ => k _ _ _ (Frm.refl _ _) st.st q
theorem do_some (h : DE X B e t) : PO X (some e) (liftO X.K B (dPart t)) := PO.imp (po_some h) fun σ H Q ⟨ρ, S, Qd, st, q, k⟩ => ⟨ρ, S, _, st, q, fun v H1 d S1 f1 r1 v1 q1 => by
  split at q1
  · exact ⟨_, of_int v1, k _ _ _ f1 r1 q1⟩
  · exact q1.elim⟩
def dSl (t : DTm) (tl th : DTo) (ρ : DEnv) (S : DS) (Q : DQ) : Prop := t ρ S fun x S1 => tl ρ S1 fun lo S2 => th ρ S2 fun hi S3 => match x with
  | .str z => Q (.str (cutS z lo hi)) S3
  | .tup l => Q (.tup (cutD l lo hi)) S3
  | .lst l => Q (.lst (cutD l lo hi)) S3
  | .ref p => ∃ l, S3 p = some (.lst l) ∧ Q (.lst (cutD l lo hi)) S3
  | _ => False
theorem cutD_len {α : Type} (xs : List α) (lo hi : Option Int) : (cutD xs lo hi).length ≤ xs.length := by
  unfold cutD; rw [List.length_take, List.length_drop]; omega
theorem cutS_len (z : Str) (lo hi : Option Int) : (cutS z lo hi).length ≤ z.length := by
  have h := cutD_len z.cps.toList lo hi
  show (List.toArray _).size ≤ z.cps.size
  unfold cutD at h
  have e : z.length = z.cps.size := rfl
  rw [e]
  simpa using h
theorem cutV_rep {K : PySem.W.Frag} {H : Hp} {S : DS} {xs : List V} {ds : List D} (r : RepVs K H S xs ds) (lo hi : Option Int) : RepVs K H S (cutV xs lo hi) (cutD ds lo hi) := by
  unfold cutV cutD
  rw [r.length]
  exact (r.drop _).take _
theorem cutD_whole {α : Type} {xs : List α} {lo hi : Option Int} (h : HT.sIx xs.length 0 lo = 0 ∧ HT.sIx xs.length xs.length hi = xs.length) : cutD xs lo hi = xs := by
  unfold cutD; rw [h.1, h.2]; simp
theorem de_slice {lo hi : Option Expr} {tl th : DTo} (ha : DE X B a ta) (hl : PO X lo (liftO X.K B tl)) (hu : PO X hi (liftO X.K B th)) : DE X B (.Subscript a (.Slice lo hi none p2) pos) (dSl ta tl th) := PE.imp (pe_slice (sl_str.or (sl_tupA.or sl_list)) ha hl hu) fun σ H Q ⟨ρ, S, Qd, st, q, k⟩ => by
  refine ⟨ρ, S, _, st, q, fun v H1 x S1 f1 r1 v1 q1 => ?_⟩
  refine ⟨ρ, S1, _, st.next f1 r1, q1, fun o H2 S2 f2 r2 q2 => ?_⟩
  refine ⟨ρ, S2, _, (st.next f1 r1).next f2 r2, q2, fun o' H3 S3 f3 r3 q3 => ?_⟩
  have v3 := RepV.frm (f2.trans f3) _ _ v1
  have kk := k.next ((f1.trans f2).trans f3)
  split at q3
  · exact .inl ⟨_, (of_str v3).1, (of_str v3).2, kk.here r3 (rep_str (Nat.le_trans (cutS_len _ _ _) (of_str v3).2)) q3⟩
  · obtain ⟨p, xs, rfl, dt, rv, z⟩ := of_tup v3
    refine .inr (.inl ⟨p, xs, rfl, dt.sq, fun w => ?_, fun _ l hl => ?_⟩)
    · rw [rv.length] at w
      rw [cutD_whole w] at q3
      exact kk.here r3 v3 q3
    · exact kk.tup r3 hl (cutV_rep rv _ _) (Nat.le_trans (cutD_len _ _ _) z) q3
  · obtain ⟨p, xs, rfl, dt, rv, z⟩ := of_lst v3
    exact .inr (.inr ⟨p, xs, rfl, dt.sq, fun l hl => kk.lst r3 hl (cutV_rep rv _ _) (Nat.le_trans (cutD_len _ _ _) z) q3⟩)
  · obtain ⟨l, e, q3⟩ := q3
    obtain ⟨xs, h1, rv, z⟩ := r3 _ _ e
    exact .inr (.inr ⟨_, xs, of_ref v3, SqL.of h1, fun l hl => kk.lst r3 hl (cutV_rep rv _ _) (Nat.le_trans (cutD_len _ _ _) z) q3⟩)
  · exact q3.elim
end
section
variable {K : PySem.W.Frag}
def tyName (S : DS) : D → Option String
  | .non => some "NoneType"
  | .bl _ => some "bool"
  | .int _ => some "int"
  | .str _ => some "str"
  | .tup _ => some "tuple"
  | .lst _ => some "list"
  | .dic _ _ => some "dict"
  | .ref p => match S p with
    | some (.lst _) => some "list"
    | some (.dic _) => some "dict"
    | _ => none
  | _ => none
theorem ty_of {H : Hp} {S : DS} {v : V} {d : D} {n : String} (rs : RepS K H S) (r : RepV K H S v d) (e : tyName S d = some n) : TyX K H v (.type n) := by
  have tl : ∀ {a xs}, Rd H a (.lst xs) → TyX K H (.ref a) (.type "list") := fun {a xs} h => by
    rcases h with h | ⟨o, h⟩
    · exact .base (.lst h)
    · exact .base (.frz h)
  cases d with
  | non => simp only [tyName] at e; cases e; rw [of_non r]; exact .base .non
  | bl b => simp only [tyName] at e; cases e; rw [of_bl r]; exact .base (.bl b)
  | int b => simp only [tyName] at e; cases e; rw [of_int r]; exact .base (.int b)
  | str b => simp only [tyName] at e; cases e; rw [(of_str r).1]; exact .base (.str b)
  | tup l =>
    simp only [tyName] at e; cases e
    obtain ⟨a, xs, rfl, dt, rv, _⟩ := of_tup r
    rcases dt with ⟨h, _⟩ | ⟨o, its, m, e1, e2, _⟩
    · rcases h with h | ⟨o, h⟩
      · exact .base (.tup h)
      · exact .fTuple h
    · exact .kTuple e1 e2
  | lst l =>
    simp only [tyName] at e; cases e
    obtain ⟨a, xs, rfl, dt, rv, _⟩ := of_lst r
    rcases dt with ⟨h, _⟩ | ⟨o, its, m, e1, e2, _⟩
    · exact tl h
    · exact .kList e1 e2
  | dic ks vs =>
    simp only [tyName] at e; cases e
    simp only [RepV] at r
    obtain ⟨a, kvs, rfl, h, _⟩ := r
    rcases h with h | ⟨o, h⟩
    · exact .base (.dK h)
    · exact .fDict h
  | ref p =>
    simp only [tyName] at e
    rw [of_ref r]
    split at e
    · rename_i l hl
      cases e
      obtain ⟨xs, h1, _⟩ := rs p _ hl
      exact .base (.lst h1)
    · rename_i l hl
      cases e
      obtain ⟨xs, h1, _⟩ := rs p _ hl
      exact .base (.dK h1)
    · cases e
  | ty n => simp only [tyName] at e; cases e
  | ins C ns vs => simp only [tyName] at e; cases e
/-- isinstance(x, a built-in class) -/
def oIsi : DCl := fun ds S Q => match ds with
  | [x, .ty n] => ∃ a b, tyName S x = some a ∧ kitB a n = some b ∧ Q (.bl b) S
  | _ => False
theorem cd_isi : ClD K (rIsi K) oIsi := fun H S vs ds Q Qd rs rv h k => by
  unfold oIsi at h
  split at h
  · rename_i x n
    obtain ⟨a, b, e1, e2, q⟩ := h
    obtain ⟨v, w, rfl, r1, r2⟩ := of_vs2 rv
    simp only [RepV] at r2
    subst r2
    exact ⟨v, .ty n, .type a, .type n, b, rfl, .ty n, ty_of rs r1 e1, kit_ty e2, k.here rs rep_bl q⟩
  · exact h.elim
def oLen : DCl := fun ds S Q => match ds with
  | [.str x] => Q (.int x.length) S
  | [.tup l] => Q (.int l.length) S
  | [.lst l] => Q (.int l.length) S
  | [.ref p] => ∃ l, S p = some (.lst l) ∧ Q (.int l.length) S
  | _ => False
theorem cd_len : ClD K (fun xs H Q => ∃ x n, xs = [x] ∧ LenV K x H n ∧ Q (.int n) H) oLen := fun H S vs ds Q Qd rs rv h k => by
  unfold oLen at h
  split at h
  · obtain ⟨v, rfl, r⟩ := of_vs1 rv
    obtain ⟨rfl, z⟩ := of_str r
    exact ⟨_, _, rfl, ⟨z, rfl⟩, k.here rs rep_int h⟩
  · obtain ⟨v, rfl, r⟩ := of_vs1 rv
    obtain ⟨a, xs, rfl, dt, r1, z⟩ := of_tup r
    exact ⟨_, xs.length, rfl, .inr ⟨xs, dt.sq, rfl⟩, k.here rs (by rw [r1.length]; exact rep_int) h⟩
  · obtain ⟨v, rfl, r⟩ := of_vs1 rv
    obtain ⟨a, xs, rfl, dt, r1, z⟩ := of_lst r
    exact ⟨_, xs.length, rfl, .inl ⟨xs, dt.sq, rfl⟩, k.here rs (by rw [r1.length]; exact rep_int) h⟩
  · obtain ⟨v, rfl, r⟩ := of_vs1 rv
    obtain ⟨l, e, q⟩ := h
    obtain ⟨xs, h1, r1, _⟩ := rs _ _ e
    rw [of_ref r]
    exact ⟨_, xs.length, rfl, .inl ⟨xs, SqL.of h1, rfl⟩, k.here rs (by rw [r1.length]; exact rep_int) q⟩
  · exact h.elim
theorem reps_bl {H : Hp} {S : DS} : ∀ {bs : List Bool} {xs : List V}, RepVs K H S xs (bs.map D.bl) → xs = bs.map V.bl
  | [], xs, r => RepVs.nil_iff.mp r
  | b :: bs, xs, r => by
    simp only [List.map_cons, RepVs] at r
    obtain ⟨x, xr, rfl, r1, r2⟩ := r
    rw [of_bl r1, reps_bl r2]; rfl
theorem reps_int {H : Hp} {S : DS} : ∀ {bs : List Int} {xs : List V}, RepVs K H S xs (bs.map D.int) → xs = bs.map V.int
  | [], xs, r => RepVs.nil_iff.mp r
  | b :: bs, xs, r => by
    simp only [List.map_cons, RepVs] at r
    obtain ⟨x, xr, rfl, r1, r2⟩ := r
    rw [of_int r1, reps_int r2]; rfl
theorem reps_str {H : Hp} {S : DS} : ∀ {bs : List Str} {xs : List V}, RepVs K H S xs (bs.map D.str) → xs = bs.map V.str
  | [], xs, r => RepVs.nil_iff.mp r
  | b :: bs, xs, r => by
    simp only [List.map_cons, RepVs] at r
    obtain ⟨x, xr, rfl, r1, r2⟩ := r
    rw [(of_str r1).1, reps_str r2]; rfl
theorem ints_rep {H : Hp} {S : DS} : ∀ (bs : List Int), RepVs K H S (bs.map V.int) (bs.map D.int)
  | [] => RepVs.nil
  | b :: bs => RepVs.cons rep_int (ints_rep bs)
def oAll : DCl := fun ds S Q => match ds with
  | [.lst l] => ∃ bs : List Bool, l = bs.map D.bl ∧ Q (.bl (bs.all id)) S
  | _ => False
def oAny : DCl := fun ds S Q => match ds with
  | [.lst l] => ∃ bs : List Bool, l = bs.map D.bl ∧ Q (.bl (bs.any id)) S
  | _ => False
theorem cd_all : ClD K (rAll K) oAll := fun H S vs ds Q Qd rs rv h k => by
  unfold oAll at h
  split at h
  · obtain ⟨v, rfl, r⟩ := of_vs1 rv
    obtain ⟨a, xs, rfl, dt, r1, z⟩ := of_lst r
    obtain ⟨bs, rfl, q⟩ := h
    rw [reps_bl r1] at dt
    exact ⟨a, bs, rfl, dt.sq, k.here rs rep_bl q⟩
  · exact h.elim
theorem cd_any : ClD K (rAny K) oAny := fun H S vs ds Q Qd rs rv h k => by
  unfold oAny at h
  split at h
  · obtain ⟨v, rfl, r⟩ := of_vs1 rv
    obtain ⟨a, xs, rfl, dt, r1, z⟩ := of_lst r
    obtain ⟨bs, rfl, q⟩ := h
    rw [reps_bl r1] at dt
    exact ⟨a, bs, rfl, dt.sq, k.here rs rep_bl q⟩
  · exact h.elim
def oTuple : DCl := fun ds S Q => match ds with
  | [.tup l] => Q (.tup l) S
  | [.lst l] => Q (.tup l) S
  | [.ref p] => ∃ l, S p = some (.lst l) ∧ Q (.tup l) S
  | _ => False
theorem cd_tuple : ClD K (fun xs H Q => ∃ p ys, xs = [.ref p] ∧ ((SqL K H p ys ∧ ∀ l, H l = none → Q (.ref l) (upd H l (.tup ys))) ∨ (SqT K H p ys ∧ Q (.ref p) H))) oTuple := fun H S vs ds Q Qd rs rv h k => by
  unfold oTuple at h
  split at h
  · obtain ⟨v, rfl, r⟩ := of_vs1 rv
    have r' := r
    obtain ⟨a, xs, rfl, dt, r1, z⟩ := of_tup r
    exact ⟨a, xs, rfl, .inr ⟨dt.sq, k.here rs r' h⟩⟩
  · obtain ⟨v, rfl, r⟩ := of_vs1 rv
    obtain ⟨a, xs, rfl, dt, r1, z⟩ := of_lst r
    exact ⟨a, xs, rfl, .inl ⟨dt.sq, fun l hl => k.tup rs hl r1 z h⟩⟩
  · obtain ⟨v, rfl, r⟩ := of_vs1 rv
    obtain ⟨l, e, q⟩ := h
    obtain ⟨xs, h1, r1, z⟩ := rs _ _ e
    rw [of_ref r]
    exact ⟨_, xs, rfl, .inl ⟨SqL.of h1, fun l hl => k.tup rs hl r1 z q⟩⟩
  · exact h.elim
/-- list(x): told as data; as a list that is changed -/
def itemsS (S : DS) : D → Option (List D)
  | .tup l => some l
  | .lst l => some l
  | .ref p => match S p with
    | some (.lst l) => some l
    | _ => none
  | _ => none
def oList : DCl := fun ds S Q => match ds with
  | [x] => ∃ l, itemsS S x = some l ∧ Q (.lst l) S
  | _ => False
def oListM : DCl := fun ds S Q => match ds with
  | [x] => ∃ l, itemsS S x = some l ∧ ∀ p, S p = none → Q (.ref p) (sup S p (.lst l))
  | _ => False
theorem items_rep {H : Hp} {S : DS} {v : V} {x : D} {l : List D} (rs : RepS K H S) (r : RepV K H S v x) (e : itemsS S x = some l) : ∃ a xs, v = .ref a ∧ (SqL K H a xs ∨ SqT K H a xs) ∧ RepVs K H S xs l ∧ l.length ≤ sizeLine := by
  unfold itemsS at e
  split at e
  · cases e
    obtain ⟨a, xs, rfl, dt, r1, z⟩ := of_tup r
    exact ⟨a, xs, rfl, .inr dt.sq, r1, z⟩
  · cases e
    obtain ⟨a, xs, rfl, dt, r1, z⟩ := of_lst r
    exact ⟨a, xs, rfl, .inl dt.sq, r1, z⟩
  · split at e
    · rename_i hl
      cases e
      obtain ⟨xs, h1, r1, z⟩ := rs _ _ hl
      exact ⟨_, xs, of_ref r, .inl (SqL.of h1), r1, z⟩
    · cases e
  · cases e
theorem cd_list : ClD K (fun xs H Q => ∃ p ys, xs = [.ref p] ∧ (SqL K H p ys ∨ SqT K H p ys) ∧ ∀ l, H l = none → Q (.ref l) (upd H l (.lst ys))) oList := fun H S vs ds Q Qd rs rv h k => by
  unfold oList at h
  split at h
  · obtain ⟨l, e, q⟩ := h
    obtain ⟨v, rfl, r⟩ := of_vs1 rv
    obtain ⟨a, xs, rfl, s, r1, z⟩ := items_rep rs r e
    exact ⟨a, xs, rfl, s, fun l hl => k.lst rs hl r1 z q⟩
  · exact h.elim
theorem cd_listM : ClD K (fun xs H Q => ∃ p ys, xs = [.ref p] ∧ (SqL K H p ys ∨ SqT K H p ys) ∧ ∀ l, H l = none → Q (.ref l) (upd H l (.lst ys))) oListM := fun H S vs ds Q Qd rs rv h k => by
  unfold oListM at h
  split at h
  · obtain ⟨l, e, q⟩ := h
    obtain ⟨v, rfl, r⟩ := of_vs1 rv
    obtain ⟨a, xs, rfl, s, r1, z⟩ := items_rep rs r e
    exact ⟨a, xs, rfl, s, fun l hl => k.lstM rs hl r1 z q⟩
  · exact h.elim
def oStrI : DCl := fun ds S Q => match ds with
  | [.int i] => i.natAbs.log2 < 1920 ∧ ((toString i : String) : Str).length ≤ sizeLine ∧ Q (.str ((toString i : String) : Str)) S
  | _ => False
theorem cd_strI : ClD K (fun xs H Q => ∃ i : Int, xs = [.int i] ∧ i.natAbs.log2 < 1920 ∧ Q (.str ((toString i : String) : Str)) H) oStrI := fun H S vs ds Q Qd rs rv h k => by
  unfold oStrI at h
  split at h
  · obtain ⟨v, rfl, r⟩ := of_vs1 rv
    rw [of_int r]
    exact ⟨_, rfl, h.1, k.here rs (rep_str h.2.1) h.2.2⟩
  · exact h.elim
/-- the greatest, the least of ints -/
def oMax : DCl := fun ds S Q => match ds with
  | [.lst l] => ∃ ns : List Int, l = ns.map D.int ∧ 0 < ns.length ∧ ∀ m, m ∈ ns → (∀ y, y ∈ ns → y ≤ m) → Q (.int m) S
  | _ => False
def oMin : DCl := fun ds S Q => match ds with
  | [.lst l] => ∃ ns : List Int, l = ns.map D.int ∧ 0 < ns.length ∧ ∀ m, m ∈ ns → (∀ y, y ∈ ns → m ≤ y) → Q (.int m) S
  | _ => False
theorem cd_max : ClD K (rMax K) oMax := fun H S vs ds Q Qd rs rv h k => by
  unfold oMax at h
  split at h
  · obtain ⟨v, rfl, r⟩ := of_vs1 rv
    obtain ⟨a, xs, rfl, dt, r1, z⟩ := of_lst r
    obtain ⟨ns, rfl, z2, q⟩ := h
    rw [reps_int r1] at dt
    exact ⟨a, ns, rfl, dt.sq, z2, fun m h1 h2 => k.here rs rep_int (q m h1 h2)⟩
  · exact h.elim
theorem cd_min : ClD K (rMin K) oMin := fun H S vs ds Q Qd rs rv h k => by
  unfold oMin at h
  split at h
  · obtain ⟨v, rfl, r⟩ := of_vs1 rv
    obtain ⟨a, xs, rfl, dt, r1, z⟩ := of_lst r
    obtain ⟨ns, rfl, z2, q⟩ := h
    rw [reps_int r1] at dt
    exact ⟨a, ns, rfl, dt.sq, z2, fun m h1 h2 => k.here rs rep_int (q m h1 h2)⟩
  · exact h.elim
end
end DL

namespace DL
open PySem PySem.Spec PyProof.Rows L2

abbrev DM := D → List D → DS → DQ → Prop
def MtD (K : PySem.W.Frag) (T : String) (chk : D → DS → Prop) (r : V → List V → Hp → VK → Prop) (o : DM) : Prop :=
  (∀ H S v x, RepS K H S → RepV K H S v x → chk x S → tyV K T v H) ∧
  ∀ H S v x vs ds Q Qd, RepS K H S → RepV K H S v x → RepVs K H S vs ds → o x ds S Qd → Thn K H S Qd Q → r v vs H Q
def dBM (chk : D → DS → Prop) (o : DM) (t : DTm) (ts : List DTm) (ρ : DEnv) (S : DS) (Q : DQ) : Prop := t ρ S fun x S1 => chk x S1 ∧ dArgs ts ρ S1 fun ds S2 => o x ds S2 Q
section
variable {X : Cx} {B : DB} {o e : Expr} {es : List Expr} {t : DTm} {ts : List DTm} {name : Str} {apos cpos : Pos} {T id : String} {r : V → List V → Hp → VK → Prop} {chk : D → DS → Prop} {om : DM}
theorem de_bm0 (pa : PlainAttrs T) (slot : Slot T name id) (hty : typeOf (.builtin id) = pure (.type "method_descriptor")) (hm : MtR X id r) (hd : MtD X.K T chk r om) (ho : DE X B o t)
    (hbase : attributeBase o name X.env (eval o X.env) = eval o X.env := by rfl) (hline : (apos.endLine == cpos.line) = true := by rfl) : DE X B (.Call (.Attribute o name apos) [] [] cpos) (dBM chk om t []) := PE.imp (pe_bm0 pa slot hty hm ho hbase hline) fun σ H Q ⟨ρ, S, Qd, st, q, k⟩ =>
  ⟨ρ, S, _, st, q, fun v H1 x S1 f1 r1 v1 q1 => ⟨hd.1 _ _ _ _ r1 v1 q1.1, hd.2 _ _ _ _ _ _ _ _ r1 v1 RepVs.nil q1.2 (k.next f1)⟩⟩
theorem de_bm (pa : PlainAttrs T) (slot : Slot T name id) (hty : typeOf (.builtin id) = pure (.type "method_descriptor")) (hm : MtR X id r) (hd : MtD X.K T chk r om) (ho : DE X B o t) (ha : DA X B (e :: es) ts)
    (hbase : attributeBase o name X.env (eval o X.env) = eval o X.env := by rfl)
    (hfew : ((backTo cpos (starEach (e :: es) X.env)).all (fun x => !x.1) && (backToKw cpos (keywordEach [] X.env)).all (fun x => x.1.isSome)
      && decide ((e :: es).length + ([] : List Keyword).length + (if ([] : List Keyword).isEmpty then 0 else 1) < 30)) = true := by rfl)
    (hline : (apos.endLine == cpos.line) = true := by rfl) (hs : starEach (e :: es) X.env = (false, eval e X.env) :: starEach es X.env := by rfl) (hplain : (backTo cpos (starEach es X.env)).any (·.1) = false := by rfl) :
    DE X B (.Call (.Attribute o name apos) (e :: es) [] cpos) (dBM chk om t ts) := PE.imp (pe_bm pa slot hty hm ho ha hbase hfew hline hs hplain) fun σ H Q ⟨ρ, S, Qd, st, q, k⟩ =>
  ⟨ρ, S, _, st, q, fun v H1 x S1 f1 r1 v1 q1 => ⟨hd.1 _ _ _ _ r1 v1 q1.1, ρ, S1, _, st.next f1 r1, q1.2, fun vs H2 ds S2 f2 r2 v2 _ q2 => hd.2 _ _ _ _ _ _ _ _ r2 (RepV.frm f2 _ _ v1) v2 q2 (k.next (f1.trans f2))⟩⟩
end
section
variable {K : PySem.W.Frag}
def chkStr : D → DS → Prop := fun x _ => match x with
  | .str _ => True
  | _ => False
def chkLst : D → DS → Prop := fun x S => match x with
  | .ref p => ∃ l, S p = some (.lst l)
  | .lst _ => True
  | _ => False
theorem ty_str {H : Hp} {S : DS} {v : V} {x : D} (rs : RepS K H S) (r : RepV K H S v x) (c : chkStr x S) : tyV K "str" v H := by
  unfold chkStr at c
  split at c
  · rw [(of_str r).1]; exact rfl
  · exact c.elim
theorem ty_lst {H : Hp} {S : DS} {v : V} {x : D} (rs : RepS K H S) (r : RepV K H S v x) (c : chkLst x S) : tyV K "list" v H := by
  unfold chkLst at c
  split at c
  · obtain ⟨l, e⟩ := c
    obtain ⟨xs, h1, _⟩ := rs _ _ e
    rw [of_ref r]
    exact .inl ⟨rfl, xs, SqL.of h1⟩
  · obtain ⟨a, xs, rfl, dt, _⟩ := of_lst r
    exact .inl ⟨rfl, xs, dt.sq⟩
  · exact c.elim
theorem Thn.chgL {H : Hp} {S : DS} {Qd : DQ} {Q : VK} {p : Addr} {l m : List D} {xs : List V} {v : V} {d : D} (k : Thn K H S Qd Q) (rs : RepS K H S) (e : S p = some (.lst l)) (r : RepVs K H S xs m) (z : m.length ≤ sizeLine) (rv : RepV K H S v d)
    (q : Qd d (sup S p (.lst m))) : Q v (upd H p (.lst xs)) := by
  have f : Frm H S (upd H p (.lst xs)) (sup S p (.lst m)) := Frm.chg e
  exact k _ _ _ _ f (rs.put f ⟨xs, upd_same, RepVs.frm f _ _ r, z⟩) (RepV.frm f _ _ rv) q
def oAppend : DM := fun x ds S Q => match x, ds with
  | .ref p, [d] => ∃ l, S p = some (.lst l) ∧ l.length < sizeLine ∧ Q .non (sup S p (.lst (l ++ [d])))
  | _, _ => False
theorem md_append : MtD K "list" chkLst rAppend oAppend := ⟨fun _ _ _ _ => ty_lst, fun H S v x vs ds Q Qd rs rv rvs h k => by
  unfold oAppend at h
  split at h
  · obtain ⟨l, e, z, q⟩ := h
    obtain ⟨xs, h1, r1, _⟩ := rs _ _ e
    obtain ⟨w, rfl, r2⟩ := of_vs1 rvs
    exact ⟨_, xs, w, of_ref rv, rfl, h1, by rw [r1.length]; exact z, k.chgL rs e (RepVs.append r1 (RepVs.cons r2 RepVs.nil)) (by rw [List.length_append]; show l.length + 1 ≤ sizeLine; omega) rep_non q⟩
  · exact h.elim⟩
def oExtend : DM := fun x ds S Q => match x, ds with
  | .ref p, [.ref q] => ∃ l m, S p = some (.lst l) ∧ S q = some (.lst m) ∧ l.length + m.length ≤ sizeLine ∧ Q .non (sup S p (.lst (l ++ m)))
  | _, _ => False
theorem md_extend : MtD K "list" chkLst rExtend oExtend := ⟨fun _ _ _ _ => ty_lst, fun H S v x vs ds Q Qd rs rv rvs h k => by
  unfold oExtend at h
  split at h
  · obtain ⟨l, m, e, e2, z, q⟩ := h
    obtain ⟨xs, h1, r1, _⟩ := rs _ _ e
    obtain ⟨ys, h2, r2, _⟩ := rs _ _ e2
    obtain ⟨w, rfl, r3⟩ := of_vs1 rvs
    rw [of_ref r3]
    exact ⟨_, _, xs, ys, of_ref rv, rfl, h1, h2, by rw [r1.length, r2.length]; exact z, k.chgL rs e (RepVs.append r1 r2) (by rw [List.length_append]; exact z) rep_non q⟩
  · exact h.elim⟩
def oPop : DM := fun x ds S Q => match x, ds with
  | .ref p, [] => ∃ l d, S p = some (.lst l) ∧ l[l.length - 1]? = some d ∧ Q d (sup S p (.lst l.dropLast))
  | _, _ => False
theorem reps_dropLast {H : Hp} {S : DS} {xs : List V} {ds : List D} (r : RepVs K H S xs ds) : RepVs K H S xs.dropLast ds.dropLast := by
  rw [List.dropLast_eq_take, List.dropLast_eq_take, r.length]; exact r.take _
theorem md_pop : MtD K "list" chkLst rPop oPop := ⟨fun _ _ _ _ => ty_lst, fun H S v x vs ds Q Qd rs rv rvs h k => by
  unfold oPop at h
  split at h
  · obtain ⟨l, d, e, e2, q⟩ := h
    obtain ⟨xs, h1, r1, z⟩ := rs _ _ e
    obtain ⟨w, e3, r3⟩ := r1.get e2
    refine ⟨_, xs, w, of_ref rv, RepVs.nil_iff.mp rvs, h1, by rw [r1.length]; exact e3, k.chgL rs e (reps_dropLast r1) ?_ r3 q⟩
    rw [List.length_dropLast]; omega
  · exact h.elim⟩
def oJoin : DM := fun x ds S Q => match x, ds with
  | .str a, [.lst l] => ∃ ys : List Str, l = ys.map D.str ∧ (ys.map (·.length)).sum + ys.length * a.length ≤ 16777216 ∧ (Txt.join a ys).length ≤ sizeLine ∧ Q (.str (Txt.join a ys)) S
  | _, _ => False
theorem md_join : MtD K "str" chkStr (fun x xs H Q => ∃ a p, ∃ ys : List Str, x = .str a ∧ xs = [.ref p] ∧ (SqL K H p (ys.map V.str) ∨ SqT K H p (ys.map V.str)) ∧
    (ys.map (·.length)).sum + ys.length * a.length ≤ 16777216 ∧ Q (.str (Txt.join a ys)) H) oJoin := ⟨fun _ _ _ _ => ty_str, fun H S v x vs ds Q Qd rs rv rvs h k => by
  unfold oJoin at h
  split at h
  · obtain ⟨ys, rfl, z, z2, q⟩ := h
    obtain ⟨w, rfl, r2⟩ := of_vs1 rvs
    obtain ⟨a, xs, rfl, dt, r1, _⟩ := of_lst r2
    rw [reps_str r1] at dt
    exact ⟨_, a, ys, (of_str rv).1, rfl, .inl dt.sq, z, k.here rs (rep_str z2) q⟩
  · exact h.elim⟩
def oStrip : DM := fun x ds S Q => match x, ds with
  | .str a, [.str b] => (Txt.stripChars a b).length ≤ sizeLine ∧ Q (.str (Txt.stripChars a b)) S
  | _, _ => False
theorem md_strip : MtD K "str" chkStr (fun x xs H Q => ∃ a b, x = .str a ∧ xs = [.str b] ∧ a.length ≤ sizeLine ∧ Q (.str (Txt.stripChars a b)) H) oStrip := ⟨fun _ _ _ _ => ty_str, fun H S v x vs ds Q Qd rs rv rvs h k => by
  unfold oStrip at h
  split at h
  · obtain ⟨w, rfl, r2⟩ := of_vs1 rvs
    exact ⟨_, _, (of_str rv).1, by rw [(of_str r2).1], (of_str rv).2, k.here rs (rep_str h.1) h.2⟩
  · exact h.elim⟩
end
section
variable {X : Cx} {B : DB} {o e : Expr} {es : List Expr} {t : DTm} {ts : List DTm} {apos cpos : Pos}
def oIndexS : DM := fun x ds S Q => match x, ds with
  | .str a, [.str b] => ∃ k, Txt.index0 a b = some k ∧ Q (.int (k : Nat)) S
  | _, _ => False
theorem de_indexS (hc : X.calm = true) (ho : DE X B o t) (ha : DA X B (e :: es) ts)
    (hbase : attributeBase o "index" X.env (eval o X.env) = eval o X.env := by rfl)
    (hfew : ((backTo cpos (starEach (e :: es) X.env)).all (fun x => !x.1) && (backToKw cpos (keywordEach [] X.env)).all (fun x => x.1.isSome)
      && decide ((e :: es).length + ([] : List Keyword).length + (if ([] : List Keyword).isEmpty then 0 else 1) < 30)) = true := by rfl)
    (hline : (apos.endLine == cpos.line) = true := by rfl) (hs : starEach (e :: es) X.env = (false, eval e X.env) :: starEach es X.env := by rfl) (hplain : (backTo cpos (starEach es X.env)).any (·.1) = false := by rfl) :
    DE X B (.Call (.Attribute o "index" apos) (e :: es) [] cpos) (dBM chkStr oIndexS t ts) :=
  PE.imp (pe_bmS PySem.F.plainAttrs_str PySem.F.slot_str_index PySem.F.type_str_index (mt_indexX hc takes0) ho ha hbase hfew hline hs hplain) fun σ H Q ⟨ρ, S, Qd, st, q, k⟩ => by
  refine ⟨ρ, S, _, st, q, fun v H1 x S1 f1 r1 v1 q1 => ⟨ty_str r1 v1 q1.1, ρ, S1, _, st.next f1 r1, q1.2, fun vs H2 ds S2 f2 r2 v2 _ q2 => ?_⟩⟩
  unfold oIndexS at q2
  split at q2
  · obtain ⟨n, e, q⟩ := q2
    obtain ⟨w, rfl, rw'⟩ := of_vs1 v2
    refine ⟨_, _, (of_str v1).1, by rw [(of_str rw').1], fun k' e' => ?_, fun e' => ?_⟩
    · rw [e] at e'; cases e'
      exact (k.next (f1.trans f2)).here r2 rep_int q
    · rw [e] at e'; cases e'
  · exact q2.elim
end

def dput {α : Type} (f : Str) (v : α) : List (Str × α) → List (Str × α)
  | [] => [(f, v)]
  | (g, x) :: r => if g = f then (g, v) :: r else (g, x) :: dput f v r
section
variable {K : PySem.W.Frag} {H : Hp} {S : DS}
theorem look_rep {f : Str} {d : D} : ∀ {hs : List (Str × V)} {fs : List (Str × D)}, hs.map (·.1) = fs.map (·.1) → RepVs K H S (hs.map (·.2)) (fs.map (·.2)) → fs.lookup f = some d → ∃ v, hs.lookup f = some v ∧ RepV K H S v d
  | [], [], _, _, e => by cases e
  | [], _ :: _, h, _, _ => by simp at h
  | _ :: _, [], h, _, _ => by simp at h
  | (g, x) :: hs, (g', y) :: fs, h, r, e => by
    simp only [List.map_cons, List.cons.injEq] at h
    obtain ⟨rfl, h⟩ := h
    simp only [List.map_cons, RepVs.cons_iff] at r
    by_cases c : (f == g) = true
    · simp only [List.lookup, c] at e ⊢
      cases e
      exact ⟨x, rfl, r.1⟩
    · simp only [List.lookup, Bool.eq_false_iff.mpr c] at e ⊢
      exact look_rep h r.2 e
theorem look_none {f : Str} : ∀ {hs : List (Str × V)} {fs : List (Str × D)}, hs.map (·.1) = fs.map (·.1) → fs.lookup f = none → hs.lookup f = none
  | [], [], _, e => rfl
  | [], _ :: _, h, _ => by simp at h
  | _ :: _, [], h, _ => by simp at h
  | (g, x) :: hs, (g', y) :: fs, h, e => by
    simp only [List.map_cons, List.cons.injEq] at h
    obtain ⟨rfl, h⟩ := h
    by_cases c : (f == g) = true
    · simp only [List.lookup, c] at e; cases e
    · simp only [List.lookup, Bool.eq_false_iff.mpr c] at e ⊢
      exact look_none h e
theorem put_rep {f : Str} {v : V} {d : D} (rv : RepV K H S v d) : ∀ {hs : List (Str × V)} {fs : List (Str × D)}, hs.map (·.1) = fs.map (·.1) → RepVs K H S (hs.map (·.2)) (fs.map (·.2)) →
    (putF f v hs).map (·.1) = (dput f d fs).map (·.1) ∧ RepVs K H S ((putF f v hs).map (·.2)) ((dput f d fs).map (·.2))
  | [], [], _, _ => ⟨rfl, RepVs.cons rv RepVs.nil⟩
  | [], _ :: _, h, _ => by simp at h
  | _ :: _, [], h, _ => by simp at h
  | (g, x) :: hs, (g', y) :: fs, h, r => by
    simp only [List.map_cons, List.cons.injEq] at h
    obtain ⟨rfl, h⟩ := h
    simp only [List.map_cons, RepVs.cons_iff] at r
    show (List.map _ (if g = f then (g, v) :: hs else (g, x) :: putF f v hs)) = (List.map _ (if g = f then (g, d) :: fs else (g, y) :: dput f d fs)) ∧ RepVs K H S (List.map _ (if g = f then (g, v) :: hs else (g, x) :: putF f v hs)) (List.map _ (if g = f then (g, d) :: fs else (g, y) :: dput f d fs))
    by_cases c : g = f
    · rw [if_pos c, if_pos c]
      exact ⟨by simp [h], RepVs.cons rv r.2⟩
    · rw [if_neg c, if_neg c]
      obtain ⟨h1, h2⟩ := put_rep rv h r.2
      exact ⟨by simp [h1], RepVs.cons r.1 h2⟩
/-- the fields of an instance, of the store or not -/
def fieldsS (C : Addr) (S : DS) : D → Option (List (Str × D))
  | .ref p => match S p with
    | some (.ins C' fs) => if C' = C then some fs else none
    | _ => none
  | .ins C' ns vs => if C' = C ∧ ns.length = vs.length then some (ns.zip vs) else none
  | _ => none
theorem zip_fst : ∀ {ns : List Str} {vs : List D}, ns.length = vs.length → (ns.zip vs).map (·.1) = ns
  | [], [], _ => rfl
  | n :: ns, v :: vs, h => by simp only [List.zip_cons_cons, List.map_cons]; rw [zip_fst (by simpa using h)]
  | [], _ :: _, h => by simp at h
  | _ :: _, [], h => by simp at h
theorem zip_snd : ∀ {ns : List Str} {vs : List D}, ns.length = vs.length → (ns.zip vs).map (·.2) = vs
  | [], [], _ => rfl
  | n :: ns, v :: vs, h => by simp only [List.zip_cons_cons, List.map_cons]; rw [zip_snd (by simpa using h)]
  | [], _ :: _, h => by simp at h
  | _ :: _, [], h => by simp at h
theorem fields_rep {C : Addr} {v : V} {x : D} {fs : List (Str × D)} (rs : RepS K H S) (r : RepV K H S v x) (e : fieldsS C S x = some fs) : ∃ a dx hs, v = .ref a ∧ H a = some (.ins C dx hs) ∧ hs.map (·.1) = fs.map (·.1) ∧ RepVs K H S (hs.map (·.2)) (fs.map (·.2)) := by
  unfold fieldsS at e
  split at e
  · split at e
    · rename_i p _ C' fs' hp
      split at e
      · rename_i hC
        cases e; subst hC
        obtain ⟨dx, hs, h1, h2, h3⟩ := rs _ _ hp
        exact ⟨_, dx, hs, of_ref r, h1, h2, h3⟩
      · cases e
    · cases e
  · split at e
    · rename_i hC
      obtain ⟨rfl, hl⟩ := hC
      cases e
      simp only [RepV] at r
      obtain ⟨a, dx, hs, rfl, h1, _, h3, r1⟩ := r
      exact ⟨a, dx, hs, rfl, h1, by rw [zip_fst hl]; exact h3, by rw [zip_snd hl]; exact r1⟩
    · cases e
  · cases e
end
section
variable {X : Cx} {B : DB} {o e value : Expr} {es : List Expr} {to tv t : DTm} {ts : List DTm} {f : Str} {pos pos' tpos apos : Pos} {C : Addr}
def dFld (C : Addr) (f : Str) (t : DTm) (ρ : DEnv) (S : DS) (Q : DQ) : Prop := t ρ S fun x S1 => ∃ fs d, fieldsS C S1 x = some fs ∧ fs.lookup f = some d ∧ Q d S1
theorem de_fld (c : Cls X.K C) (n : NoAttr X.K C f) (he : DE X B e t) (hb : attributeBase e f X.env (eval e X.env) = eval e X.env := by rfl) : DE X B (.Attribute e f pos) (dFld C f t) := PE.imp (pe_fld he hb) fun σ H Q ⟨ρ, S, Qd, st, q, k⟩ =>
  ⟨ρ, S, _, st, q, fun v H1 x S1 f1 r1 v1 ⟨fs, d, e1, e2, q1⟩ => by
    obtain ⟨a, dx, hs, rfl, h1, h2, h3⟩ := fields_rep r1 v1 e1
    obtain ⟨w, e3, r3⟩ := look_rep h2 h3 e2
    exact ⟨a, C, dx, hs, w, rfl, h1, c, n, e3, (k.next f1).here r1 r3 q1⟩⟩
/-- o.f = value, o an instance of the store -/
def dFldS (C : Addr) (f : Str) (to tv : DTm) : DTs := fun D ρ S => tv ρ S fun y S1 => to ρ S1 fun x S2 => match x with
  | .ref p => ∃ fs, S2 p = some (.ins C fs) ∧ fs.length < 1000 ∧ D.nx ρ (sup S2 p (.ins C (dput f y fs)))
  | _ => False
theorem chgF {K : PySem.W.Frag} {H : Hp} {S : DS} {p : Addr} {C dx : Addr} {fs : List (Str × D)} {hs : List (Str × V)} {v : V} {d : D} (rs : RepS K H S) (e : S p = some (.ins C fs)) (h2 : hs.map (·.1) = fs.map (·.1)) (h3 : RepVs K H S (hs.map (·.2)) (fs.map (·.2))) (rv : RepV K H S v d) :
    Frm H S (upd H p (.ins C dx (putF f v hs))) (sup S p (.ins C (dput f d fs))) ∧ RepS K (upd H p (.ins C dx (putF f v hs))) (sup S p (.ins C (dput f d fs))) := by
  have fr : Frm H S (upd H p (.ins C dx (putF f v hs))) (sup S p (.ins C (dput f d fs))) := Frm.chg e
  obtain ⟨p1, p2⟩ := put_rep (f := f) rv h2 h3
  exact ⟨fr, rs.put fr ⟨dx, _, upd_same, p1, RepVs.frm fr _ _ p2⟩⟩
theorem ds_fld (c : Cls X.K C) (n : NoAttr X.K C f) (ha : DE X B o to) (hv : DE X B value tv) (hs : swapsWith value (some (.Attribute o f pos')) pos.line X.env = pure false := by rfl) : DSt X B (.Assign [.Attribute o f pos'] value pos) (dFldS C f to tv) := PS.imp (ps_fld ha hv hs) fun E σ H ⟨ρ, S, Dd, st, q, k⟩ => by
  refine ⟨ρ, S, _, st, q, fun y H1 yd S1 f1 r1 v1 q1 => ⟨ρ, S1, _, st.next f1 r1, q1, fun x H2 xd S2 f2 r2 v2 q2 => ?_⟩⟩
  split at q2
  · rename_i p
    obtain ⟨fs, e, z, q2⟩ := q2
    obtain ⟨dx, hs', h1, h2, h3⟩ := r2 _ _ e
    obtain ⟨fr, rs'⟩ := chgF (f := f) (dx := dx) r2 e h2 h3 (RepV.frm f2 _ _ v1)
    have hl : hs'.length = fs.length := by have := congrArg List.length h2; simpa using this
    exact ⟨p, C, dx, hs', of_ref v2, h1, c, n, by rw [hl]; exact z, k.nx _ _ _ _ ((f1.trans f2).trans fr) rs' (st.env.frm ((f1.trans f2).trans fr)) q2⟩
  · exact q2.elim
/-- o.f op= value, o an instance of the store -/
def dFldA (C : Addr) (f : Str) (op : DO2) (to tv : DTm) : DTs := fun D ρ S => to ρ S fun x S1 => match x with
  | .ref p => ∃ fs d, S1 p = some (.ins C fs) ∧ fs.lookup f = some d ∧ tv ρ S1 fun y S2 => op d y S2 fun z S3 => ∃ fs', S3 p = some (.ins C fs') ∧ fs'.length < 1000 ∧ D.nx ρ (sup S3 p (.ins C (dput f z fs')))
  | _ => False
theorem ds_fldA {op : Operator} {rd : V → V → Hp → VK → Prop} {oo : DO2} (c : Cls X.K C) (n : NoAttr X.K C f) (hop : InOp X op rd) (hd : OpD X.K rd oo) (ha : DE X B o to) (hv : DE X B value tv) : DSt X B (.AugAssign (.Attribute o f tpos) op value pos) (dFldA C f oo to tv) := PS.imp (ps_fldaug ha hv hop) fun E σ H ⟨ρ, S, Dd, st, q, k⟩ => by
  refine ⟨ρ, S, _, st, q, fun x H1 xd S1 f1 r1 v1 q1 => ?_⟩
  split at q1
  · rename_i p
    obtain ⟨fs, d, e, e2, q1⟩ := q1
    obtain ⟨dx, hs', h1, h2, h3⟩ := r1 _ _ e
    obtain ⟨w, e3, r3⟩ := look_rep h2 h3 e2
    refine ⟨p, C, dx, hs', w, of_ref v1, h1, c, n, e3, ρ, S1, _, st.next f1 r1, q1, fun y H2 yd S2 f2 r2 v2 q2 => ?_⟩
    refine hd H2 S2 w y d yd _ _ r2 (RepV.frm f2 _ _ r3) v2 q2 (fun z H3 zd S3 f3 r4 v3 q3 => ?_)
    obtain ⟨fs', e', zl, q3⟩ := q3
    obtain ⟨dx', hs2, h1', h2', h3'⟩ := r4 _ _ e'
    obtain ⟨fr, rs'⟩ := chgF (f := f) (dx := dx') r4 e' h2' h3' v3
    have hl : hs2.length = fs'.length := by have := congrArg List.length h2'; simpa using this
    have ff := (((f1.trans f2).trans f3).trans fr)
    exact ⟨dx', hs2, h1', by rw [hl]; exact zl, k.nx _ _ _ _ ff rs' (st.env.frm ff) q3⟩
  · exact q1.elim
theorem od_rAdd {K : PySem.W.Frag} : OpD K rAdd (oI0 fun i j => .int (i + j)) := fun H S v u x y Q Qd rs rx ry h k => by
  unfold oI0 at h
  split at h
  · rw [of_int rx, of_int ry]; exact ⟨_, _, rfl, rfl, k.here rs rep_int h⟩
  · exact h.elim
theorem od_rSub {K : PySem.W.Frag} : OpD K rSub (oI0 fun i j => .int (i - j)) := fun H S v u x y Q Qd rs rx ry h k => by
  unfold oI0 at h
  split at h
  · rw [of_int rx, of_int ry]; exact ⟨_, _, rfl, rfl, k.here rs rep_int h⟩
  · exact h.elim
/-- xs[i] = value, xs a list of the store -/
def dgSub (to ti : DTm) : DGt := fun d ρ S Q => to ρ S fun x S1 => ti ρ S1 fun i S2 => match x, i with
  | .ref p, .int k => ∃ l j, S2 p = some (.lst l) ∧ ixN l.length k = some j ∧ Q ρ (sup S2 p (.lst (l.set j d)))
  | _, _ => False
theorem dg_sub {i : Expr} {ti : DTm} (ho : DE X B o to) (hi : DE X B i ti)
    (ha : ∀ v, assign (.Subscript o i pos) X.env v = (do
      let ov ← holding [v] (eval o X.env)
      let iv ← holding [v, ov] (eval i X.env)
      standAt pos
      holding [v, ov, iv] (setItem ov iv v)
      release [v, ov, iv] []) := by intro _; rfl) : DG X B (.Subscript o i pos) (dgSub to ti) := PG.imp (pg_sub ho hi set_list ha) fun v σ H Q ⟨ρ, S, d, Qd, st, rv, q, k⟩ => by
  refine ⟨ρ, S, _, st, q, fun x H1 xd S1 f1 r1 v1 q1 => ⟨ρ, S1, _, st.next f1 r1, q1, fun y H2 yd S2 f2 r2 v2 q2 => ?_⟩⟩
  split at q2
  · rename_i p kk
    obtain ⟨l, j, e, ej, q2⟩ := q2
    obtain ⟨xs, h1, rx, z⟩ := r2 _ _ e
    have v1' := RepV.frm f2 _ _ v1
    have fr : Frm H2 S2 (upd H2 p (.lst (xs.set j v))) (sup S2 p (.lst (l.set j d))) := Frm.chg e
    have ff := (f1.trans f2).trans fr
    refine ⟨p, xs, kk, j, of_ref v1', of_int v2, h1, by rw [rx.length]; exact ej, k _ _ _ _ ff (r2.put fr ⟨_, upd_same, RepVs.frm fr _ _ (rx.set j (RepV.frm (f1.trans f2) _ _ rv)), by rw [List.length_set]; exact z⟩) (st.env.frm ff) q2⟩
  · exact q2.elim
end
end DL

namespace DL
open PySem PySem.Spec PyProof.Rows L2

def keyP : Key → PyData
  | .inl i => .int i
  | .inr x => .str x
mutual
def toQ : D → Option PyData
  | .non => some .none
  | .bl b => some (.bool b)
  | .int i => some (.int i)
  | .str x => some (.str x)
  | .tup l => (toQs l).map .tuple
  | .lst l => (toQs l).map .list
  | .dic ks vs => (toQs vs).map fun ps => .dict ((ks.map keyP).zip ps)
  | _ => none
def toQs : List D → Option (List PyData)
  | [] => some []
  | d :: ds => match toQ d, toQs ds with
    | some p, some ps => some (p :: ps)
    | _, _ => none
end
mutual
def noLst : D → Bool
  | .lst _ => false
  | .tup l => noLsts l
  | .dic _ vs => noLsts vs
  | _ => true
def noLsts : List D → Bool
  | [] => true
  | d :: ds => noLst d && noLsts ds
end
theorem toQs_len : ∀ {ds : List D} {ps : List PyData}, toQs ds = some ps → ps.length = ds.length
  | [], ps, e => by simp only [toQs] at e; cases e; rfl
  | d :: ds, ps, e => by
    simp only [toQs] at e
    split at e
    · rename_i p ps' e1 e2
      cases e
      rw [List.length_cons, List.length_cons, toQs_len e2]
    · cases e
section
variable {X : Cx} {pins : List (Addr × Obj)} {σ : L2.St} {H : Hp} {S : DS} {s : Shared}
theorem keys_reads {P : Program} {w : World} {h : Heap} : ∀ {es : List DictEntry} {vs : List (Key × Value)} {kvs : List (Key × V)}, Pairs (mixKind P w) es vs → KV kvs vs → ReadsAll h (es.map (·.key)) (kvs.map fun p => keyP p.1) []
  | [], [], kvs, .nil, k => by cases k; exact .nil
  | e :: es, kv :: vs, kvs, .cons h1 h2 r, k => by
    cases k with
    | cons a b =>
      rename_i p kvs'
      have ih := keys_reads (h := h) r b
      have q : Reads h e.key (keyP p.1) [] := by
        rcases keyIs_shape (show keyIs kv.1 e.key = true from h1) with ⟨i, t, e1, e2⟩ | ⟨x, t, e1, e2⟩
        · rw [e2, a.1, e1]; exact .int i t
        · rw [e2, a.1, e1]; exact .str x t
      exact ReadsAll.cons q ih
theorem vals_reads {P : Program} {w : World} : ∀ {es : List DictEntry} {vs : List (Key × Value)} {kvs : List (Key × V)}, Pairs (mixKind P w) es vs → KV kvs vs → Vals (kvs.map (·.2)) (es.map (·.val))
  | [], [], kvs, .nil, k => by cases k; exact .nil
  | e :: es, kv :: vs, kvs, .cons h1 h2 r, k => by
    cases k with
    | cons a b =>
      rename_i p kvs'
      show Vals (p.2 :: kvs'.map (·.2)) (e.val :: es.map (·.val))
      rw [h2]
      exact .cons a.2 (vals_reads r b)
mutual
theorem rep_reads (I : Inv X pins σ H s) : ∀ (d : D) (v : V) (u : Value) (p : PyData), RepV X.K H S v d → toQ d = some p → RelV v u → ∃ as, Reads s.heap u p as ∧ (noLst d = true → sysModules ∉ as)
  | .non, v, u, p, r, e, rv => by simp only [toQ] at e; cases e; rw [of_non r] at rv; cases rv; exact ⟨_, .none, fun _ => by simp⟩
  | .bl b, v, u, p, r, e, rv => by simp only [toQ] at e; cases e; rw [of_bl r] at rv; cases rv; exact ⟨_, .bool b, fun _ => by simp⟩
  | .int b, v, u, p, r, e, rv => by simp only [toQ] at e; cases e; rw [of_int r] at rv; obtain ⟨t, rfl⟩ := rv; exact ⟨_, .int b t, fun _ => by simp⟩
  | .str b, v, u, p, r, e, rv => by simp only [toQ] at e; cases e; rw [(of_str r).1] at rv; obtain ⟨t, rfl⟩ := rv; exact ⟨_, .str b t, fun _ => by simp⟩
  | .tup l, v, u, p, r, e, rv => by
    obtain ⟨a, xs, rfl, dt, r1, _⟩ := of_tup r
    simp only [toQ, Option.map_eq_some_iff] at e
    obtain ⟨ps, e1, rfl⟩ := e
    cases rv
    obtain ⟨its, ri, ⟨o, ho, hc, n, hd⟩, _⟩ := I.tuple dt.sq
    obtain ⟨as, hr, hn⟩ := reps_reads I l xs its ps r1 e1 ri
    exact ⟨as, .tuple ho hc hd hr, fun h => hn (by simpa only [noLst] using h)⟩
  | .lst l, v, u, p, r, e, rv => by
    obtain ⟨a, xs, rfl, dt, r1, _⟩ := of_lst r
    simp only [toQ, Option.map_eq_some_iff] at e
    obtain ⟨ps, e1, rfl⟩ := e
    cases rv
    obtain ⟨its, ri, ⟨o, n, ho, hc, _, hd⟩, _⟩ := I.list dt.sq
    obtain ⟨as, hr, hn⟩ := reps_reads I l xs its ps r1 e1 ri
    exact ⟨_, .list ho hc hd hr, fun h => by simp only [noLst] at h; cases h⟩
  | .dic ks vs, v, u, p, r, e, rv => by
    simp only [RepV] at r
    obtain ⟨a, kvs, rfl, hk, _, h3, r1⟩ := r
    simp only [toQ, Option.map_eq_some_iff] at e
    obtain ⟨ps, e1, rfl⟩ := e
    cases rv
    obtain ⟨_, hs, ws, kv, o, es, ep, ho, hx, hd, _, pr, _⟩ : kvs.length ≤ sizeLine ∧ (a == sysModules) = false ∧ ∃ ws, KV kvs ws ∧ s.heap.DictOf (mixKind X.prog X.w) a ws := hk.ok I.hok
    have lv : ps.length = (kvs.map (·.2)).length := by rw [toQs_len e1, r1.length]
    have ll : (ks.map keyP).length = ps.length := by rw [lv, ← h3]; simp
    obtain ⟨as, hr, hn⟩ := reps_reads I vs _ _ ps r1 e1 (vals_reads pr kv)
    have k1 : ReadsAll s.heap (es.toList.map (·.key)) (((ks.map keyP).zip ps).map (·.1)) [] := by
      rw [List.map_fst_zip (Nat.le_of_eq ll), ← h3, List.map_map]
      exact keys_reads pr kv
    have k2 : ReadsAll s.heap (es.toList.map (·.val)) (((ks.map keyP).zip ps).map (·.2)) as := by
      rw [List.map_snd_zip (Nat.le_of_eq ll.symm)]
      exact hr
    refine ⟨_, .dict ho hx.1 hd k1 k2, fun h => ?_⟩
    have h' := hn (by simpa only [noLst] using h)
    intro hm
    simp only [List.append_nil, List.cons_append, List.mem_cons] at hm
    rcases hm with hm | hm
    · rw [← hm] at hs; simp at hs
    · exact h' (by simpa using hm)
  | .ref _, _, _, _, _, e, _ => by simp only [toQ] at e; cases e
  | .ty _, _, _, _, _, e, _ => by simp only [toQ] at e; cases e
  | .ins _ _ _, _, _, _, _, e, _ => by simp only [toQ] at e; cases e
theorem reps_reads (I : Inv X pins σ H s) : ∀ (ds : List D) (vs : List V) (us : List Value) (ps : List PyData), RepVs X.K H S vs ds → toQs ds = some ps → Vals vs us → ∃ as, ReadsAll s.heap us ps as ∧ (noLsts ds = true → sysModules ∉ as)
  | [], vs, us, ps, r, e, rv => by
    simp only [toQs] at e; cases e
    have h := RepVs.nil_iff.mp r
    subst h
    cases rv
    exact ⟨[], .nil, fun _ => by simp⟩
  | d :: ds, vs, us, ps, r, e, rv => by
    simp only [RepVs] at r
    obtain ⟨x, xr, rfl, r1, r2⟩ := r
    simp only [toQs] at e
    split at e
    · rename_i p ps' e1 e2
      cases e
      cases rv with
      | cons a b =>
        obtain ⟨as, q1, n1⟩ := rep_reads I d x _ p r1 e1 a
        obtain ⟨bs, q2, n2⟩ := reps_reads I ds xr _ ps' r2 e2 b
        refine ⟨_, .cons q1 q2, fun h => ?_⟩
        simp only [noLsts, Bool.and_eq_true] at h
        intro hm
        rcases List.mem_append.mp hm with hm | hm
        · exact n1 h.1 hm
        · exact n2 h.2 hm
    · cases e
end
/-- what repr may show, and its text -/
structure Shows (d : D) (p : PyData) : Prop where
  q : toQ d = some p
  ok : p.showable = true
  nd : p.hasDict = true → noLst d = true
  dp : p.depth ≤ 150
  ln : p.shown.length ≤ sizeLine
def oRepr : DCl := fun ds S Q => match ds with
  | [x] => ∃ p, Shows x p ∧ Q (.str p.shown) S
  | _ => False
/-- what repr says of values -/
def rRepr (K : PySem.W.Frag) : List V → Hp → VK → Prop := fun xs H Q => ∃ x d S p, xs = [x] ∧ RepV K H S x d ∧ Shows d p ∧ Q (.str p.shown) H
theorem call_repr_data {k : Nat} (hr : Room k X.A) (gd : X.A.guards = some []) : CallR X (.builtin "repr") (rRepr X.K) := by
  intro pins s σ H xs us Q I r h
  obtain ⟨x, d, S, p, rfl, rd, sh, q⟩ := h
  obtain ⟨u, rfl, ru⟩ := vals1 r
  have un := hr.un
  obtain ⟨as, rr, hn⟩ := rep_reads I d x u p rd sh.q ru
  have fin' : ∀ tk t, EP X pins σ Q (.str p.shown t) { s with toks := tk } := fun tk t => ⟨.str p.shown, H, I.tok _, ⟨_, rfl⟩, q⟩
  cases rr with
  | none => exact PySem.P.repr_of_none (fin' _ _)
  | bool b => exact PySem.P.repr_of_bool (fin' _ _)
  | int i t => exact PySem.P.repr_of_int (by have := sh.ok; simpa [PyData.showable] using this) (fin' _ _)
  | str y t => exact PySem.P.repr_of_str (fin' _ _) sh.ln
  | list h1 h2 h3 h4 =>
    have dp := sh.dp
    exact repr_of_reads' (.list h1 h2 h3 h4) sh.ok (fun z => hn (sh.nd z)) gd (by omega) (fun _ _ e => e) (fun h' u tk hk => ⟨.str _, H, I.kept hk, ⟨_, rfl⟩, q⟩) sh.ln
  | tuple h1 h2 h3 h4 =>
    have dp := sh.dp
    exact repr_of_reads' (.tuple h1 h2 h3 h4) sh.ok (fun z => hn (sh.nd z)) gd (by omega) (fun _ _ e => e) (fun h' u tk hk => ⟨.str _, H, I.kept hk, ⟨_, rfl⟩, q⟩) sh.ln
  | dict h1 h2 h3 h4 h5 =>
    have dp := sh.dp
    exact repr_of_reads' (.dict h1 h2 h3 h4 h5) sh.ok (fun z => hn (sh.nd z)) gd (by omega) (fun _ _ e => e) (fun h' u tk hk => ⟨.str _, H, I.kept hk, ⟨_, rfl⟩, q⟩) sh.ln
theorem cd_repr {K : PySem.W.Frag} : ClD K (rRepr K) oRepr := fun H S vs ds Q Qd rs rv h k => by
  unfold oRepr at h
  split at h
  · obtain ⟨p, sh, q⟩ := h
    obtain ⟨v, rfl, r⟩ := of_vs1 rv
    exact ⟨v, _, S, p, rfl, r, sh, k.here rs (rep_str sh.ln) q⟩
  · exact h.elim
end

theorem under_guards {A : Around} {C : Addr} {us : List Value} {kw : List (Str × Value)} : (A.under (.builtin "type.__call__" ⟨.ref C :: us, kw⟩)).guards = A.guards := by
  first | rfl | (cases h : A.guards <;> simp [Around.under, h, Code.isGuard, Code.isCreation, Code.isCaller, guardIds])
section
variable {X : Cx} {B : DB} {k : Nat} {f C : Addr} {fd : FuncData} {ps : List Str} {sp : DSp} {W : DWx} {x m : Str} {p pos apos : Pos} {e o : Expr} {es : List Expr} {t : DTm} {ts : List DTm} {dds : List D} {dvs : List V} {ds : List Value}
theorem run_makeD {pins : List (Addr × Obj)} {σ : L2.St} {H : Hp} {s : Shared} {Q : VK} {us : List Value} {vs : List V} {s0 : Sp} {E : XK} (M : Mk X.K C f) (F : FnG X.prog X.w X.K X.mg X.base k f fd ps s0) (hr : Room (k + 1) X.A) (gd : X.A.guards = some [])
    (hb : Binds X.K fd ps ds) (hd : Vals dvs ds) (hx : PassesAt (L2.CX X.prog X.w) X σ E) (I : Inv X pins σ H s) (r : Vals vs us)
    (h : ∀ a dx, H a = none → H dx = none → dx ≠ a → s0 (.ref a :: (vs ++ dvs)) (upd (upd H dx (.own a)) a (.ins C dx [])) (fun v H2 => v = .non ∧ Q (.ref a) H2) E) :
    wpAny (model X.prog X.w) X.A (call (.ref C) us) (EP X pins σ Q) X.xe s := by
  have q0 := h (s.heap.objs.size + 1) s.heap.objs.size (I.hok.fresh (Nat.le_succ _)) (I.hok.fresh (Nat.le_refl _)) (Nat.ne_of_lt (Nat.lt_succ_self _))
  have J := Inv.made (C := C) I
  have rr : Vals (V.ref (s.heap.objs.size + 1) :: (vs ++ dvs)) (Value.ref (s.heap.objs.size + 1) :: (us ++ ds)) := .cons rfl (r.append hd)
  have ln : (Value.ref (s.heap.objs.size + 1) :: us ++ ds).length = ps.length := (rr.length.symm.trans (F.len _ _ _ _ q0) : _)
  have cll := F.run _ X.stack _ _ ⟨Value.ref (s.heap.objs.size + 1) :: us, []⟩ (Value.ref (s.heap.objs.size + 1) :: (us ++ ds)) _ _ E (hr.make C us []) (under_guards.trans gd) (J.env0.make C us []) (hb _ (Value.ref (s.heap.objs.size + 1) :: us) J.kIn ln) rr q0
  refine wpAny_call (make_map (f := f) I.kIn M.makes M.init (beq_iff_eq.mp M.fn) (codeAny_mono cll fun r s' q => ?_))
  match r, q with
  | .error e, q => exact hx pins _ _ e s' J q
  | .ok (.ret u), q =>
    obtain ⟨v, H', J2, rv, ev, q3⟩ := J.after q
    subst ev
    exact ⟨rv, ⟨V.ref (s.heap.objs.size + 1), H', J2, rfl, q3⟩⟩
  | .ok .next, q => exact q.elim
  | .ok .brk, q => exact q.elim
  | .ok .cont, q => exact q.elim
/-- C(..): its __init__'s promise of a new instance of the store -/
def dMake (C : Addr) (sp : DSp) (W : DWx) (dds : List D) (ts : List DTm) (ρ : DEnv) (S : DS) (Q : DQ) : Prop := dArgs ts ρ S fun ds S1 => ∀ a, S1 a = none → sp (.ref a :: (ds ++ dds)) (sup S1 a (.ins C [])) (fun _ S2 => Q (.ref a) S2) fun cls fl S' => W cls fl ρ S'
theorem make_sp {σ : L2.St} {H : Hp} {Q : VK} {ρ : DEnv} {S : DS} {Qd : DQ} {vs : List V} {xs : List D} (st : Std X.K B H S σ ρ) (rv : RepVs X.K H S vs xs) (hd : Dfl ds dvs dds)
    (h : ∀ a, S a = none → sp (.ref a :: (xs ++ dds)) (sup S a (.ins C [])) (fun _ S2 => Qd (.ref a) S2) fun cls fl S' => W cls fl ρ S') (k : Thn X.K H S Qd Q) (hret : ∀ ds S Q E, sp ds S Q E → sp ds S (fun d S' => d = .non ∧ Q d S') E) :
    ∀ a dx, H a = none → H dx = none → dx ≠ a → liftSp X.K sp (.ref a :: (vs ++ dvs)) (upd (upd H dx (.own a)) a (.ins C dx [])) (fun v H2 => v = .non ∧ Q (.ref a) H2) (WE (LW X.K B W) σ) := by
  intro a dx ha hdx ne
  have sa : S a = none := st.st.there ha
  have fr : Frm H S (upd (upd H dx (.own a)) a (.ins C dx [])) (sup S a (.ins C [])) := fun b u e e' => by
    have n1 := ne_of_none e ha
    have n2 := ne_of_none e hdx
    exact ⟨by rw [upd_ne n1, upd_ne n2]; exact e, by rw [sup_ne n1]; exact e'⟩
  have r1 : RepS X.K (upd H dx (.own a)) S := st.st.new hdx
  have fr1 : Frm (upd H dx (.own a)) S (upd (upd H dx (.own a)) a (.ins C dx [])) (sup S a (.ins C [])) := Frm.newS (by rw [upd_ne ne.symm]; exact ha)
  have rs : RepS X.K (upd (upd H dx (.own a)) a (.ins C dx [])) (sup S a (.ins C [])) := r1.put fr1 ⟨dx, [], upd_same, rfl, RepVs.nil⟩
  refine ⟨.ref a :: (xs ++ dds), sup S a (.ins C []), _, _, rs, RepVs.cons rep_ref (RepVs.append (RepVs.frm fr _ _ rv) (hd.d _ _ _)), hret _ _ _ _ (h a sa), fun v H' d S' f1 r1 v1 q => ?_, fun cls d fl H' S' f1 r1 rx w => ⟨ρ, S', fl, st.next (fr.trans f1) r1, rx, w⟩⟩
  obtain ⟨rfl, q⟩ := q
  exact ⟨of_non v1, k _ _ _ _ (fr.trans f1) r1 rep_ref q⟩
theorem de_make (M : Mk X.K C f) (F : DFn X.prog X.w X.K X.mg X.base k f fd ps sp) (hr : Room (k + 1) X.A) (gd : X.A.guards = some []) (hm : X.mg x = some (.ref C)) (hb : Binds X.K fd ps ds) (hd : Dfl ds dvs dds) (tk : Takes X (LW X.K B W)) (hret : ∀ ds S Q E, sp ds S Q E → sp ds S (fun d S' => d = .non ∧ Q d S') E)
    (ha : DA X B (e :: es) ts) (hg : Gl X x := by rfl) (hdb : (x == ("__debug__" : Str)) = false := by decide) (he : starEach (e :: es) X.env = (false, eval e X.env) :: starEach es X.env := by rfl) (hpl : (backTo pos (starEach es X.env)).any (·.1) = false := by rfl) :
    DE X B (.Call (.Name x p) (e :: es) [] pos) (dMake C sp W dds ts) := by
  refine ⟨fun pins s σ H Q I ⟨ρ, S, Qd, st, q, kk⟩ => ?_⟩
  refine wpAny_Call_Name_kw (ld_glob I hg hm ?_ hdb)
  have h : liftA X.K B ts σ H fun vs H1 => ∀ a dx, H1 a = none → H1 dx = none → dx ≠ a → liftSp X.K sp (.ref a :: (vs ++ dvs)) (upd (upd H1 dx (.own a)) a (.ins C dx [])) (fun v H2 => v = .non ∧ Q (.ref a) H2) (WE (LW X.K B W) σ) :=
    ⟨ρ, S, _, st, q, fun vs H1 ds1 S1 f1 r1 v1 l1 q1 => make_sp (st.next f1 r1) v1 hd q1 (kk.next f1) hret⟩
  refine PySem.W.callWith_K (h₀ := X.base) I.ok.mod.kin M.kp (thn (ha.run pos pins s σ H _ I h) fun us s1 ⟨vs, H1, I1, r, q⟩ => ⟨I1.kIn, ?_⟩) he hpl
  exact run_makeD M F hr gd hb hd.v (passAt tk σ) I1 r q
theorem de_make0 (M : Mk X.K C f) (F : DFn X.prog X.w X.K X.mg X.base k f fd ps sp) (hr : Room (k + 1) X.A) (gd : X.A.guards = some []) (hm : X.mg x = some (.ref C)) (hb : Binds X.K fd ps ds) (hd : Dfl ds dvs dds) (tk : Takes X (LW X.K B W)) (hret : ∀ ds S Q E, sp ds S Q E → sp ds S (fun d S' => d = .non ∧ Q d S') E)
    (hg : Gl X x := by rfl) (hdb : (x == ("__debug__" : Str)) = false := by decide) : DE X B (.Call (.Name x p) [] [] pos) (dMake C sp W dds []) := by
  refine ⟨fun pins s σ H Q I ⟨ρ, S, Qd, st, q, kk⟩ => ?_⟩
  refine wpAny_Call_Name_kw (ld_glob I hg hm ?_ hdb)
  exact PySem.W.callWith_K0 I.kIn M.kp (run_makeD (us := []) (vs := []) M F hr gd hb hd.v (passAt tk σ) I .nil (make_sp st RepVs.nil hd q kk hret))
/-- o.m(..) -/
def dMeth (C : Addr) (m : Str) (sp : DSp) (W : DWx) (dds : List D) (t : DTm) (ts : List DTm) (ρ : DEnv) (S : DS) (Q : DQ) : Prop := t ρ S fun x S1 => (∃ fs, fieldsS C S1 x = some fs ∧ fs.lookup m = none) ∧
  dArgs ts ρ S1 fun ds S2 => sp (x :: (ds ++ dds)) S2 Q fun cls fl S' => W cls fl ρ S'
theorem de_meth {pl : Sem Bool} (c : Cls X.K C) (hm : Meth X.K C m f) (F : DFn X.prog X.w X.K X.mg X.base k f fd ps sp) (hr : Room k X.A) (gd : X.A.guards = some []) (hb : Binds X.K fd ps ds) (hd : Dfl ds dvs dds) (tk : Takes X (LW X.K B W)) (ho : DE X B o t) (ha : DA X B (e :: es) ts)
    (hst : starEach (e :: es) X.env = (false, eval e X.env) :: starEach es X.env := by rfl) (hpl : (backTo pos (starEach es X.env)).any (·.1) = false := by rfl)
    (ht : eval (.Call (.Attribute o m apos) (e :: es) [] pos) X.env = (do
      let ov ← eval o X.env
      standAt apos.atName
      let (f, first) ← holding [ov] (getMethod ov m pl)
      callWith pos f first (backTo pos (starEach (e :: es) X.env)) (backToKw pos (keywordEach [] X.env))) := by rfl) : DE X B (.Call (.Attribute o m apos) (e :: es) [] pos) (dMeth C m sp W dds t ts) := by
  refine ⟨fun pins s σ H Q I ⟨ρ, S, Qd, st, q, kk⟩ => ?_⟩
  have h0 : lift X.K B t σ H fun v H1 => ∃ a dx hs, v = .ref a ∧ H1 a = some (.ins C dx hs) ∧ hs.lookup m = none ∧ liftA X.K B ts σ H1 fun vs H2 => liftSp X.K sp (.ref a :: vs ++ dvs) H2 Q (WE (LW X.K B W) σ) := by
    refine ⟨ρ, S, _, st, q, fun v H1 xd S1 f1 r1 v1 ⟨⟨fs, e1, e2⟩, q1⟩ => ?_⟩
    obtain ⟨a, dx, hs, rfl, h1, h2, h3⟩ := fields_rep r1 v1 e1
    refine ⟨a, dx, hs, rfl, h1, look_none h2 e2, ρ, S1, _, st.next f1 r1, q1, fun vs H2 ds1 S2 f2 r2 v2 l2 q2 => ?_⟩
    exact call_sp (xs := xd :: ds1) ((st.next f1 r1).next f2 r2) (RepVs.cons (RepV.frm f2 _ _ v1) v2) hd q2 (kk.next (f1.trans f2))
  refine PySem.W.methodCall_KW (pl := pl) (thn (ho.run pins s σ H _ I h0) fun u s1 ⟨xv, H1, I1, rx, a, dx, hs, ex, ea, l, q⟩ => ?_) ht
  subst ex
  obtain rfl : u = Value.ref a := rx
  refine getmeth_ok I1 ea c hm l ?_
  refine PySem.W.callWith_K (first := [.ref a]) (h₀ := X.base) I.ok.mod.kin hm.kp (thn (ha.run pos pins s1 σ H1 _ I1 q) fun us s2 ⟨vs, H2, I2, r, q2⟩ => ⟨I2.kIn, ?_⟩) hst hpl
  exact run_fnD (us := .ref a :: us) (vs := .ref a :: vs) F hr gd hb hd.v (passAt tk σ) I2 (.cons rfl r) q2
theorem de_meth0 {pl : Sem Bool} (c : Cls X.K C) (hm : Meth X.K C m f) (F : DFn X.prog X.w X.K X.mg X.base k f fd ps sp) (hr : Room k X.A) (gd : X.A.guards = some []) (hb : Binds X.K fd ps ds) (hd : Dfl ds dvs dds) (tk : Takes X (LW X.K B W)) (ho : DE X B o t)
    (ht : eval (.Call (.Attribute o m apos) [] [] pos) X.env = (do
      let ov ← eval o X.env
      standAt apos.atName
      let (f, first) ← holding [ov] (getMethod ov m pl)
      callWith pos f first (backTo pos (starEach [] X.env)) (backToKw pos (keywordEach [] X.env))) := by rfl) : DE X B (.Call (.Attribute o m apos) [] [] pos) (dMeth C m sp W dds t []) := by
  refine ⟨fun pins s σ H Q I ⟨ρ, S, Qd, st, q, kk⟩ => ?_⟩
  have h0 : lift X.K B t σ H fun v H1 => ∃ a dx hs, v = .ref a ∧ H1 a = some (.ins C dx hs) ∧ hs.lookup m = none ∧ liftSp X.K sp (.ref a :: ([] : List V) ++ dvs) H1 Q (WE (LW X.K B W) σ) := by
    refine ⟨ρ, S, _, st, q, fun v H1 xd S1 f1 r1 v1 ⟨⟨fs, e1, e2⟩, q1⟩ => ?_⟩
    obtain ⟨a, dx, hs, rfl, h1, h2, h3⟩ := fields_rep r1 v1 e1
    exact ⟨a, dx, hs, rfl, h1, look_none h2 e2, call_sp (xs := [xd]) (st.next f1 r1) (RepVs.cons v1 RepVs.nil) hd q1 (kk.next f1)⟩
  refine PySem.W.methodCall_KW (pl := pl) (thn (ho.run pins s σ H _ I h0) fun u s1 ⟨xv, H1, I1, rx, a, dx, hs, ex, ea, l, q⟩ => ?_) ht
  subst ex
  obtain rfl : u = Value.ref a := rx
  refine getmeth_ok I1 ea c hm l ?_
  exact PySem.W.callWith_K0 (first := [.ref a]) I1.kIn hm.kp (run_fnD (us := [.ref a]) (vs := [.ref a]) F hr gd hb hd.v (passAt tk σ) I1 (.cons rfl .nil) q)
end
end DL

namespace DL
open PySem PySem.Spec PyProof.Rows L2 RZ

section
variable {X : Cx} {B : DB} {W : DWx} {C fI : Addr} {x f g : Str} {p pos pos2 : Pos} {e : Expr} {es : List Expr} {ts : List DTm}
/-- an own error class over ValueError without __init__ -/
structure Ex0 (K : PySem.W.Frag) (mg : Str → Option Value) (x : Str) (C : Addr) : Prop where
  q : PySem.W.excIn K C [.type "ValueError", .type "Exception", .type "BaseException", .type "object"] "ValueError.__new__" = true
  gC : mg x = some (.ref C)
  kC : PySem.W.keepIn K (.ref C) = true
  b : PySem.W.subIn K (.ref C) (.type "BaseException") = some true
  t : PySem.W.typeIn K (.ref C) = some (.type "type")
theorem pmk_own0 (T : Ex0 X.K X.mg x C) (hg : Gl X x) (hdb : (x == ("__debug__" : Str)) = false) : PMk X (.Call (.Name x p) [] [] pos) (fun _ H Q => Q (.ref C) none H) := by
  intro pins s σ H Q I h
  refine wpAny_Call_Name_kw (ld_glob I hg T.gC ?_ hdb)
  refine PySem.W.callWith_K0 I.kIn T.kC ?_
  obtain ⟨bm, N, nm, qn, bs, hdct, sn, sub, ab, col, dd, k0, k1, k2, k3, k5, mN, hC, hN, hni, OT⟩ := exc_obj I.kIn T.q
  exact wpAny_call_exc_subT PySem.F.excBase_ValueError OT hC hN hni (fun h' a hm => mk_of I hm (raises_own T.b T.t) h (I.hok.gone hm.new)) (Nat.zero_le _)
def dRaise0 (C : Addr) (W : DWx) : DTs := fun _ ρ S => W (.ref C) none ρ S
theorem ds_raise0 (hc : X.calm = true) (T : Ex0 X.K X.mg x C) (tk : Takes X (LW X.K B W)) (hg : Gl X x := by rfl) (hdb : (x == ("__debug__" : Str)) = false := by decide) : DSt X B (.Raise (some (.Call (.Name x p) [] [] pos)) none pos2) (dRaise0 C W) :=
  PS.imp (ps_raise hc tk (pmk_own0 T hg hdb)) fun E σ H ⟨ρ, S, Dd, st, q, k⟩ => ⟨ρ, S, none, st, rfl, q⟩
/-- an own error class over ValueError whose __init__ keeps its arguments by their names -/
structure ExI (K : PySem.W.Frag) (mg : Str → Option Value) (x : Str) (C fI : Addr) : Prop where
  T : OexC K C
  gC : mg x = some (.ref C)
  iC : PySem.W.findIn K (.ref C) "__init__" = some (some (.ref fI))
  tI : PySem.W.typeIn K (.ref fI) = some (.type "function")
def spX1 (C : Addr) (f : Str) : Sp := fun vs H Q _ => ∃ a v, vs = [.ref a, v] ∧ H a = some (exo a C none) ∧ ∀ dx, H dx = none → dx ≠ a → Q .non (upd (upd H dx (exd dx [(f, v)])) a (exo a C (some dx)))
def spX2 (C : Addr) (f g : Str) : Sp := fun vs H Q _ => ∃ a v u, vs = [.ref a, v, u] ∧ H a = some (exo a C none) ∧ ∀ dx, H dx = none → dx ≠ a → Q .non (upd (upd (upd H dx (exd dx [(f, v)])) a (exo a C (some dx))) dx (exd dx [(g, u), (f, v)]))
def dRaise1 (C : Addr) (f : Str) (W : DWx) (t : DTm) : DTs := fun _ ρ S => t ρ S fun d S1 => W (.ref C) (some [(f, d)]) ρ S1
theorem up_del {H : Hp} {a dx : Addr} {o1 o2 u : HO} (ha : H a = none) (n : dx ≠ a) : upd (del (upd (upd (upd H a o1) dx o2) a u) a) dx = upd H dx := by
  funext o b
  unfold upd del
  by_cases c : b = dx
  · rw [if_pos c, if_pos c]
  · rw [if_neg c, if_neg c]
    by_cases c2 : b = a
    · rw [if_pos c2, c2, ha]
    · rw [if_neg c2]; show (if b = a then some u else if b = dx then some o2 else if b = a then some o1 else H b) = H b; rw [if_neg c2, if_neg c, if_neg c2]
theorem ds_raise1 {k : Nat} {fd : FuncData} {ps : List Str} {t : DTm} (hc : X.calm = true) (T : ExI X.K X.mg x C fI) (F1 : FnOk X.prog X.w X.K X.mg X.base CX0 k fI fd ps (spX1 C f)) (hb : Binds X.K fd ps []) (hr : Room (k + 1) X.A) (tk : Takes X (LW X.K B W)) (he1 : DE X B e t)
    (hg : Gl X x := by rfl) (hdb : (x == ("__debug__" : Str)) = false := by decide) (hst : starEach [e] X.env = (false, eval e X.env) :: starEach [] X.env := by rfl) (hpl : (backTo pos (starEach [] X.env)).any (·.1) = false := by rfl) :
    DSt X B (.Raise (some (.Call (.Name x p) [e] [] pos)) none pos2) (dRaise1 C f W t) :=
  PS.imp (ps_raise hc tk (pmk_oex T.T T.iC T.tI F1 hr hb (dvs := []) .nil pass0 hg T.gC (da_cons he1 da_nil hst) hdb hst hpl)) fun E σ H ⟨ρ, S, Dd, st, q, k⟩ => by
  refine ⟨ρ, S, fun ds S' => ∃ d, ds = [d] ∧ W (.ref C) (some [(f, d)]) ρ S', st, ?_, fun vs H1 ds S1 f1 r1 v1 l1 q1 => ?_⟩
  · have q' : t ρ S (fun d S1 => W (.ref C) (some [(f, d)]) ρ S1) := q
    have e2 : (fun d S1 => W (.ref C) (some [(f, d)]) ρ S1) = (fun d S1 => ∃ d', [d] = [d'] ∧ W (.ref C) (some [(f, d')]) ρ S1) := by
      funext d S1
      apply propext
      constructor
      · intro h; exact ⟨d, rfl, h⟩
      · rintro ⟨d', e', h⟩; cases e'; exact h
    rw [e2] at q'
    exact q'
  · obtain ⟨d, rfl, q1⟩ := q1
    obtain ⟨v, rfl, rv⟩ := of_vs1 v1
    refine ⟨(by decide : 1 ≤ 1000), fun a ha => ⟨a, v, rfl, upd_same, fun dx hdx n => ?_⟩⟩
    have hdx' : H1 dx = none := by rw [upd_ne n] at hdx; exact hdx
    refine ⟨rfl, dx, [(f, v)], upd_same, by rw [upd_ne n, upd_same], hdx', ?_⟩
    rw [up_del ha n]
    have fr : Frm H1 S1 (upd H1 dx (.xd [(f, v)])) S1 := Frm.new hdx'
    exact ⟨ρ, S1, some [(f, d)], (st.next f1 r1).next fr (r1.new hdx'), ⟨dx, [(f, v)], rfl, upd_same, r1.there hdx', rfl, RepVs.cons (RepV.frm fr _ _ rv) RepVs.nil⟩, q1⟩
def dRaise2 (C : Addr) (f g : Str) (W : DWx) (t u : DTm) : DTs := fun _ ρ S => t ρ S fun d S1 => u ρ S1 fun d2 S2 => W (.ref C) (some [(g, d2), (f, d)]) ρ S2
theorem up_del2 {H : Hp} {a dx : Addr} {o1 o2 u o3 : HO} (ha : H a = none) (n : dx ≠ a) : upd (del (upd (upd (upd (upd H a o1) dx o2) a u) dx o3) a) dx = upd H dx := by
  funext o b
  unfold upd del
  by_cases c : b = dx
  · rw [if_pos c, if_pos c]
  · rw [if_neg c, if_neg c]
    by_cases c2 : b = a
    · rw [if_pos c2, c2, ha]
    · rw [if_neg c2]; show (if b = dx then some o3 else if b = a then some u else if b = dx then some o2 else if b = a then some o1 else H b) = H b; rw [if_neg c, if_neg c2, if_neg c, if_neg c2]
theorem ds_raise2 {k : Nat} {fd : FuncData} {ps : List Str} {e' : Expr} {t u : DTm} (hc : X.calm = true) (T : ExI X.K X.mg x C fI) (F1 : FnOk X.prog X.w X.K X.mg X.base CX0 k fI fd ps (spX2 C f g)) (hb : Binds X.K fd ps []) (hr : Room (k + 1) X.A) (tk : Takes X (LW X.K B W)) (he1 : DE X B e t) (he2 : DE X B e' u)
    (hg : Gl X x := by rfl) (hdb : (x == ("__debug__" : Str)) = false := by decide) (hst : starEach [e, e'] X.env = (false, eval e X.env) :: starEach [e'] X.env := by rfl) (hst2 : starEach [e'] X.env = (false, eval e' X.env) :: starEach [] X.env := by rfl) (hpl : (backTo pos (starEach [e'] X.env)).any (·.1) = false := by rfl) :
    DSt X B (.Raise (some (.Call (.Name x p) [e, e'] [] pos)) none pos2) (dRaise2 C f g W t u) :=
  PS.imp (ps_raise hc tk (pmk_oex T.T T.iC T.tI F1 hr hb (dvs := []) .nil pass0 hg T.gC (da_cons he1 (da_cons he2 da_nil hst2) hst) hdb hst hpl)) fun E σ H ⟨ρ, S, Dd, st, q, k⟩ => by
  refine ⟨ρ, S, fun ds S' => ∃ d d2, ds = [d, d2] ∧ W (.ref C) (some [(g, d2), (f, d)]) ρ S', st, ?_, fun vs H1 ds S1 f1 r1 v1 l1 q1 => ?_⟩
  · have q' : t ρ S (fun d S1 => u ρ S1 fun d2 S2 => W (.ref C) (some [(g, d2), (f, d)]) ρ S2) := q
    have e2 : (fun d S1 => u ρ S1 fun d2 S2 => W (.ref C) (some [(g, d2), (f, d)]) ρ S2) = (fun d S1 => u ρ S1 fun d2 S2 => ∃ a b, [d, d2] = [a, b] ∧ W (.ref C) (some [(g, b), (f, a)]) ρ S2) := by
      funext d S1
      apply congrArg (u ρ S1)
      funext d2 S2
      apply propext
      constructor
      · intro h; exact ⟨d, d2, rfl, h⟩
      · rintro ⟨a, b, e', h⟩; cases e'; exact h
    rw [e2] at q'
    exact q'
  · obtain ⟨d, d2, rfl, q1⟩ := q1
    obtain ⟨v, v2, rfl, rv, rv2⟩ := of_vs2 v1
    refine ⟨(by decide : 2 ≤ 1000), fun a ha => ⟨a, v, v2, rfl, upd_same, fun dx hdx n => ?_⟩⟩
    have hdx' : H1 dx = none := by rw [upd_ne n] at hdx; exact hdx
    refine ⟨rfl, dx, [(g, v2), (f, v)], by rw [upd_ne n.symm, upd_same], upd_same, hdx', ?_⟩
    rw [up_del2 ha n]
    have fr : Frm H1 S1 (upd H1 dx (.xd [(g, v2), (f, v)])) S1 := Frm.new hdx'
    exact ⟨ρ, S1, some [(g, d2), (f, d)], (st.next f1 r1).next fr (r1.new hdx'), ⟨dx, [(g, v2), (f, v)], rfl, upd_same, r1.there hdx', rfl, RepVs.cons (RepV.frm fr _ _ rv2) (RepVs.cons (RepV.frm fr _ _ rv) RepVs.nil)⟩, q1⟩
end

section
variable {X : Cx} {B : DB} {x n : Str} {c : Value} {body suite : List Stmt} {b₀ : Stmt} {np pos pos' : Pos} {tb : DWx → DTs} {W : DWx}
/-- what a clause makes of an error -/
def wTry (K : PySem.W.Frag) (c : Value) (ts : Addr → Value → DFl → DEnv → DS → Prop) (W : DWx) : DWx := fun cls fl ρ S =>
  ∃ b, PySem.W.exmOne K cls c = some b ∧ (b = true → ∀ a, ts a cls fl ρ S) ∧ (b = false → W cls fl ρ S)
/-- try .. except x as n: the error stands at slot i -/
def dTryAs (K : PySem.W.Frag) (c : Value) (i : Nat) (tb : DWx → DTs) (ts : Addr → Value → DFl → DTs) (W : DWx) : DTs := fun D ρ S =>
  tb (wTry K c (fun a cls fl ρ' S' => ts a cls fl { nx := fun ρ2 S2 => D.nx (ρ2.set i none) S2, rt := D.rt, bk := fun ρ2 S2 => D.bk (ρ2.set i none) S2, ct := fun ρ2 S2 => D.ct (ρ2.set i none) S2 } (ρ'.set i (some (.ref a))) S') W) D ρ S
def dTry (K : PySem.W.Frag) (c : Value) (tb : DWx → DTs) (ts : DTs) (W : DWx) : DTs := fun D ρ S => tb (wTry K c (fun _ _ _ ρ' S' => ts D ρ' S') W) D ρ S
theorem RepE.setNone {K : PySem.W.Frag} {H : Hp} {S : DS} {σ : L2.St} {ρ : DEnv} {i : Nat} (h : RepE K H S σ ρ) : RepE K H S (σ.set i none) (ρ.set i none) := by
  refine ⟨by simpa using h.1, fun j d e => ?_⟩
  by_cases c : i = j
  · subst c
    by_cases hl : i < ρ.length
    · rw [List.getElem?_set_self hl] at e; cases e
    · rw [List.getElem?_eq_none (by rw [List.length_set]; omega)] at e; cases e
  · rw [List.getElem?_set_ne c] at e ⊢
    exact h.2 j d e
/-- the body of a try, for a wish of values -/
def tryH (K : PySem.W.Frag) (tb : DWx → DTs) (W'' : WX) : TS := fun E σ H => ∃ (B' : DB) (W' : DWx), (∀ cls d σ H, LW K B' W' cls d σ H → W'' cls d σ H) ∧ liftS K B' (tb W') E σ H
theorem pss_tryH {pn : List (Addr × Obj)} {xe : Value → Shared → Prop} {W'' : WX} (tk : Takes (X.tr pn xe) W'') (po : PassesOwn (model X.prog X.w) X.A X.env xe)
    (hb : ∀ (B' : DB) (W' : DWx), Takes (X.tr pn xe) (LW X.K B' W') → PassesOwn (model X.prog X.w) X.A X.env xe → DSs (X.tr pn xe) B' body (tb W')) : PSs (X.tr pn xe) body (tryH X.K tb W'') :=
  ⟨fun pins s σ H E I ⟨B', W', hw, h⟩ => (hb B' W' (tk.imp hw) po).run pins s σ H E I h⟩
/-- a suite that holds the error at a: its class, its dict -/
def suiteH (K : PySem.W.Frag) (ts : Addr → Value → DFl → DTs) (a : Addr) (cls : Value) (d : Option Addr) : TS := fun E σ H => ∃ (B' : DB) (fl : DFl), RepX K B'.H B'.S d fl ∧ liftS K B' (ts a cls fl) E σ H
theorem pss_suiteH {ts : Addr → Value → DFl → DTs} {a : Addr} {oe : Obj} {cls : Value} {d : Option Addr} {pn : List (Addr × Obj)} {sts : List Stmt}
    (h : ∀ (B' : DB) (fl : DFl), RepX X.K B'.H B'.S d fl → DSs (X.suite a ((a, oe) :: pn)) B' sts (ts a cls fl)) : PSs (X.suite a ((a, oe) :: pn)) sts (suiteH X.K ts a cls d) :=
  ⟨fun pins s σ H E I ⟨B', fl, rx, q⟩ => (h B' fl rx).run pins s σ H E I q⟩
theorem ds_tryAs (i : Nat) (hs : X.stack = X.env :: X.outer) (hf : X.env.frame = some X.env.locals) (hN : X.N.Nodup) (hi : X.N[i]? = some n) (hln : X.env.kindOf n = some .local) (hc : Names X x c) (tk : Takes X (LW X.K B W)) {ts : Addr → Value → DFl → DTs}
    (hb : ∀ (B' : DB) (W' : DWx) (pn : List (Addr × Obj)) (xe : Value → Shared → Prop), Takes (X.tr pn xe) (LW X.K B' W') → PassesOwn (model X.prog X.w) X.A X.env xe → DSs (X.tr pn xe) B' body (tb W'))
    (hsu : ∀ (B' : DB) (fl : DFl) (a : Addr) (oe : Obj) (cls : Value) (d : Option Addr) (pn : List (Addr × Obj)), Zc cls d oe → (∃ vs, oe.data = .fields vs) → RepX X.K B'.H B'.S d fl → DSs (X.suite a ((a, oe) :: pn)) B' (b₀ :: suite) (ts a cls fl)) :
    DSt X B (.Try body [.ExceptHandler (some (.Name x np)) (some n) (b₀ :: suite) pos'] [] [] pos) (dTryAs X.K c i tb ts W) := by
  refine PS.imp (ps_try_as (i := i) (Wout := LW X.K B W) hs hf hN hi hln hc tk (fun W'' pn xe tk' po => pss_tryH tk' po fun B' W' t p => hb B' W' pn xe t p)
    (fun a oe cls d pn hz hv => pss_suiteH fun B' fl rx => hsu B' fl a oe cls d pn hz hv rx)) fun E σ H ⟨ρ, S, Dd, st, q, k⟩ => ?_
  refine ⟨⟨H, S⟩, _, fun cls d σ' H' lw => ?_, ρ, S, Dd, ⟨Frm.refl _ _, st.st, st.env⟩, q, k⟩
  obtain ⟨ρ', S', fl, st', rx, b, e, hy, hn⟩ := lw
  have k' := k.next st'.frm
  refine ⟨b, e, fun hb a _ => ⟨⟨H', S'⟩, fl, rx, ρ'.set i (some (.ref a)), S', _, ⟨Frm.refl _ _, st'.st, st'.env.set rep_ref⟩, hy hb a, ⟨?_, k'.rt, ?_, ?_⟩⟩, fun hb => ⟨ρ', S', fl, ⟨st.frm.trans st'.frm, st'.st, st'.env⟩, rx, hn hb⟩⟩
  · exact fun σ2 H2 ρ2 S2 f2 r2 e2 q2 => k'.nx _ _ _ _ f2 r2 e2.setNone q2
  · exact fun σ2 H2 ρ2 S2 f2 r2 e2 q2 => k'.bk _ _ _ _ f2 r2 e2.setNone q2
  · exact fun σ2 H2 ρ2 S2 f2 r2 e2 q2 => k'.ct _ _ _ _ f2 r2 e2.setNone q2
theorem ds_try (hs : X.stack = X.env :: X.outer) (hf : X.env.frame = some X.env.locals) (hc : Names X x c) (tk : Takes X (LW X.K B W)) {ts : DTs}
    (hb : ∀ (B' : DB) (W' : DWx) (pn : List (Addr × Obj)) (xe : Value → Shared → Prop), Takes (X.tr pn xe) (LW X.K B' W') → PassesOwn (model X.prog X.w) X.A X.env xe → DSs (X.tr pn xe) B' body (tb W'))
    (hsu : ∀ (B' : DB) (a : Addr) (oe : Obj) (pn : List (Addr × Obj)), DSs (X.suite a ((a, oe) :: pn)) B' (b₀ :: suite) ts) :
    DSt X B (.Try body [.ExceptHandler (some (.Name x np)) none (b₀ :: suite) pos'] [] [] pos) (dTry X.K c tb ts W) := by
  refine PS.imp (ps_try_only (Wout := LW X.K B W) hs hf hc tk (fun W'' pn xe tk' po => pss_tryH tk' po fun B' W' t p => hb B' W' pn xe t p)
    (ts := fun a cls d => suiteH X.K (fun _ _ _ => ts) a cls d) (fun a oe cls d pn hz hv => pss_suiteH fun B' fl rx => hsu B' a oe pn)) fun E σ H ⟨ρ, S, Dd, st, q, k⟩ => ?_
  refine ⟨⟨H, S⟩, _, fun cls d σ' H' lw => ?_, ρ, S, Dd, ⟨Frm.refl _ _, st.st, st.env⟩, q, k⟩
  obtain ⟨ρ', S', fl, st', rx, b, e, hy, hn⟩ := lw
  have k' := k.next st'.frm
  exact ⟨b, e, fun hb a _ => ⟨⟨H', S'⟩, fl, rx, ρ', S', Dd, ⟨Frm.refl _ _, st'.st, st'.env⟩, hy hb a, k'⟩, fun hb => ⟨ρ', S', fl, ⟨st.frm.trans st'.frm, st'.st, st'.env⟩, rx, hn hb⟩⟩
/-- the error's field -/
def dXf (a : Addr) (cls : Value) (fl : DFl) (C : Addr) (f : Str) (t : DTm) (ρ : DEnv) (S : DS) (Q : DQ) : Prop := t ρ S fun x S1 => x = .ref a ∧ cls = .ref C ∧ ∃ fs d, fl = some fs ∧ fs.lookup f = some d ∧ Q d S1
theorem de_xf {a C : Addr} {oe : Obj} {cls : Value} {d : Option Addr} {fl : DFl} {pn : List (Addr × Obj)} {e : Expr} {t : DTm} {f : Str} (T : XfC X.K C) (hno : PySem.W.findIn X.K (.ref C) f = some none) (hz : Zc cls d oe) (hv : ∃ vs, oe.data = .fields vs)
    (rx : RepX X.K B.H B.S d fl) (he : DE (X.suite a ((a, oe) :: pn)) B e t) (hb : attributeBase e f X.env (eval e X.env) = eval e X.env := by rfl) : DE (X.suite a ((a, oe) :: pn)) B (.Attribute e f pos) (dXf a cls fl C f t) :=
  PE.imp (pe_xf T hno hz hv he hb) fun σ H Q ⟨ρ, S, Qd, st, q, k⟩ => by
  refine ⟨ρ, S, _, st, q, fun v H1 x S1 f1 r1 v1 q1 => ?_⟩
  obtain ⟨rfl, ec, fs, dv, efl, el, q1⟩ := q1
  have rx1 := rx.frm (st.frm.trans f1)
  rw [efl] at rx1
  obtain ⟨dd, hs, e1, e2, e3, e4, e5⟩ := rx1
  obtain ⟨w, e6, r6⟩ := look_rep e4 e5 el
  exact ⟨of_ref v1, ec, dd, hs, w, e1, e2, e6, (k.next f1).here r1 r6 q1⟩
end

section
variable {X : Cx} {B : DB} {tg e e2 : Expr} {es : List Expr} {t : DTm} {ts : List DTm} {p pos tpos : Pos}
def signs (x : Str) : List D := x.cps.toList.map fun c => D.str ⟨#[c]⟩
theorem itOk_str {K : PySem.W.Frag} {H : Hp} {S : DS} {x : Str} : ItOk K (Its x) H S (signs x) where
  go := fun i H' S' f rs hi => by
    show i < x.cps.size
    simpa [signs] using hi
  yld := fun i H' S' v H'' f rs hi y => by
    obtain ⟨e1, c, hc, ev⟩ := y
    subst e1 ev
    refine ⟨.str ⟨#[c]⟩, ?_, Frm.refl _ _, rs, rep_str (one_len c), fun _ _ z => z⟩
    unfold signs
    rw [List.getElem?_map, Array.getElem?_toList, hc]
    rfl
  stop := fun H' S' f rs => by show x.cps.size ≤ _; simp [signs]
theorem di_str (h : DE X B e t) : DI X B tg e (fun ρ S Q => t ρ S fun d S1 => match d with | .str x => Q (signs x) S1 | _ => False) := ⟨_, pi_str h, fun σ H ρ S Qd R st q k => by
  refine ⟨ρ, S, _, st, q, fun v H1 d S1 f1 r1 v1 q1 => ?_⟩
  split at q1
  · obtain ⟨rfl, z⟩ := of_str v1
    exact ⟨_, rfl, k _ _ _ _ f1 r1 itOk_str (by unfold signs; rw [List.length_map]; exact z) q1⟩
  · exact q1.elim⟩
def pairsD : List D → List D → List D
  | a :: as, b :: bs => .tup [a, b] :: pairsD as bs
  | _, _ => []
theorem pairsD_len : ∀ (l m : List D), (pairsD l m).length = min l.length m.length
  | [], m => by simp [pairsD]
  | _ :: _, [] => by simp [pairsD]
  | a :: l, b :: m => by simp only [pairsD, List.length_cons, pairsD_len l m]; omega
theorem pairsD_get : ∀ (l m : List D) (i : Nat), i < min l.length m.length → ∃ a b, l[i]? = some a ∧ m[i]? = some b ∧ (pairsD l m)[i]? = some (.tup [a, b])
  | [], m, i, h => by simp at h
  | _ :: _, [], i, h => by simp at h
  | a :: l, b :: m, 0, h => ⟨a, b, rfl, rfl, rfl⟩
  | a :: l, b :: m, i + 1, h => by
    obtain ⟨x, y, h1, h2, h3⟩ := pairsD_get l m i (by simp only [List.length_cons] at h; omega)
    exact ⟨x, y, by simpa using h1, by simpa using h2, by simpa [pairsD] using h3⟩
theorem two_le : (2 : Nat) ≤ sizeLine := by rw [sizeLine_eq]; decide
/-- a pair told: a new tuple -/
theorem yld_pair {K : PySem.W.Frag} {H : Hp} {S : DS} {T : Addr} {x y : V} {a b : D} (rs : RepS K H S) (hT : H T = none) (r1 : RepV K H S x a) (r2 : RepV K H S y b) :
    Frm H S (upd H T (.tup [x, y])) S ∧ RepS K (upd H T (.tup [x, y])) S ∧ RepV K (upd H T (.tup [x, y])) S (.ref T) (.tup [a, b]) ∧ ∀ c o, H c = some o → upd H T (.tup [x, y]) c = some o :=
  ⟨Frm.new hT, rs.new hT, rep_newTup rs hT (RepVs.cons r1 (RepVs.cons r2 RepVs.nil)) two_le, fun c o e => by rw [upd_ne (ne_of_none e hT)]; exact e⟩
def dZip (ts : List DTm) : DIt := fun ρ S Q => dArgs ts ρ S fun ds S1 => match ds with
  | [.tup l, .tup m] => Q (pairsD l m) S1
  | [.lst l, .lst m] => Q (pairsD l m) S1
  | _ => False
theorem itOk_zipT {K : PySem.W.Frag} {H : Hp} {S : DS} {a b : Addr} {xs ys : List V} {l m : List D} (h1 : DT_ K H S a xs) (h2 : DT_ K H S b ys) (r1 : RepVs K H S xs l) (r2 : RepVs K H S ys m) : ItOk K (ItzT K a b) H S (pairsD l m) where
  go := fun i H' S' f rs hi => by
    rw [pairsD_len] at hi
    obtain ⟨c, d, e1, e2, _⟩ := pairsD_get l m i hi
    obtain ⟨v, e3, _⟩ := r1.get e1
    obtain ⟨w, e4, _⟩ := r2.get e2
    exact ⟨xs, ys, v, w, (f.tup h1).sq, (f.tup h2).sq, e3, e4⟩
  yld := fun i H' S' v H'' f rs hi y => by
    obtain ⟨T, x, z, rfl, hT, rfl, e5, e6⟩ := y
    rw [pairsD_len] at hi
    obtain ⟨c, d, e1, e2, e7⟩ := pairsD_get l m i hi
    obtain ⟨v, e3, q1⟩ := r1.get e1
    obtain ⟨w, e4, q2⟩ := r2.get e2
    have ex := e5 xs (f.tup h1).sq
    rw [e3] at ex; cases ex
    have ez := e6 ys (f.tup h2).sq
    rw [e4] at ez; cases ez
    obtain ⟨g1, g2, g3, g4⟩ := yld_pair rs hT (RepV.frm f _ _ q1) (RepV.frm f _ _ q2)
    exact ⟨_, e7, g1, g2, g3, g4⟩
  stop := fun H' S' f rs => ⟨xs, ys, (f.tup h1).sq, (f.tup h2).sq, by rw [pairsD_len, r1.length, r2.length]; omega⟩
theorem itOk_zipL {K : PySem.W.Frag} {H : Hp} {S : DS} {a b : Addr} {xs ys : List V} {l m : List D} (h1 : DLs K H S a xs) (h2 : DLs K H S b ys) (r1 : RepVs K H S xs l) (r2 : RepVs K H S ys m) : ItOk K (Itz K a b) H S (pairsD l m) where
  go := fun i H' S' f rs hi => by
    rw [pairsD_len] at hi
    obtain ⟨c, d, e1, e2, _⟩ := pairsD_get l m i hi
    obtain ⟨v, e3, _⟩ := r1.get e1
    obtain ⟨w, e4, _⟩ := r2.get e2
    exact ⟨xs, ys, v, w, (f.lst h1).sq, (f.lst h2).sq, e3, e4⟩
  yld := fun i H' S' v H'' f rs hi y => by
    obtain ⟨T, x, z, rfl, hT, rfl, e5, e6⟩ := y
    rw [pairsD_len] at hi
    obtain ⟨c, d, e1, e2, e7⟩ := pairsD_get l m i hi
    obtain ⟨v, e3, q1⟩ := r1.get e1
    obtain ⟨w, e4, q2⟩ := r2.get e2
    have ex := e5 xs (f.lst h1).sq
    rw [e3] at ex; cases ex
    have ez := e6 ys (f.lst h2).sq
    rw [e4] at ez; cases ez
    obtain ⟨g1, g2, g3, g4⟩ := yld_pair rs hT (RepV.frm f _ _ q1) (RepV.frm f _ _ q2)
    exact ⟨_, e7, g1, g2, g3, g4⟩
  stop := fun H' S' f rs => ⟨xs, ys, (f.lst h1).sq, (f.lst h2).sq, by rw [pairsD_len, r1.length, r2.length]; omega⟩
theorem di_zip {elts : List Expr} {kk : Nat} (hg : Gl X "zip") (hm : X.mg "zip" = none) (ha : DA X B [e, e2] ts)
    (hs : starEach [e, e2] X.env = (false, eval e X.env) :: starEach [e2] X.env := by rfl) (hpl : (backTo pos (starEach [e2] X.env)).any (·.1) = false := by rfl) :
    DI X B (.Tuple elts kk tpos) (.Call (.Name "zip" p) [e, e2] [] pos) (dZip ts) := ⟨_, pi_zipA hg hm ha hs hpl, fun σ H ρ S Qd R st q k => by
  refine ⟨ρ, S, _, st, q, fun vs H1 ds S1 f1 r1 v1 l1 q1 => ?_⟩
  split at q1
  · obtain ⟨v, w, rfl, rv, rw'⟩ := of_vs2 v1
    obtain ⟨a, xs, rfl, d1, q3, z1⟩ := of_tup rv
    obtain ⟨b, ys, rfl, d2, q4, z2⟩ := of_tup rw'
    exact ⟨a, b, xs, ys, rfl, .inr ⟨d1.sq, d2.sq, k _ _ _ _ f1 r1 (itOk_zipT d1 d2 q3 q4) (by rw [pairsD_len]; omega) q1⟩⟩
  · obtain ⟨v, w, rfl, rv, rw'⟩ := of_vs2 v1
    obtain ⟨a, xs, rfl, d1, q3, z1⟩ := of_lst rv
    obtain ⟨b, ys, rfl, d2, q4, z2⟩ := of_lst rw'
    exact ⟨a, b, xs, ys, rfl, .inl ⟨d1.sq, d2.sq, k _ _ _ _ f1 r1 (itOk_zipL d1 d2 q3 q4) (by rw [pairsD_len]; omega) q1⟩⟩
  · exact q1.elim⟩
end
end DL

namespace DL
open PySem PySem.Spec PyProof.Rows L2

section
variable {P : Program} {w : World} {K : PySem.W.Frag} {mg : Str → Option Value} {base : Heap}
/-- the def st stands under the name x -/
structure Ins (K : PySem.W.Frag) (mg : Str → Option Value) (x : Str) (st : Stmt) (ps : List Str) (f : Addr) (fd : FuncData) : Prop where
  F : Fun K x x st f fd
  m : mg x = some (.ref f)
  b : Binds K fd ps []
/-- under the name x stands a def that keeps sp -/
def Cal (P : Program) (w : World) (K : PySem.W.Frag) (mg : Str → Option Value) (base : Heap) (x : Str) (k : Nat) (sp : DSp) : Prop :=
  ∃ f fd ps, DFn P w K mg base k f fd ps sp ∧ mg x = some (.ref f) ∧ PySem.W.keepIn K (.ref f) = true ∧ Binds K fd ps []
theorem Ins.cal {x : Str} {st : Stmt} {ps : List Str} {f : Addr} {fd : FuncData} {k : Nat} {sp : DSp} (I : Ins K mg x st ps f fd) (h : DFn P w K mg base k f fd ps sp) : Cal P w K mg base x k sp := ⟨f, fd, ps, h, I.m, I.F.kp, I.b⟩
theorem Cal.mono {x : Str} {j k : Nat} {sp : DSp} (c : Cal P w K mg base x j sp) (h : j ≤ k) : Cal P w K mg base x k sp :=
  let ⟨f, fd, ps, F, r⟩ := c
  ⟨f, fd, ps, FnG.mono F h, r⟩
/-- a method m of the class at C -/
def CalM (P : Program) (w : World) (K : PySem.W.Frag) (mg : Str → Option Value) (base : Heap) (C : Addr) (m : Str) (k : Nat) (sp : DSp) : Prop :=
  ∃ f fd ps, DFn P w K mg base k f fd ps sp ∧ Meth K C m f ∧ Binds K fd ps []
/-- the class at C under the name x, its __init__ keeping sp -/
def CalC (P : Program) (w : World) (K : PySem.W.Frag) (mg : Str → Option Value) (base : Heap) (x : Str) (C : Addr) (k : Nat) (sp : DSp) : Prop :=
  ∃ f fd ps, DFn P w K mg base k f fd ps sp ∧ Mk K C f ∧ mg x = some (.ref C) ∧ Binds K fd ps []
end
section
variable {X : Cx} {B : DB} {k : Nat} {C : Addr} {sp : DSp} {W : DWx} {x m : Str} {p pos apos : Pos} {e o : Expr} {es : List Expr} {t : DTm} {ts : List DTm}
theorem dcal (c : Cal X.prog X.w X.K X.mg X.base x k sp) (hr : Room k X.A) (gd : X.A.guards = some []) (tk : Takes X (LW X.K B W))
    (ha : DA X B (e :: es) ts) (hg : Gl X x := by rfl) (hdb : (x == ("__debug__" : Str)) = false := by decide) (he : starEach (e :: es) X.env = (false, eval e X.env) :: starEach es X.env := by rfl) (hpl : (backTo pos (starEach es X.env)).any (·.1) = false := by rfl) :
    DE X B (.Call (.Name x p) (e :: es) [] pos) (dCall sp W [] ts) :=
  let ⟨_, _, _, F, hm, hk, hb⟩ := c
  de_call F hr gd hm hk hb dfl0 tk ha hg hdb he hpl
theorem dcal0 (c : Cal X.prog X.w X.K X.mg X.base x k sp) (hr : Room k X.A) (gd : X.A.guards = some []) (tk : Takes X (LW X.K B W))
    (hg : Gl X x := by rfl) (hdb : (x == ("__debug__" : Str)) = false := by decide) : DE X B (.Call (.Name x p) [] [] pos) (dCall sp W [] []) :=
  let ⟨_, _, _, F, hm, hk, hb⟩ := c
  de_call0 F hr gd hm hk hb dfl0 tk hg hdb
/-- what a promise of __init__ must bear: it tells None -/
def RetN (sp : DSp) : Prop := ∀ ds S Q E, sp ds S Q E → sp ds S (fun d S' => d = .non ∧ Q d S') E
theorem dmake (c : CalC X.prog X.w X.K X.mg X.base x C k sp) (hr : Room (k + 1) X.A) (gd : X.A.guards = some []) (tk : Takes X (LW X.K B W)) (hret : RetN sp)
    (ha : DA X B (e :: es) ts) (hg : Gl X x := by rfl) (hdb : (x == ("__debug__" : Str)) = false := by decide) (he : starEach (e :: es) X.env = (false, eval e X.env) :: starEach es X.env := by rfl) (hpl : (backTo pos (starEach es X.env)).any (·.1) = false := by rfl) :
    DE X B (.Call (.Name x p) (e :: es) [] pos) (dMake C sp W [] ts) :=
  let ⟨_, _, _, F, M, hm, hb⟩ := c
  de_make M F hr gd hm hb dfl0 tk hret ha hg hdb he hpl
theorem dmake0 (c : CalC X.prog X.w X.K X.mg X.base x C k sp) (hr : Room (k + 1) X.A) (gd : X.A.guards = some []) (tk : Takes X (LW X.K B W)) (hret : RetN sp)
    (hg : Gl X x := by rfl) (hdb : (x == ("__debug__" : Str)) = false := by decide) : DE X B (.Call (.Name x p) [] [] pos) (dMake C sp W [] []) :=
  let ⟨_, _, _, F, M, hm, hb⟩ := c
  de_make0 M F hr gd hm hb dfl0 tk hret hg hdb
theorem de_gintE {i : Int} (hm : ∃ t, X.mg x = some (.int i t)) (hg : Gl X x := by rfl) (hd : (x == ("__debug__" : Str)) = false := by decide) : DE X B (.Name x pos) (dC (.int i)) := let ⟨_, h⟩ := hm; de_gint hg h hd
theorem de_gstrE {y : Str} (hm : ∃ t, X.mg x = some (.str y t)) (h : y.length ≤ sizeLine := by decide) (hg : Gl X x := by rfl) (hd : (x == ("__debug__" : Str)) = false := by decide) : DE X B (.Name x pos) (dC (.str y)) := let ⟨_, hm⟩ := hm; de_gstr hg hm h hd
theorem de_tyv {n : String} (hm : X.mg x = none) (hv : bootBuiltins x = some (.type n) := by decide +kernel) (hg : Gl X x := by rfl) (hn : x ≠ "__name__" := by decide) (hd : (x == ("__debug__" : Str)) = false := by decide) : DE X B (.Name x pos) (dC (.ty n)) :=
  de_c (pe_bltn (v := .ty n) hg hm hv rfl hn hd) fun _ _ _ => by simp only [RepV]
/-- a class as a value -/
theorem de_clsv (hm : X.mg x = some (.ref C)) (hg : Gl X x := by rfl) (hd : (x == ("__debug__" : Str)) = false := by decide) : DE X B (.Name x pos) (dC (.ref C)) :=
  de_c (pe_glob (v := .ref C) hg hm rfl hd) fun _ _ _ => rep_ref
def dNeg (t : DTm) (ρ : DEnv) (S : DS) (Q : DQ) : Prop := t ρ S fun d S1 => match d with
  | .int i => Q (.int (-i)) S1
  | _ => False
theorem de_neg (h : DE X B e t) : DE X B (.UnaryOp .USub e pos) (dNeg t) := PE.imp (pe_un un_neg h) fun σ H Q ⟨ρ, S, Qd, st, q, k⟩ => ⟨ρ, S, _, st, q, fun v H1 d S1 f1 r1 v1 q1 => by
  split at q1
  · exact ⟨_, of_int v1, (k.next f1).here r1 rep_int q1⟩
  · exact q1.elim⟩
/-- a dict display of text keys, and values -/
def dDic0 (_ : DEnv) (S : DS) (Q : DQ) : Prop := Q (.dic [] []) S
def dDic0M (_ : DEnv) (S : DS) (Q : DQ) : Prop := ∀ p, S p = none → Q (.ref p) (sup S p (.dic []))
theorem de_dic0 : DE X B (.Dict [] [] pos) dDic0 := PE.imp pe_dnewK fun σ H Q ⟨ρ, S, Qd, st, q, k⟩ p hp => k _ _ (.dic [] []) S (Frm.new hp) (st.st.new hp) (by
  simp only [RepV]
  exact ⟨p, [], rfl, .inl upd_same, st.st.there hp, rfl, RepVs.nil⟩) q
theorem de_dic0M : DE X B (.Dict [] [] pos) dDic0M := PE.imp pe_dnewK fun σ H Q ⟨ρ, S, Qd, st, q, k⟩ p hp => by
  have fr : Frm H S (upd H p (.dK [])) (sup S p (.dic [])) := Frm.newS hp
  exact k _ _ (.ref p) _ fr (st.st.put fr ⟨[], upd_same, rfl, RepVs.nil⟩) rep_ref (q p (st.st.there hp))
end

/-- what the law promises: of a list of at most n ints it tells True -/
def spLaw (n : Nat) : DSp := fun ds S Q _ => ∃ ns : List Int, ds = [.lst (ns.map D.int)] ∧ ns.length ≤ n ∧ ∀ S', Q (.bl true) S'
theorem law_run {P : Program} {w : World} {K : PySem.W.Frag} {mg mb : Str → Option Value} {k n : Nat} {fa a : Addr} {fd : FuncData} {x : Str} {s₁ : Shared} {vs : List Value} {ns : List Int}
    (KX : K.In s₁.heap) (hns : s₁.heap.Ns mainGlobals mg) (hb : s₁.heap.Ns builtinsNs mb) (hbb : ∀ x : Str, x ≠ "__name__" → mb x = bootBuiltins x) (hlim : s₁.heap.NoLimit) (hg : s₁.gens = #[])
    (ha : s₁.heap.get? a = some { cls := .type "list", data := .seq vs.toArray }) (hi : IntsAre vs ns) (hl : ns.length ≤ n) (hn : n ≤ sizeLine) (hr : Room k callerA)
    (F : ∀ base : Heap, K.In base → base.Ns mainGlobals mg → DFn P w K mg base k fa fd [x] (spLaw n)) (hbind : ∀ (s : Shared) (u : Value), BindsTo s fd ⟨[u], []⟩ [(x, u)]) :
    codeAny (model P w) callerA (.call (.ref fa) ⟨[.ref a], []⟩) (fun r s' => r = .ok (.ret (.bool true)) ∧ OldK s₁.heap s'.heap ∧ s'.os = s₁.os ∧ AllBare s'.gens) s₁ := by
  have vals := vals_ints hi
  have lens := hi.length
  have lz : ns.length ≤ sizeLine := Nat.le_trans hl hn
  -- nothing, or the script alone, is tracked
  have go : ∀ H : Hp, Only H → DLs K H (fun _ => none) a (ns.map V.int) → HOk P w H s₁.heap → (∀ b, H b ≠ none → b = a) → (H a ≠ none → K.lookup a = none) →
      codeAny (model P w) callerA (.call (.ref fa) ⟨[.ref a], []⟩) (fun r s' => r = .ok (.ret (.bool true)) ∧ OldK s₁.heap s'.heap ∧ s'.os = s₁.os ∧ AllBare s'.gens) s₁ := by
    intro H only script ok alone notK
    have there : ∀ b o, s₁.heap.get? b = some o → H b = none → (hidT s₁.heap H).get? b = some o := fun b o e z => hidT_get e z
    have dictFree : ∀ b o es ep, s₁.heap.get? b = some o → o.data = .dict es ep → H b = none := by
      intro b o es ep e dd
      cases hb' : H b with
      | none => rfl
      | some u =>
        have ba := alone b (by rw [hb']; exact fun z => nomatch z)
        rw [ba, ha] at e
        have e' := Option.some.inj e
        rw [← e'] at dd
        exact nomatch dd
    have names : ∀ b m, s₁.heap.Ns b m → (hidT s₁.heap H).Ns b m := by
      rintro b m ⟨o, es, ep, e, dd, more⟩
      exact ⟨o, es, ep, there b o e (dictFree b o es ep e dd), dd, more⟩
    have written : K.In (hidT s₁.heap H) := by
      intro b o e
      refine there b o (KX b o e) ?_
      cases hb' : H b with
      | none => rfl
      | some u =>
        have ba := alone b (by rw [hb']; exact fun z => nomatch z)
        rw [ba] at e hb'
        have := notK (by rw [hb']; exact fun z => nomatch z)
        rw [this] at e
        exact nomatch e
    obtain ⟨mc, lim1, lim2⟩ := hlim
    have md : Mod K mg (hidT s₁.heap H) := ⟨written, names _ _ hns, ⟨mb, names _ _ hb, hbb⟩, mc, names _ _ lim1, lim2⟩
    have en : Env0 P w K mg (hidT s₁.heap H) callerA [] s₁ H :=
      { frames := rfl, mod := md, bs := fun _ _ e => of_hidT e, bsz := Nat.le_of_eq (hidT_size _ _), funs := trivial, frf := (fun _ z => by cases z), hok := ok, bare := .of_eq hg }
    have prom : liftSp K (spLaw n) [.ref a] H (fun v _ => v = .bl true) (fun _ _ _ => False) :=
      ⟨[.lst (ns.map D.int)], fun _ => none, fun d _ => d = .bl true, fun _ _ _ => False, (fun _ _ z => nomatch z), RepVs.cons (by simp only [RepV]; exact ⟨a, ns.map V.int, rfl, script, ints_rep ns, by rw [List.length_map]; exact lz⟩) RepVs.nil,
        ⟨ns, rfl, hl, fun _ => rfl⟩, (fun v H' d S' _ _ rv e => by subst e; exact of_bl rv), fun _ _ _ _ _ _ _ _ z => z⟩
    refine codeAny_mono ((F _ written (names _ _ hns)).run callerA [] s₁ H ⟨[.ref a], []⟩ [.ref a] [.ref a] _ _ hr rfl en (hbind s₁ _) (.cons rfl .nil) prom) fun r s' h => ?_
    match r, h with
    | .error e, h =>
      obtain ⟨_, _, _, _, _, _, _, _, _, _, _, _, z⟩ := (show L2.CX P w [] H s₁ (fun _ _ _ => False) e s' from h)
      exact z.elim
    | .ok .next, h => exact h.elim
    | .ok .brk, h => exact h.elim
    | .ok .cont, h => exact h.elim
    | .ok (.ret u), h =>
      obtain ⟨v, H', os, bare, un, ok', rv, rfl⟩ := h
      obtain rfl : u = Value.bool true := rv
      refine ⟨rfl, OldK.of_keep (fun b o e => ?_), os, bare⟩
      rcases only b with z | ⟨ob, xs, z⟩
      · exact un.keep b o e z (fun q => by cases q) (fun q => by cases q)
      · have z' := un.frzs b ob _ z
        have k1 := (ok b _ z).1
        have k2 := (ok' b _ z').1
        rw [e] at k1
        rw [k2, ← Option.some.inj k1]
  cases hk : K.lookup a with
  | some o =>
    have e := KX a o hk
    rw [ha] at e
    have eo := Option.some.inj e
    refine go (fun _ => none) (fun _ => .inl rfl) (.inr ⟨o, vs.toArray, _, hk, by rw [← eo], by rw [← eo], by rw [← eo], by rw [List.size_toArray, lens]; exact lz, by simpa using vals⟩) (fun b u z => nomatch z) (fun b z => absurd rfl z) fun z => absurd rfl z
  | none =>
    let so : Obj := { cls := .type "list", data := .seq vs.toArray }
    refine go (fun b => if b = a then some (.frz so (.lst (ns.map V.int))) else none) (fun b => ?_) (.inl ⟨.inr ⟨so, if_pos rfl⟩, rfl⟩) (fun b u z => ?_) (fun b z => ?_) fun _ => hk
    · by_cases c : b = a
      · exact .inr ⟨so, ns.map V.int, if_pos c⟩
      · exact .inl (if_neg c)
    · by_cases c : b = a
      · have z' := (if_pos c).symm.trans z
        cases z'
        rw [c]
        exact ⟨ha, by rw [List.length_map]; exact lz, vs, _, vals, ha⟩
      · have z' := (if_neg c).symm.trans z
        cases z'
    · by_cases c : b = a
      · exact c
      · exact absurd (if_neg c) z
theorem walk_D {l : PySem.W.OpenLaw} {n k : Nat} {q : Program} {loose : List Str} {XP : (Str → Option Value) → Heap → Prop} {YP : World → Heap → Prop} {d : DefRec} {x : Str} {K : Params → PySem.W.Frag}
    (hn : l.most = some n) (hn2 : n ≤ sizeLine) (hdf : d.params.defaults = []) (hr : Room k callerA) (hY : ∀ (w : World) (h : Heap), YP w h → (K w.params).In h)
    (F : ∀ (w : World) (mg : Str → Option Value) (fa : Addr) (h : Heap), (K w.params).In h → XP mg h → h.Ns mainGlobals mg → mg d.name = some (.ref fa) →
      ∃ fd : FuncData, (∀ (s : Shared) (u : Value), BindsTo s fd ⟨[u], []⟩ [(x, u)]) ∧ ∀ base : Heap, (K w.params).In base → base.Ns mainGlobals mg → DFn l.prog w (K w.params) mg base k fa fd [x] (spLaw n)) :
    PySem.W.WalkO q loose XP YP l.row.toRowW d [] (fun f vs => PySem.call f vs) := by
  refine Att.attach_call hn hdf fun w s₀ s₁ mg mb fa o pm cd doc a vs ns G Y ho hd hcd hmg hobj hints hlen hg => ?_
  obtain ⟨fd, hb, hF⟩ := F w mg fa _ (hY w _ Y) G.X G.T.g hmg
  exact law_run (hY w _ Y) G.T.g G.T.b G.T.builtins G.T.nolimit hg hobj hints hlen hn2 hr hF hb
end DL

namespace DL
open PySem PySem.Spec PyProof.Rows L2

abbrev oLt : DO2 := oI0 fun i j => .bl (decide (i < j))
abbrev oLe : DO2 := oI0 fun i j => .bl (decide (i ≤ j))
abbrev oGt : DO2 := oI0 fun i j => .bl (decide (j < i))
abbrev oGe : DO2 := oI0 fun i j => .bl (decide (j ≤ i))
abbrev oAdd : DO2 := oI0 fun i j => .int (i + j)
abbrev oSub : DO2 := oI0 fun i j => .int (i - j)
abbrev oMul : DO2 := oI CMul fun i j => .int (i * j)
abbrev oFdiv : DO2 := oI CDiv fun i j => .int (i / j)
abbrev oMod : DO2 := oI (fun _ j => 0 < j) fun i j => .int (i % j)
abbrev oPow : DO2 := oI CPow fun i j => .int (i ^ j.toNat)
abbrev dItStr (t : DTm) : DIt := fun ρ S Q => t ρ S fun d S1 => match d with | .str x => Q (signs x) S1 | _ => False
abbrev dItTup (t : DTm) : DIt := fun ρ S Q => t ρ S fun d S1 => match d with | .tup ds => Q ds S1 | _ => False
abbrev dItLst (t : DTm) : DIt := fun ρ S Q => t ρ S fun d S1 => match d with | .lst ds => Q ds S1 | _ => False
abbrev dgT (n : Nat) (gs : List DGt) : DGt := fun d ρ S Q => (match d with | .tup ds => ds.length = n | _ => False) ∧ dgTup gs d ρ S Q
/-- isinstance(e, c), e an error without fields that a suite holds -/
def clsKit (K : PySem.W.Frag) (D : Addr) : DL.D → Option Bool
  | .ref C => PySem.W.kitOne K (.ref D) (.ref C)
  | .ty n => PySem.W.kitOne K (.ref D) (.type n)
  | _ => none
def oIsE (K : PySem.W.Frag) (a : Addr) (cls : Value) (fl : DFl) : DCl := fun ds S Q => match ds with
  | [.ref b, c] => b = a ∧ fl = none ∧ ∃ D k, cls = .ref D ∧ ExcC K D ∧ clsKit K D c = some k ∧ Q (.bl k) S
  | _ => False
def rIsX (K : PySem.W.Frag) (a : Addr) (cls : Value) (d : Option Addr) : List V → Hp → VK → Prop := fun xs H Q => d = none ∧ ∃ D, cls = .ref D ∧ ExcC K D ∧ rIsE K D a xs H Q
theorem call_isX {X : Cx} {a : Addr} {oe : Obj} {cls : Value} {d : Option Addr} {pn : List (Addr × Obj)} (hz : Zc cls d oe) (hf : ∃ vs, oe.data = .fields vs) : CallR (X.suite a ((a, oe) :: pn)) (.builtin "isinstance") (rIsX X.K a cls d) := by
  intro pins s σ H xs us Q I r ⟨ed, D, ec, C, h⟩
  subst ed ec
  exact call_isE C hz hf pins s σ H xs us Q I r h
theorem cd_isE {K : PySem.W.Frag} {B : DB} {a : Addr} {cls : Value} {d : Option Addr} {fl : DFl} (rx : RepX K B.H B.S d fl) : ClD K (rIsX K a cls d) (oIsE K a cls fl) := fun H S vs ds Q Qd rs rv h k => by
  unfold oIsE at h
  split at h
  · rename_i b c
    obtain ⟨rfl, rfl, D, kk, ec, C, hk, q⟩ := h
    obtain ⟨v, w, rfl, r1, r2⟩ := of_vs2 rv
    refine ⟨rx, D, ec, C, ?_⟩
    rw [of_ref r1]
    unfold clsKit at hk
    split at hk
    · rw [of_ref r2]
      exact ⟨_, _, kk, rfl, fun u z => z, hk, k.here rs rep_bl q⟩
    · simp only [RepV] at r2
      subst r2
      exact ⟨_, _, kk, rfl, fun u z => z, hk, k.here rs rep_bl q⟩
    · cases hk
  · exact h.elim
section
variable {X : Cx} {B : DB} {C : Addr} {m : Str} {k : Nat} {sp : DSp} {W : DWx} {p pos apos : Pos} {e o v : Expr} {es : List Expr} {t : DTm} {ts : List DTm}
theorem dmeth {pl : Sem Bool} (cl : Cls X.K C) (c : CalM X.prog X.w X.K X.mg X.base C m k sp) (hr : Room k X.A) (gd : X.A.guards = some []) (tk : Takes X (LW X.K B W)) (ho : DE X B o t) (ha : DA X B (e :: es) ts)
    (hst : starEach (e :: es) X.env = (false, eval e X.env) :: starEach es X.env := by rfl) (hpl : (backTo pos (starEach es X.env)).any (·.1) = false := by rfl)
    (ht : eval (.Call (.Attribute o m apos) (e :: es) [] pos) X.env = (do
      let ov ← eval o X.env
      standAt apos.atName
      let (f, first) ← holding [ov] (getMethod ov m pl)
      callWith pos f first (backTo pos (starEach (e :: es) X.env)) (backToKw pos (keywordEach [] X.env))) := by rfl) : DE X B (.Call (.Attribute o m apos) (e :: es) [] pos) (dMeth C m sp W [] t ts) :=
  let ⟨_, _, _, F, hm, hb⟩ := c
  de_meth (pl := pl) cl hm F hr gd hb dfl0 tk ho ha hst hpl ht
theorem dmeth0 {pl : Sem Bool} (cl : Cls X.K C) (c : CalM X.prog X.w X.K X.mg X.base C m k sp) (hr : Room k X.A) (gd : X.A.guards = some []) (tk : Takes X (LW X.K B W)) (ho : DE X B o t)
    (ht : eval (.Call (.Attribute o m apos) [] [] pos) X.env = (do
      let ov ← eval o X.env
      standAt apos.atName
      let (f, first) ← holding [ov] (getMethod ov m pl)
      callWith pos f first (backTo pos (starEach [] X.env)) (backToKw pos (keywordEach [] X.env))) := by rfl) : DE X B (.Call (.Attribute o m apos) [] [] pos) (dMeth C m sp W [] t []) :=
  let ⟨_, _, _, F, hm, hb⟩ := c
  de_meth0 (pl := pl) cl hm F hr gd hb dfl0 tk ho ht
theorem names_of {x : Str} (hm : X.mg x = some (.ref C)) (hg : Gl X x := by rfl) (hd : (x == ("__debug__" : Str)) = false := by decide) : Names X x (.ref C) := ⟨hg, hd, .inl hm⟩
/-- {'key': v} -/
def dDic1 (key : Str) (t : DTm) (ρ : DEnv) (S : DS) (Q : DQ) : Prop := ∀ p o, S p = none → t ρ (sup S p (.raw o)) fun d S2 => S2 p = some (.raw o) ∧ Q (.dic [Sum.inr key] [d]) (sdel S2 p)
theorem de_dic1 {key : Str} {j : Nat} {p1 : Pos} (hv : DE X B v t) : DE X B (.Dict [some (.Constant (.str key) j p1)] [v] pos) (dDic1 key t) :=
  PE.imp (pe_disp (pps_cons pe_str hv pps_nil) rfl rfl (by simp) (by show 1 ≤ 15; decide)) fun σ H Q ⟨ρ, S, Qd, st, q, k⟩ p hp => by
  have fr : Frm H S (upd H p (.dK [])) (sup S p (.raw (.dK []))) := Frm.newS hp
  have pn : ∀ a u, H a = some u → S a = none → a ≠ p := fun a u e _ z => by rw [z, hp] at e; cases e
  refine ⟨ρ, _, _, ⟨st.frm.trans fr, st.st.put fr upd_same, st.env.frm fr⟩, q p (.dK []) (st.st.there hp), fun y H2 d S2 f2 r2 v2 ⟨e2, q2⟩ => ?_⟩
  refine ⟨r2 p _ e2, [(Sum.inr key, y)], rfl, (by decide : 1 ≤ 15), ?_⟩
  have ee : mergeK ([] : List (Key × V)) [(Sum.inr key, y)] = [(Sum.inr key, y)] := by simp [mergeK, putK]
  rw [ee]
  have f3 : Frm H2 S2 (upd H2 p (.dK [(Sum.inr key, y)])) (sup S2 p (.raw (.dK [(Sum.inr key, y)]))) := Frm.chg e2
  have sb : Sub (sdel S2 p) (sup S2 p (.raw (.dK [(Sum.inr key, y)]))) := fun b u e => by
    unfold sdel at e
    split at e
    · cases e
    · rename_i c; rw [sup_ne c]; exact e
  have r3 := (r2.put f3 upd_same).sub sb
  have f4 := ((fr.trans f2).trans f3).sub sb
  refine k (.ref p) _ _ _ f4 r3 ?_ q2
  simp only [RepV]
  exact ⟨p, _, rfl, .inl upd_same, sdel_same, rfl, RepVs.cons (RepV.frm (Frm.less sb) _ _ (RepV.frm f3 _ _ v2)) RepVs.nil⟩
end
end DL

namespace DL
open PySem PySem.Spec PyProof.Rows L2

mutual
/-- plain data, all through -/
def dat : D → Bool
  | .non => true
  | .bl _ => true
  | .int _ => true
  | .str _ => true
  | .tup l => dats l
  | .lst l => dats l
  | .dic _ vs => dats vs
  | _ => false
def dats : List D → Bool
  | [] => true
  | d :: ds => dat d && dats ds
end
theorem dats_mem {d : D} : ∀ {l : List D}, dats l = true → d ∈ l → dat d = true
  | [], _, h => by simp at h
  | e :: l, h, hm => by
    simp only [dats, Bool.and_eq_true] at h
    rcases List.mem_cons.mp hm with rfl | hm
    · exact h.1
    · exact dats_mem h.2 hm
theorem dats_of : ∀ {l : List D}, (∀ d ∈ l, dat d = true) → dats l = true
  | [], _ => rfl
  | e :: l, h => by
    simp only [dats, Bool.and_eq_true]
    exact ⟨h e List.mem_cons_self, dats_of fun d hd => h d (List.mem_cons_of_mem _ hd)⟩
def isIntB : D → Bool
  | .int _ => true
  | .bl _ => true
  | _ => false
def isBoolB : D → Bool
  | .bl _ => true
  | _ => false
def isStrB : D → Bool
  | .str _ => true
  | _ => false
def isTupB : D → Bool
  | .tup _ => true
  | _ => false
section
variable {S : DS} {Q : DQ} {x : D}
theorem isi_int (h : dat x = true) (q : Q (.bl (isIntB x)) S) : oIsi [x, .ty "int"] S Q := by
  cases x <;> first | (simp only [dat] at h; cases h; done) | exact ⟨_, _, rfl, (by first | (show kitB _ _ = some true; decide +kernel) | (show kitB _ _ = some false; decide +kernel)), q⟩
theorem isi_bool (h : dat x = true) (q : Q (.bl (isBoolB x)) S) : oIsi [x, .ty "bool"] S Q := by
  cases x <;> first | (simp only [dat] at h; cases h; done) | exact ⟨_, _, rfl, (by first | (show kitB _ _ = some true; decide +kernel) | (show kitB _ _ = some false; decide +kernel)), q⟩
theorem isi_str (h : dat x = true) (q : Q (.bl (isStrB x)) S) : oIsi [x, .ty "str"] S Q := by
  cases x <;> first | (simp only [dat] at h; cases h; done) | exact ⟨_, _, rfl, (by first | (show kitB _ _ = some true; decide +kernel) | (show kitB _ _ = some false; decide +kernel)), q⟩
theorem isi_tup (h : dat x = true) (q : Q (.bl (isTupB x)) S) : oIsi [x, .ty "tuple"] S Q := by
  cases x <;> first | (simp only [dat] at h; cases h; done) | exact ⟨_, _, rfl, (by first | (show kitB _ _ = some true; decide +kernel) | (show kitB _ _ = some false; decide +kernel)), q⟩
end

end DL

namespace DL
open PySem PySem.Spec PyProof.Rows L2

def IteS (x : Str) : It :=
  ⟨fun i _ => i < x.cps.size, fun i H v H1 => ∃ T c, v = .ref T ∧ H T = none ∧ H1 = upd H T (.tup [.int (i : Nat), .str ⟨#[c]⟩]) ∧ x.cps[i]? = some c, fun i _ => i = x.cps.size⟩
theorem draws_sign {P : Program} {w : World} {A : Around} (h0 : A.handled = none) (j : Addr) (x : Str) (t : Tok) :
    Draws P w A j [j] x.cps.size (fun i v => ∃ c u, x.cps[i]? = some c ∧ v = .str ⟨#[c]⟩ u) (fun i h => h.IsStrIter j (strIterType x) x t i) := by
  unfold strIterType
  split
  · exact Draws.strAscii h0 j x t
  · exact Draws.strWide h0 j x t
theorem turn_enumS {P : Program} {w : World} {K : PySem.W.Frag} {elts : List Expr} {kk : Nat} {tpos : Pos} (x : Str) (t : Tok) (n j : Addr) :
    Turn P w K (.Tuple elts kk tpos) (IteS x) [n, j] n (fun i h => (∃ o, IsEnum h n j ((i : Nat) : Int) o) ∧ h.IsStrIter j (strIterType x) x t i ∧ n ≠ j) where
  mem := by simp
  obj := fun i h hst b hb => by
    obtain ⟨⟨o1, hE⟩, ⟨o2, h2, h3, h4⟩, _⟩ := hst
    rcases (by simpa using hb : b = n ∨ b = j) with z | z
    · rw [z]; exact ⟨_, hE, fun v q => nomatch q⟩
    · rw [z]; exact ⟨o2, h2, fun v q => by rw [h4] at q; cases q⟩
  keep := fun i h h1 ⟨⟨o1, hE⟩, ⟨o2, h2, h3⟩, hN⟩ k => ⟨⟨o1, k n (by simp) _ hE⟩, ⟨o2, k j (by simp) o2 h2, h3⟩, hN⟩
  item := by
    intro Y e1 e2 e3 calm i ps s τ H E J fps hst hgo
    subst e1 e2 e3
    obtain ⟨⟨o1, hE⟩, hI, hN⟩ := hst
    have b1 : n < s.heap.objs.size := Heap.lt_size hE
    have b2 : j < s.heap.objs.size := by obtain ⟨_, q, _⟩ := hI; exact Heap.lt_size q
    have nj : n ∉ [j] := by simpa using hN
    refine wpAny_pyNext_enum_itemD (draws_sign (P := Y.prog) (w := Y.w) (A := Y.A.in1) (J.ok.hd calm) j x t) hE hI hgo hN nj fun y h1 k ⟨c, u, hc, ey⟩ ho hI1 hT hz hk => ?_
    subst ey
    refine ⟨_, rfl, wpAny_letOwnedTupleGo_enum (s := { s with heap := h1, toks := k + 1 }) ho fun h2 hE2 sb => ?_⟩
    have hT2 := (sb.2 _ (Nat.ne_of_gt b1)).trans hT
    have fresh : ObjOk Y.prog Y.w (upd H s.heap.objs.size (.tup [.int (i : Nat), .str ⟨#[c]⟩])) h2 s.heap.objs.size (.tup [.int (i : Nat), .str ⟨#[c]⟩]) :=
      ⟨two_le, [.int i k, .str ⟨#[c]⟩ u], .cons ⟨_, rfl⟩ (.cons ⟨_, rfl⟩ .nil), ⟨_, hT2, rfl, _, rfl⟩⟩
    have J1 : Inv Y ps τ (upd H s.heap.objs.size (.tup [.int (i : Nat), .str ⟨#[c]⟩])) { s with heap := h2, toks := k + 1 } :=
      J.turnedNew (ch := [n, j]) (fun b o hb q => (sb.2 b fun z => hb (by simp [z])).trans (hk b o (fun z => hb (by simp [z])) (fun z => hb (by simp [z])) q)) fps (Nat.le_refl _) fresh
    obtain ⟨o2, g1, g2, g3⟩ := hI1
    refine ⟨.ref s.heap.objs.size, _, J1, rfl, ⟨_, c, rfl, J.hok.fresh (Nat.le_refl _), rfl, hc⟩, ⟨⟨_, by rw [show ((i + 1 : Nat) : Int) = (i : Int) + 1 by omega]; exact hE2⟩, ⟨o2, (sb.2 j (Ne.symm hN)).trans g1, g2, g3⟩, hN⟩, fun b hb => ?_⟩
    have bs : b < s.heap.objs.size := by
      rcases (by simpa using hb : b = n ∨ b = j) with z | z
      · rw [z]; exact b1
      · rw [z]; exact b2
    rw [upd_ne (Nat.ne_of_lt bs)]
    exact (fps b hb).1
  done := by
    intro Y e1 e2 e3 calm i ps s τ H E J fps hst hgo
    subst e1 e2 e3
    obtain ⟨⟨o1, hE⟩, hI, hN⟩ := hst
    have hi : i = x.cps.size := hgo
    subst hi
    obtain ⟨g0, g1, g2, g3, g4, g5⟩ := fps j (by simp)
    refine wpAny_pyNext_enum_endD (draws_sign (P := Y.prog) (w := Y.w) (A := Y.A.in1) (J.ok.hd calm) j x t) hE hI fun h1 eb => ⟨rfl, J.turned (t' := s.toks) (fun b o hb q => eb b o hb q) g0 g1 g3 g4 g5⟩
  self := fun A i s Q E hst h => let ⟨⟨_, hE⟩, _⟩ := hst; wpAny_pyIter_enum hE h
/-- enumerate of a text: its signs in pairs with their places -/
def iEnumS (ta : TA) : TI := fun σ H R => ta σ H fun vs H1 => ∃ x, vs = [.str x] ∧ R (IteS x) H1
theorem pi_enumS {X : Cx} {e : Expr} {ta : TA} {p pos tpos : Pos} {elts : List Expr} {kk : Nat} (hg : Gl X "enumerate") (hm : X.mg "enumerate" = none) (ha : PA X [e] ta) (hs : starEach [e] X.env = [(false, eval e X.env)] := by rfl) :
    PI X (.Tuple elts kk tpos) (.Call (.Name "enumerate" p) [e] [] pos) (iEnumS ta) := by
  refine ⟨fun ps s τ H R J h => ?_⟩
  refine Call_ (ld_blt J hg hm boot_enumerate (PyProof.Rows.callWith_type1 (thn (ha.run pos ps s τ H _ J h) fun us s1 ⟨vs, H1, J1, r1, x, ev, q⟩ => ?_) hs rfl))
  subst ev
  obtain ⟨u, rfl, ru⟩ := vals1 r1
  obtain ⟨t, rfl⟩ := ru
  refine call_enumerate_str fun h1 hE hI hz hk => wpAny_pyIter_enum hE ?_
  have J2 : Inv X ps τ H1 { s1 with heap := h1 } := J1.kept (t' := s1.toks) hk
  refine ⟨s1.heap.objs.size + 1, [s1.heap.objs.size + 1, s1.heap.objs.size], _, _, H1, rfl, J2, turn_enumS x t (s1.heap.objs.size + 1) s1.heap.objs.size, ⟨⟨.none, hE⟩, hI, Nat.succ_ne_self _⟩, fun b hb => ?_, q⟩
  have le : s1.heap.objs.size ≤ b := by
    rcases (by simpa using hb : b = s1.heap.objs.size + 1 ∨ b = s1.heap.objs.size) with z | z
    · rw [z]; exact Nat.le_add_right _ _
    · rw [z]; exact Nat.le_refl _
  exact J1.fpOk le (J1.hok.fresh le)
def enumD (i : Nat) : List Nat → List D
  | [] => []
  | c :: cs => .tup [.int (i : Nat), .str ⟨#[c]⟩] :: enumD (i + 1) cs
theorem enumD_len : ∀ (cs : List Nat) (i : Nat), (enumD i cs).length = cs.length
  | [], _ => rfl
  | c :: cs, i => by rw [enumD, List.length_cons, List.length_cons, enumD_len]
theorem enumD_get : ∀ (cs : List Nat) (i k : Nat) (c : Nat), cs[k]? = some c → (enumD i cs)[k]? = some (.tup [.int ((i + k : Nat) : Int), .str ⟨#[c]⟩])
  | [], _, _, _, h => by simp at h
  | d :: cs, i, 0, c, h => by simp at h; subst h; simp [enumD]
  | d :: cs, i, k + 1, c, h => by
    have := enumD_get cs (i + 1) k c (by simpa using h)
    rw [enumD, List.getElem?_cons_succ, this, show i + 1 + k = i + (k + 1) by omega]
theorem itOk_enumS {K : PySem.W.Frag} {H : Hp} {S : DS} {x : Str} : ItOk K (IteS x) H S (enumD 0 x.cps.toList) where
  go := fun i H1 S1 f rs hi => by
    show i < x.cps.size
    rw [enumD_len] at hi; simpa using hi
  yld := fun i H1 S1 v H2 f rs hi y => by
    obtain ⟨T, c, rfl, hT, rfl, hc⟩ := y
    obtain ⟨g1, g2, g3, g4⟩ := yld_pair rs hT (rep_int (i := (i : Nat))) (rep_str (x := ⟨#[c]⟩) (one_len c))
    refine ⟨_, enumD_get _ 0 i c (by rw [Array.getElem?_toList]; exact hc), g1, g2, ?_, g4⟩
    rw [Nat.zero_add]; exact g3
  stop := fun H1 S1 f rs => by show _ = x.cps.size; rw [enumD_len]; simp
def dEnumS (ts : List DTm) : DIt := fun ρ S Q => dArgs ts ρ S fun ds S1 => match ds with
  | [.str x] => Q (enumD 0 x.cps.toList) S1
  | _ => False
section
variable {X : Cx} {B : DB} {e : Expr} {ts : List DTm} {elts : List Expr} {kk : Nat} {p pos tpos : Pos}
theorem di_enumS (hg : Gl X "enumerate") (hm : X.mg "enumerate" = none) (ha : DA X B [e] ts) (hs : starEach [e] X.env = [(false, eval e X.env)] := by rfl) : DI X B (.Tuple elts kk tpos) (.Call (.Name "enumerate" p) [e] [] pos) (dEnumS ts) :=
  ⟨_, pi_enumS hg hm ha hs, fun σ H ρ S Qd R st q k => by
  refine ⟨ρ, S, _, st, q, fun vs H1 ds S1 f1 r1 v1 l1 q1 => ?_⟩
  split at q1
  · obtain ⟨v, rfl, rv⟩ := of_vs1 v1
    obtain ⟨rfl, z⟩ := of_str rv
    exact ⟨_, rfl, k _ _ _ _ f1 r1 itOk_enumS (by rw [enumD_len]; exact z) q1⟩
  · exact q1.elim⟩
end

def oIsF (K : PySem.W.Frag) (a : Addr) (cls : Value) : DCl := fun ds S Q => match ds with
  | [.ref b, c] => b = a ∧ ∃ D k, cls = .ref D ∧ ExcC K D ∧ clsKit K D c = some k ∧ Q (.bl k) S
  | _ => False
def rIsF (K : PySem.W.Frag) (a : Addr) (cls : Value) (d : Option Addr) : List V → Hp → VK → Prop := fun xs H Q => (∃ D, cls = .ref D ∧ ExcC K D ∧ rIsE K D a xs H Q) ∧ (d = none ∨ ∃ dd fs, d = some dd ∧ H dd = some (.xd fs))
theorem call_isF {X : Cx} {a : Addr} {oe : Obj} {cls : Value} {d : Option Addr} {pn : List (Addr × Obj)} (hz : Zc cls d oe) (hf : ∃ vs, oe.data = .fields vs) : CallR (X.suite a ((a, oe) :: pn)) (.builtin "isinstance") (rIsF X.K a cls d) := by
  intro ps s τ H xs us Q J r ⟨⟨D, ec, C, c, cv, b, ex, hcv, e, q⟩, hd⟩
  subst ec ex
  cases r with
  | cons r1 r2 =>
    cases r2 with
    | cons r3 r4 =>
      cases r4
      cases r1
      obtain rfl := hcv _ r3
      obtain ⟨at_, _⟩ := J.pin (a, oe) (List.mem_append_left _ List.mem_cons_self)
      obtain ⟨vs, hv⟩ := hf
      have no : PySem.W.notCls oe = true := by unfold PySem.W.notCls; rw [hv] <;> rfl
      have JI : ∃ od, PySem.W.InstAt s.heap a oe D od := by
        rcases hd with hd | ⟨dd, fs, hd, hx⟩
        · exact ⟨none, at_, hz.1, no, by rw [hz.2, hd]; trivial⟩
        · obtain ⟨mA, n1, n2⟩ := (J.hok dd _ hx : ObjOk X.prog X.w H s.heap dd (.xd fs))
          obtain ⟨od, o1, o2⟩ := lookIn_ns n1
          exact ⟨some od, at_, hz.1, no, by rw [hz.2, hd]; exact o1⟩
      obtain ⟨od, JI⟩ := JI
      obtain ⟨cd, hc, _⟩ := PySem.W.any_some C.hd
      exact PySem.W.kia_one (PySem.W.kitx_exc (by rw [hc] <;> rfl) C.hg C.hk C.hs C.ha C.hn C.ht C.hm) J.kIn JI e (fun z => nomatch z) fun tk => ⟨.bl b, H, J.kept (t' := tk) fun _ _ z => z, rfl, q⟩
section
variable {X : Cx} {B : DB} {a : Addr} {oe : Obj} {cls : Value} {d : Option Addr} {fl : DFl} {pn : List (Addr × Obj)} {e : Expr} {es : List Expr} {ts : List DTm} {p pos : Pos}
theorem de_isF (hz : Zc cls d oe) (hf : ∃ vs, oe.data = .fields vs) (rx : RepX X.K B.H B.S d fl) (hm : X.mg "isinstance" = none) (ha : DA (X.suite a ((a, oe) :: pn)) B (e :: es) ts) (hg : Gl (X.suite a ((a, oe) :: pn)) "isinstance" := by rfl)
    (he : starEach (e :: es) (X.suite a ((a, oe) :: pn)).env = (false, eval e (X.suite a ((a, oe) :: pn)).env) :: starEach es (X.suite a ((a, oe) :: pn)).env := by rfl) (hpl : (backTo pos (starEach es (X.suite a ((a, oe) :: pn)).env)).any (·.1) = false := by rfl) :
    DE (X.suite a ((a, oe) :: pn)) B (.Call (.Name "isinstance" p) (e :: es) [] pos) (dCB (oIsF X.K a cls) ts) :=
  PE.imp (pe_callB (call_isF hz hf) hg hm (by decide +kernel) ha (by decide) (by decide) he hpl) fun σ H Q ⟨ρ, S, Qd, st, q, k⟩ => by
  refine ⟨ρ, S, _, st, q, fun vs H1 ds S1 f1 r1 v1 l1 q1 => ?_⟩
  unfold oIsF at q1
  split at q1
  · rename_i b c
    obtain ⟨rfl, D, kk, ec, C, hk, q1⟩ := q1
    obtain ⟨v, w, rfl, g1, g2⟩ := of_vs2 v1
    have rx1 := rx.frm (st.frm.trans f1)
    refine ⟨⟨D, ec, C, ?_⟩, ?_⟩
    · rw [of_ref g1]
      unfold clsKit at hk
      split at hk
      · rw [of_ref g2]
        exact ⟨_, _, kk, rfl, fun u z => z, hk, (k.next f1).here r1 rep_bl q1⟩
      · simp only [RepV] at g2
        subst g2
        exact ⟨_, _, kk, rfl, fun u z => z, hk, (k.next f1).here r1 rep_bl q1⟩
      · cases hk
    · cases fl with
      | none => exact .inl rx1
      | some fs => obtain ⟨dd, hs, e1, e2, _⟩ := rx1; exact .inr ⟨dd, hs, e1, e2⟩
  · exact q1.elim
end

theorem mulOk_one {x : Str} {n : Int} (h0 : 1 ≤ n) (h1 : n ≤ 100000) (h2 : x.length = 1) : PySem.MulOk x n := by
  refine ⟨by simp only [Bool.or_eq_false_iff, decide_eq_false_iff_not]; constructor <;> omega, fun _ _ => ?_, fun _ _ => ?_⟩
  · have : (1 : Int) ≤ (2 ^ 63 - 1) / n := Int.le_ediv_of_mul_le (by omega) (by omega)
    omega
  · have z := sizeLine_eq
    have e : ¬ (x.length * n.toNat > sizeLine) := by rw [h2]; omega
    show decide (x.length * n.toNat > sizeLine) = false
    exact decide_eq_false e
def oMulS : DO2 := fun x y S Q => match x, y with
  | .str a, .int n => a.length = 1 ∧ 1 ≤ n ∧ n ≤ 100000 ∧ ∀ z : Str, z.length = n.toNat → Q (.str z) S
  | _, _ => False
theorem op_mulS {X : Cx} : OpR X (binaryOp .Mult) (fun x y H Q => ∃ a n, x = .str a ∧ y = .int n ∧ PySem.MulOk a n ∧ Q (.str (Txt.mul a n)) H) := by
  intro ps s τ H x y v u Q J rx ry ⟨a, n, ex, ey, ok, q⟩
  subst ex ey
  obtain ⟨t, rfl⟩ := rx
  obtain ⟨t2, rfl⟩ := ry
  exact SB.mul ok fun t3 k => ⟨.str _, H, J.tok _, ⟨_, rfl⟩, q⟩
theorem od_mulS {K : PySem.W.Frag} : OpD K (fun x y H Q => ∃ a n, x = .str a ∧ y = .int n ∧ PySem.MulOk a n ∧ Q (.str (Txt.mul a n)) H) oMulS := fun H S v u x y Q Qd rs rx ry h k => by
  unfold oMulS at h
  split at h
  · rename_i a n
    obtain ⟨h1, h2, h3, q⟩ := h
    have hl := PyProof.Rows.len_mul_k (n := n) 1 h1
    rw [if_neg (by omega)] at hl
    have z := sizeLine_eq
    exact ⟨a, n, (of_str rx).1, of_int ry, mulOk_one h2 h3 h1, k.here rs (rep_str (by omega)) (q _ (by omega))⟩
  · exact h.elim
/-- two lists of the store; the new one of it too -/
def oCatMM : DO2 := fun x y S Q => match x, y with
  | .ref p, .ref q => ∃ l m, S p = some (.lst l) ∧ S q = some (.lst m) ∧ l.length + m.length ≤ sizeLine ∧ ∀ r, S r = none → Q (.ref r) (sup S r (.lst (l ++ m)))
  | _, _ => False
theorem od_catMM {K : PySem.W.Frag} : OpD K rCat oCatMM := fun H S v u x y Q Qd rs rx ry h k => by
  unfold oCatMM at h
  split at h
  · rename_i a b
    obtain ⟨l, m, e1, e2, z, q⟩ := h
    obtain ⟨xs, h1, r1, _⟩ := rs a _ e1
    obtain ⟨ys, h2, r2, _⟩ := rs b _ e2
    exact ⟨a, b, xs, ys, of_ref rx, of_ref ry, h1, h2, by rw [r1.length, r2.length]; exact z, fun p hp => k.lstM rs hp (RepVs.append r1 r2) (by rw [List.length_append]; exact z) q⟩
  · exact h.elim
def oIntS : DCl := fun ds S Q => match ds with
  | [.str a] => ∃ n, PySem.intText? a = some n ∧ a.length ≤ 640 ∧ Q (.int n) S
  | _ => False
theorem cd_intS {K : PySem.W.Frag} : ClD K (fun xs H Q => ∃ a n, xs = [.str a] ∧ PySem.intText? a = some n ∧ a.length ≤ 640 ∧ Q (.int n) H) oIntS := fun H S vs ds Q Qd rs rv h k => by
  unfold oIntS at h
  split at h
  · obtain ⟨v, rfl, r⟩ := of_vs1 rv
    obtain ⟨n, h1, h2, q⟩ := h
    exact ⟨_, n, by rw [(of_str r).1], h1, h2, k.here rs rep_int q⟩
  · exact h.elim
def oIntB : DCl := fun ds S Q => match ds with
  | [.int i] => Q (.int i) S
  | [.bl b] => Q (.int (if b then 1 else 0)) S
  | _ => False
theorem cd_intB {K : PySem.W.Frag} : ClD K (fun xs H Q => (∃ i, xs = [.int i] ∧ Q (.int i) H) ∨ ∃ k, xs = [.bl k] ∧ Q (.int (if k then 1 else 0)) H) oIntB := fun H S vs ds Q Qd rs rv h k => by
  unfold oIntB at h
  split at h
  · obtain ⟨v, rfl, r⟩ := of_vs1 rv
    rw [of_int r]
    exact .inl ⟨_, rfl, k.here rs rep_int h⟩
  · obtain ⟨v, rfl, r⟩ := of_vs1 rv
    rw [of_bl r]
    exact .inr ⟨_, rfl, k.here rs rep_int h⟩
  · exact h.elim
end DL

namespace Lw
open PySem PySem.Spec PyProof.Rows L2 DL
def topS (i : Nat) : Stmt := PySem.Challenge.pw_likewebs_k91_no_texts_and_where.main.body.getD i (.Pass ⟨0, 0, 0, 0⟩)
abbrev s_sign_at : Stmt := topS 12
abbrev s_is_one_of : Stmt := topS 13
abbrev s_pass_sign : Stmt := topS 14
abbrev s_read_number : Stmt := topS 15
abbrev s_read_word : Stmt := topS 16
abbrev s_read_tuple : Stmt := topS 17
abbrev s_read_thing : Stmt := topS 18
abbrev s_read : Stmt := topS 19
abbrev s__law_take : Stmt := topS 21
abbrev s__law_number : Stmt := topS 22
abbrev s__law_word : Stmt := topS 23
abbrev s__law_tree : Stmt := topS 24
abbrev s__law_text : Stmt := topS 25
abbrev s__law_written : Stmt := topS 26
abbrev s__law_sign : Stmt := topS 27
abbrev s__law_bent : Stmt := topS 28
abbrev s__law_stop : Stmt := topS 29
abbrev s__law_is_thing : Stmt := topS 30
abbrev s__law_read : Stmt := topS 31
abbrev s__law_right : Stmt := topS 32
abbrev s_law : Stmt := topS 33
abbrev s_Scan : Stmt := inClass (topS 11) 0
abbrev s_NoWeb_init : Stmt := inClass (topS 2) 0
abbrev s_NoText_init : Stmt := inClass (topS 4) 0
structure Ad where
  LikewebsError : Addr
  NoWeb : Addr
  NoThing : Addr
  NoText : Addr
  Scan : Addr
  NoWeb_init : Addr
  NoText_init : Addr
structure Gs (K : PySem.W.Frag) (mg : Str → Option Value) (a : Ad) : Prop where
  b_ValueError : mg "ValueError" = none
  b_bool : mg "bool" = none
  b_enumerate : mg "enumerate" = none
  b_int : mg "int" = none
  b_isinstance : mg "isinstance" = none
  b_len : mg "len" = none
  b_range : mg "range" = none
  b_str : mg "str" = none
  b_tuple : mg "tuple" = none
  g_DEEP : ∃ t, mg "DEEP" = some (.int 60 t)
  g_FIGURES : ∃ t, mg "FIGURES" = some (.str "0123456789" t)
  g_GREATEST : ∃ t, mg "GREATEST" = some (.int 1000000000 t)
  g_LETTERS : ∃ t, mg "LETTERS" = some (.str "abcdefghijklmnopqrstuvwxyz" t)
  g_LONGEST : ∃ t, mg "LONGEST" = some (.int 8 t)
  k_LikewebsError : mg "LikewebsError" = some (.ref a.LikewebsError)
  k_NoWeb : mg "NoWeb" = some (.ref a.NoWeb)
  k_NoThing : mg "NoThing" = some (.ref a.NoThing)
  k_NoText : mg "NoText" = some (.ref a.NoText)
  k_Scan : mg "Scan" = some (.ref a.Scan)
  cl_Scan : Cls K a.Scan
  na_Scan_text : NoAttr K a.Scan "text"
  na_Scan_place : NoAttr K a.Scan "place"
  x_LikewebsError : Ex0 K mg "LikewebsError" a.LikewebsError
  x_NoWeb : ExI K mg "NoWeb" a.NoWeb a.NoWeb_init
  fi_NoWeb : ∃ fd, Fun K "__init__" "NoWeb.__init__" s_NoWeb_init a.NoWeb_init fd ∧ Binds K fd ["self", "at"] []
  xn_NoWeb_at : PySem.W.findIn K (.ref a.NoWeb) "at" = some none
  x_NoThing : Ex0 K mg "NoThing" a.NoThing
  x_NoText : ExI K mg "NoText" a.NoText a.NoText_init
  fi_NoText : ∃ fd, Fun K "__init__" "NoText.__init__" s_NoText_init a.NoText_init fd ∧ Binds K fd ["self", "at"] []
  xn_NoText_at : PySem.W.findIn K (.ref a.NoText) "at" = some none
  xf_NoText : XfC K a.NoText
  em_NoText_NoText : PySem.W.exmOne K (.ref a.NoText) (.ref a.NoText) = some true
  kt_NoText_LikewebsError : PySem.W.kitOne K (.ref a.NoText) (.ref a.LikewebsError) = some true
  kt_NoText_NoThing : PySem.W.kitOne K (.ref a.NoText) (.ref a.NoThing) = some false
  kt_NoText_NoWeb : PySem.W.kitOne K (.ref a.NoText) (.ref a.NoWeb) = some false
  kt_NoText_ValueError : PySem.W.kitOne K (.ref a.NoText) (.type "ValueError") = some true
  ec_NoText : ExcC K a.NoText
abbrev N_NoWeb_init : List Str := ["self", "at"]
theorem sc_NoWeb_init : FnScope N_NoWeb_init ["self", "at"] (defScope s_NoWeb_init) := ⟨rfl, rfl, rfl, by decide +kernel, rfl, by decide +kernel, by decide +kernel⟩
theorem ok_NoWeb_init {P : Program} {w : World} {K : PySem.W.Frag} {mg : Str → Option Value} {base : Heap} {C f : Addr} {fd : FuncData} (F : Fun K "__init__" "NoWeb.__init__" s_NoWeb_init f fd) (T : OexC K C) (hn : PySem.W.findIn K (.ref C) "at" = some none) : FnOk P w K mg base CX0 1 f fd ["self", "at"] (spX1 C "at") := by
  refine F.ok sc_NoWeb_init (fun vs H Q E h => ?_) (fun cdv A outer s H vs Q E hr h => ?_)
  · obtain ⟨b, v, rfl, _⟩ := h; rfl
  obtain ⟨b, v, rfl, hb, q⟩ := h
  exact ⟨_, pss_one (ps_ost (pv 0) (pv 1)), ⟨_, rfl, _, rfl, b, C, rfl, T, hn, .inl ⟨hb, fun dx h1 h2 => q dx h1 h2⟩⟩⟩
theorem dsx_NoWeb {X : Cx} {B : DB} {W : DWx} {a : Ad} {k : Nat} {e0 : Expr} {t0 : DTm} {p pos pos2 : Pos} (G : Gs X.K X.mg a) (hr : Room k X.A) (tk : Takes X (LW X.K B W)) (he0 : DE X B e0 t0) (hk : 2 ≤ k := by omega) (hc : X.calm = true := by rfl) (hg : Gl X "NoWeb" := by rfl)
    (hs0 : starEach [e0] X.env = (false, eval e0 X.env) :: starEach [] X.env := by rfl) (hpl : (backTo pos (starEach [] X.env)).any (·.1) = false := by rfl) :
    DSt X B (.Raise (some (.Call (.Name "NoWeb" p) [e0] [] pos)) none pos2) (dRaise1 a.NoWeb "at" W t0) := by
  obtain ⟨fd, F, hb⟩ := G.fi_NoWeb
  exact ds_raise1 hc G.x_NoWeb (ok_NoWeb_init F G.x_NoWeb.T G.xn_NoWeb_at) hb (hr.mono hk) tk he0 hg (by decide) hs0 hpl
abbrev N_NoText_init : List Str := ["self", "at"]
theorem sc_NoText_init : FnScope N_NoText_init ["self", "at"] (defScope s_NoText_init) := ⟨rfl, rfl, rfl, by decide +kernel, rfl, by decide +kernel, by decide +kernel⟩
theorem ok_NoText_init {P : Program} {w : World} {K : PySem.W.Frag} {mg : Str → Option Value} {base : Heap} {C f : Addr} {fd : FuncData} (F : Fun K "__init__" "NoText.__init__" s_NoText_init f fd) (T : OexC K C) (hn : PySem.W.findIn K (.ref C) "at" = some none) : FnOk P w K mg base CX0 1 f fd ["self", "at"] (spX1 C "at") := by
  refine F.ok sc_NoText_init (fun vs H Q E h => ?_) (fun cdv A outer s H vs Q E hr h => ?_)
  · obtain ⟨b, v, rfl, _⟩ := h; rfl
  obtain ⟨b, v, rfl, hb, q⟩ := h
  exact ⟨_, pss_one (ps_ost (pv 0) (pv 1)), ⟨_, rfl, _, rfl, b, C, rfl, T, hn, .inl ⟨hb, fun dx h1 h2 => q dx h1 h2⟩⟩⟩
theorem dsx_NoText {X : Cx} {B : DB} {W : DWx} {a : Ad} {k : Nat} {e0 : Expr} {t0 : DTm} {p pos pos2 : Pos} (G : Gs X.K X.mg a) (hr : Room k X.A) (tk : Takes X (LW X.K B W)) (he0 : DE X B e0 t0) (hk : 2 ≤ k := by omega) (hc : X.calm = true := by rfl) (hg : Gl X "NoText" := by rfl)
    (hs0 : starEach [e0] X.env = (false, eval e0 X.env) :: starEach [] X.env := by rfl) (hpl : (backTo pos (starEach [] X.env)).any (·.1) = false := by rfl) :
    DSt X B (.Raise (some (.Call (.Name "NoText" p) [e0] [] pos)) none pos2) (dRaise1 a.NoText "at" W t0) := by
  obtain ⟨fd, F, hb⟩ := G.fi_NoText
  exact ds_raise1 hc G.x_NoText (ok_NoText_init F G.x_NoText.T G.xn_NoText_at) hb (hr.mono hk) tk he0 hg (by decide) hs0 hpl
abbrev N_sign_at : List Str := ["scan"]
theorem sc_sign_at : FnScope N_sign_at ["scan"] (defScope s_sign_at) := ⟨rfl, rfl, rfl, by decide +kernel, rfl, by decide +kernel, by decide +kernel⟩
abbrev N_is_one_of : List Str := ["sign", "signs"]
theorem sc_is_one_of : FnScope N_is_one_of ["sign", "signs"] (defScope s_is_one_of) := ⟨rfl, rfl, rfl, by decide +kernel, rfl, by decide +kernel, by decide +kernel⟩
abbrev N_pass_sign : List Str := ["scan", "sign"]
theorem sc_pass_sign : FnScope N_pass_sign ["scan", "sign"] (defScope s_pass_sign) := ⟨rfl, rfl, rfl, by decide +kernel, rfl, by decide +kernel, by decide +kernel⟩
abbrev N_read_number : List Str := ["scan", "found", "more"]
theorem sc_read_number : FnScope N_read_number ["scan"] (defScope s_read_number) := ⟨rfl, rfl, rfl, by decide +kernel, rfl, by decide +kernel, by decide +kernel⟩
abbrev N_read_word : List Str := ["scan", "begin"]
theorem sc_read_word : FnScope N_read_word ["scan"] (defScope s_read_word) := ⟨rfl, rfl, rfl, by decide +kernel, rfl, by decide +kernel, by decide +kernel⟩
abbrev N_read_tuple : List Str := ["scan", "left", "parts"]
theorem sc_read_tuple : FnScope N_read_tuple ["scan", "left"] (defScope s_read_tuple) := ⟨rfl, rfl, rfl, by decide +kernel, rfl, by decide +kernel, by decide +kernel⟩
abbrev N_read_thing : List Str := ["scan", "left", "sign"]
theorem sc_read_thing : FnScope N_read_thing ["scan", "left"] (defScope s_read_thing) := ⟨rfl, rfl, rfl, by decide +kernel, rfl, by decide +kernel, by decide +kernel⟩
abbrev N_read : List Str := ["text", "scan", "found"]
theorem sc_read : FnScope N_read ["text"] (defScope s_read) := ⟨rfl, rfl, rfl, by decide +kernel, rfl, by decide +kernel, by decide +kernel⟩
abbrev N__law_take : List Str := ["_law_state", "_law_below", "_law_found", "_law_cell"]
theorem sc__law_take : FnScope N__law_take ["_law_state", "_law_below"] (defScope s__law_take) := ⟨rfl, rfl, rfl, by decide +kernel, rfl, by decide +kernel, by decide +kernel⟩
abbrev N__law_number : List Str := ["_law_state", "_law_road", "_law_edge", "_law_near", "_law_far"]
theorem sc__law_number : FnScope N__law_number ["_law_state"] (defScope s__law_number) := ⟨rfl, rfl, rfl, by decide +kernel, rfl, by decide +kernel, by decide +kernel⟩
abbrev N__law_word : List Str := ["_law_state", "_law_letters", "_law_many", "_law_k"]
theorem sc__law_word : FnScope N__law_word ["_law_state"] (defScope s__law_word) := ⟨rfl, rfl, rfl, by decide +kernel, rfl, by decide +kernel, by decide +kernel⟩
abbrev N__law_tree : List Str := ["_law_state", "_law_left", "_law_road", "_law_k"]
theorem sc__law_tree : FnScope N__law_tree ["_law_state", "_law_left"] (defScope s__law_tree) := ⟨rfl, rfl, rfl, by decide +kernel, rfl, by decide +kernel, by decide +kernel⟩
abbrev N__law_text : List Str := ["_law_thing", "_law_part"]
theorem sc__law_text : FnScope N__law_text ["_law_thing"] (defScope s__law_text) := ⟨rfl, rfl, rfl, by decide +kernel, rfl, by decide +kernel, by decide +kernel⟩
abbrev N__law_written : List Str := ["_law_number_here", "_law_some"]
theorem sc__law_written : FnScope N__law_written ["_law_number_here"] (defScope s__law_written) := ⟨rfl, rfl, rfl, by decide +kernel, rfl, by decide +kernel, by decide +kernel⟩
abbrev N__law_sign : List Str := ["_law_state", "_law_signs"]
theorem sc__law_sign : FnScope N__law_sign ["_law_state"] (defScope s__law_sign) := ⟨rfl, rfl, rfl, by decide +kernel, rfl, by decide +kernel, by decide +kernel⟩
abbrev N__law_bent : List Str := ["_law_state", "_law_text_here", "_law_road", "_law_at", "_law_sign_here", "_law_some"]
theorem sc__law_bent : FnScope N__law_bent ["_law_state", "_law_text_here"] (defScope s__law_bent) := ⟨rfl, rfl, rfl, by decide +kernel, rfl, by decide +kernel, by decide +kernel⟩
abbrev N__law_stop : List Str := ["_law_text_here", "_law_depth", "_law_many", "_law_last", "_law_at", "_law_sign_here", "_law_begins", "_law_ends"]
theorem sc__law_stop : FnScope N__law_stop ["_law_text_here"] (defScope s__law_stop) := ⟨rfl, rfl, rfl, by decide +kernel, rfl, by decide +kernel, by decide +kernel⟩
abbrev N__law_is_thing : List Str := ["_law_thing", "_law_left", "_law_part"]
theorem sc__law_is_thing : FnScope N__law_is_thing ["_law_thing", "_law_left"] (defScope s__law_is_thing) := ⟨rfl, rfl, rfl, by decide +kernel, rfl, by decide +kernel, by decide +kernel⟩
abbrev N__law_read : List Str := ["_law_text_here", "e", "_law_is_own"]
theorem sc__law_read : FnScope N__law_read ["_law_text_here"] (defScope s__law_read) := ⟨rfl, rfl, rfl, by decide +kernel, rfl, by decide +kernel, by decide +kernel⟩
abbrev N__law_right : List Str := ["_law_text_here", "_law_told", "_law_due"]
theorem sc__law_right : FnScope N__law_right ["_law_text_here", "_law_told"] (defScope s__law_right) := ⟨rfl, rfl, rfl, by decide +kernel, rfl, by decide +kernel, by decide +kernel⟩
abbrev N_law : List Str := ["_law_script", "_law_state", "_law_turn", "_law_kind", "_law_twice", "_law_text_here"]
theorem sc_law : FnScope N_law ["_law_script"] (defScope s_law) := ⟨rfl, rfl, rfl, by decide +kernel, rfl, by decide +kernel, by decide +kernel⟩
abbrev N_Scan : List Str := ["self", "text"]
theorem sc_Scan : FnScope N_Scan ["self", "text"] (defScope s_Scan) := ⟨rfl, rfl, rfl, by decide +kernel, rfl, by decide +kernel, by decide +kernel⟩
end Lw

namespace Lw
open PySem PySem.Spec PyProof.Rows L2 DL TL

def isLet (c : Nat) : Bool := decide (97 ≤ c ∧ c ≤ 122)
def isDig (c : Nat) : Bool := decide (48 ≤ c ∧ c ≤ 57)
def letters : Str := "abcdefghijklmnopqrstuvwxyz"
def figures : Str := "0123456789"
theorem letters_tl : tl letters = [97, 98, 99, 100, 101, 102, 103, 104, 105, 106, 107, 108, 109, 110, 111, 112, 113, 114, 115, 116, 117, 118, 119, 120, 121, 122] := by
  unfold letters; rw [tl_ofString]; decide +kernel
theorem figures_tl : tl figures = [48, 49, 50, 51, 52, 53, 54, 55, 56, 57] := by
  unfold figures; rw [tl_ofString]; decide +kernel
theorem mem_letters (c : Nat) : decide (c ∈ tl letters) = isLet c := by
  rw [letters_tl]
  unfold isLet
  rw [Bool.eq_iff_iff, decide_eq_true_eq, decide_eq_true_eq]
  simp only [List.mem_cons, List.not_mem_nil, or_false]
  omega
theorem mem_figures (c : Nat) : decide (c ∈ tl figures) = isDig c := by
  rw [figures_tl]
  unfold isDig
  rw [Bool.eq_iff_iff, decide_eq_true_eq, decide_eq_true_eq]
  simp only [List.mem_cons, List.not_mem_nil, or_false]
  omega
def wordB (x : Str) : Bool := decide (1 ≤ x.length ∧ x.length ≤ 8) && (tl x).all isLet
def wholeB : D → Bool
  | .int _ => true
  | _ => false
def colourB : D → Bool
  | .int i => decide (0 ≤ i ∧ i ≤ 1000000000)
  | _ => false
def wordD : D → Bool
  | .str x => wordB x
  | _ => false
def leafB (d : D) : Bool := wordD d || colourB d
def thingW : Nat → D → Bool
  | n, d => match n, d with
    | 0, d => leafB d
    | n + 1, .tup l => l.all (thingW n)
    | _ + 1, d => leafB d
mutual
def txt : D → List Nat
  | .tup l => 40 :: (txts l ++ [41])
  | .str x => tl x
  | .int i => numL i.toNat
  | _ => []
def txts : List D → List Nat
  | [] => []
  | d :: ds => match ds with
    | [] => txt d
    | _ :: _ => txt d ++ 32 :: txts ds
end
def ofL (l : List Nat) : Str := ⟨l.toArray⟩
theorem tl_ofL (l : List Nat) : tl (ofL l) = l := by simp [tl, ofL]
theorem len_ofL (l : List Nat) : (ofL l).length = l.length := by rw [len_tl, tl_ofL]
theorem ofL_tl (x : Str) : ofL (tl x) = x := ext_tl (tl_ofL _)
def textD (d : D) : Str := ofL (txt d)

mutual
def wt : D → Nat
  | .tup l => 2 + wts l
  | .lst l => 2 + wts l
  | .str x => 2 + x.length
  | .int _ => 110
  | .dic ks vs => 20 * ks.length + wts vs
  | _ => 10
def wts : List D → Nat
  | [] => 0
  | d :: ds => wt d + 3 + wts ds
end
mutual
def dp : D → Nat
  | .tup l => dps l + 1
  | .lst l => dps l + 1
  | .dic _ vs => dps vs + 1
  | _ => 0
def dps : List D → Nat
  | [] => 0
  | d :: ds => max (dp d) (dps ds)
end
mutual
/-- how deep the tuples lie in one another -/
def dpt : D → Nat
  | .tup l => 1 + dpts l
  | _ => 0
def dpts : List D → Nat
  | [] => 0
  | d :: ds => max (dpt d) (dpts ds)
end
def chOk (x : Str) : Bool := (tl x).all fun c => decide (c < 0x110000)
def keyOk : Key → Bool
  | .inl _ => false
  | .inr x => chOk x && decide (x.length ≤ 8)
mutual
/-- b: lists may be in it and no dicts; or dicts and no lists -/
def good (b : Bool) : D → Bool
  | .non => true
  | .bl _ => true
  | .int i => decide (i.natAbs ≤ 10 ^ 30)
  | .str x => chOk x
  | .tup l => goods b l
  | .lst l => b && goods b l
  | .dic ks vs => !b && ks.all keyOk && goods b vs && decide (ks.length = vs.length)
  | _ => false
def goods (b : Bool) : List D → Bool
  | [] => true
  | d :: ds => good b d && goods b ds
end
structure OddOk (o : D) : Prop where
  dt : dat o = true
  w : wt o ≤ 300
  p : dp o ≤ 4
  g : good true o = true ∨ good false o = true
/-- r: what d is with o put somewhere -/
structure SpOk (d o r : D) : Prop where
  dt : dat r = true
  w : wt r ≤ wt d + wt o
  p : dp r ≤ dp d + dp o
  g : ∀ b, good b o = true → good b r = true
/-- r: d wrapped -/
structure WrOk (d r : D) : Prop where
  dt : dat r = true
  w : wt r ≤ wt d + 10000
  p : dp r ≤ dp d + 62
  g : ∀ b, good b d = true → good b r = true
  t : thingW 4 d = true → thingW 62 r = true

structure St (p : Addr) (ns : List Int) (S : DS) : Prop where
  ex : ∃ i1 i2 i3 : Int, S p = some (.lst [.lst (ns.map D.int), .int i1, .int i2, .int i3]) ∧ 0 ≤ i1 ∧ 0 ≤ i3 ∧ i3 < 2305843009213693951
/-- at most p has changed -/
def Mv (p : Addr) (S S' : DS) : Prop := ∀ b, b ≠ p → S' b = S b
def wtT : Nat → Nat
  | 0 => 110
  | n + 1 => 3 * wtT n + 11

def sp_is_whole (a : Ad) : DSp := fun ds S Q _ => ∃ d, ds = [d] ∧ dat d = true ∧ Q (.bl (wholeB d)) S
def sp_is_colour (a : Ad) : DSp := fun ds S Q _ => ∃ d, ds = [d] ∧ dat d = true ∧ Q (.bl (colourB d)) S
def sp_is_word (a : Ad) : DSp := fun ds S Q _ => ∃ d, ds = [d] ∧ dat d = true ∧ Q (.bl (wordD d)) S
/-- with so many tuples within one another at most -/
def spn_is_thing_within (n : Nat) : DSp := fun ds S Q _ => ∃ d m, ds = [d, .int (m : Nat)] ∧ m ≤ n ∧ dat d = true ∧ Q (.bl (thingW m d)) S
def sp_is_thing_within (a : Ad) : DSp := spn_is_thing_within 60
def sp_is_thing (a : Ad) : DSp := fun ds S Q _ => ∃ d, ds = [d] ∧ dat d = true ∧ Q (.bl (thingW 60 d)) S
def spn_written (n : Nat) : DSp := fun ds S Q _ => ∃ d, ds = [d] ∧ thingW n d = true ∧ (txt d).length ≤ 1000000 ∧ Q (.str (textD d)) S
def sp_written (a : Ad) : DSp := spn_written 60
def sp_text_of (a : Ad) : DSp := fun ds S Q E => ∃ d, ds = [d] ∧ dat d = true ∧ (thingW 60 d = true → wt d ≤ 1000000 ∧ Q (.str (textD d)) S) ∧ (thingW 60 d = false → E (.ref a.NoThing) none S)
/-- the sign, or none -/
def sg : Option Nat → Str
  | some c => ⟨#[c]⟩
  | none => ""
def scn (a : Ad) (t : Str) (k : Nat) : DO := .ins a.Scan [("text", .str t), ("place", .int (k : Nat))]
def sp_Scan (a : Ad) : DSp := fun ds S Q _ => ∃ p t, ds = [.ref p, .str t] ∧ S p = some (.ins a.Scan []) ∧ Q .non (sup S p (scn a t 0))
theorem ret_Scan {a : Ad} : RetN (sp_Scan a) := fun ds S Q E ⟨p, t, h1, h2, q⟩ => ⟨p, t, h1, h2, rfl, q⟩
def sp_sign_at (a : Ad) : DSp := fun ds S Q _ => ∃ p t k, ds = [.ref p] ∧ S p = some (scn a t k) ∧ Q (.str (sg (tl t)[k]?)) S
def sp_is_one_of (a : Ad) : DSp := fun ds S Q _ => ∃ o z, ds = [.str (sg o), .str z] ∧ Q (.bl (o.any fun c => decide (c ∈ tl z))) S
inductive La where
  | need | opn | num | wrd | clo
deriving DecidableEq
structure Ms where
  dep : Nat
  many : Nat
  last : La
def begins (s : Ms) : Bool := decide (s.last = .need ∨ s.last = .opn)
def ends (s : Ms) : Bool := decide (s.last ≠ .need ∧ 0 < s.dep)
def moreD (s : Ms) (c : Nat) : Bool := decide (s.last = .num ∧ 0 < s.many ∧ s.many * 10 + (c - 48) ≤ 1000000000)
def moreL (s : Ms) : Bool := decide (s.last = .wrd ∧ s.many < 8)
def step (s : Ms) (c : Nat) : Option Ms :=
  if (isDig c && begins s) = true then some ⟨s.dep, c - 48, .num⟩
  else if (isDig c && moreD s c) = true then some ⟨s.dep, s.many * 10 + (c - 48), .num⟩
  else if (isLet c && (begins s || moreL s)) = true then some ⟨s.dep, (if s.last = .wrd then s.many else 0) + 1, .wrd⟩
  else if (decide (c = 40) && (begins s && decide (s.dep < 60))) = true then some ⟨s.dep + 1, s.many, .opn⟩
  else if (decide (c = 41) && ends s) = true then some ⟨s.dep - 1, s.many, .clo⟩
  else if (decide (c = 32) && (ends s && decide (s.last ≠ .opn))) = true then some ⟨s.dep, s.many, .need⟩
  else none
def stopAt : Ms → Nat → List Nat → Option Nat
  | s, k, [] => if 0 < s.dep ∨ s.last = .need then some k else none
  | s, k, c :: r => match step s c with
    | none => some k
    | some s' => stopAt s' (k + 1) r
def start : Ms := ⟨0, 0, .need⟩
def stopI (l : List Nat) : Int := match stopAt start 0 l with
  | some k => (k : Nat)
  | none => -1
def runs : Ms → List Nat → Option Ms
  | s, [] => some s
  | s, c :: r => (step s c).bind fun s' => runs s' r
/-- the machine goes on no more -/
def Stuck (s : Ms) : List Nat → Prop
  | [] => 0 < s.dep ∨ s.last = .need
  | c :: _ => step s c = none
/-- a part is read, and no sign of post belongs to it -/
def Done (s : Ms) (post : List Nat) : Prop := s.last ≠ .need ∧ s.last ≠ .opn ∧ ∀ c r, post = c :: r → (isDig c = true → moreD s c = false) ∧ (isLet c = true → moreL s = false)
/-- a part may begin: with m tuples more within one another -/
structure Beg (m : Nat) (s : Ms) : Prop where
  d : s.dep + m = 60
  l : s.last = .need ∨ (s.last = .opn ∧ 0 < s.dep)
def OkT (m : Nat) (rem : List Nat) (d : D) (post : List Nat) : Prop := rem = txt d ++ post ∧ thingW m d = true ∧ ∀ s, Beg m s → ∃ s', runs s (txt d) = some s' ∧ s'.dep = s.dep ∧ Done s' post
def BadT (m : Nat) (rem : List Nat) (j : Nat) : Prop := j ≤ rem.length ∧ ∀ s, Beg m s → (s.last = .opn → rem.head? ≠ some 41) → ∃ s', runs s (rem.take j) = some s' ∧ Stuck s' (rem.drop j)
def atX (q : Int) : DFl := some [("at", .int q)]
def sp_pass_sign (a : Ad) : DSp := fun ds S Q E => ∃ p t k c, ds = [.ref p, .str (sg (some c))] ∧ S p = some (scn a t k) ∧ ((tl t)[k]? = some c → Q .non (sup S p (scn a t (k + 1)))) ∧ ((tl t)[k]? ≠ some c → E (.ref a.NoText) (atX (k : Nat)) S)
def sp_read_number (a : Ad) : DSp := fun ds S Q _ => ∃ p t k c, ds = [.ref p] ∧ S p = some (scn a t k) ∧ (tl t)[k]? = some c ∧ isDig c = true ∧
  ∀ n post, (tl t).drop k = numL n ++ post → n ≤ 1000000000 → (∀ s, begins s = true → ∃ s', runs s (numL n) = some s' ∧ s'.dep = s.dep ∧ Done s' post) → Q (.int (n : Nat)) (sup S p (scn a t (k + (numL n).length)))
def sp_read_word (a : Ad) : DSp := fun ds S Q _ => ∃ p t k c, ds = [.ref p] ∧ S p = some (scn a t k) ∧ (tl t)[k]? = some c ∧ isLet c = true ∧
  ∀ x post, (tl t).drop k = tl x ++ post → wordB x = true → (∀ s, begins s = true → ∃ s', runs s (tl x) = some s' ∧ s'.dep = s.dep ∧ Done s' post) → Q (.str x) (sup S p (scn a t (k + (tl x).length)))
def spn_read_thing (a : Ad) (n : Nat) : DSp := fun ds S Q E => ∃ p t k m, ds = [.ref p, .int (m : Nat)] ∧ S p = some (scn a t k) ∧ m ≤ n ∧ n ≤ 60 ∧ t.length ≤ 1000000 ∧
  (∀ d post, OkT m ((tl t).drop k) d post → Q d (sup S p (scn a t (k + (txt d).length)))) ∧ (∀ j k', BadT m ((tl t).drop k) j → E (.ref a.NoText) (atX ((k + j : Nat) : Int)) (sup S p (scn a t k')))
def sp_read_thing (a : Ad) : DSp := spn_read_thing a 60
/-- a tuple: its parts with m tuples more within one another -/
def OkU (m : Nat) (rem : List Nat) (l : List D) (post : List Nat) : Prop := rem = txt (.tup l) ++ post ∧ l.all (thingW m) = true ∧ ∀ s, Beg (m + 1) s → ∃ s', runs s (txt (.tup l)) = some s' ∧ s'.dep = s.dep ∧ s'.last = .clo
def BadU (m : Nat) (rem : List Nat) (j : Nat) : Prop := j ≤ rem.length ∧ ∀ s, Beg (m + 1) s → ∃ s', runs s (rem.take j) = some s' ∧ Stuck s' (rem.drop j)
def spn_read_tuple (a : Ad) (n : Nat) : DSp := fun ds S Q E => ∃ p t k m, ds = [.ref p, .int (m : Nat)] ∧ S p = some (scn a t k) ∧ m ≤ n ∧ n < 60 ∧ t.length ≤ 1000000 ∧ (tl t)[k]? = some 40 ∧
  (∀ l post, OkU m ((tl t).drop k) l post → Q (.tup l) (sup S p (scn a t (k + (txt (.tup l)).length)))) ∧ (∀ j k', BadU m ((tl t).drop k) j → E (.ref a.NoText) (atX ((k + j : Nat) : Int)) (sup S p (scn a t k')))
def sp_read (a : Ad) : DSp := fun ds S Q E => ∃ d, ds = [d] ∧ dat d = true ∧ (isStrB d = false → E (.ref a.NoText) (some [("at", .non)]) S) ∧
  ∀ t, d = .str t → t.length ≤ 1000000 ∧ (∀ d', stopI (tl t) = -1 → thingW 60 d' = true → txt d' = tl t → Q d' S) ∧ ∀ k : Nat, stopI (tl t) = (k : Nat) → E (.ref a.NoText) (atX (k : Nat)) S

def sp__law_take (a : Ad) : DSp := fun ds S Q _ => ∃ p ns b, ds = [.ref p, .int b] ∧ St p ns S ∧ 0 < b ∧ b < 1073741824 ∧ ∀ r S', 0 ≤ r → r < b → St p ns S' → Mv p S S' → Q (.int r) S'
def sp__law_number (a : Ad) : DSp := fun ds S Q _ => ∃ p ns, ds = [.ref p] ∧ St p ns S ∧ ∀ r S', 0 ≤ r → r ≤ 1000000000 → St p ns S' → Mv p S S' → Q (.int r) S'
def sp__law_word (a : Ad) : DSp := fun ds S Q _ => ∃ p ns, ds = [.ref p] ∧ St p ns S ∧ ∀ x S', wordB x = true → St p ns S' → Mv p S S' → Q (.str x) S'
def spn__law_tree (n : Nat) : DSp := fun ds S Q _ => ∃ p ns m, ds = [.ref p, .int (m : Nat)] ∧ m ≤ n ∧ St p ns S ∧ ∀ d S', thingW m d = true → wt d ≤ wtT m → St p ns S' → Mv p S S' → Q d S'
def sp__law_tree (a : Ad) : DSp := spn__law_tree 4
def sp__law_odd (a : Ad) : DSp := fun ds S Q _ => ∃ i : Int, ds = [.int i] ∧ 0 ≤ i ∧ i < 21 ∧ ∀ o, OddOk o → Q o S
def spn__law_spoilt (n : Nat) : DSp := fun ds S Q _ => ∃ p ns d o, ds = [.ref p, d, o] ∧ thingW n d = true ∧ wt d ≤ 1000000 ∧ dat o = true ∧ St p ns S ∧ ∀ r S', SpOk d o r → St p ns S' → Mv p S S' → Q r S'
def sp__law_spoilt (a : Ad) : DSp := spn__law_spoilt 62
def spn__law_depth (n : Nat) : DSp := fun ds S Q _ => ∃ d, ds = [d] ∧ dat d = true ∧ dpt d ≤ n ∧ wt d ≤ 1000000 ∧ Q (.int (dpt d : Nat)) S
def sp__law_depth (a : Ad) : DSp := spn__law_depth 12
def sp__law_wrapped (a : Ad) : DSp := fun ds S Q _ => ∃ p ns d, ds = [.ref p, d] ∧ dat d = true ∧ dpt d ≤ 12 ∧ wt d ≤ 1000000 ∧ St p ns S ∧ ∀ r S', WrOk d r → St p ns S' → Mv p S S' → Q r S'
def spn__law_is_thing (n : Nat) : DSp := fun ds S Q _ => ∃ d m, ds = [d, .int (m : Nat)] ∧ m ≤ n ∧ dat d = true ∧ Q (.bl (thingW m d)) S
def sp__law_is_thing (a : Ad) : DSp := spn__law_is_thing 60
def spn__law_text (n : Nat) : DSp := spn_written n
def sp__law_text (a : Ad) : DSp := spn__law_text 60
def spn__law_alike (n : Nat) : DSp := fun ds S Q _ => ∃ d, ds = [d, d] ∧ thingW n d = true ∧ Q (.bl true) S
def sp__law_alike (a : Ad) : DSp := spn__law_alike 60
def sp__law_is_refused (a : Ad) : DSp := fun ds S Q _ => ∃ d, ds = [d] ∧ dat d = true ∧ thingW 60 d = false ∧ Q (.bl true) S
def sp__law_written (a : Ad) : DSp := fun ds S Q _ => ∃ i : Int, ds = [.int i] ∧ 0 ≤ i ∧ i < 38 ∧ ∀ x : Str, x.length ≤ 1000 → Q (.str x) S
def sp__law_sign (a : Ad) : DSp := fun ds S Q _ => ∃ p ns, ds = [.ref p] ∧ St p ns S ∧ ∀ x S', x.length = 1 → St p ns S' → Mv p S S' → Q (.str x) S'
def sp__law_bent (a : Ad) : DSp := fun ds S Q _ => ∃ p ns y, ds = [.ref p, .str y] ∧ St p ns S ∧ y.length ≤ 100000 ∧ ∀ x S', x.length ≤ 2 * y.length + 1 → St p ns S' → Mv p S S' → Q (.str x) S'
def sp__law_stop (a : Ad) : DSp := fun ds S Q _ => ∃ x, ds = [.str x] ∧ Q (.int (stopI (tl x))) S
/-- what is told of reading d -/
def Told (d r : D) : Prop := (isStrB d = false ∧ r = .tup [.str "no", .non, .bl true]) ∨ ∃ t, d = .str t ∧ ((∃ d', stopI (tl t) = -1 ∧ thingW 60 d' = true ∧ txt d' = tl t ∧ r = .tup [.str "yes", d']) ∨ ∃ k : Nat, stopI (tl t) = (k : Nat) ∧ r = .tup [.str "no", .int (k : Nat), .bl true])
def txtOk : D → Prop
  | .str t => t.length ≤ 1000000
  | _ => True
def sp__law_read (a : Ad) : DSp := fun ds S Q _ => ∃ d, ds = [d] ∧ dat d = true ∧ txtOk d ∧ ∀ r, Told d r → Q r S
def sp__law_right (a : Ad) : DSp := fun ds S Q _ => ∃ d r, ds = [d, r] ∧ dat d = true ∧ txtOk d ∧ Told d r ∧ Q (.bl true) S
def sp_law (a : Ad) : DSp := spLaw 63
end Lw

namespace Lw
open PySem PySem.Spec PyProof.Rows L2 DL
def rd_sign_at (a : Ad) (K : PySem.W.Frag)  (W : DWx) : DTs := (dRet (dSl (dFld a.Scan "text" (dVar 0)) (dPart (dFld a.Scan "place" (dVar 0))) (dPart (dOp oAdd (dFld a.Scan "place" (dVar 0)) (dC (.int 1))))))
theorem tm_sign_at {P : Program} {w : World} {K : PySem.W.Frag} {mg : Str → Option Value} {base : Heap} {a : Ad}  (G : Gs K mg a) {k : Nat} 
    {f : Addr} {cdv : Value} {A : Around} {fr : List Env} {s : Shared} {H : Hp} {E : XK} {B : DB} {W : DWx} (hr : Room k (Cxf P w K mg base N_sign_at "sign_at" s_sign_at f cdv A fr s H E).A) (gd : (Cxf P w K mg base N_sign_at "sign_at" s_sign_at f cdv A fr s H E).A.guards = some []) (tk : Takes (Cxf P w K mg base N_sign_at "sign_at" s_sign_at f cdv A fr s H E) (LW K B W)) (po : PassesOwn (model P w) (Cxf P w K mg base N_sign_at "sign_at" s_sign_at f cdv A fr s H E).A (Cxf P w K mg base N_sign_at "sign_at" s_sign_at f cdv A fr s H E).env (Cxf P w K mg base N_sign_at "sign_at" s_sign_at f cdv A fr s H E).xe) :
    DSs (Cxf P w K mg base N_sign_at "sign_at" s_sign_at f cdv A fr s H E) B (defBody s_sign_at) (rd_sign_at a K  W) :=
  (dss_one (ds_ret (de_slice (de_fld G.cl_Scan G.na_Scan_text (dv 0)) (do_some (de_fld G.cl_Scan G.na_Scan_place (dv 0))) (do_some (de_op op_add od_I0 (de_fld G.cl_Scan G.na_Scan_place (dv 0)) de_int)))))
def rd_is_one_of (a : Ad) (K : PySem.W.Frag)  (W : DWx) : DTs := (dRet (dAndV (dOp (oEqS true) (dVar 0) (dC (.str ""))) (dOp (oInS false) (dVar 0) (dVar 1))))
theorem tm_is_one_of {P : Program} {w : World} {K : PySem.W.Frag} {mg : Str → Option Value} {base : Heap} {a : Ad}  (G : Gs K mg a) {k : Nat} 
    {f : Addr} {cdv : Value} {A : Around} {fr : List Env} {s : Shared} {H : Hp} {E : XK} {B : DB} {W : DWx} (hr : Room k (Cxf P w K mg base N_is_one_of "is_one_of" s_is_one_of f cdv A fr s H E).A) (gd : (Cxf P w K mg base N_is_one_of "is_one_of" s_is_one_of f cdv A fr s H E).A.guards = some []) (tk : Takes (Cxf P w K mg base N_is_one_of "is_one_of" s_is_one_of f cdv A fr s H E) (LW K B W)) (po : PassesOwn (model P w) (Cxf P w K mg base N_is_one_of "is_one_of" s_is_one_of f cdv A fr s H E).A (Cxf P w K mg base N_is_one_of "is_one_of" s_is_one_of f cdv A fr s H E).env (Cxf P w K mg base N_is_one_of "is_one_of" s_is_one_of f cdv A fr s H E).xe) :
    DSs (Cxf P w K mg base N_is_one_of "is_one_of" s_is_one_of f cdv A fr s H E) B (defBody s_is_one_of) (rd_is_one_of a K  W) :=
  (dss_one (ds_ret (de_and (de_cmp op_ne od_neS (dv 0) de_str (nomark _)) (de_one (de_cmp op_in_str od_inS (dv 0) (dv 1) (by rfl))))))
def rd_pass_sign (a : Ad) (K : PySem.W.Frag)  (W : DWx) : DTs := (dSeq (dIf (dB (dOp (oEqS true) (dCall (sp_sign_at a) W [] [(dVar 0)]) (dVar 1))) (dRaise1 a.NoText "at" W (dFld a.Scan "place" (dVar 0))) dNext) (dFldA a.Scan "place" oAdd (dVar 0) (dC (.int 1))))
theorem tm_pass_sign {P : Program} {w : World} {K : PySem.W.Frag} {mg : Str → Option Value} {base : Heap} {a : Ad}  (G : Gs K mg a) {k : Nat} {k_sign_at : Nat} (c_sign_at : Cal P w K mg base "sign_at" k_sign_at (sp_sign_at a)) (h_sign_at : k_sign_at ≤ k) (h2 : 2 ≤ k)
    {f : Addr} {cdv : Value} {A : Around} {fr : List Env} {s : Shared} {H : Hp} {E : XK} {B : DB} {W : DWx} (hr : Room k (Cxf P w K mg base N_pass_sign "pass_sign" s_pass_sign f cdv A fr s H E).A) (gd : (Cxf P w K mg base N_pass_sign "pass_sign" s_pass_sign f cdv A fr s H E).A.guards = some []) (tk : Takes (Cxf P w K mg base N_pass_sign "pass_sign" s_pass_sign f cdv A fr s H E) (LW K B W)) (po : PassesOwn (model P w) (Cxf P w K mg base N_pass_sign "pass_sign" s_pass_sign f cdv A fr s H E).A (Cxf P w K mg base N_pass_sign "pass_sign" s_pass_sign f cdv A fr s H E).env (Cxf P w K mg base N_pass_sign "pass_sign" s_pass_sign f cdv A fr s H E).xe) :
    DSs (Cxf P w K mg base N_pass_sign "pass_sign" s_pass_sign f cdv A fr s H E) B (defBody s_pass_sign) (rd_pass_sign a K  W) :=
  (dss_cons (ds_if (dt_cmp op_ne od_neS (dcal c_sign_at (hr.mono h_sign_at) gd tk (da_cons (dv 0) da_nil)) (dv 1) (nomark _)) (dss_one (dsx_NoText G hr tk (de_fld G.cl_Scan G.na_Scan_place (dv 0)))) dss_nil) (dss_one (ds_fldA G.cl_Scan G.na_Scan_place in_add od_rAdd (dv 0) de_int)))
def rd_read_number (a : Ad) (K : PySem.W.Frag)  (W : DWx) : DTs := (dSeq (dSet 1 (dBM chkStr oIndexS (dC (.str "0123456789")) [(dCall (sp_sign_at a) W [] [(dVar 0)])])) (dSeq (dFldA a.Scan "place" oAdd (dVar 0) (dC (.int 1))) (dSeq (dWhile (dAnd (dB (dOp oGt (dVar 1) (dC (.int 0)))) (dB (dCall (sp_is_one_of a) W [] [(dCall (sp_sign_at a) W [] [(dVar 0)]), (dC (.str "0123456789"))]))) (dSeq (dSet 2 (dOp oAdd (dOp oMul (dC (.int 10)) (dVar 1)) (dBM chkStr oIndexS (dC (.str "0123456789")) [(dCall (sp_sign_at a) W [] [(dVar 0)])]))) (dSeq (dIf (dB (dOp oGt (dVar 2) (dC (.int 1000000000)))) dBreak dNext) (dSeq (dSet 1 (dVar 2)) (dFldA a.Scan "place" oAdd (dVar 0) (dC (.int 1))))))) (dRet (dVar 1)))))
theorem tm_read_number {P : Program} {w : World} {K : PySem.W.Frag} {mg : Str → Option Value} {base : Heap} {a : Ad}  (G : Gs K mg a) {k : Nat} {k_sign_at : Nat} (c_sign_at : Cal P w K mg base "sign_at" k_sign_at (sp_sign_at a)) (h_sign_at : k_sign_at ≤ k) {k_is_one_of : Nat} (c_is_one_of : Cal P w K mg base "is_one_of" k_is_one_of (sp_is_one_of a)) (h_is_one_of : k_is_one_of ≤ k)
    {f : Addr} {cdv : Value} {A : Around} {fr : List Env} {s : Shared} {H : Hp} {E : XK} {B : DB} {W : DWx} (hr : Room k (Cxf P w K mg base N_read_number "read_number" s_read_number f cdv A fr s H E).A) (gd : (Cxf P w K mg base N_read_number "read_number" s_read_number f cdv A fr s H E).A.guards = some []) (tk : Takes (Cxf P w K mg base N_read_number "read_number" s_read_number f cdv A fr s H E) (LW K B W)) (po : PassesOwn (model P w) (Cxf P w K mg base N_read_number "read_number" s_read_number f cdv A fr s H E).A (Cxf P w K mg base N_read_number "read_number" s_read_number f cdv A fr s H E).env (Cxf P w K mg base N_read_number "read_number" s_read_number f cdv A fr s H E).xe) :
    DSs (Cxf P w K mg base N_read_number "read_number" s_read_number f cdv A fr s H E) B (defBody s_read_number) (rd_read_number a K  W) :=
  (dss_cons (ds_set 1 sc_read_number.nd (de_indexS rfl (de_gstrE G.g_FIGURES) (da_cons (dcal c_sign_at (hr.mono h_sign_at) gd tk (da_cons (dv 0) da_nil)) da_nil))) (dss_cons (ds_fldA G.cl_Scan G.na_Scan_place in_add od_rAdd (dv 0) de_int) (dss_cons (ds_while po (dt_w (dw_and (dt_cmp op_gt od_B0 (dv 1) de_int (nomark _)) (dw_and1 (dt_val (dcal c_is_one_of (hr.mono h_is_one_of) gd tk (da_cons (dcal c_sign_at (hr.mono h_sign_at) gd tk (da_cons (dv 0) da_nil)) (da_cons (de_gstrE G.g_FIGURES) da_nil))))))) (dss_cons (ds_set 2 sc_read_number.nd (de_op op_add od_I0 (de_op op_mul od_I de_int (dv 1)) (de_indexS rfl (de_gstrE G.g_FIGURES) (da_cons (dcal c_sign_at (hr.mono h_sign_at) gd tk (da_cons (dv 0) da_nil)) da_nil)))) (dss_cons (ds_if (dt_cmp op_gt od_B0 (dv 2) (de_gintE G.g_GREATEST) (nomark _)) (dss_one ds_break) dss_nil) (dss_cons (ds_set 1 sc_read_number.nd (dv 2)) (dss_one (ds_fldA G.cl_Scan G.na_Scan_place in_add od_rAdd (dv 0) de_int)))))) (dss_one (ds_ret (dv 1))))))
def rd_read_word (a : Ad) (K : PySem.W.Frag)  (W : DWx) : DTs := (dSeq (dSet 1 (dFld a.Scan "place" (dVar 0))) (dSeq (dWhile (dAnd (dB (dCall (sp_is_one_of a) W [] [(dCall (sp_sign_at a) W [] [(dVar 0)]), (dC (.str "abcdefghijklmnopqrstuvwxyz"))])) (dB (dOp oLt (dOp oSub (dFld a.Scan "place" (dVar 0)) (dVar 1)) (dC (.int 8))))) (dFldA a.Scan "place" oAdd (dVar 0) (dC (.int 1)))) (dRet (dSl (dFld a.Scan "text" (dVar 0)) (dPart (dVar 1)) (dPart (dFld a.Scan "place" (dVar 0)))))))
theorem tm_read_word {P : Program} {w : World} {K : PySem.W.Frag} {mg : Str → Option Value} {base : Heap} {a : Ad}  (G : Gs K mg a) {k : Nat} {k_sign_at : Nat} (c_sign_at : Cal P w K mg base "sign_at" k_sign_at (sp_sign_at a)) (h_sign_at : k_sign_at ≤ k) {k_is_one_of : Nat} (c_is_one_of : Cal P w K mg base "is_one_of" k_is_one_of (sp_is_one_of a)) (h_is_one_of : k_is_one_of ≤ k)
    {f : Addr} {cdv : Value} {A : Around} {fr : List Env} {s : Shared} {H : Hp} {E : XK} {B : DB} {W : DWx} (hr : Room k (Cxf P w K mg base N_read_word "read_word" s_read_word f cdv A fr s H E).A) (gd : (Cxf P w K mg base N_read_word "read_word" s_read_word f cdv A fr s H E).A.guards = some []) (tk : Takes (Cxf P w K mg base N_read_word "read_word" s_read_word f cdv A fr s H E) (LW K B W)) (po : PassesOwn (model P w) (Cxf P w K mg base N_read_word "read_word" s_read_word f cdv A fr s H E).A (Cxf P w K mg base N_read_word "read_word" s_read_word f cdv A fr s H E).env (Cxf P w K mg base N_read_word "read_word" s_read_word f cdv A fr s H E).xe) :
    DSs (Cxf P w K mg base N_read_word "read_word" s_read_word f cdv A fr s H E) B (defBody s_read_word) (rd_read_word a K  W) :=
  (dss_cons (ds_set 1 sc_read_word.nd (de_fld G.cl_Scan G.na_Scan_place (dv 0))) (dss_cons (ds_while po (dt_w (dw_and (dt_val (dcal c_is_one_of (hr.mono h_is_one_of) gd tk (da_cons (dcal c_sign_at (hr.mono h_sign_at) gd tk (da_cons (dv 0) da_nil)) (da_cons (de_gstrE G.g_LETTERS) da_nil)))) (dw_and1 (dt_cmp op_lt od_B0 (de_op op_sub od_I0 (de_fld G.cl_Scan G.na_Scan_place (dv 0)) (dv 1)) (de_gintE G.g_LONGEST) (nomark _))))) (dss_one (ds_fldA G.cl_Scan G.na_Scan_place in_add od_rAdd (dv 0) de_int))) (dss_one (ds_ret (de_slice (de_fld G.cl_Scan G.na_Scan_text (dv 0)) (do_some (dv 1)) (do_some (de_fld G.cl_Scan G.na_Scan_place (dv 0))))))))
def rd_read_tuple (a : Ad) (K : PySem.W.Frag) (r_read_thing : DSp) (W : DWx) : DTs := (dSeq (dExpr (dCall (sp_pass_sign a) W [] [(dVar 0), (dC (.str "("))])) (dSeq (dSet 2 (dLstM [])) (dSeq (dWhile (dB (dOp (oEqS true) (dCall (sp_sign_at a) W [] [(dVar 0)]) (dC (.str ")")))) (dSeq (dIf (dB (dOp oNe (dVar 2) (dLst []))) (dExpr (dCall (sp_pass_sign a) W [] [(dVar 0), (dC (.str " "))])) dNext) (dExpr (dBM chkLst oAppend (dVar 2) [(dCall (r_read_thing) W [] [(dVar 0), (dVar 1)])])))) (dSeq (dExpr (dCall (sp_pass_sign a) W [] [(dVar 0), (dC (.str ")"))])) (dRet (dCB oTuple [(dVar 2)]))))))
theorem tm_read_tuple {P : Program} {w : World} {K : PySem.W.Frag} {mg : Str → Option Value} {base : Heap} {a : Ad} {r_read_thing : DSp} (G : Gs K mg a) {k : Nat} {k_pass_sign : Nat} (c_pass_sign : Cal P w K mg base "pass_sign" k_pass_sign (sp_pass_sign a)) (h_pass_sign : k_pass_sign ≤ k) {k_sign_at : Nat} (c_sign_at : Cal P w K mg base "sign_at" k_sign_at (sp_sign_at a)) (h_sign_at : k_sign_at ≤ k) {k_read_thing : Nat} (c_read_thing : Cal P w K mg base "read_thing" k_read_thing (r_read_thing)) (h_read_thing : k_read_thing ≤ k)
    {f : Addr} {cdv : Value} {A : Around} {fr : List Env} {s : Shared} {H : Hp} {E : XK} {B : DB} {W : DWx} (hr : Room k (Cxf P w K mg base N_read_tuple "read_tuple" s_read_tuple f cdv A fr s H E).A) (gd : (Cxf P w K mg base N_read_tuple "read_tuple" s_read_tuple f cdv A fr s H E).A.guards = some []) (tk : Takes (Cxf P w K mg base N_read_tuple "read_tuple" s_read_tuple f cdv A fr s H E) (LW K B W)) (po : PassesOwn (model P w) (Cxf P w K mg base N_read_tuple "read_tuple" s_read_tuple f cdv A fr s H E).A (Cxf P w K mg base N_read_tuple "read_tuple" s_read_tuple f cdv A fr s H E).env (Cxf P w K mg base N_read_tuple "read_tuple" s_read_tuple f cdv A fr s H E).xe) :
    DSs (Cxf P w K mg base N_read_tuple "read_tuple" s_read_tuple f cdv A fr s H E) B (defBody s_read_tuple) (rd_read_tuple a K r_read_thing W) :=
  (dss_cons (ds_expr (dcal c_pass_sign (hr.mono h_pass_sign) gd tk (da_cons (dv 0) (da_cons de_str da_nil)))) (dss_cons (ds_set 2 sc_read_tuple.nd (de_lstM da_nil)) (dss_cons (ds_while po (dt_cmp op_ne od_neS (dcal c_sign_at (hr.mono h_sign_at) gd tk (da_cons (dv 0) da_nil)) de_str (nomark _)) (dss_cons (ds_if (dt_cmp (op_neD hr.units) od_ne (dv 2) (de_lst da_nil) (nomark _)) (dss_one (ds_expr (dcal c_pass_sign (hr.mono h_pass_sign) gd tk (da_cons (dv 0) (da_cons de_str da_nil))))) dss_nil) (dss_one (ds_expr (de_bm PySem.F.plainAttrs_list PySem.F.slot_list_append PySem.F.type_list_append mt_append md_append (dv 2) (da_cons (dcal c_read_thing (hr.mono h_read_thing) gd tk (da_cons (dv 0) (da_cons (dv 1) da_nil))) da_nil)))))) (dss_cons (ds_expr (dcal c_pass_sign (hr.mono h_pass_sign) gd tk (da_cons (dv 0) (da_cons de_str da_nil)))) (dss_one (ds_ret (de_callTy call_tuple_of cd_tuple rfl G.b_tuple (by decide +kernel) (da_cons (dv 2) da_nil))))))))
def rd_read_thing (a : Ad) (K : PySem.W.Frag) (r_read_tuple : DSp) (W : DWx) : DTs := (dSeq (dSet 2 (dCall (sp_sign_at a) W [] [(dVar 0)])) (dSeq (dIf (dB (dCall (sp_is_one_of a) W [] [(dVar 2), (dC (.str "0123456789"))])) (dRet (dCall (sp_read_number a) W [] [(dVar 0)])) dNext) (dSeq (dIf (dB (dCall (sp_is_one_of a) W [] [(dVar 2), (dC (.str "abcdefghijklmnopqrstuvwxyz"))])) (dRet (dCall (sp_read_word a) W [] [(dVar 0)])) dNext) (dSeq (dIf (dOr (dB (dOp (oEqS true) (dVar 2) (dC (.str "(")))) (dB (dOp (oEqS false) (dVar 1) (dC (.int 0))))) (dRaise1 a.NoText "at" W (dFld a.Scan "place" (dVar 0))) dNext) (dRet (dCall (r_read_tuple) W [] [(dVar 0), (dOp oSub (dVar 1) (dC (.int 1)))]))))))
theorem tm_read_thing {P : Program} {w : World} {K : PySem.W.Frag} {mg : Str → Option Value} {base : Heap} {a : Ad} {r_read_tuple : DSp} (G : Gs K mg a) {k : Nat} {k_sign_at : Nat} (c_sign_at : Cal P w K mg base "sign_at" k_sign_at (sp_sign_at a)) (h_sign_at : k_sign_at ≤ k) {k_is_one_of : Nat} (c_is_one_of : Cal P w K mg base "is_one_of" k_is_one_of (sp_is_one_of a)) (h_is_one_of : k_is_one_of ≤ k) {k_read_number : Nat} (c_read_number : Cal P w K mg base "read_number" k_read_number (sp_read_number a)) (h_read_number : k_read_number ≤ k) {k_read_word : Nat} (c_read_word : Cal P w K mg base "read_word" k_read_word (sp_read_word a)) (h_read_word : k_read_word ≤ k) {k_read_tuple : Nat} (c_read_tuple : Cal P w K mg base "read_tuple" k_read_tuple (r_read_tuple)) (h_read_tuple : k_read_tuple ≤ k) (h2 : 2 ≤ k)
    {f : Addr} {cdv : Value} {A : Around} {fr : List Env} {s : Shared} {H : Hp} {E : XK} {B : DB} {W : DWx} (hr : Room k (Cxf P w K mg base N_read_thing "read_thing" s_read_thing f cdv A fr s H E).A) (gd : (Cxf P w K mg base N_read_thing "read_thing" s_read_thing f cdv A fr s H E).A.guards = some []) (tk : Takes (Cxf P w K mg base N_read_thing "read_thing" s_read_thing f cdv A fr s H E) (LW K B W)) (po : PassesOwn (model P w) (Cxf P w K mg base N_read_thing "read_thing" s_read_thing f cdv A fr s H E).A (Cxf P w K mg base N_read_thing "read_thing" s_read_thing f cdv A fr s H E).env (Cxf P w K mg base N_read_thing "read_thing" s_read_thing f cdv A fr s H E).xe) :
    DSs (Cxf P w K mg base N_read_thing "read_thing" s_read_thing f cdv A fr s H E) B (defBody s_read_thing) (rd_read_thing a K r_read_tuple W) :=
  (dss_cons (ds_set 2 sc_read_thing.nd (dcal c_sign_at (hr.mono h_sign_at) gd tk (da_cons (dv 0) da_nil))) (dss_cons (ds_if (dt_val (dcal c_is_one_of (hr.mono h_is_one_of) gd tk (da_cons (dv 2) (da_cons (de_gstrE G.g_FIGURES) da_nil)))) (dss_one (ds_ret (dcal c_read_number (hr.mono h_read_number) gd tk (da_cons (dv 0) da_nil)))) dss_nil) (dss_cons (ds_if (dt_val (dcal c_is_one_of (hr.mono h_is_one_of) gd tk (da_cons (dv 2) (da_cons (de_gstrE G.g_LETTERS) da_nil)))) (dss_one (ds_ret (dcal c_read_word (hr.mono h_read_word) gd tk (da_cons (dv 0) da_nil)))) dss_nil) (dss_cons (ds_if (dt_w (dw_or (dt_cmp op_ne od_neS (dv 2) de_str (nomark _)) (dw_or1 (dt_cmp op_eq od_eqS (dv 1) de_int (nomark _))))) (dss_one (dsx_NoText G hr tk (de_fld G.cl_Scan G.na_Scan_place (dv 0)))) dss_nil) (dss_one (ds_ret (dcal c_read_tuple (hr.mono h_read_tuple) gd tk (da_cons (dv 0) (da_cons (de_op op_sub od_I0 (dv 1) de_int) da_nil)))))))))
def rd_read (a : Ad) (K : PySem.W.Frag)  (W : DWx) : DTs := (dSeq (dIf (dNot (dB (dCB oIsi [(dVar 0), (dC (.ty "str"))]))) (dRaise1 a.NoText "at" W (dC .non)) dNext) (dSeq (dSet 1 (dMake a.Scan (sp_Scan a) W [] [(dVar 0)])) (dSeq (dSet 2 (dCall (sp_read_thing a) W [] [(dVar 1), (dC (.int 60))])) (dSeq (dIf (dB (dOp oLt (dFld a.Scan "place" (dVar 1)) (dCB oLen [(dVar 0)]))) (dRaise1 a.NoText "at" W (dFld a.Scan "place" (dVar 1))) dNext) (dRet (dVar 2))))))
theorem tm_read {P : Program} {w : World} {K : PySem.W.Frag} {mg : Str → Option Value} {base : Heap} {a : Ad}  (G : Gs K mg a) {k : Nat} {k_Scan : Nat} (c_Scan : CalC P w K mg base "Scan" a.Scan k_Scan (sp_Scan a)) (h_Scan : k_Scan + 1 ≤ k) {k_read_thing : Nat} (c_read_thing : Cal P w K mg base "read_thing" k_read_thing (sp_read_thing a)) (h_read_thing : k_read_thing ≤ k) (h2 : 2 ≤ k)
    {f : Addr} {cdv : Value} {A : Around} {fr : List Env} {s : Shared} {H : Hp} {E : XK} {B : DB} {W : DWx} (hr : Room k (Cxf P w K mg base N_read "read" s_read f cdv A fr s H E).A) (gd : (Cxf P w K mg base N_read "read" s_read f cdv A fr s H E).A.guards = some []) (tk : Takes (Cxf P w K mg base N_read "read" s_read f cdv A fr s H E) (LW K B W)) (po : PassesOwn (model P w) (Cxf P w K mg base N_read "read" s_read f cdv A fr s H E).A (Cxf P w K mg base N_read "read" s_read f cdv A fr s H E).env (Cxf P w K mg base N_read "read" s_read f cdv A fr s H E).xe) :
    DSs (Cxf P w K mg base N_read "read" s_read f cdv A fr s H E) B (defBody s_read) (rd_read a K  W) :=
  (dss_cons (ds_if (dt_not (dt_val (de_callB call_isi cd_isi rfl G.b_isinstance (by decide +kernel) (da_cons (dv 0) (da_cons (de_tyv G.b_str) da_nil))))) (dss_one (dsx_NoText G hr tk de_non)) dss_nil) (dss_cons (ds_set 1 sc_read.nd (dmake c_Scan (hr.mono h_Scan) gd tk ret_Scan (da_cons (dv 0) da_nil))) (dss_cons (ds_set 2 sc_read.nd (dcal c_read_thing (hr.mono h_read_thing) gd tk (da_cons (dv 1) (da_cons (de_gintE G.g_DEEP) da_nil)))) (dss_cons (ds_if (dt_cmp op_lt od_B0 (de_fld G.cl_Scan G.na_Scan_place (dv 1)) (de_callB call_len cd_len rfl G.b_len (by decide +kernel) (da_cons (dv 0) da_nil)) (nomark _)) (dss_one (dsx_NoText G hr tk (de_fld G.cl_Scan G.na_Scan_place (dv 1)))) dss_nil) (dss_one (ds_ret (dv 2)))))))
def rd__law_take (a : Ad) (K : PySem.W.Frag)  (W : DWx) : DTs := (dSeq (dIf (dB (dOp oGt (dOp oIx (dVar 0) (dC (.int 2))) (dC (.int 0)))) (dSeq (dSet 2 (dOp oMod (dOp oIx (dVar 0) (dC (.int 2))) (dVar 1))) (dSeq (dAsg (dOp oFdiv (dOp oIx (dVar 0) (dC (.int 2))) (dVar 1)) (dgSub (dVar 0) (dC (.int 2)))) (dRet (dVar 2)))) dNext) (dSeq (dSet 3 (dOp oIx (dVar 0) (dC (.int 1)))) (dSeq (dIf (dB (dOp oNe (dOp oIx (dVar 0) (dC (.int 0))) (dLst []))) (dSet 3 (dOp oIx (dOp oIx (dVar 0) (dC (.int 0))) (dOp oMod (dOp oIx (dVar 0) (dC (.int 1))) (dCB oLen [(dOp oIx (dVar 0) (dC (.int 0)))])))) dNext) (dSeq (dAsg (dOp oAdd (dOp oIx (dVar 0) (dC (.int 1))) (dC (.int 1))) (dgSub (dVar 0) (dC (.int 1)))) (dSeq (dIf (dAnd (dB (dOp oGe (dVar 3) (dOp oPow (dC (.int 10)) (dC (.int 18))))) (dB (dOp oLe (dOp oIx (dVar 0) (dC (.int 1))) (dCB oLen [(dOp oIx (dVar 0) (dC (.int 0)))])))) (dSeq (dAsg (dOp oFdiv (dVar 3) (dVar 1)) (dgSub (dVar 0) (dC (.int 2)))) (dRet (dOp oMod (dVar 3) (dVar 1)))) dNext) (dSeq (dSet 3 (dOp oMod (dVar 3) (dC (.int 2305843009213693951)))) (dSeq (dAsg (dOp oMod (dOp oAdd (dOp oAdd (dOp oMul (dOp oIx (dVar 0) (dC (.int 3))) (dC (.int 48271))) (dOp oMul (dVar 3) (dC (.int 69621)))) (dOp oIx (dVar 0) (dC (.int 1)))) (dC (.int 2305843009213693951))) (dgSub (dVar 0) (dC (.int 3)))) (dRet (dOp oMod (dOp oFdiv (dOp oMod (dOp oMul (dOp oIx (dVar 0) (dC (.int 3))) (dOp oIx (dVar 0) (dC (.int 3)))) (dC (.int 2147483629))) (dC (.int 8))) (dVar 1))))))))))
theorem tm__law_take {P : Program} {w : World} {K : PySem.W.Frag} {mg : Str → Option Value} {base : Heap} {a : Ad}  (G : Gs K mg a) {k : Nat} 
    {f : Addr} {cdv : Value} {A : Around} {fr : List Env} {s : Shared} {H : Hp} {E : XK} {B : DB} {W : DWx} (hr : Room k (Cxf P w K mg base N__law_take "_law_take" s__law_take f cdv A fr s H E).A) (gd : (Cxf P w K mg base N__law_take "_law_take" s__law_take f cdv A fr s H E).A.guards = some []) (tk : Takes (Cxf P w K mg base N__law_take "_law_take" s__law_take f cdv A fr s H E) (LW K B W)) (po : PassesOwn (model P w) (Cxf P w K mg base N__law_take "_law_take" s__law_take f cdv A fr s H E).A (Cxf P w K mg base N__law_take "_law_take" s__law_take f cdv A fr s H E).env (Cxf P w K mg base N__law_take "_law_take" s__law_take f cdv A fr s H E).xe) :
    DSs (Cxf P w K mg base N__law_take "_law_take" s__law_take f cdv A fr s H E) B (defBody s__law_take) (rd__law_take a K  W) :=
  (dss_cons (ds_if (dt_cmp op_gt od_B0 (de_ix (dv 0) de_int) de_int (nomark _)) (dss_cons (ds_set 2 sc__law_take.nd (de_op op_mod od_I (de_ix (dv 0) de_int) (dv 1))) (dss_cons (ds_asg (de_op op_fdiv od_I (de_ix (dv 0) de_int) (dv 1)) (dg_sub (dv 0) de_int)) (dss_one (ds_ret (dv 2))))) dss_nil) (dss_cons (ds_set 3 sc__law_take.nd (de_ix (dv 0) de_int)) (dss_cons (ds_if (dt_cmp (op_neD hr.units) od_ne (de_ix (dv 0) de_int) (de_lst da_nil) (nomark _)) (dss_one (ds_set 3 sc__law_take.nd (de_ix (de_ix (dv 0) de_int) (de_op op_mod od_I (de_ix (dv 0) de_int) (de_callB call_len cd_len rfl G.b_len (by decide +kernel) (da_cons (de_ix (dv 0) de_int) da_nil)))))) dss_nil) (dss_cons (ds_asg (de_op op_add od_I0 (de_ix (dv 0) de_int) de_int) (dg_sub (dv 0) de_int)) (dss_cons (ds_if (dt_w (dw_and (dt_cmp op_ge od_B0 (dv 3) (de_op op_pow od_I de_int de_int) (nomark _)) (dw_and1 (dt_cmp op_le od_B0 (de_ix (dv 0) de_int) (de_callB call_len cd_len rfl G.b_len (by decide +kernel) (da_cons (de_ix (dv 0) de_int) da_nil)) (nomark _))))) (dss_cons (ds_asg (de_op op_fdiv od_I (dv 3) (dv 1)) (dg_sub (dv 0) de_int)) (dss_one (ds_ret (de_op op_mod od_I (dv 3) (dv 1))))) dss_nil) (dss_cons (ds_set 3 sc__law_take.nd (de_op op_mod od_I (dv 3) de_int)) (dss_cons (ds_asg (de_op op_mod od_I (de_op op_add od_I0 (de_op op_add od_I0 (de_op op_mul od_I (de_ix (dv 0) de_int) de_int) (de_op op_mul od_I (dv 3) de_int)) (de_ix (dv 0) de_int)) de_int) (dg_sub (dv 0) de_int)) (dss_one (ds_ret (de_op op_mod od_I (de_op op_fdiv od_I (de_op op_mod od_I (de_op op_mul od_I (de_ix (dv 0) de_int) (de_ix (dv 0) de_int)) de_int) de_int) (dv 1)))))))))))
def rd__law_number (a : Ad) (K : PySem.W.Frag)  (W : DWx) : DTs := (dSeq (dSet 1 (dCall (sp__law_take a) W [] [(dVar 0), (dC (.int 4))])) (dSeq (dSet 2 (dOp oIx (dLst [(dC (.int 0)), (dC (.int 1)), (dC (.int 9)), (dC (.int 10)), (dC (.int 99)), (dC (.int 100)), (dC (.int 999999999)), (dOp oPow (dC (.int 10)) (dC (.int 9)))]) (dCall (sp__law_take a) W [] [(dVar 0), (dC (.int 8))]))) (dSeq (dSet 3 (dCall (sp__law_take a) W [] [(dVar 0), (dC (.int 40))])) (dSeq (dSet 4 (dOp oMod (dOp oAdd (dOp oMul (dCall (sp__law_take a) W [] [(dVar 0), (dC (.int 31627))]) (dC (.int 31627))) (dCall (sp__law_take a) W [] [(dVar 0), (dC (.int 31627))])) (dOp oAdd (dOp oPow (dC (.int 10)) (dC (.int 9))) (dC (.int 1))))) (dRet (dOp oIx (dLst [(dVar 2), (dVar 3), (dVar 4), (dVar 4)]) (dVar 1)))))))
theorem tm__law_number {P : Program} {w : World} {K : PySem.W.Frag} {mg : Str → Option Value} {base : Heap} {a : Ad}  (G : Gs K mg a) {k : Nat} {k__law_take : Nat} (c__law_take : Cal P w K mg base "_law_take" k__law_take (sp__law_take a)) (h__law_take : k__law_take ≤ k)
    {f : Addr} {cdv : Value} {A : Around} {fr : List Env} {s : Shared} {H : Hp} {E : XK} {B : DB} {W : DWx} (hr : Room k (Cxf P w K mg base N__law_number "_law_number" s__law_number f cdv A fr s H E).A) (gd : (Cxf P w K mg base N__law_number "_law_number" s__law_number f cdv A fr s H E).A.guards = some []) (tk : Takes (Cxf P w K mg base N__law_number "_law_number" s__law_number f cdv A fr s H E) (LW K B W)) (po : PassesOwn (model P w) (Cxf P w K mg base N__law_number "_law_number" s__law_number f cdv A fr s H E).A (Cxf P w K mg base N__law_number "_law_number" s__law_number f cdv A fr s H E).env (Cxf P w K mg base N__law_number "_law_number" s__law_number f cdv A fr s H E).xe) :
    DSs (Cxf P w K mg base N__law_number "_law_number" s__law_number f cdv A fr s H E) B (defBody s__law_number) (rd__law_number a K  W) :=
  (dss_cons (ds_set 1 sc__law_number.nd (dcal c__law_take (hr.mono h__law_take) gd tk (da_cons (dv 0) (da_cons de_int da_nil)))) (dss_cons (ds_set 2 sc__law_number.nd (de_ix (de_lst (da_cons de_int (da_cons de_int (da_cons de_int (da_cons de_int (da_cons de_int (da_cons de_int (da_cons de_int (da_cons (de_op op_pow od_I de_int de_int) da_nil))))))))) (dcal c__law_take (hr.mono h__law_take) gd tk (da_cons (dv 0) (da_cons de_int da_nil))))) (dss_cons (ds_set 3 sc__law_number.nd (dcal c__law_take (hr.mono h__law_take) gd tk (da_cons (dv 0) (da_cons de_int da_nil)))) (dss_cons (ds_set 4 sc__law_number.nd (de_op op_mod od_I (de_op op_add od_I0 (de_op op_mul od_I (dcal c__law_take (hr.mono h__law_take) gd tk (da_cons (dv 0) (da_cons de_int da_nil))) de_int) (dcal c__law_take (hr.mono h__law_take) gd tk (da_cons (dv 0) (da_cons de_int da_nil)))) (de_op op_add od_I0 (de_op op_pow od_I de_int de_int) de_int))) (dss_one (ds_ret (de_ix (de_lst (da_cons (dv 2) (da_cons (dv 3) (da_cons (dv 4) (da_cons (dv 4) da_nil))))) (dv 1))))))))
def rd__law_word (a : Ad) (K : PySem.W.Frag)  (W : DWx) : DTs := (dSeq (dSet 1 (dC (.str "abcdefghijklmnopqrstuvwxyz"))) (dSeq (dSet 2 (dOp oIx (dLst [(dC (.int 1)), (dC (.int 2)), (dC (.int 8)), (dOp oAdd (dC (.int 1)) (dCall (sp__law_take a) W [] [(dVar 0), (dC (.int 8))]))]) (dCall (sp__law_take a) W [] [(dVar 0), (dC (.int 4))]))) (dRet (dBM chkStr oJoin (dC (.str "")) [(dLc [3] (dRng1 [(dVar 2)]) (dgName 3) dYes (dOp oIx (dVar 1) (dCall (sp__law_take a) Wno [] [(dVar 0), (dC (.int 26))])))]))))
theorem tm__law_word {P : Program} {w : World} {K : PySem.W.Frag} {mg : Str → Option Value} {base : Heap} {a : Ad}  (G : Gs K mg a) {k : Nat} {k__law_take : Nat} (c__law_take : Cal P w K mg base "_law_take" k__law_take (sp__law_take a)) (h__law_take : k__law_take ≤ k)
    {f : Addr} {cdv : Value} {A : Around} {fr : List Env} {s : Shared} {H : Hp} {E : XK} {B : DB} {W : DWx} (hr : Room k (Cxf P w K mg base N__law_word "_law_word" s__law_word f cdv A fr s H E).A) (gd : (Cxf P w K mg base N__law_word "_law_word" s__law_word f cdv A fr s H E).A.guards = some []) (tk : Takes (Cxf P w K mg base N__law_word "_law_word" s__law_word f cdv A fr s H E) (LW K B W)) (po : PassesOwn (model P w) (Cxf P w K mg base N__law_word "_law_word" s__law_word f cdv A fr s H E).A (Cxf P w K mg base N__law_word "_law_word" s__law_word f cdv A fr s H E).env (Cxf P w K mg base N__law_word "_law_word" s__law_word f cdv A fr s H E).xe) :
    DSs (Cxf P w K mg base N__law_word "_law_word" s__law_word f cdv A fr s H E) B (defBody s__law_word) (rd__law_word a K  W) :=
  (dss_cons (ds_set 1 sc__law_word.nd de_str) (dss_cons (ds_set 2 sc__law_word.nd (de_ix (de_lst (da_cons de_int (da_cons de_int (da_cons de_int (da_cons (de_op op_add od_I0 de_int (dcal c__law_take (hr.mono h__law_take) gd tk (da_cons (dv 0) (da_cons de_int da_nil)))) da_nil))))) (dcal c__law_take (hr.mono h__law_take) gd tk (da_cons (dv 0) (da_cons de_int da_nil))))) (dss_one (ds_ret (de_bm PySem.F.plainAttrs_str PySem.F.slot_str_join PySem.F.type_str_join mt_join md_join de_str (da_cons (de_lc (own := [("_law_k", 3)]) rfl sc__law_word.nd (di_range1 rfl G.b_range (da_cons (dv 2) da_nil)) (blkOk_by (N := N__law_word) (sc := defScope s__law_word) (by decide +kernel)) (ct_name (by decide)) (fun _ _ _ _ _ => (pg_name (i := 3) sc__law_word.nd rfl (Or.inl rfl))) (fun _ _ _ _ _ => dts_nil) (fun _ _ _ _ _ => (de_ix (dv 1) (dcal c__law_take (hr.mono h__law_take) gd takesNo (da_cons (dv 0) (da_cons de_int da_nil)))))) da_nil))))))
def rd__law_tree (a : Ad) (K : PySem.W.Frag) (r__law_tree : DSp) (W : DWx) : DTs := (dSeq (dSet 2 (dCall (sp__law_take a) W [] [(dVar 0), (dC (.int 5))])) (dSeq (dIf (dB (dOp (oEqS false) (dVar 2) (dC (.int 0)))) (dRet (dCall (sp__law_word a) W [] [(dVar 0)])) dNext) (dSeq (dIf (dOr (dB (dOp (oEqS false) (dVar 2) (dC (.int 1)))) (dB (dOp (oEqS false) (dVar 1) (dC (.int 0))))) (dRet (dCall (sp__law_number a) W [] [(dVar 0)])) dNext) (dRet (dCB oTuple [(dLc [3] (dRng1 [(dCall (sp__law_take a) W [] [(dVar 0), (dC (.int 4))])]) (dgName 3) dYes (dCall (r__law_tree) Wno [] [(dVar 0), (dOp oSub (dVar 1) (dC (.int 1)))]))])))))
theorem tm__law_tree {P : Program} {w : World} {K : PySem.W.Frag} {mg : Str → Option Value} {base : Heap} {a : Ad} {r__law_tree : DSp} (G : Gs K mg a) {k : Nat} {k__law_take : Nat} (c__law_take : Cal P w K mg base "_law_take" k__law_take (sp__law_take a)) (h__law_take : k__law_take ≤ k) {k__law_word : Nat} (c__law_word : Cal P w K mg base "_law_word" k__law_word (sp__law_word a)) (h__law_word : k__law_word ≤ k) {k__law_number : Nat} (c__law_number : Cal P w K mg base "_law_number" k__law_number (sp__law_number a)) (h__law_number : k__law_number ≤ k) {k__law_tree : Nat} (c__law_tree : Cal P w K mg base "_law_tree" k__law_tree (r__law_tree)) (h__law_tree : k__law_tree ≤ k)
    {f : Addr} {cdv : Value} {A : Around} {fr : List Env} {s : Shared} {H : Hp} {E : XK} {B : DB} {W : DWx} (hr : Room k (Cxf P w K mg base N__law_tree "_law_tree" s__law_tree f cdv A fr s H E).A) (gd : (Cxf P w K mg base N__law_tree "_law_tree" s__law_tree f cdv A fr s H E).A.guards = some []) (tk : Takes (Cxf P w K mg base N__law_tree "_law_tree" s__law_tree f cdv A fr s H E) (LW K B W)) (po : PassesOwn (model P w) (Cxf P w K mg base N__law_tree "_law_tree" s__law_tree f cdv A fr s H E).A (Cxf P w K mg base N__law_tree "_law_tree" s__law_tree f cdv A fr s H E).env (Cxf P w K mg base N__law_tree "_law_tree" s__law_tree f cdv A fr s H E).xe) :
    DSs (Cxf P w K mg base N__law_tree "_law_tree" s__law_tree f cdv A fr s H E) B (defBody s__law_tree) (rd__law_tree a K r__law_tree W) :=
  (dss_cons (ds_set 2 sc__law_tree.nd (dcal c__law_take (hr.mono h__law_take) gd tk (da_cons (dv 0) (da_cons de_int da_nil)))) (dss_cons (ds_if (dt_cmp op_eq od_eqS (dv 2) de_int (nomark _)) (dss_one (ds_ret (dcal c__law_word (hr.mono h__law_word) gd tk (da_cons (dv 0) da_nil)))) dss_nil) (dss_cons (ds_if (dt_w (dw_or (dt_cmp op_eq od_eqS (dv 2) de_int (nomark _)) (dw_or1 (dt_cmp op_eq od_eqS (dv 1) de_int (nomark _))))) (dss_one (ds_ret (dcal c__law_number (hr.mono h__law_number) gd tk (da_cons (dv 0) da_nil)))) dss_nil) (dss_one (ds_ret (de_callTy call_tuple_of cd_tuple rfl G.b_tuple (by decide +kernel) (da_cons (de_lc (own := [("_law_k", 3)]) rfl sc__law_tree.nd (di_range1 rfl G.b_range (da_cons (dcal c__law_take (hr.mono h__law_take) gd tk (da_cons (dv 0) (da_cons de_int da_nil))) da_nil)) (blkOk_by (N := N__law_tree) (sc := defScope s__law_tree) (by decide +kernel)) (ct_name (by decide)) (fun _ _ _ _ _ => (pg_name (i := 3) sc__law_tree.nd rfl (Or.inl rfl))) (fun _ _ _ _ _ => dts_nil) (fun _ _ _ _ _ => (dcal c__law_tree (hr.mono h__law_tree) gd takesNo (da_cons (dv 0) (da_cons (de_op op_sub od_I0 (dv 1) de_int) da_nil))))) da_nil)))))))
def rd__law_text (a : Ad) (K : PySem.W.Frag) (r__law_text : DSp) (W : DWx) : DTs := (dSeq (dIf (dB (dCB oIsi [(dVar 0), (dC (.ty "tuple"))])) (dRet (dOp oAddS (dOp oAddS (dC (.str "(")) (dBM chkStr oJoin (dC (.str " ")) [(dLc [1] (dItTup (dVar 0)) (dgName 1) dYes (dCall (r__law_text) Wno [] [(dVar 1)]))])) (dC (.str ")")))) dNext) (dSeq (dIf (dB (dCB oIsi [(dVar 0), (dC (.ty "str"))])) (dRet (dVar 0)) dNext) (dRet (dCB oStrI [(dVar 0)]))))
theorem tm__law_text {P : Program} {w : World} {K : PySem.W.Frag} {mg : Str → Option Value} {base : Heap} {a : Ad} {r__law_text : DSp} (G : Gs K mg a) {k : Nat} {k__law_text : Nat} (c__law_text : Cal P w K mg base "_law_text" k__law_text (r__law_text)) (h__law_text : k__law_text ≤ k)
    {f : Addr} {cdv : Value} {A : Around} {fr : List Env} {s : Shared} {H : Hp} {E : XK} {B : DB} {W : DWx} (hr : Room k (Cxf P w K mg base N__law_text "_law_text" s__law_text f cdv A fr s H E).A) (gd : (Cxf P w K mg base N__law_text "_law_text" s__law_text f cdv A fr s H E).A.guards = some []) (tk : Takes (Cxf P w K mg base N__law_text "_law_text" s__law_text f cdv A fr s H E) (LW K B W)) (po : PassesOwn (model P w) (Cxf P w K mg base N__law_text "_law_text" s__law_text f cdv A fr s H E).A (Cxf P w K mg base N__law_text "_law_text" s__law_text f cdv A fr s H E).env (Cxf P w K mg base N__law_text "_law_text" s__law_text f cdv A fr s H E).xe) :
    DSs (Cxf P w K mg base N__law_text "_law_text" s__law_text f cdv A fr s H E) B (defBody s__law_text) (rd__law_text a K r__law_text W) :=
  (dss_cons (ds_if (dt_val (de_callB call_isi cd_isi rfl G.b_isinstance (by decide +kernel) (da_cons (dv 0) (da_cons (de_tyv G.b_tuple) da_nil)))) (dss_one (ds_ret (de_op op_add_str od_addS (de_op op_add_str od_addS de_str (de_bm PySem.F.plainAttrs_str PySem.F.slot_str_join PySem.F.type_str_join mt_join md_join de_str (da_cons (de_lc (own := [("_law_part", 1)]) rfl sc__law_text.nd (di_tup (dv 0)) (blkOk_by (N := N__law_text) (sc := defScope s__law_text) (by decide +kernel)) (ct_name (by decide)) (fun _ _ _ _ _ => (pg_name (i := 1) sc__law_text.nd rfl (Or.inl rfl))) (fun _ _ _ _ _ => dts_nil) (fun _ _ _ _ _ => (dcal c__law_text (hr.mono h__law_text) gd takesNo (da_cons (dv 1) da_nil)))) da_nil))) de_str))) dss_nil) (dss_cons (ds_if (dt_val (de_callB call_isi cd_isi rfl G.b_isinstance (by decide +kernel) (da_cons (dv 0) (da_cons (de_tyv G.b_str) da_nil)))) (dss_one (ds_ret (dv 0))) dss_nil) (dss_one (ds_ret (de_callTy call_str_int cd_strI rfl G.b_str (by decide +kernel) (da_cons (dv 0) da_nil))))))
def rd__law_written (a : Ad) (K : PySem.W.Frag)  (W : DWx) : DTs := (dSeq (dSet 1 (dLstM [(dC (.str "")), (dC (.str "0")), (dC (.str "00")), (dC (.str "07")), (dC (.str "(")), (dC (.str ")")), (dC (.str "()")), (dC (.str "( )")), (dC (.str "(  )")), (dC (.str "( 1)")), (dC (.str "(1 )")), (dC (.str "1 ")), (dC (.str " 1")), (dC (.str "1000000000")), (dC (.str "1000000001"))])) (dSeq (dSet 1 (dOp oCatMM (dVar 1) (dLstM [(dC (.str "10000000000")), (dC (.str "9999999999")), (dC (.str "abcdefgh")), (dC (.str "abcdefghi")), (dC (.str "-1")), (dC (.str "A")), (dC (.str "a1")), (dC (.str "1a")), (dC (.str "(a(b))")), (dC (.str "(a b"))]))) (dSeq (dSet 1 (dOp oCatMM (dVar 1) (dLstM [(dOp oMulS (dC (.str "(")) (dC (.int 100))), (dOp oAddS (dOp oMulS (dC (.str "(")) (dC (.int 60))) (dOp oMulS (dC (.str ")")) (dC (.int 60)))), (dOp oAddS (dOp oMulS (dC (.str "(")) (dC (.int 61))) (dOp oMulS (dC (.str ")")) (dC (.int 61)))), (dOp oAddS (dOp oMulS (dC (.str "(")) (dC (.int 60))) (dOp oMulS (dC (.str ")")) (dC (.int 59)))), (dOp oAddS (dOp oAddS (dOp oMulS (dC (.str "(")) (dC (.int 59))) (dC (.str "x"))) (dOp oMulS (dC (.str ")")) (dC (.int 60))))]))) (dSeq (dSet 1 (dOp oCatMM (dVar 1) (dLstM [(dOp oMulS (dC (.str "9")) (dC (.int 900))), (dC (.str "(0 (1 (2) 3) 4)\n")), (dC (.str "(1,2)")), (dC (.str "(a b)(c)")), (dC (.str "((0 0) ((0 1 5))")), (dC (.str "a	b")), (dC (.str "(01)")), (dC (.str "(1 02)"))]))) (dRet (dOp oIx (dVar 1) (dOp oMod (dVar 0) (dC (.int 38)))))))))
theorem tm__law_written {P : Program} {w : World} {K : PySem.W.Frag} {mg : Str → Option Value} {base : Heap} {a : Ad}  (G : Gs K mg a) {k : Nat} 
    {f : Addr} {cdv : Value} {A : Around} {fr : List Env} {s : Shared} {H : Hp} {E : XK} {B : DB} {W : DWx} (hr : Room k (Cxf P w K mg base N__law_written "_law_written" s__law_written f cdv A fr s H E).A) (gd : (Cxf P w K mg base N__law_written "_law_written" s__law_written f cdv A fr s H E).A.guards = some []) (tk : Takes (Cxf P w K mg base N__law_written "_law_written" s__law_written f cdv A fr s H E) (LW K B W)) (po : PassesOwn (model P w) (Cxf P w K mg base N__law_written "_law_written" s__law_written f cdv A fr s H E).A (Cxf P w K mg base N__law_written "_law_written" s__law_written f cdv A fr s H E).env (Cxf P w K mg base N__law_written "_law_written" s__law_written f cdv A fr s H E).xe) :
    DSs (Cxf P w K mg base N__law_written "_law_written" s__law_written f cdv A fr s H E) B (defBody s__law_written) (rd__law_written a K  W) :=
  (dss_cons (ds_set 1 sc__law_written.nd (de_lstM (da_cons de_str (da_cons de_str (da_cons de_str (da_cons de_str (da_cons de_str (da_cons de_str (da_cons de_str (da_cons de_str (da_cons de_str (da_cons de_str (da_cons de_str (da_cons de_str (da_cons de_str (da_cons de_str (da_cons de_str da_nil))))))))))))))))) (dss_cons (ds_set 1 sc__law_written.nd (de_op op_cat od_catMM (dv 1) (de_lstM (da_cons de_str (da_cons de_str (da_cons de_str (da_cons de_str (da_cons de_str (da_cons de_str (da_cons de_str (da_cons de_str (da_cons de_str (da_cons de_str da_nil))))))))))))) (dss_cons (ds_set 1 sc__law_written.nd (de_op op_cat od_catMM (dv 1) (de_lstM (da_cons (de_op op_mulS od_mulS de_str de_int) (da_cons (de_op op_add_str od_addS (de_op op_mulS od_mulS de_str de_int) (de_op op_mulS od_mulS de_str de_int)) (da_cons (de_op op_add_str od_addS (de_op op_mulS od_mulS de_str de_int) (de_op op_mulS od_mulS de_str de_int)) (da_cons (de_op op_add_str od_addS (de_op op_mulS od_mulS de_str de_int) (de_op op_mulS od_mulS de_str de_int)) (da_cons (de_op op_add_str od_addS (de_op op_add_str od_addS (de_op op_mulS od_mulS de_str de_int) de_str) (de_op op_mulS od_mulS de_str de_int)) da_nil)))))))) (dss_cons (ds_set 1 sc__law_written.nd (de_op op_cat od_catMM (dv 1) (de_lstM (da_cons (de_op op_mulS od_mulS de_str de_int) (da_cons de_str (da_cons de_str (da_cons de_str (da_cons de_str (da_cons de_str (da_cons de_str (da_cons de_str da_nil))))))))))) (dss_one (ds_ret (de_ix (dv 1) (de_op op_mod od_I (dv 0) de_int))))))))
def rd__law_sign (a : Ad) (K : PySem.W.Frag)  (W : DWx) : DTs := (dSeq (dSet 1 (dC (.str "abcdefghijklmnopqrstuvwxyzABCDEFGHIJKLMNOPQRSTUVWXYZ0123456789 !\"#$&'()*+,-./:;<=>?\x40[\\]^_`{|}~\n	"))) (dSeq (dIf (dB (dOp (oEqS false) (dCall (sp__law_take a) W [] [(dVar 0), (dC (.int 2))]) (dC (.int 0)))) (dRet (dOp oIx (dC (.str " ()0a9z1")) (dCall (sp__law_take a) W [] [(dVar 0), (dC (.int 8))]))) dNext) (dRet (dOp oIx (dVar 1) (dCall (sp__law_take a) W [] [(dVar 0), (dCB oLen [(dVar 1)])])))))
theorem tm__law_sign {P : Program} {w : World} {K : PySem.W.Frag} {mg : Str → Option Value} {base : Heap} {a : Ad}  (G : Gs K mg a) {k : Nat} {k__law_take : Nat} (c__law_take : Cal P w K mg base "_law_take" k__law_take (sp__law_take a)) (h__law_take : k__law_take ≤ k)
    {f : Addr} {cdv : Value} {A : Around} {fr : List Env} {s : Shared} {H : Hp} {E : XK} {B : DB} {W : DWx} (hr : Room k (Cxf P w K mg base N__law_sign "_law_sign" s__law_sign f cdv A fr s H E).A) (gd : (Cxf P w K mg base N__law_sign "_law_sign" s__law_sign f cdv A fr s H E).A.guards = some []) (tk : Takes (Cxf P w K mg base N__law_sign "_law_sign" s__law_sign f cdv A fr s H E) (LW K B W)) (po : PassesOwn (model P w) (Cxf P w K mg base N__law_sign "_law_sign" s__law_sign f cdv A fr s H E).A (Cxf P w K mg base N__law_sign "_law_sign" s__law_sign f cdv A fr s H E).env (Cxf P w K mg base N__law_sign "_law_sign" s__law_sign f cdv A fr s H E).xe) :
    DSs (Cxf P w K mg base N__law_sign "_law_sign" s__law_sign f cdv A fr s H E) B (defBody s__law_sign) (rd__law_sign a K  W) :=
  (dss_cons (ds_set 1 sc__law_sign.nd de_str) (dss_cons (ds_if (dt_cmp op_eq od_eqS (dcal c__law_take (hr.mono h__law_take) gd tk (da_cons (dv 0) (da_cons de_int da_nil))) de_int (nomark _)) (dss_one (ds_ret (de_ix de_str (dcal c__law_take (hr.mono h__law_take) gd tk (da_cons (dv 0) (da_cons de_int da_nil)))))) dss_nil) (dss_one (ds_ret (de_ix (dv 1) (dcal c__law_take (hr.mono h__law_take) gd tk (da_cons (dv 0) (da_cons (de_callB call_len cd_len rfl G.b_len (by decide +kernel) (da_cons (dv 1) da_nil)) da_nil))))))))
def rd__law_bent (a : Ad) (K : PySem.W.Frag)  (W : DWx) : DTs := (dSeq (dSet 2 (dCall (sp__law_take a) W [] [(dVar 0), (dC (.int 8))])) (dSeq (dSet 3 (dCall (sp__law_take a) W [] [(dVar 0), (dOp oAdd (dCB oLen [(dVar 1)]) (dC (.int 1)))])) (dSeq (dSet 4 (dCall (sp__law_sign a) W [] [(dVar 0)])) (dSeq (dSet 5 (dLstM [(dVar 1), (dOp oAddS (dOp oAddS (dSl (dVar 1) dNoP (dPart (dVar 3))) (dVar 4)) (dSl (dVar 1) (dPart (dVar 3)) dNoP)), (dOp oAddS (dSl (dVar 1) dNoP (dPart (dVar 3))) (dSl (dVar 1) (dPart (dOp oAdd (dVar 3) (dC (.int 1)))) dNoP)), (dOp oAddS (dOp oAddS (dSl (dVar 1) dNoP (dPart (dVar 3))) (dVar 4)) (dSl (dVar 1) (dPart (dOp oAdd (dVar 3) (dC (.int 1)))) dNoP)), (dSl (dVar 1) dNoP (dPart (dVar 3)))])) (dSeq (dSet 5 (dOp oCatMM (dVar 5) (dLstM [(dSl (dVar 1) (dPart (dVar 3)) dNoP), (dOp oAddS (dOp oAddS (dVar 1) (dOp oIx (dLst [(dC (.str " ")), (dC (.str ""))]) (dOp oMod (dVar 3) (dC (.int 2))))) (dVar 1)), (dOp oAddS (dOp oAddS (dSl (dVar 1) dNoP (dPart (dVar 3))) (dSl (dVar 1) (dPart (dVar 3)) (dPart (dOp oAdd (dVar 3) (dC (.int 1)))))) (dSl (dVar 1) (dPart (dVar 3)) dNoP))]))) (dRet (dOp oIx (dVar 5) (dVar 2))))))))
theorem tm__law_bent {P : Program} {w : World} {K : PySem.W.Frag} {mg : Str → Option Value} {base : Heap} {a : Ad}  (G : Gs K mg a) {k : Nat} {k__law_take : Nat} (c__law_take : Cal P w K mg base "_law_take" k__law_take (sp__law_take a)) (h__law_take : k__law_take ≤ k) {k__law_sign : Nat} (c__law_sign : Cal P w K mg base "_law_sign" k__law_sign (sp__law_sign a)) (h__law_sign : k__law_sign ≤ k)
    {f : Addr} {cdv : Value} {A : Around} {fr : List Env} {s : Shared} {H : Hp} {E : XK} {B : DB} {W : DWx} (hr : Room k (Cxf P w K mg base N__law_bent "_law_bent" s__law_bent f cdv A fr s H E).A) (gd : (Cxf P w K mg base N__law_bent "_law_bent" s__law_bent f cdv A fr s H E).A.guards = some []) (tk : Takes (Cxf P w K mg base N__law_bent "_law_bent" s__law_bent f cdv A fr s H E) (LW K B W)) (po : PassesOwn (model P w) (Cxf P w K mg base N__law_bent "_law_bent" s__law_bent f cdv A fr s H E).A (Cxf P w K mg base N__law_bent "_law_bent" s__law_bent f cdv A fr s H E).env (Cxf P w K mg base N__law_bent "_law_bent" s__law_bent f cdv A fr s H E).xe) :
    DSs (Cxf P w K mg base N__law_bent "_law_bent" s__law_bent f cdv A fr s H E) B (defBody s__law_bent) (rd__law_bent a K  W) :=
  (dss_cons (ds_set 2 sc__law_bent.nd (dcal c__law_take (hr.mono h__law_take) gd tk (da_cons (dv 0) (da_cons de_int da_nil)))) (dss_cons (ds_set 3 sc__law_bent.nd (dcal c__law_take (hr.mono h__law_take) gd tk (da_cons (dv 0) (da_cons (de_op op_add od_I0 (de_callB call_len cd_len rfl G.b_len (by decide +kernel) (da_cons (dv 1) da_nil)) de_int) da_nil)))) (dss_cons (ds_set 4 sc__law_bent.nd (dcal c__law_sign (hr.mono h__law_sign) gd tk (da_cons (dv 0) da_nil))) (dss_cons (ds_set 5 sc__law_bent.nd (de_lstM (da_cons (dv 1) (da_cons (de_op op_add_str od_addS (de_op op_add_str od_addS (de_slice (dv 1) do_none (do_some (dv 3))) (dv 4)) (de_slice (dv 1) (do_some (dv 3)) do_none)) (da_cons (de_op op_add_str od_addS (de_slice (dv 1) do_none (do_some (dv 3))) (de_slice (dv 1) (do_some (de_op op_add od_I0 (dv 3) de_int)) do_none)) (da_cons (de_op op_add_str od_addS (de_op op_add_str od_addS (de_slice (dv 1) do_none (do_some (dv 3))) (dv 4)) (de_slice (dv 1) (do_some (de_op op_add od_I0 (dv 3) de_int)) do_none)) (da_cons (de_slice (dv 1) do_none (do_some (dv 3))) da_nil))))))) (dss_cons (ds_set 5 sc__law_bent.nd (de_op op_cat od_catMM (dv 5) (de_lstM (da_cons (de_slice (dv 1) (do_some (dv 3)) do_none) (da_cons (de_op op_add_str od_addS (de_op op_add_str od_addS (dv 1) (de_ix (de_lst (da_cons de_str (da_cons de_str da_nil))) (de_op op_mod od_I (dv 3) de_int))) (dv 1)) (da_cons (de_op op_add_str od_addS (de_op op_add_str od_addS (de_slice (dv 1) do_none (do_some (dv 3))) (de_slice (dv 1) (do_some (dv 3)) (do_some (de_op op_add od_I0 (dv 3) de_int)))) (de_slice (dv 1) (do_some (dv 3)) do_none)) da_nil)))))) (dss_one (ds_ret (de_ix (dv 5) (dv 2)))))))))
def rd__law_stop (a : Ad) (K : PySem.W.Frag)  (W : DWx) : DTs := (dSeq (dSet 1 (dC (.int 0))) (dSeq (dSet 2 (dC (.int 0))) (dSeq (dSet 3 (dC (.str "need"))) (dSeq (dFor (dEnumS [(dVar 0)]) (dgT 2 [(dgName 4), (dgName 5)]) (dSeq (dSet 6 (dOrV (dOp (oEqS false) (dVar 3) (dC (.str "need"))) (dOp (oEqS false) (dVar 3) (dC (.str "open"))))) (dSeq (dSet 7 (dAndV (dOp (oEqS true) (dVar 3) (dC (.str "need"))) (dOp oGt (dVar 1) (dC (.int 0))))) (dIf (dAnd (dB (dOp (oInS false) (dVar 5) (dC (.str "0123456789")))) (dB (dVar 6))) (dSeq (dSet 3 (dC (.str "number"))) (dSet 2 (dCB oIntS [(dVar 5)]))) (dIf (dAnd (dB (dOp (oInS false) (dVar 5) (dC (.str "0123456789")))) (dAnd (dB (dOp (oEqS false) (dVar 3) (dC (.str "number")))) (dAnd (dB (dOp oLt (dC (.int 0)) (dVar 2))) (dB (dOp oLe (dOp oAdd (dOp oMul (dVar 2) (dC (.int 10))) (dCB oIntS [(dVar 5)])) (dOp oPow (dC (.int 10)) (dC (.int 9)))))))) (dSet 2 (dOp oAdd (dOp oMul (dVar 2) (dC (.int 10))) (dCB oIntS [(dVar 5)]))) (dIf (dAnd (dB (dOp (oInS false) (dVar 5) (dC (.str "abcdefghijklmnopqrstuvwxyz")))) (dOr (dB (dVar 6)) (dAnd (dB (dOp (oEqS false) (dVar 3) (dC (.str "word")))) (dB (dOp oLt (dVar 2) (dC (.int 8))))))) (dSeq (dSet 2 (dOp oAdd (dOp oMul (dVar 2) (dCB oIntB [(dOp (oEqS false) (dVar 3) (dC (.str "word")))])) (dC (.int 1)))) (dSet 3 (dC (.str "word")))) (dIf (dAnd (dB (dOp (oEqS false) (dVar 5) (dC (.str "(")))) (dAnd (dB (dVar 6)) (dB (dOp oLt (dVar 1) (dC (.int 60)))))) (dSeq (dSet 1 (dOp oAdd (dVar 1) (dC (.int 1)))) (dSet 3 (dC (.str "open")))) (dIf (dAnd (dB (dOp (oEqS false) (dVar 5) (dC (.str ")")))) (dB (dVar 7))) (dSeq (dSet 1 (dOp oSub (dVar 1) (dC (.int 1)))) (dSet 3 (dC (.str "closed")))) (dIf (dAnd (dB (dOp (oEqS false) (dVar 5) (dC (.str " ")))) (dAnd (dB (dVar 7)) (dB (dOp (oEqS true) (dVar 3) (dC (.str "open")))))) (dSet 3 (dC (.str "need"))) (dRet (dVar 4))))))))))) (dSeq (dIf (dOr (dB (dOp oGt (dVar 1) (dC (.int 0)))) (dB (dOp (oEqS false) (dVar 3) (dC (.str "need"))))) (dRet (dCB oLen [(dVar 0)])) dNext) (dRet (dNeg (dC (.int 1)))))))))
theorem tm__law_stop {P : Program} {w : World} {K : PySem.W.Frag} {mg : Str → Option Value} {base : Heap} {a : Ad}  (G : Gs K mg a) {k : Nat} 
    {f : Addr} {cdv : Value} {A : Around} {fr : List Env} {s : Shared} {H : Hp} {E : XK} {B : DB} {W : DWx} (hr : Room k (Cxf P w K mg base N__law_stop "_law_stop" s__law_stop f cdv A fr s H E).A) (gd : (Cxf P w K mg base N__law_stop "_law_stop" s__law_stop f cdv A fr s H E).A.guards = some []) (tk : Takes (Cxf P w K mg base N__law_stop "_law_stop" s__law_stop f cdv A fr s H E) (LW K B W)) (po : PassesOwn (model P w) (Cxf P w K mg base N__law_stop "_law_stop" s__law_stop f cdv A fr s H E).A (Cxf P w K mg base N__law_stop "_law_stop" s__law_stop f cdv A fr s H E).env (Cxf P w K mg base N__law_stop "_law_stop" s__law_stop f cdv A fr s H E).xe) :
    DSs (Cxf P w K mg base N__law_stop "_law_stop" s__law_stop f cdv A fr s H E) B (defBody s__law_stop) (rd__law_stop a K  W) :=
  (dss_cons (ds_set 1 sc__law_stop.nd de_int) (dss_cons (ds_set 2 sc__law_stop.nd de_int) (dss_cons (ds_set 3 sc__law_stop.nd de_str) (dss_cons (ds_for po rfl (di_enumS rfl G.b_enumerate (da_cons (dv 0) da_nil)) (dg_tup rfl (dgs_cons (dg_name (i := 4) sc__law_stop.nd) (dgs_cons (dg_name (i := 5) sc__law_stop.nd) dgs_nil))) (dss_cons (ds_set 6 sc__law_stop.nd (de_or (de_cmp op_eq od_eqS (dv 3) de_str (nomark _)) (de_one (de_cmp op_eq od_eqS (dv 3) de_str (nomark _))))) (dss_cons (ds_set 7 sc__law_stop.nd (de_and (de_cmp op_ne od_neS (dv 3) de_str (nomark _)) (de_one (de_cmp op_gt od_B0 (dv 1) de_int (nomark _))))) (dss_one (ds_if (dt_w (dw_and (dt_cmp op_in_str od_inS (dv 5) de_str (by rfl)) (dw_and1 (dt_val (dv 6))))) (dss_cons (ds_set 3 sc__law_stop.nd de_str) (dss_one (ds_set 2 sc__law_stop.nd (de_callTy call_int_str cd_intS rfl G.b_int (by decide +kernel) (da_cons (dv 5) da_nil))))) (dss_one (ds_if (dt_w (dw_and (dt_cmp op_in_str od_inS (dv 5) de_str (by rfl)) (dw_and (dt_cmp op_eq od_eqS (dv 3) de_str (nomark _)) (dw_and (dt_cmp op_lt od_B0 de_int (dv 2) (nomark _)) (dw_and1 (dt_cmp op_le od_B0 (de_op op_add od_I0 (de_op op_mul od_I (dv 2) de_int) (de_callTy call_int_str cd_intS rfl G.b_int (by decide +kernel) (da_cons (dv 5) da_nil))) (de_op op_pow od_I de_int de_int) (nomark _))))))) (dss_one (ds_set 2 sc__law_stop.nd (de_op op_add od_I0 (de_op op_mul od_I (dv 2) de_int) (de_callTy call_int_str cd_intS rfl G.b_int (by decide +kernel) (da_cons (dv 5) da_nil))))) (dss_one (ds_if (dt_w (dw_and (dt_cmp op_in_str od_inS (dv 5) de_str (by rfl)) (dw_and1 (dt_w (dw_or (dt_val (dv 6)) (dw_or1 (dt_w (dw_and (dt_cmp op_eq od_eqS (dv 3) de_str (nomark _)) (dw_and1 (dt_cmp op_lt od_B0 (dv 2) de_int (nomark _))))))))))) (dss_cons (ds_set 2 sc__law_stop.nd (de_op op_add od_I0 (de_op op_mul od_I (dv 2) (de_callTy call_int1 cd_intB rfl G.b_int (by decide +kernel) (da_cons (de_cmp op_eq od_eqS (dv 3) de_str (nomark _)) da_nil))) de_int)) (dss_one (ds_set 3 sc__law_stop.nd de_str))) (dss_one (ds_if (dt_w (dw_and (dt_cmp op_eq od_eqS (dv 5) de_str (nomark _)) (dw_and (dt_val (dv 6)) (dw_and1 (dt_cmp op_lt od_B0 (dv 1) de_int (nomark _)))))) (dss_cons (ds_set 1 sc__law_stop.nd (de_op op_add od_I0 (dv 1) de_int)) (dss_one (ds_set 3 sc__law_stop.nd de_str))) (dss_one (ds_if (dt_w (dw_and (dt_cmp op_eq od_eqS (dv 5) de_str (nomark _)) (dw_and1 (dt_val (dv 7))))) (dss_cons (ds_set 1 sc__law_stop.nd (de_op op_sub od_I0 (dv 1) de_int)) (dss_one (ds_set 3 sc__law_stop.nd de_str))) (dss_one (ds_if (dt_w (dw_and (dt_cmp op_eq od_eqS (dv 5) de_str (nomark _)) (dw_and (dt_val (dv 7)) (dw_and1 (dt_cmp op_ne od_neS (dv 3) de_str (nomark _)))))) (dss_one (ds_set 3 sc__law_stop.nd de_str)) (dss_one (ds_ret (dv 4)))))))))))))))))) (dss_cons (ds_if (dt_w (dw_or (dt_cmp op_gt od_B0 (dv 1) de_int (nomark _)) (dw_or1 (dt_cmp op_eq od_eqS (dv 3) de_str (nomark _))))) (dss_one (ds_ret (de_callB call_len cd_len rfl G.b_len (by decide +kernel) (da_cons (dv 0) da_nil)))) dss_nil) (dss_one (ds_ret (de_neg de_int))))))))
def rd__law_is_thing (a : Ad) (K : PySem.W.Frag) (r__law_is_thing : DSp) (W : DWx) : DTs := (dSeq (dIf (dB (dCB oIsi [(dVar 0), (dC (.ty "tuple"))])) (dSeq (dFor (dItTup (dVar 0)) (dgName 2) (dIf (dOr (dB (dOp (oEqS false) (dVar 1) (dC (.int 0)))) (dNot (dB (dCall (r__law_is_thing) W [] [(dVar 2), (dOp oSub (dVar 1) (dC (.int 1)))])))) (dRet (dC (.bl false))) dNext)) (dRet (dOp oGt (dVar 1) (dC (.int 0))))) dNext) (dSeq (dIf (dB (dCB oIsi [(dVar 0), (dC (.ty "str"))])) (dRet (dAndV (dChain oLe oLe (dC (.int 1)) (dCB oLen [(dVar 0)]) (dC (.int 8))) (dOp (oEqS false) (dBM chkStr oStrip (dVar 0) [(dC (.str "abcdefghijklmnopqrstuvwxyz"))]) (dC (.str ""))))) dNext) (dRet (dAndV (dCB oIsi [(dVar 0), (dC (.ty "int"))]) (dAndV (dNotV (dCB oIsi [(dVar 0), (dC (.ty "bool"))])) (dChain oLe oLe (dC (.int 0)) (dVar 0) (dOp oPow (dC (.int 10)) (dC (.int 9)))))))))
theorem tm__law_is_thing {P : Program} {w : World} {K : PySem.W.Frag} {mg : Str → Option Value} {base : Heap} {a : Ad} {r__law_is_thing : DSp} (G : Gs K mg a) {k : Nat} {k__law_is_thing : Nat} (c__law_is_thing : Cal P w K mg base "_law_is_thing" k__law_is_thing (r__law_is_thing)) (h__law_is_thing : k__law_is_thing ≤ k)
    {f : Addr} {cdv : Value} {A : Around} {fr : List Env} {s : Shared} {H : Hp} {E : XK} {B : DB} {W : DWx} (hr : Room k (Cxf P w K mg base N__law_is_thing "_law_is_thing" s__law_is_thing f cdv A fr s H E).A) (gd : (Cxf P w K mg base N__law_is_thing "_law_is_thing" s__law_is_thing f cdv A fr s H E).A.guards = some []) (tk : Takes (Cxf P w K mg base N__law_is_thing "_law_is_thing" s__law_is_thing f cdv A fr s H E) (LW K B W)) (po : PassesOwn (model P w) (Cxf P w K mg base N__law_is_thing "_law_is_thing" s__law_is_thing f cdv A fr s H E).A (Cxf P w K mg base N__law_is_thing "_law_is_thing" s__law_is_thing f cdv A fr s H E).env (Cxf P w K mg base N__law_is_thing "_law_is_thing" s__law_is_thing f cdv A fr s H E).xe) :
    DSs (Cxf P w K mg base N__law_is_thing "_law_is_thing" s__law_is_thing f cdv A fr s H E) B (defBody s__law_is_thing) (rd__law_is_thing a K r__law_is_thing W) :=
  (dss_cons (ds_if (dt_val (de_callB call_isi cd_isi rfl G.b_isinstance (by decide +kernel) (da_cons (dv 0) (da_cons (de_tyv G.b_tuple) da_nil)))) (dss_cons (ds_for po rfl (di_tup (dv 0)) (dg_name (i := 2) sc__law_is_thing.nd) (dss_one (ds_if (dt_w (dw_or (dt_cmp op_eq od_eqS (dv 1) de_int (nomark _)) (dw_or1 (dt_not (dt_val (dcal c__law_is_thing (hr.mono h__law_is_thing) gd tk (da_cons (dv 2) (da_cons (de_op op_sub od_I0 (dv 1) de_int) da_nil)))))))) (dss_one (ds_ret de_bl)) dss_nil))) (dss_one (ds_ret (de_cmp op_gt od_B0 (dv 1) de_int (nomark _))))) dss_nil) (dss_cons (ds_if (dt_val (de_callB call_isi cd_isi rfl G.b_isinstance (by decide +kernel) (da_cons (dv 0) (da_cons (de_tyv G.b_str) da_nil)))) (dss_one (ds_ret (de_and (de_chain op_le od_B0 op_le od_B0 de_int (de_callB call_len cd_len rfl G.b_len (by decide +kernel) (da_cons (dv 0) da_nil)) de_int) (de_one (de_cmp op_eq od_eqS (de_bm PySem.F.plainAttrs_str PySem.F.slot_str_strip PySem.F.type_str_strip mt_stripChars md_strip (dv 0) (da_cons de_str da_nil)) de_str (nomark _)))))) dss_nil) (dss_one (ds_ret (de_and (de_callB call_isi cd_isi rfl G.b_isinstance (by decide +kernel) (da_cons (dv 0) (da_cons (de_tyv G.b_int) da_nil))) (de_and (de_not (de_callB call_isi cd_isi rfl G.b_isinstance (by decide +kernel) (da_cons (dv 0) (da_cons (de_tyv G.b_bool) da_nil)))) (de_one (de_chain op_le od_B0 op_le od_B0 de_int (dv 0) (de_op op_pow od_I de_int de_int)))))))))
def rd__law_read (a : Ad) (K : PySem.W.Frag)  (W : DWx) : DTs := (dTryAs K (.ref a.NoText) 1 (fun W' => (dRet (dTup [(dC (.str "yes")), (dCall (sp_read a) W' [] [(dVar 0)])]))) (fun xa xc xf => (dSeq (dSet 2 (dAndV (dCB (oIsF K xa xc) [(dVar 1), (dC (.ref a.LikewebsError))]) (dAndV (dCB (oIsF K xa xc) [(dVar 1), (dC (.ty "ValueError"))]) (dNotV (dCB (oIsF K xa xc) [(dVar 1), (dC (.ref a.NoThing))]))))) (dRet (dTup [(dC (.str "no")), (dXf xa xc xf a.NoText "at" (dVar 1)), (dAndV (dVar 2) (dNotV (dCB (oIsF K xa xc) [(dVar 1), (dC (.ref a.NoWeb))])))])))) W)
theorem tm__law_read {P : Program} {w : World} {K : PySem.W.Frag} {mg : Str → Option Value} {base : Heap} {a : Ad}  (G : Gs K mg a) {k : Nat} {k_read : Nat} (c_read : Cal P w K mg base "read" k_read (sp_read a)) (h_read : k_read ≤ k)
    {f : Addr} {cdv : Value} {A : Around} {fr : List Env} {s : Shared} {H : Hp} {E : XK} {B : DB} {W : DWx} (hr : Room k (Cxf P w K mg base N__law_read "_law_read" s__law_read f cdv A fr s H E).A) (gd : (Cxf P w K mg base N__law_read "_law_read" s__law_read f cdv A fr s H E).A.guards = some []) (tk : Takes (Cxf P w K mg base N__law_read "_law_read" s__law_read f cdv A fr s H E) (LW K B W)) (po : PassesOwn (model P w) (Cxf P w K mg base N__law_read "_law_read" s__law_read f cdv A fr s H E).A (Cxf P w K mg base N__law_read "_law_read" s__law_read f cdv A fr s H E).env (Cxf P w K mg base N__law_read "_law_read" s__law_read f cdv A fr s H E).xe) :
    DSs (Cxf P w K mg base N__law_read "_law_read" s__law_read f cdv A fr s H E) B (defBody s__law_read) (rd__law_read a K  W) :=
  (dss_one (ds_tryAs 1 (by rfl) (by rfl) sc__law_read.nd (by rfl) (by rfl) (names_of G.k_NoText) tk (fun B' W' pn xe tk' po' => (dss_one (ds_ret (de_tup (da_cons de_str (da_cons (dcal c_read (hr.mono h_read) gd tk' (da_cons (dv 0) da_nil)) da_nil)))))) (fun B' xf xa oe xc xd pn xz xv xr => (dss_cons (ds_set 2 sc__law_read.nd (de_and (de_isF xz xv xr G.b_isinstance (da_cons (dv 1) (da_cons (de_clsv G.k_LikewebsError) da_nil))) (de_and (de_isF xz xv xr G.b_isinstance (da_cons (dv 1) (da_cons (de_tyv G.b_ValueError) da_nil))) (de_one (de_not (de_isF xz xv xr G.b_isinstance (da_cons (dv 1) (da_cons (de_clsv G.k_NoThing) da_nil)))))))) (dss_one (ds_ret (de_tup (da_cons de_str (da_cons (de_xf G.xf_NoText G.xn_NoText_at xz xv xr (dv 1)) (da_cons (de_and (dv 2) (de_one (de_not (de_isF xz xv xr G.b_isinstance (da_cons (dv 1) (da_cons (de_clsv G.k_NoWeb) da_nil)))))) da_nil))))))))))
def rd__law_right (a : Ad) (K : PySem.W.Frag)  (W : DWx) : DTs := (dSeq (dIf (dNot (dB (dCB oIsi [(dVar 0), (dC (.ty "str"))]))) (dRet (dAndV (dOp (oEqS false) (dOp oIx (dVar 1) (dC (.int 0))) (dC (.str "no"))) (dAndV (dOp (oIsN false) (dOp oIx (dVar 1) (dC (.int 1))) (dC .non)) (dOp oIx (dVar 1) (dC (.int 2)))))) dNext) (dSeq (dSet 2 (dCall (sp__law_stop a) W [] [(dVar 0)])) (dSeq (dIf (dB (dOp (oEqS false) (dVar 2) (dNeg (dC (.int 1))))) (dRet (dAndV (dOp (oEqS false) (dOp oIx (dVar 1) (dC (.int 0))) (dC (.str "yes"))) (dAndV (dCall (sp__law_is_thing a) W [] [(dOp oIx (dVar 1) (dC (.int 1))), (dC (.int 60))]) (dOp (oEqS false) (dCall (sp__law_text a) W [] [(dOp oIx (dVar 1) (dC (.int 1)))]) (dVar 0))))) dNext) (dSeq (dIf (dOr (dB (dOp (oEqS true) (dOp oIx (dVar 1) (dC (.int 0))) (dC (.str "no")))) (dOr (dNot (dB (dOp oIx (dVar 1) (dC (.int 2))))) (dOr (dNot (dB (dCB oIsi [(dOp oIx (dVar 1) (dC (.int 1))), (dC (.ty "int"))]))) (dB (dCB oIsi [(dOp oIx (dVar 1) (dC (.int 1))), (dC (.ty "bool"))]))))) (dRet (dC (.bl false))) dNext) (dRet (dOp (oEqS false) (dOp oIx (dVar 1) (dC (.int 1))) (dVar 2)))))))
theorem tm__law_right {P : Program} {w : World} {K : PySem.W.Frag} {mg : Str → Option Value} {base : Heap} {a : Ad}  (G : Gs K mg a) {k : Nat} {k__law_stop : Nat} (c__law_stop : Cal P w K mg base "_law_stop" k__law_stop (sp__law_stop a)) (h__law_stop : k__law_stop ≤ k) {k__law_is_thing : Nat} (c__law_is_thing : Cal P w K mg base "_law_is_thing" k__law_is_thing (sp__law_is_thing a)) (h__law_is_thing : k__law_is_thing ≤ k) {k__law_text : Nat} (c__law_text : Cal P w K mg base "_law_text" k__law_text (sp__law_text a)) (h__law_text : k__law_text ≤ k)
    {f : Addr} {cdv : Value} {A : Around} {fr : List Env} {s : Shared} {H : Hp} {E : XK} {B : DB} {W : DWx} (hr : Room k (Cxf P w K mg base N__law_right "_law_right" s__law_right f cdv A fr s H E).A) (gd : (Cxf P w K mg base N__law_right "_law_right" s__law_right f cdv A fr s H E).A.guards = some []) (tk : Takes (Cxf P w K mg base N__law_right "_law_right" s__law_right f cdv A fr s H E) (LW K B W)) (po : PassesOwn (model P w) (Cxf P w K mg base N__law_right "_law_right" s__law_right f cdv A fr s H E).A (Cxf P w K mg base N__law_right "_law_right" s__law_right f cdv A fr s H E).env (Cxf P w K mg base N__law_right "_law_right" s__law_right f cdv A fr s H E).xe) :
    DSs (Cxf P w K mg base N__law_right "_law_right" s__law_right f cdv A fr s H E) B (defBody s__law_right) (rd__law_right a K  W) :=
  (dss_cons (ds_if (dt_not (dt_val (de_callB call_isi cd_isi rfl G.b_isinstance (by decide +kernel) (da_cons (dv 0) (da_cons (de_tyv G.b_str) da_nil))))) (dss_one (ds_ret (de_and (de_cmp op_eq od_eqS (de_ix (dv 1) de_int) de_str (nomark _)) (de_and (de_cmp op_isN od_isN (de_ix (dv 1) de_int) de_non (nomark _)) (de_one (de_ix (dv 1) de_int)))))) dss_nil) (dss_cons (ds_set 2 sc__law_right.nd (dcal c__law_stop (hr.mono h__law_stop) gd tk (da_cons (dv 0) da_nil))) (dss_cons (ds_if (dt_cmp op_eq od_eqS (dv 2) (de_neg de_int) (nomark _)) (dss_one (ds_ret (de_and (de_cmp op_eq od_eqS (de_ix (dv 1) de_int) de_str (nomark _)) (de_and (dcal c__law_is_thing (hr.mono h__law_is_thing) gd tk (da_cons (de_ix (dv 1) de_int) (da_cons de_int da_nil))) (de_one (de_cmp op_eq od_eqS (dcal c__law_text (hr.mono h__law_text) gd tk (da_cons (de_ix (dv 1) de_int) da_nil)) (dv 0) (nomark _))))))) dss_nil) (dss_cons (ds_if (dt_w (dw_or (dt_cmp op_ne od_neS (de_ix (dv 1) de_int) de_str (nomark _)) (dw_or (dt_not (dt_val (de_ix (dv 1) de_int))) (dw_or (dt_not (dt_val (de_callB call_isi cd_isi rfl G.b_isinstance (by decide +kernel) (da_cons (de_ix (dv 1) de_int) (da_cons (de_tyv G.b_int) da_nil))))) (dw_or1 (dt_val (de_callB call_isi cd_isi rfl G.b_isinstance (by decide +kernel) (da_cons (de_ix (dv 1) de_int) (da_cons (de_tyv G.b_bool) da_nil))))))))) (dss_one (ds_ret de_bl)) dss_nil) (dss_one (ds_ret (de_cmp op_eq od_eqS (de_ix (dv 1) de_int) (dv 2) (nomark _))))))))
def rd_law (a : Ad) (K : PySem.W.Frag)  (W : DWx) : DTs := (dSeq (dSet 1 (dLstM [(dVar 0), (dC (.int 0)), (dC (.int 0)), (dC (.int 91))])) (dSeq (dFor (dRng1 [(dC (.int 8))]) (dgName 2) (dSeq (dSet 3 (dCall (sp__law_take a) W [] [(dVar 1), (dC (.int 14))])) (dSeq (dSet 4 (dOp (oEqS false) (dCall (sp__law_take a) W [] [(dVar 1), (dC (.int 3))]) (dC (.int 0)))) (dSeq (dSet 5 (dCall (sp__law_written a) W [] [(dCall (sp__law_take a) W [] [(dVar 1), (dC (.int 38))])])) (dSeq (dIf (dB (dOp oGt (dVar 3) (dC (.int 3)))) (dSet 5 (dCall (sp__law_text a) W [] [(dCall (sp__law_tree a) W [] [(dVar 1), (dC (.int 4))])])) dNext) (dSeq (dIf (dB (dOp oGt (dVar 3) (dC (.int 1)))) (dSet 5 (dCall (sp__law_bent a) W [] [(dVar 1), (dVar 5)])) dNext) (dSeq (dIf (dAnd (dB (dOp oGt (dVar 3) (dC (.int 1)))) (dB (dVar 4))) (dSet 5 (dCall (sp__law_bent a) W [] [(dVar 1), (dVar 5)])) dNext) (dSeq (dIf (dB (dOp (oEqS false) (dVar 3) (dC (.int 0)))) (dSet 5 (dOp oIx (dLst [(dC .non), (dC (.int 5)), (dC (.bl true)), (dTup [(dC (.str "a"))]), (dLst [(dC (.str "(")), (dC (.str ")"))]), dDic0, (dTup [])]) (dCall (sp__law_take a) W [] [(dVar 1), (dC (.int 7))]))) dNext) (dIf (dNot (dB (dCall (sp__law_right a) W [] [(dVar 5), (dCall (sp__law_read a) W [] [(dVar 5)])]))) (dRet (dC (.bl false))) dNext))))))))) (dRet (dC (.bl true)))))
theorem tm_law {P : Program} {w : World} {K : PySem.W.Frag} {mg : Str → Option Value} {base : Heap} {a : Ad}  (G : Gs K mg a) {k : Nat} {k__law_take : Nat} (c__law_take : Cal P w K mg base "_law_take" k__law_take (sp__law_take a)) (h__law_take : k__law_take ≤ k) {k__law_written : Nat} (c__law_written : Cal P w K mg base "_law_written" k__law_written (sp__law_written a)) (h__law_written : k__law_written ≤ k) {k__law_tree : Nat} (c__law_tree : Cal P w K mg base "_law_tree" k__law_tree (sp__law_tree a)) (h__law_tree : k__law_tree ≤ k) {k__law_text : Nat} (c__law_text : Cal P w K mg base "_law_text" k__law_text (sp__law_text a)) (h__law_text : k__law_text ≤ k) {k__law_bent : Nat} (c__law_bent : Cal P w K mg base "_law_bent" k__law_bent (sp__law_bent a)) (h__law_bent : k__law_bent ≤ k) {k__law_read : Nat} (c__law_read : Cal P w K mg base "_law_read" k__law_read (sp__law_read a)) (h__law_read : k__law_read ≤ k) {k__law_right : Nat} (c__law_right : Cal P w K mg base "_law_right" k__law_right (sp__law_right a)) (h__law_right : k__law_right ≤ k)
    {f : Addr} {cdv : Value} {A : Around} {fr : List Env} {s : Shared} {H : Hp} {E : XK} {B : DB} {W : DWx} (hr : Room k (Cxf P w K mg base N_law "law" s_law f cdv A fr s H E).A) (gd : (Cxf P w K mg base N_law "law" s_law f cdv A fr s H E).A.guards = some []) (tk : Takes (Cxf P w K mg base N_law "law" s_law f cdv A fr s H E) (LW K B W)) (po : PassesOwn (model P w) (Cxf P w K mg base N_law "law" s_law f cdv A fr s H E).A (Cxf P w K mg base N_law "law" s_law f cdv A fr s H E).env (Cxf P w K mg base N_law "law" s_law f cdv A fr s H E).xe) :
    DSs (Cxf P w K mg base N_law "law" s_law f cdv A fr s H E) B (defBody s_law) (rd_law a K  W) :=
  (dss_cons (ds_set 1 sc_law.nd (de_lstM (da_cons (dv 0) (da_cons de_int (da_cons de_int (da_cons de_int da_nil)))))) (dss_cons (ds_for po rfl (di_range1 rfl G.b_range (da_cons de_int da_nil)) (dg_name (i := 2) sc_law.nd) (dss_cons (ds_set 3 sc_law.nd (dcal c__law_take (hr.mono h__law_take) gd tk (da_cons (dv 1) (da_cons de_int da_nil)))) (dss_cons (ds_set 4 sc_law.nd (de_cmp op_eq od_eqS (dcal c__law_take (hr.mono h__law_take) gd tk (da_cons (dv 1) (da_cons de_int da_nil))) de_int (nomark _))) (dss_cons (ds_set 5 sc_law.nd (dcal c__law_written (hr.mono h__law_written) gd tk (da_cons (dcal c__law_take (hr.mono h__law_take) gd tk (da_cons (dv 1) (da_cons de_int da_nil))) da_nil))) (dss_cons (ds_if (dt_cmp op_gt od_B0 (dv 3) de_int (nomark _)) (dss_one (ds_set 5 sc_law.nd (dcal c__law_text (hr.mono h__law_text) gd tk (da_cons (dcal c__law_tree (hr.mono h__law_tree) gd tk (da_cons (dv 1) (da_cons de_int da_nil))) da_nil)))) dss_nil) (dss_cons (ds_if (dt_cmp op_gt od_B0 (dv 3) de_int (nomark _)) (dss_one (ds_set 5 sc_law.nd (dcal c__law_bent (hr.mono h__law_bent) gd tk (da_cons (dv 1) (da_cons (dv 5) da_nil))))) dss_nil) (dss_cons (ds_if (dt_w (dw_and (dt_cmp op_gt od_B0 (dv 3) de_int (nomark _)) (dw_and1 (dt_val (dv 4))))) (dss_one (ds_set 5 sc_law.nd (dcal c__law_bent (hr.mono h__law_bent) gd tk (da_cons (dv 1) (da_cons (dv 5) da_nil))))) dss_nil) (dss_cons (ds_if (dt_cmp op_eq od_eqS (dv 3) de_int (nomark _)) (dss_one (ds_set 5 sc_law.nd (de_ix (de_lst (da_cons de_non (da_cons de_int (da_cons de_bl (da_cons (de_tup (da_cons de_str da_nil)) (da_cons (de_lst (da_cons de_str (da_cons de_str da_nil))) (da_cons de_dic0 (da_cons (de_tup da_nil) da_nil)))))))) (dcal c__law_take (hr.mono h__law_take) gd tk (da_cons (dv 1) (da_cons de_int da_nil)))))) dss_nil) (dss_one (ds_if (dt_not (dt_val (dcal c__law_right (hr.mono h__law_right) gd tk (da_cons (dv 5) (da_cons (dcal c__law_read (hr.mono h__law_read) gd tk (da_cons (dv 5) da_nil)) da_nil))))) (dss_one (ds_ret de_bl)) dss_nil)))))))))) (dss_one (ds_ret de_bl))))
def rd_Scan (a : Ad) (K : PySem.W.Frag)  (W : DWx) : DTs := (dSeq (dFldS a.Scan "text" (dVar 0) (dVar 1)) (dFldS a.Scan "place" (dVar 0) (dC (.int 0))))
theorem tm_Scan {P : Program} {w : World} {K : PySem.W.Frag} {mg : Str → Option Value} {base : Heap} {a : Ad}  (G : Gs K mg a) {k : Nat} 
    {f : Addr} {cdv : Value} {A : Around} {fr : List Env} {s : Shared} {H : Hp} {E : XK} {B : DB} {W : DWx} (hr : Room k (Cxf P w K mg base N_Scan "Scan.__init__" s_Scan f cdv A fr s H E).A) (gd : (Cxf P w K mg base N_Scan "Scan.__init__" s_Scan f cdv A fr s H E).A.guards = some []) (tk : Takes (Cxf P w K mg base N_Scan "Scan.__init__" s_Scan f cdv A fr s H E) (LW K B W)) (po : PassesOwn (model P w) (Cxf P w K mg base N_Scan "Scan.__init__" s_Scan f cdv A fr s H E).A (Cxf P w K mg base N_Scan "Scan.__init__" s_Scan f cdv A fr s H E).env (Cxf P w K mg base N_Scan "Scan.__init__" s_Scan f cdv A fr s H E).xe) :
    DSs (Cxf P w K mg base N_Scan "Scan.__init__" s_Scan f cdv A fr s H E) B (defBody s_Scan) (rd_Scan a K  W) :=
  (dss_cons (ds_fld G.cl_Scan G.na_Scan_text (dv 0) (dv 1)) (dss_one (ds_fld G.cl_Scan G.na_Scan_place (dv 0) de_int)))
end Lw

namespace Lw
open PySem PySem.Spec PyProof.Rows L2 DL TL

theorem thingW_mono : ∀ {n m : Nat} {d : D}, n ≤ m → thingW n d = true → thingW m d = true
  | 0, 0, d, _, h => h
  | 0, m + 1, d, _, h => by
    cases d <;> first | exact h | (simp [thingW, leafB, wordD, colourB] at h)
  | n + 1, 0, d, h, _ => by omega
  | n + 1, m + 1, d, hl, h => by
    cases d with
    | tup l =>
      simp only [thingW, List.all_eq_true] at h ⊢
      exact fun x hx => thingW_mono (by omega) (h x hx)
    | _ => exact h
theorem thing_leaf {n : Nat} {d : D} (h : thingW n d = true) : (∃ l, d = .tup l) ∨ leafB d = true := by
  cases n with
  | zero => exact .inr h
  | succ n =>
    cases d with
    | tup l => exact .inl ⟨l, rfl⟩
    | _ => exact .inr h
theorem leaf_cases {d : D} (h : leafB d = true) : (∃ x, d = .str x ∧ wordB x = true) ∨ ∃ i : Nat, d = .int (i : Nat) ∧ i ≤ 1000000000 := by
  cases d with
  | str x => exact .inl ⟨x, rfl, by simpa [leafB, wordD, colourB] using h⟩
  | int i =>
    refine .inr ⟨i.toNat, ?_⟩
    have h' : 0 ≤ i ∧ i ≤ 1000000000 := by simpa [leafB, wordD, colourB] using h
    obtain ⟨h1, h2⟩ := h'
    exact ⟨by rw [Int.toNat_of_nonneg h1], by omega⟩
  | _ => simp [leafB, wordD, colourB] at h
theorem thing_dat : ∀ {n : Nat} {d : D}, thingW n d = true → dat d = true
  | 0, d, h => by
    rcases leaf_cases h with ⟨x, rfl, _⟩ | ⟨i, rfl, _⟩ <;> rfl
  | n + 1, d, h => by
    cases d with
    | tup l =>
      simp only [thingW, List.all_eq_true] at h
      simp only [dat]
      exact dats_of fun x hx => thing_dat (h x hx)
    | _ => rcases leaf_cases h with ⟨x, e, _⟩ | ⟨i, e, _⟩ <;> rw [e] <;> rfl
theorem dps_le {m : Nat} : ∀ {l : List D}, (∀ x ∈ l, dp x ≤ m) → dps l ≤ m
  | [], _ => Nat.zero_le _
  | d :: l, h => by
    simp only [dps]
    have h1 := h d List.mem_cons_self
    have h2 := dps_le fun x hx => h x (List.mem_cons_of_mem _ hx)
    omega
theorem dpts_le {m : Nat} : ∀ {l : List D}, (∀ x ∈ l, dpt x ≤ m) → dpts l ≤ m
  | [], _ => Nat.zero_le _
  | d :: l, h => by
    simp only [dpts]
    have h1 := h d List.mem_cons_self
    have h2 := dpts_le fun x hx => h x (List.mem_cons_of_mem _ hx)
    omega
theorem dpt_mem {x : D} : ∀ {l : List D}, x ∈ l → dpt x ≤ dpts l
  | [], h => by simp at h
  | d :: l, h => by
    simp only [dpts]
    rcases List.mem_cons.mp h with rfl | h
    · omega
    · have := dpt_mem h; omega
theorem wt_mem {x : D} : ∀ {l : List D}, x ∈ l → wt x + 3 ≤ wts l
  | [], h => by simp at h
  | d :: l, h => by
    simp only [wts]
    rcases List.mem_cons.mp h with rfl | h
    · omega
    · have := wt_mem h; omega
theorem wts_len : ∀ (l : List D), l.length ≤ wts l
  | [] => Nat.le_refl _
  | d :: l => by have := wts_len l; simp only [wts, List.length_cons]; omega
theorem thing_dp : ∀ {n : Nat} {d : D}, thingW n d = true → dp d ≤ n
  | 0, d, h => by
    rcases leaf_cases h with ⟨x, rfl, _⟩ | ⟨i, rfl, _⟩ <;> exact Nat.le_refl _
  | n + 1, d, h => by
    cases d with
    | tup l =>
      simp only [thingW, List.all_eq_true] at h
      simp only [dp]
      have := dps_le fun x hx => thing_dp (h x hx)
      omega
    | _ => rcases leaf_cases h with ⟨x, e, _⟩ | ⟨i, e, _⟩ <;> rw [e] <;> exact Nat.zero_le _
theorem thing_dpt : ∀ {n : Nat} {d : D}, thingW n d = true → dpt d ≤ n
  | 0, d, h => by
    rcases leaf_cases h with ⟨x, rfl, _⟩ | ⟨i, rfl, _⟩ <;> exact Nat.le_refl _
  | n + 1, d, h => by
    cases d with
    | tup l =>
      simp only [thingW, List.all_eq_true] at h
      simp only [dpt]
      have := dpts_le fun x hx => thing_dpt (h x hx)
      omega
    | _ => rcases leaf_cases h with ⟨x, e, _⟩ | ⟨i, e, _⟩ <;> rw [e] <;> exact Nat.zero_le _
theorem thing_atDpt : ∀ {n : Nat} {d : D}, thingW n d = true → thingW (dpt d) d = true
  | 0, d, h => by
    rcases leaf_cases h with ⟨x, rfl, _⟩ | ⟨i, rfl, _⟩ <;> exact h
  | n + 1, d, h => by
    cases d with
    | tup l =>
      simp only [thingW, List.all_eq_true] at h
      simp only [dpt]
      rw [Nat.add_comm]
      simp only [thingW, List.all_eq_true]
      exact fun x hx => thingW_mono (dpt_mem hx) (thing_atDpt (h x hx))
    | _ => rcases leaf_cases h with ⟨x, e, _⟩ | ⟨i, e, _⟩ <;> rw [e] at h ⊢ <;> exact h
theorem word_ch {x : Str} (h : wordB x = true) : chOk x = true := by
  unfold wordB at h
  simp only [Bool.and_eq_true, List.all_eq_true] at h
  unfold chOk
  rw [List.all_eq_true]
  intro c hc
  have := h.2 c hc
  simp only [isLet, decide_eq_true_eq] at this ⊢
  omega
theorem goods_of {b : Bool} : ∀ {l : List D}, (∀ x ∈ l, good b x = true) → goods b l = true
  | [], _ => rfl
  | d :: l, h => by
    simp only [goods, Bool.and_eq_true]
    exact ⟨h d List.mem_cons_self, goods_of fun x hx => h x (List.mem_cons_of_mem _ hx)⟩
theorem goods_mem {b : Bool} {x : D} : ∀ {l : List D}, goods b l = true → x ∈ l → good b x = true
  | [], _, h => by simp at h
  | d :: l, g, h => by
    simp only [goods, Bool.and_eq_true] at g
    rcases List.mem_cons.mp h with rfl | h
    · exact g.1
    · exact goods_mem g.2 h
theorem thing_good (b : Bool) : ∀ {n : Nat} {d : D}, thingW n d = true → good b d = true
  | 0, d, h => by
    rcases leaf_cases h with ⟨x, rfl, hx⟩ | ⟨i, rfl, hi⟩
    · exact word_ch hx
    · simp only [good, decide_eq_true_eq, Int.natAbs_natCast]; omega
  | n + 1, d, h => by
    have lf : leafB d = true → good b d = true := fun hl => thing_good b (n := 0) hl
    cases d with
    | tup l =>
      simp only [thingW, List.all_eq_true] at h
      simp only [good]
      exact goods_of fun x hx => thing_good b (h x hx)
    | _ => exact lf h
structure Shw (b : Bool) (d : D) (p : PyData) : Prop where
  q : toQ d = some p
  s : p.showable = true
  l : p.leavesShort 32 = true
  nd : b = true → p.hasDict = false
  nl : b = false → noLst d = true
  w : p.weight ≤ wt d
  p : p.depth ≤ dp d
structure Shws (b : Bool) (d : List D) (p : List PyData) : Prop where
  q : toQs d = some p
  s : PyData.showableAll p = true
  l : PyData.leavesShortAll 32 p = true
  nd : b = true → PyData.hasDictAll p = false
  nl : b = false → noLsts d = true
  w : PyData.weightAll p ≤ wts d
  p : PyData.depthAll p ≤ dps d
theorem ch_leaf {x : Str} (h : chOk x = true) : (x.cps.toList.all fun c => decide (c < 16 ^ 8)) = true := by
  unfold chOk at h
  rw [List.all_eq_true] at h ⊢
  intro c hc
  have := h c hc
  simp only [decide_eq_true_eq] at this ⊢
  omega
theorem int_leaf {i : Int} (h : i.natAbs ≤ 10 ^ 30) : (PyData.shown (.int i)).length ≤ 32 := by
  have e := PySem.int_text_length_le10 (k := 31) (a := i) (by decide) (by omega)
  show (Str.ofString (toString i)).length ≤ 32
  rw [PySem.ofString_length]; exact e
theorem int_log {i : Int} (h : i.natAbs ≤ 10 ^ 30) : i.natAbs.log2 < 100 := by
  by_cases z : i.natAbs = 0
  · rw [z]; decide
  · have : i.natAbs < 2 ^ 100 := Nat.lt_of_le_of_lt h (by decide)
    exact (Nat.log2_lt z).mpr this
theorem key_shw : ∀ {ks : List Key}, ks.all keyOk = true → PyData.showableAll (ks.map keyP) = true ∧ PyData.leavesShortAll 32 (ks.map keyP) = true ∧ PyData.weightAll (ks.map keyP) ≤ 9 * ks.length ∧ PyData.depthAll (ks.map keyP) = 0
  | [], _ => ⟨rfl, rfl, Nat.le_refl _, rfl⟩
  | k :: ks, h => by
    simp only [List.all_cons, Bool.and_eq_true] at h
    obtain ⟨h1, h2, h3, h4⟩ := key_shw h.2
    cases k with
    | inl i => simp [keyOk] at h
    | inr x =>
      have hk := h.1
      simp only [keyOk, Bool.and_eq_true, decide_eq_true_eq] at hk
      have hl : x.cps.size ≤ 8 := hk.2
      simp only [List.map_cons, keyP, PyData.showableAll, PyData.showable, PyData.leavesShortAll, PyData.leavesShort, PyData.weightAll, PyData.weight, PyData.depthAll, PyData.depth, Bool.and_eq_true, List.length_cons]
      exact ⟨⟨trivial, h1⟩, ⟨ch_leaf hk.1, h2⟩, by omega, by omega⟩
theorem kv_shw : ∀ {ks vs : List PyData}, ks.length = vs.length → PyData.showableAll ks = true → PyData.showableAll vs = true → PyData.showableKv (ks.zip vs) = true
  | [], [], _, _, _ => rfl
  | k :: ks, v :: vs, h, h1, h2 => by
    simp only [PyData.showableAll, Bool.and_eq_true] at h1 h2
    simp only [List.zip_cons_cons, PyData.showableKv, Bool.and_eq_true]
    exact ⟨⟨h1.1, h2.1⟩, kv_shw (by simpa using h) h1.2 h2.2⟩
  | [], _ :: _, h, _, _ => by simp at h
  | _ :: _, [], h, _, _ => by simp at h
theorem kv_lvs : ∀ {ks vs : List PyData}, ks.length = vs.length → PyData.leavesShortAll 32 ks = true → PyData.leavesShortAll 32 vs = true → PyData.leavesShortKv 32 (ks.zip vs) = true
  | [], [], _, _, _ => rfl
  | k :: ks, v :: vs, h, h1, h2 => by
    simp only [PyData.leavesShortAll, Bool.and_eq_true] at h1 h2
    simp only [List.zip_cons_cons, PyData.leavesShortKv, Bool.and_eq_true]
    exact ⟨⟨h1.1, h2.1⟩, kv_lvs (by simpa using h) h1.2 h2.2⟩
  | [], _ :: _, h, _, _ => by simp at h
  | _ :: _, [], h, _, _ => by simp at h
theorem kv_wt : ∀ {ks vs : List PyData}, ks.length = vs.length → PyData.weightKv (ks.zip vs) ≤ PyData.weightAll ks + PyData.weightAll vs
  | [], [], _ => Nat.le_refl _
  | k :: ks, v :: vs, h => by
    have := kv_wt (ks := ks) (vs := vs) (by simpa using h)
    simp only [List.zip_cons_cons, PyData.weightKv, PyData.weightAll]
    omega
  | [], _ :: _, h => by simp at h
  | _ :: _, [], h => by simp at h
theorem kv_dp : ∀ {ks vs : List PyData}, ks.length = vs.length → PyData.depthKv (ks.zip vs) ≤ max (PyData.depthAll ks) (PyData.depthAll vs)
  | [], [], _ => Nat.le_refl _
  | k :: ks, v :: vs, h => by
    have := kv_dp (ks := ks) (vs := vs) (by simpa using h)
    simp only [List.zip_cons_cons, PyData.depthKv, PyData.depthAll]
    omega
  | [], _ :: _, h => by simp at h
  | _ :: _, [], h => by simp at h
mutual
theorem shw (b : Bool) : ∀ d : D, good b d = true → ∃ p, Shw b d p
  | .non, _ => ⟨.none, rfl, rfl, rfl, fun _ => rfl, fun _ => rfl, Nat.zero_le _, Nat.zero_le _⟩
  | .bl _, _ => ⟨.bool _, rfl, rfl, rfl, fun _ => rfl, fun _ => rfl, Nat.zero_le _, Nat.zero_le _⟩
  | .int i, h => by
    have h' : i.natAbs ≤ 10 ^ 30 := by simpa only [good, decide_eq_true_eq] using h
    have e := int_log h'
    refine ⟨.int i, rfl, ?_, ?_, fun _ => rfl, fun _ => rfl, ?_, Nat.zero_le _⟩
    · simp only [PyData.showable, decide_eq_true_eq]; omega
    · simp only [PyData.leavesShort, decide_eq_true_eq]; exact int_leaf h'
    · simp only [PyData.weight, wt]; split <;> omega
  | .str x, h => by
    refine ⟨.str x, rfl, rfl, ?_, fun _ => rfl, fun _ => rfl, ?_, Nat.zero_le _⟩
    · simp only [PyData.leavesShort]; exact ch_leaf (by simpa only [good] using h)
    · simp only [PyData.weight, wt]; show x.cps.size ≤ 2 + x.cps.size; omega
  | .tup l, h => by
    obtain ⟨p, q⟩ := shws b l (by simpa only [good] using h)
    refine ⟨.tuple p, ?_, ?_, ?_, fun e => ?_, fun e => ?_, ?_, ?_⟩
    · simp only [toQ, q.q, Option.map_some]
    · simp only [PyData.showable]; exact q.s
    · simp only [PyData.leavesShort]; exact q.l
    · simp only [PyData.hasDict]; exact q.nd e
    · simp only [noLst]; exact q.nl e
    · simp only [PyData.weight, wt]; have := q.w; omega
    · simp only [PyData.depth, dp]; have := q.p; omega
  | .lst l, h => by
    simp only [good, Bool.and_eq_true] at h
    obtain ⟨p, q⟩ := shws b l h.2
    refine ⟨.list p, ?_, ?_, ?_, fun e => ?_, fun e => ?_, ?_, ?_⟩
    · simp only [toQ, q.q, Option.map_some]
    · simp only [PyData.showable]; exact q.s
    · simp only [PyData.leavesShort]; exact q.l
    · simp only [PyData.hasDict]; exact q.nd e
    · rw [e] at h; exact absurd h.1 (by decide)
    · simp only [PyData.weight, wt]; have := q.w; omega
    · simp only [PyData.depth, dp]; have := q.p; omega
  | .dic ks vs, h => by
    simp only [good, Bool.and_eq_true, Bool.not_eq_true', decide_eq_true_eq] at h
    obtain ⟨⟨⟨hb, hk⟩, hv⟩, hl⟩ := h
    obtain ⟨p, q⟩ := shws b vs hv
    obtain ⟨k1, k2, k3, k4⟩ := key_shw hk
    have pl : (ks.map keyP).length = p.length := by rw [toQs_len q.q, List.length_map, hl]
    refine ⟨.dict ((ks.map keyP).zip p), ?_, ?_, ?_, fun e => ?_, fun e => ?_, ?_, ?_⟩
    · simp only [toQ, q.q, Option.map_some]
    · simp only [PyData.showable]; exact kv_shw pl k1 q.s
    · simp only [PyData.leavesShort]; exact kv_lvs pl k2 q.l
    · rw [e] at hb; exact absurd hb (by decide)
    · simp only [noLst]; exact q.nl e
    · simp only [PyData.weight, wt]; have := q.w; have := kv_wt pl; omega
    · simp only [PyData.depth, dp]; have := q.p; have := kv_dp pl; omega
  | .ref _, h => by simp [good] at h
  | .ty _, h => by simp [good] at h
  | .ins _ _ _, h => by simp [good] at h
theorem shws (b : Bool) : ∀ ds : List D, goods b ds = true → ∃ p, Shws b ds p
  | [], _ => ⟨[], rfl, rfl, rfl, fun _ => rfl, fun _ => rfl, Nat.zero_le _, Nat.zero_le _⟩
  | d :: ds, h => by
    simp only [goods, Bool.and_eq_true] at h
    obtain ⟨p, q⟩ := shw b d h.1
    obtain ⟨r, t⟩ := shws b ds h.2
    refine ⟨p :: r, ?_, ?_, ?_, fun e => ?_, fun e => ?_, ?_, ?_⟩
    · simp only [toQs, q.q, t.q]
    · simp only [PyData.showableAll, Bool.and_eq_true]; exact ⟨q.s, t.s⟩
    · simp only [PyData.leavesShortAll, Bool.and_eq_true]; exact ⟨q.l, t.l⟩
    · simp only [PyData.hasDictAll]; rw [q.nd e, t.nd e]; rfl
    · simp only [noLsts, Bool.and_eq_true]; exact ⟨q.nl e, t.nl e⟩
    · simp only [PyData.weightAll, wts]; have := q.w; have := t.w; omega
    · simp only [PyData.depthAll, dps]; have := q.p; have := t.p; omega
end
theorem shows_of {b : Bool} {d : D} (h : good b d = true) (hw : wt d ≤ 400000) (hp : dp d ≤ 150) : ∃ p, Shows d p := by
  obtain ⟨p, q⟩ := shw b d h
  refine ⟨p, q.q, q.s, fun e => ?_, by have := q.p; omega, ?_⟩
  · cases b with
    | true => rw [q.nd rfl] at e; cases e
    | false => exact q.nl rfl
  · have h1 := PyData.shown_le 32 (by decide) p q.l
    have h2 := q.w
    rw [sizeLine_eq]
    have : (32 + 2) * p.weight ≤ 34 * 400000 := Nat.mul_le_mul (by omega) (by omega)
    omega
theorem toPs_of {f : D → PyData} : ∀ {l : List D}, (∀ x ∈ l, toP x = some (f x)) → toPs l = some (l.map f)
  | [], _ => rfl
  | d :: l, h => by
    simp only [toPs, h d List.mem_cons_self, toPs_of fun x hx => h x (List.mem_cons_of_mem _ hx), List.map_cons]
def thP : D → PyData
  | .str x => .str x
  | .int i => .int i
  | .bl b => .bool b
  | .tup l => .tuple (thPs l)
  | _ => .none
where thPs : List D → List PyData
  | [] => []
  | d :: ds => thP d :: thPs ds
theorem eqv_nil {l : List PyData} : PyData.eqv (.tuple l) (.tuple []) = l.isEmpty := by
  cases l <;> rfl
theorem eqv_nilL {l : List PyData} : PyData.eqv (.list l) (.list []) = l.isEmpty := by
  cases l <;> rfl
theorem ints_toP : ∀ ns : List Int, toPs (ns.map D.int) = some (ns.map PyData.int)
  | [] => rfl
  | n :: ns => by simp only [List.map_cons, toPs, toP, ints_toP ns]
theorem ints_can : ∀ ns : List Int, PyData.canLayAll0 (ns.map PyData.int) = true ∧ PyData.depthAll (ns.map PyData.int) = 0
  | [] => ⟨rfl, rfl⟩
  | n :: ns => by
    obtain ⟨h1, h2⟩ := ints_can ns
    simp only [List.map_cons, PyData.canLayAll0, PyData.canLay0, PyData.depthAll, PyData.depth, h1, h2]
    exact ⟨rfl, rfl⟩
theorem ints_shaped (ns : List Int) : SeqAt.shaped (.list (ns.map PyData.int)) = true := by
  obtain ⟨h1, h2⟩ := ints_can ns
  simp only [SeqAt.shaped, PyData.canLay0, PyData.depth, h1, h2]; decide
theorem ch_strOk {x : Str} (h : chOk x = true) : PyData.strOk x = true := by
  unfold chOk at h
  unfold PyData.strOk
  rw [Array.all_eq_true_iff_forall_mem]
  rw [List.all_eq_true] at h
  intro c hc
  exact h c (Array.mem_toList_iff.mpr hc)
structure Can (d : D) (p : PyData) : Prop where
  q : toP d = some p
  c : p.canLay0 = true
  p : p.depth ≤ dp d
theorem thing_can : ∀ {n : Nat} {d : D}, thingW n d = true → ∃ p, Can d p
  | 0, d, h => by
    rcases leaf_cases h with ⟨x, rfl, hx⟩ | ⟨i, rfl, hi⟩
    · exact ⟨.str x, rfl, by simp only [PyData.canLay0]; exact ch_strOk (word_ch hx), Nat.zero_le _⟩
    · exact ⟨.int i, rfl, rfl, Nat.zero_le _⟩
  | n + 1, d, h => by
    have lf : leafB d = true → ∃ p, Can d p := fun hl => thing_can (n := 0) hl
    cases d with
    | tup l =>
      simp only [thingW, List.all_eq_true] at h
      have aux : ∀ (l : List D), (∀ x ∈ l, thingW n x = true) → ∃ ps, toPs l = some ps ∧ PyData.canLayAll0 ps = true ∧ PyData.depthAll ps ≤ dps l := by
        intro l
        induction l with
        | nil => intro _; exact ⟨[], rfl, rfl, Nat.le_refl _⟩
        | cons d l ih =>
          intro h
          obtain ⟨ps, e1, e2, e3⟩ := ih fun x hx => h x (List.mem_cons_of_mem _ hx)
          obtain ⟨p, q⟩ := thing_can (h d List.mem_cons_self)
          refine ⟨p :: ps, by simp only [toPs, q.q, e1], by simp only [PyData.canLayAll0, q.c, e2, Bool.and_self], ?_⟩
          simp only [PyData.depthAll, dps]
          have := q.p
          omega
      obtain ⟨ps, e1, e2, e3⟩ := aux l h
      exact ⟨.tuple ps, by simp only [toP, e1, Option.map_some], by simp only [PyData.canLay0]; exact e2, by simp only [PyData.depth, dp]; omega⟩
    | _ => exact lf h
end Lw

namespace Lw
open PySem PySem.Spec PyProof.Rows L2 DL TL
theorem lc_map {α : Type} {i : Nat} {p : Addr} {te : DTm} (u f : α → D) : ∀ (ys : List α) {ρ : DEnv} {S : DS} {Q : List D → DS → Prop}, S p = none →
    (∀ y ∈ ys, ∀ S' Q', Q' (f y) S' → te (ρ.set i (some (u y))) S' Q') → Q (ys.map f) S → dLcGo (dgName i) dYes te p (ys.map u) ρ S Q
  | [], _, _, _, _, _, q => q
  | y :: ys, ρ, S, Q, hp, h, q => by
    intro o
    refine ⟨fun _ => h y List.mem_cons_self _ _ ⟨sup_same, ?_⟩, fun e => by cases e⟩
    rw [sdel_sup hp]
    exact lc_map u f ys hp (fun z hz => h z (List.mem_cons_of_mem _ hz)) q
theorem lc_map1 {i : Nat} {p : Addr} {te : DTm} (f : D → D) (ys : List D) {ρ : DEnv} {S : DS} {Q : List D → DS → Prop} (hp : S p = none)
    (h : ∀ y ∈ ys, ∀ S' Q', Q' (f y) S' → te (ρ.set i (some y)) S' Q') (q : Q (ys.map f) S) : dLcGo (dgName i) dYes te p ys ρ S Q := by
  have := lc_map (te := te) id f ys hp h q
  rwa [List.map_id] at this
local macro_rules | `(tactic| walk_at "dl") => `(tactic| simp only [dSeq, dIf, dRet, dRetN, dNext, dVar, dC, dOp, dCB, dCall, dArgs, dBM, dB, dNot, dAnd, dOr, dAndV, dOrV, dNotV, dIfE, dChain, dSet, dExpr, dAsg, dTup, dLst, dLstM, dstart, dLc, dLcM, dItStr, dItTup, dItLst, dgName, dwipe, oI0, oI, oEqS, oLen, chkStr, chkLst, List.map_cons, List.map_nil, List.length_cons, List.length_nil, List.replicate, List.cons_append, List.nil_append, List.append_nil, List.getElem?_cons_zero, List.getElem?_cons_succ, List.set_cons_zero, List.set_cons_succ, Nat.reduceAdd, Nat.reduceSub, Nat.zero_add, true_implies, false_implies, Bool.true_eq_false, Bool.false_eq_true, eq_self, and_true, true_and, implies_true, Bool.not_true, Bool.not_false, Bool.true_bne, Bool.false_bne])
variable {P : Program} {w : World} {K : PySem.W.Frag} {mg : Str → Option Value} {base : Heap} {a : Ad}
theorem _root_.DL.Ins.never {x : Str} {st : Stmt} {ps : List Str} {f : Addr} {fd : FuncData} (I : Ins K mg x st ps f fd) : Cal P w K mg base x 0 (fun _ _ _ _ => False) :=
  I.cal ⟨fun vs H Q E ⟨_, _, _, _, _, _, h, _⟩ => h.elim, fun A fr s H as us vs Q E _ _ _ _ _ ⟨_, _, _, _, _, _, h, _⟩ => h.elim⟩
theorem found_sign (z : Str) (c : Nat) : (!(Builtin.Str.occurrences z ⟨#[c]⟩ 0 z.length 1).isEmpty) = decide (c ∈ tl z) := PySem.StrLaws.found_one z c
theorem thingW_ntup {n : Nat} {d : D} (h : isTupB d = false) : thingW n d = leafB d := by
  cases n <;> cases d <;> first | rfl | cases h
theorem sizeL : sizeLine = 16777216 := sizeLine_eq
mutual
theorem txt_le : ∀ d : D, dat d = true → (∃ n, thingW n d = true) → (txt d).length ≤ wt d
  | .tup l, hd, ⟨n, h⟩ => by
    cases n with
    | zero => simp [thingW, leafB, wordD, colourB] at h
    | succ n =>
      simp only [thingW, List.all_eq_true] at h
      have := txts_le l (by simpa only [dat] using hd) ⟨n, h⟩
      simp only [txt, wt, List.length_cons, List.length_append, List.length_nil]
      omega
  | .str x, _, _ => by simp only [txt, wt, ← len_tl]; omega
  | .int i, _, ⟨n, h⟩ => by
    rcases thing_leaf h with ⟨l, e⟩ | h
    · cases e
    · rcases leaf_cases h with ⟨x, e, _⟩ | ⟨j, e, hj⟩
      · cases e
      · cases e
        have := numL_len (n := j) (k := 10) (by decide) (by omega)
        simp only [txt, wt, Int.toNat_natCast]
        omega
  | .non, _, _ => Nat.zero_le _
  | .bl _, _, _ => Nat.zero_le _
  | .ref _, _, _ => Nat.zero_le _
  | .ty _, _, _ => Nat.zero_le _
  | .lst _, _, _ => Nat.zero_le _
  | .ins _ _ _, _, _ => Nat.zero_le _
  | .dic _ _, _, _ => Nat.zero_le _
theorem txts_le : ∀ l : List D, dats l = true → (∃ n, ∀ x ∈ l, thingW n x = true) → (txts l).length ≤ wts l
  | [], _, _ => Nat.zero_le _
  | d :: l, hd, ⟨n, h⟩ => by
    simp only [dats, Bool.and_eq_true] at hd
    have h1 := txt_le d hd.1 ⟨n, h d List.mem_cons_self⟩
    have h2 := txts_le l hd.2 ⟨n, fun x hx => h x (List.mem_cons_of_mem _ hx)⟩
    cases l with
    | nil => simp only [txts, wts]; omega
    | cons e l => simp only [txts, wts, List.length_append, List.length_cons] at h2 ⊢; omega
end
theorem txts_join : ∀ l : List D, joinL [32] (l.map txt) = txts l
  | [] => rfl
  | [d] => rfl
  | d :: e :: l => by
    have := txts_join (e :: l)
    simp only [List.map_cons] at this
    simp only [List.map_cons, joinL, txts, this, List.cons_append, List.nil_append]
theorem joined (l : List D) : Txt.join " " (l.map textD) = ofL (txts l) := by
  refine ext_tl ?_
  rw [join_eq, tl_join, tl_ofL, List.map_map, ← txts_join]
  have e : tl (Str.ofString " ") = [32] := by rw [tl_ofString]; decide +kernel
  rw [e]
  congr 1
theorem text_tup (l : List D) : textD (.tup l) = Str.ofString "(" ++ ofL (txts l) ++ Str.ofString ")" := by
  refine ext_tl ?_
  unfold textD
  rw [tl_ofL, tl_append, tl_append, tl_ofL]
  have e1 : tl (Str.ofString "(") = [40] := by rw [tl_ofString]; decide +kernel
  have e2 : tl (Str.ofString ")") = [41] := by rw [tl_ofString]; decide +kernel
  rw [e1, e2]
  simp only [txt, List.cons_append, List.nil_append]
theorem sum_le : ∀ l : List D, dats l = true → (∃ n, ∀ x ∈ l, thingW n x = true) → ((l.map textD).map (·.length)).sum + 3 * l.length ≤ wts l
  | [], _, _ => Nat.le_refl _
  | d :: l, hd, ⟨n, h⟩ => by
    simp only [dats, Bool.and_eq_true] at hd
    have h1 := txt_le d hd.1 ⟨n, h d List.mem_cons_self⟩
    have h2 := sum_le l hd.2 ⟨n, fun x hx => h x (List.mem_cons_of_mem _ hx)⟩
    simp only [List.map_cons, List.sum_cons, List.length_cons, wts]
    have : (textD d).length = (txt d).length := len_ofL _
    omega
theorem num_text (i : Nat) : (Str.ofString (toString ((i : Nat) : Int))) = textD (.int (i : Nat)) := by
  refine ext_tl ?_
  rw [tl_num]
  unfold textD
  rw [tl_ofL]
  rfl
/-- what written and the law's own text of a thing do -/
theorem oStrI_num {i : Nat} (h : i ≤ 1000000000) {S : DS} {Q : DQ} (q : Q (.str (textD (.int (i : Nat)))) S) : oStrI [.int (i : Nat)] S Q := by
  have e : (Str.ofString (toString ((i : Nat) : Int))).length ≤ 10 := by
    rw [len_tl, tl_num]
    exact numL_len (by decide) (by omega)
  refine ⟨?_, ?_, ?_⟩
  · rw [Int.natAbs_natCast]
    by_cases z : i = 0
    · rw [z]; decide
    · have : i < 2 ^ 100 := Nat.lt_of_le_of_lt h (by decide)
      have := (Nat.log2_lt z).mpr this
      omega
  · have := sizeL; show (Str.ofString (toString ((i : Nat) : Int))).length ≤ _; omega
  · show Q (.str (Str.ofString (toString ((i : Nat) : Int)))) S
    rw [num_text]; exact q
theorem oJoin_things {n : Nat} {l : List D} (hd : dats l = true) (h : ∀ x ∈ l, thingW n x = true) (hw : wts l ≤ 1000000) {S : DS} {Q : DQ} (q : Q (.str (ofL (txts l))) S) : oJoin (.str (Str.ofString " ")) [.lst (l.map fun x => .str (textD x))] S Q := by
  have e : (Txt.join (Str.ofString " ") (l.map textD)) = ofL (txts l) := joined l
  have h1 := sum_le l hd ⟨n, h⟩
  have h2 := txts_le l hd ⟨n, h⟩
  have := sizeL
  refine ⟨l.map textD, by rw [List.map_map]; rfl, ?_, ?_, ?_⟩
  · have e1 : (Str.ofString " ").length = 1 := rfl
    rw [e1, List.length_map]
    omega
  · rw [e, len_ofL]; omega
  · rw [e]; exact q
end Lw

namespace Lw
open PySem PySem.Spec PyProof.Rows L2 DL TL
local macro_rules | `(tactic| walk_at "dl") => `(tactic| simp only [dSeq, dIf, dRet, dRetN, dNext, dVar, dC, dOp, dCB, dCall, dArgs, dBM, dB, dNot, dAnd, dOr, dAndV, dOrV, dNotV, dIfE, dChain, dSet, dExpr, dAsg, dTup, dLst, dLstM, dstart, dLc, dLcM, dItStr, dItTup, dItLst, dgName, dwipe, dSl, dPart, dNoP, dFld, dFldA, dFldS, dMake, dRaise1, dBreak, oI0, oI, oEqS, oLen, chkStr, chkLst, List.map_cons, List.map_nil, List.length_cons, List.length_nil, List.replicate, List.cons_append, List.nil_append, List.append_nil, List.getElem?_cons_zero, List.getElem?_cons_succ, List.set_cons_zero, List.set_cons_succ, Nat.reduceAdd, Nat.reduceSub, Nat.zero_add, true_implies, false_implies, Bool.true_eq_false, Bool.false_eq_true, eq_self, and_true, true_and, implies_true, Bool.not_true, Bool.not_false, Bool.true_bne, Bool.false_bne, decide_true, decide_false])
variable {P : Program} {w : World} {K : PySem.W.Frag} {mg : Str → Option Value} {base : Heap} {a : Ad}
theorem fields_scn {S : DS} {p : Addr} {t : Str} {k : Nat} (h : S p = some (scn a t k)) : fieldsS a.Scan S (.ref p) = some [((Str.ofString "text"), D.str t), ((Str.ofString "place"), D.int (k : Nat))] := by
  unfold scn at h
  simp only [fieldsS, h, if_pos]
theorem look_text {t : Str} {k : Nat} : [((Str.ofString "text"), D.str t), ((Str.ofString "place"), D.int (k : Nat))].lookup (Str.ofString "text") = some (.str t) := rfl
theorem look_place {t : Str} {k : Nat} : [((Str.ofString "text"), D.str t), ((Str.ofString "place"), D.int (k : Nat))].lookup (Str.ofString "place") = some (.int (k : Nat)) := rfl
theorem put_place {t : Str} {k : Nat} {d : D} : dput (Str.ofString "place") d [((Str.ofString "text"), D.str t), ((Str.ofString "place"), D.int (k : Nat))] = [((Str.ofString "text"), D.str t), ((Str.ofString "place"), d)] := rfl
theorem cut_at (z : Str) (k m : Nat) : tl (cutS z (some (k : Nat)) (some ((k + m : Nat) : Int))) = ((tl z).drop k).take m := by
  unfold cutS
  rw [tl_mk, HT.sIx_nat, HT.sIx_nat, len_tl]
  show ((tl z).drop _).take _ = _
  by_cases h : k ≤ (tl z).length
  · rw [Nat.min_eq_left h]
    by_cases h2 : k + m ≤ (tl z).length
    · rw [Nat.min_eq_left h2, Nat.add_sub_cancel_left]
    · rw [Nat.min_eq_right (by omega), List.take_of_length_le (by rw [List.length_drop]; omega), List.take_of_length_le (by rw [List.length_drop]; omega)]
  · rw [Nat.min_eq_right (by omega), List.drop_eq_nil_of_le (by omega), List.drop_eq_nil_of_le (by omega)]
    simp
theorem tl_sg (o : Option Nat) : tl (sg o) = o.toList := by cases o <;> rfl
theorem cut_sign (z : Str) (k : Nat) : cutS z (some (k : Nat)) (some ((k : Nat) + 1)) = sg (tl z)[k]? := by
  refine ext_tl ?_
  rw [show ((k : Int) + 1) = ((k + 1 : Nat) : Int) by omega, cut_at, tl_sg]
  by_cases h : k < (tl z).length
  · rw [List.drop_eq_getElem_cons h, List.getElem?_eq_getElem h]; rfl
  · rw [List.drop_eq_nil_of_le (by omega), List.getElem?_eq_none (by omega)]; rfl
theorem sg_ne (c : Nat) (y : Str) (h : tl y ≠ [c]) : sg (some c) ≠ y := fun e => h (by rw [← e]; rfl)
theorem sg_inj {o o' : Option Nat} (h : sg o = sg o') : o = o' := by
  have := congrArg tl h
  rw [tl_sg, tl_sg] at this
  cases o <;> cases o' <;> simp_all
theorem ok_Scan (G : Gs K mg a) {f : Addr} {fd : FuncData} (I : Fun K "__init__" "Scan.__init__" s_Scan f fd) : DFn P w K mg base 1 f fd ["self", "text"] (sp_Scan a) := by
  refine dfn_ok I sc_Scan (fun ds S Q E h => by obtain ⟨p, t, rfl, _⟩ := h; rfl) fun cdv A fr s H S E ds Qd Wd hr gd tk po h => ?_
  obtain ⟨p, t, rfl, h0, q⟩ := h
  refine ⟨_, tm_Scan G hr gd tk po, ?_⟩
  unfold rd_Scan
  walk_at "dl"
  refine ⟨[], h0, by decide, _, sup_same, (by decide : 1 < 1000), ?_⟩
  rw [sup_sup]
  exact fin_same q
theorem ok_sign_at (G : Gs K mg a) {f : Addr} {fd : FuncData} (I : Ins K mg "sign_at" s_sign_at ["scan"] f fd) : Cal P w K mg base "sign_at" 1 (sp_sign_at a) := by
  refine I.cal (dfn_ok I.F sc_sign_at (fun ds S Q E h => by obtain ⟨p, t, k, rfl, _⟩ := h; rfl) fun cdv A fr s H S E ds Qd Wd hr gd tk po h => ?_)
  obtain ⟨p, t, k, rfl, h, q⟩ := h
  refine ⟨_, tm_sign_at G hr gd tk po, ?_⟩
  unfold rd_sign_at
  walk_at "dl"
  refine ⟨_, _, fields_scn h, look_text, _, _, fields_scn h, look_place, _, _, fields_scn h, look_place, ?_⟩
  walk_at "dl"
  refine fin_same ?_
  rw [cut_sign]; exact q
theorem ok_is_one_of (G : Gs K mg a) {f : Addr} {fd : FuncData} (I : Ins K mg "is_one_of" s_is_one_of ["sign", "signs"] f fd) : Cal P w K mg base "is_one_of" 1 (sp_is_one_of a) := by
  refine I.cal (dfn_ok I.F sc_is_one_of (fun ds S Q E h => by obtain ⟨o, z, rfl, _⟩ := h; rfl) fun cdv A fr s H S E ds Qd Wd hr gd tk po h => ?_)
  obtain ⟨o, z, rfl, q⟩ := h
  refine ⟨_, tm_is_one_of G hr gd tk po, ?_⟩
  unfold rd_is_one_of
  walk_at "dl"
  cases o with
  | none =>
    have e : decide (sg none = Str.ofString "") = true := decide_eq_true rfl
    rw [e]
    walk_at "dl"
    exact fin_same q
  | some c =>
    have e : decide (sg (some c) = Str.ofString "") = false := decide_eq_false (sg_ne c _ (by simp [show tl (Str.ofString "") = [] from rfl]))
    rw [e]
    walk_at "dl"
    have := found_sign z c
    simp only [oInS, sg, Bool.false_bne]
    rw [this]
    exact fin_same q
theorem index_fig {c : Nat} (h : isDig c = true) : Txt.index0 figures ⟨#[c]⟩ = some (c - 48) := by
  have h' : 48 ≤ c ∧ c ≤ 57 := of_decide_eq_true h
  have : c = 48 ∨ c = 49 ∨ c = 50 ∨ c = 51 ∨ c = 52 ∨ c = 53 ∨ c = 54 ∨ c = 55 ∨ c = 56 ∨ c = 57 := by omega
  rcases this with rfl | rfl | rfl | rfl | rfl | rfl | rfl | rfl | rfl | rfl <;> decide +kernel
theorem fold_ge : ∀ (ds : List Nat) (v : Nat), v ≤ ds.foldl (fun acc c => acc * 10 + (c - 48)) v
  | [], v => Nat.le_refl _
  | c :: ds, v => by
    have := fold_ge ds (v * 10 + (c - 48))
    simp only [List.foldl_cons]
    omega
theorem num_zero : ∀ (n : Nat) {ds : List Nat}, numL n = 48 :: ds → ds = [] := by
  intro n
  induction n using Nat.strongRecOn with
  | ind n ih =>
    intro ds h
    by_cases hn : n < 10
    · rw [numL_lt hn] at h
      simp at h; exact h.2.symm ▸ rfl
    · rw [numL_step (by omega)] at h
      cases e : numL (n / 10) with
      | nil => exact absurd e (numL_ne _)
      | cons c r =>
        rw [e] at h
        simp only [List.cons_append, List.cons.injEq] at h
        obtain ⟨rfl, h⟩ := h
        have := ih (n / 10) (by omega) e
        subst this
        have v := numL_val (n / 10)
        rw [e] at v
        simp [NumText.digitsVal] at v
        omega
theorem head_drop {l : List Nat} {k : Nat} : l[k]? = (l.drop k).head? := by rw [List.head?_drop]
theorem any_fig {o : Option Nat} : (o.any fun c => decide (c ∈ tl figures)) = o.any isDig := by
  cases o with
  | none => rfl
  | some c => exact mem_figures c
theorem any_let {o : Option Nat} : (o.any fun c => decide (c ∈ tl letters)) = o.any isLet := by
  cases o with
  | none => rfl
  | some c => exact mem_letters c
theorem scn_next {S : DS} {p : Addr} {t : Str} {k m : Nat} : sup (sup S p (scn a t k)) p (scn a t m) = sup S p (scn a t m) := sup_sup
theorem drop_next {l post : List Nat} {c : Nat} {k : Nat} (h : l.drop k = c :: post) : l.drop (k + 1) = post := by
  have := congrArg (List.drop 1) h
  rwa [List.drop_drop] at this
end Lw

namespace Lw
open PySem PySem.Spec PyProof.Rows L2 DL TL
local macro_rules | `(tactic| walk_at "dl") => `(tactic| simp only [dSeq, dIf, dRet, dRetN, dNext, dVar, dC, dOp, dCB, dCall, dArgs, dBM, dB, dNot, dAnd, dOr, dAndV, dOrV, dNotV, dIfE, dChain, dSet, dExpr, dAsg, dTup, dLst, dLstM, dstart, dLc, dLcM, dItStr, dItTup, dItLst, dgName, dwipe, dSl, dPart, dNoP, dFld, dFldA, dFldS, dMake, dRaise1, dBreak, oI0, oI, oEqS, oLen, chkStr, chkLst, List.map_cons, List.map_nil, List.length_cons, List.length_nil, List.replicate, List.cons_append, List.nil_append, List.append_nil, List.getElem?_cons_zero, List.getElem?_cons_succ, List.set_cons_zero, List.set_cons_succ, Nat.reduceAdd, Nat.reduceSub, Nat.zero_add, true_implies, false_implies, Bool.true_eq_false, Bool.false_eq_true, eq_self, and_true, true_and, implies_true, Bool.not_true, Bool.not_false, Bool.true_bne, Bool.false_bne, decide_true, decide_false])
variable {P : Program} {w : World} {K : PySem.W.Frag} {mg : Str → Option Value} {base : Heap} {a : Ad}
theorem txt_head {n : Nat} {d : D} (h : thingW n d = true) : ∃ c r, txt d = c :: r ∧ c ≠ 41 ∧ (isDig c = true ↔ ∃ i : Int, d = .int i) ∧ (isLet c = true ↔ ∃ x, d = .str x) ∧ (c = 40 ↔ ∃ l, d = .tup l) := by
  rcases thing_leaf h with ⟨l, rfl⟩ | hl
  · refine ⟨40, txts l ++ [41], by simp only [txt], by decide, ⟨fun e => (by cases e), fun ⟨i, e⟩ => by cases e⟩, ⟨fun e => (by cases e), fun ⟨i, e⟩ => by cases e⟩, ⟨fun _ => ⟨l, rfl⟩, fun _ => rfl⟩⟩
  · rcases leaf_cases hl with ⟨x, rfl, hx⟩ | ⟨i, rfl, hi⟩
    · simp only [wordB, Bool.and_eq_true, decide_eq_true_eq, List.all_eq_true] at hx
      obtain ⟨⟨l1, l2⟩, al⟩ := hx
      rw [len_tl] at l1
      cases e : tl x with
      | nil => rw [e] at l1; simp at l1
      | cons c r =>
        have hc := al c (by rw [e]; exact List.mem_cons_self)
        have hc' : 97 ≤ c ∧ c ≤ 122 := of_decide_eq_true hc
        refine ⟨c, r, by simp only [txt, e], by omega, ⟨fun e => ?_, fun ⟨i, e⟩ => by cases e⟩, ⟨fun _ => ⟨x, rfl⟩, fun _ => hc⟩, ⟨fun e => by omega, fun ⟨i, e⟩ => by cases e⟩⟩
        have : 48 ≤ c ∧ c ≤ 57 := of_decide_eq_true e
        omega
    · cases e : numL i with
      | nil => exact absurd e (numL_ne _)
      | cons c r =>
        have hc := numL_digits i c (by rw [e]; exact List.mem_cons_self)
        refine ⟨c, r, by simp only [txt, Int.toNat_natCast, e], by omega, ⟨fun _ => ⟨_, rfl⟩, fun _ => decide_eq_true hc⟩, ⟨fun e => ?_, fun ⟨i, e⟩ => by cases e⟩, ⟨fun e => by omega, fun ⟨i, e⟩ => by cases e⟩⟩
        have : 97 ≤ c ∧ c ≤ 122 := of_decide_eq_true e
        omega
theorem things_can {n : Nat} (hn : n ≤ 60) : ∀ {l : List D}, (∀ x ∈ l, thingW n x = true) → ∃ ps, toPs l = some ps ∧ PyData.canLayAll0 ps = true ∧ PyData.depthAll ps ≤ n ∧ ps.isEmpty = l.isEmpty
  | [], _ => ⟨[], rfl, rfl, Nat.zero_le _, rfl⟩
  | d :: l, h => by
    obtain ⟨ps, e1, e2, e3, _⟩ := things_can hn fun x hx => h x (List.mem_cons_of_mem _ hx)
    have hd := h d List.mem_cons_self
    obtain ⟨p, q⟩ := thing_can hd
    refine ⟨p :: ps, by simp only [toPs, q.q, e1], by simp only [PyData.canLayAll0, q.c, e2, Bool.and_self], ?_, rfl⟩
    simp only [PyData.depthAll]
    have := q.p
    have := thing_dp hd
    omega
theorem sup_comm {S : DS} {p q : Addr} {x y : DO} (h : p ≠ q) : sup (sup S p x) q y = sup (sup S q y) p x := by
  funext b
  unfold sup
  by_cases c : b = q
  · rw [if_pos c, if_neg (fun e => h (e.symm.trans c)), if_pos c]
  · rw [if_neg c, if_neg c]
theorem ne_of_new {S : DS} {p q : Addr} {o : DO} (h : S p = some o) (h' : S q = none) : p ≠ q := fun e => by rw [e, h'] at h; cases h
end Lw

namespace Lw
open PySem PySem.Spec PyProof.Rows L2 DL TL
local macro_rules | `(tactic| walk_at "dl") => `(tactic| simp only [dSeq, dIf, dRet, dRetN, dNext, dVar, dC, dOp, dCB, dCall, dArgs, dBM, dB, dNot, dAnd, dOr, dAndV, dOrV, dNotV, dIfE, dChain, dSet, dExpr, dAsg, dTup, dLst, dLstM, dstart, dLc, dLcM, dItStr, dItTup, dItLst, dgName, dwipe, dSl, dPart, dNoP, dFld, dFldA, dFldS, dMake, dRaise1, dBreak, dgSub, oIx, dNeg, dRng1, oJoin, oTuple, oI0, oI, oEqS, oLen, chkStr, chkLst, List.map_cons, List.map_nil, List.length_cons, List.length_nil, List.replicate, List.cons_append, List.nil_append, List.append_nil, List.getElem?_cons_zero, List.getElem?_cons_succ, List.set_cons_zero, List.set_cons_succ, Nat.reduceAdd, Nat.reduceSub, Nat.zero_add, true_implies, false_implies, Bool.true_eq_false, Bool.false_eq_true, eq_self, and_true, true_and, implies_true, Bool.not_true, Bool.not_false, Bool.true_bne, Bool.false_bne, decide_true, decide_false, Int.reducePow, Int.reduceToNat, Int.reduceAdd, Int.reduceNeg, Int.reduceMul, Int.reduceSub])
variable {P : Program} {w : World} {K : PySem.W.Frag} {mg : Str → Option Value} {base : Heap} {a : Ad}
theorem St.sup {p q : Addr} {ns : List Int} {S : DS} {o : DO} (h : St p ns S) (hq : S q = none) : St p ns (sup S q o) := by
  obtain ⟨i1, i2, i3, e, r⟩ := h.ex
  exact ⟨i1, i2, i3, by rw [sup_ne (ne_of_new e hq)]; exact e, r⟩
theorem St.ne {p q : Addr} {ns : List Int} {S : DS} (h : St p ns S) (hq : S q = none) : p ≠ q := by
  obtain ⟨i1, i2, i3, e, r⟩ := h.ex
  exact ne_of_new e hq
theorem Mv.refl {p : Addr} {S : DS} : Mv p S S := fun _ _ => rfl
theorem Mv.trans {p : Addr} {S S1 S2 : DS} (h : Mv p S S1) (h2 : Mv p S1 S2) : Mv p S S2 := fun b hb => (h2 b hb).trans (h b hb)
theorem Mv.sup {p : Addr} {S : DS} {o : DO} : Mv p S (sup S p o) := fun b hb => sup_ne hb
/-- behind an item of a comprehension -/
theorem st_back {p q : Addr} {ns : List Int} {S0 S S' : DS} {o : DO} (st : St p ns S) (m0 : Mv p S0 S) (hq : S q = none) (st' : St p ns S') (mv : Mv p (DL.sup S q o) S') : S' q = some o ∧ St p ns (sdel S' q) ∧ Mv p S0 (sdel S' q) := by
  have ne := st.ne hq
  refine ⟨by rw [mv q (Ne.symm ne), sup_same], ?_, fun b hb => ?_⟩
  · obtain ⟨i1, i2, i3, e, r⟩ := st'.ex
    exact ⟨i1, i2, i3, by rw [sdel_ne ne]; exact e, r⟩
  · by_cases c : b = q
    · subst c; rw [sdel_same, ← m0 b hb, hq]
    · rw [sdel_ne c, mv b hb, sup_ne c, m0 b hb]
theorem lc_st {i : Nat} {q : Addr} {te : DTm} (I : DS → Prop) (Y : D → Prop) : ∀ (xs : List D) {ρ : DEnv} {S : DS} {Q : List D → DS → Prop}, I S → S q = none →
    (∀ x ∈ xs, ∀ S o Q', I S → S q = none → (∀ y S4, S4 q = some (.raw o) → I (sdel S4 q) → Y y → Q' y S4) → te (ρ.set i (some x)) (sup S q (.raw o)) Q') →
    (∀ ys S', I S' → S' q = none → ys.length = xs.length → (∀ y ∈ ys, Y y) → Q ys S') → dLcGo (dgName i) dYes te q xs ρ S Q
  | [], _, S, Q, hi, hq, _, k => k [] S hi hq rfl (fun y hy => by simp at hy)
  | x :: xs, ρ, S, Q, hi, hq, h, k => by
    intro o
    refine ⟨fun _ => h x List.mem_cons_self S o _ hi hq fun y S4 e4 i4 hy => ⟨e4, ?_⟩, fun e => by cases e⟩
    refine lc_st I Y xs i4 sdel_same (fun z hz => h z (List.mem_cons_of_mem _ hz)) fun ys S' hi' hq' hl ha => k (y :: ys) S' hi' hq' (by rw [List.length_cons, List.length_cons, hl]) fun z hz => ?_
    rcases List.mem_cons.mp hz with rfl | hz
    · exact hy
    · exact ha z hz
theorem at_ok {l : List D} {P : D → Prop} (h : ∀ x ∈ l, P x) {i : Int} (h0 : 0 ≤ i) (h1 : i < (l.length : Nat)) : ∃ d, atI l i = some d ∧ P d := by
  have hl : i.toNat < l.length := by omega
  refine ⟨l[i.toNat], ?_, h _ (List.getElem_mem hl)⟩
  unfold atI ixN
  rw [if_pos h0, if_pos h1]
  simp [hl]
theorem ok__law_take (G : Gs K mg a) {f : Addr} {fd : FuncData} (I : Ins K mg "_law_take" s__law_take ["_law_state", "_law_below"] f fd) : Cal P w K mg base "_law_take" 1 (sp__law_take a) := by
  refine I.cal (dfn_ok I.F sc__law_take (fun ds S Q E h => by obtain ⟨p, ns, b, rfl, _⟩ := h; rfl) fun cdv A fr s H S E ds Qd Wd hr gd tk po h => ?_)
  obtain ⟨p, ns, b, rfl, st, b0, b1, q⟩ := h
  obtain ⟨i1, i2, i3, e, h1, h3, h4⟩ := st.ex
  refine ⟨_, tm__law_take G hr gd tk po, ?_⟩
  unfold rd__law_take
  have first : ∀ (R : DTs) (Dd : DEnds) ρ, (∀ cell : Int, R Dd [some (.ref p), some (.int b), none, some (.int cell)] S) → ρ = [some (.ref p), some (.int b), none, none] →
      dSeq (dSet 3 (dOp oIx (dVar 0) (dC (.int 1)))) (dSeq (dIf (dB (dOp oNe (dOp oIx (dVar 0) (dC (.int 0))) (dLst []))) (dSet 3 (dOp oIx (dOp oIx (dVar 0) (dC (.int 0))) (dOp oMod (dOp oIx (dVar 0) (dC (.int 1))) (dCB oLen [(dOp oIx (dVar 0) (dC (.int 0)))])))) dNext) R) Dd ρ S := by
    intro R Dd ρ k eρ
    subst eρ
    walk_at "dl"
    refine ⟨_, _, e, rfl, _, _, e, rfl, .list (ns.map PyData.int), .list [], by simp only [toPS, toP, ints_toP, Option.map_some], by simp only [toPS, toP, toPs, Option.map_some], ints_shaped ns, by decide, ?_⟩
    rw [eqv_nilL]
    walk_at "dl"
    refine ⟨fun c0 => ⟨_, _, e, rfl, _, _, e, rfl, _, _, e, rfl, ?_⟩, fun c0 => k _⟩
    have pos : (0 : Int) < (ns.map D.int).length := by
      cases ns with
      | nil => simp at c0
      | cons n ns => simp only [List.map_cons, List.length_cons]; omega
    walk_at "dl"
    refine ⟨pos, ?_⟩
    obtain ⟨d, e1, c, rfl⟩ := at_ok (l := ns.map D.int) (P := fun x => ∃ c, x = .int c) (fun x hx => by
      obtain ⟨c, _, rfl⟩ := List.mem_map.mp hx
      exact ⟨c, rfl⟩) (Int.emod_nonneg i1 (Int.ne_of_gt pos)) (Int.emod_lt_of_pos i1 pos)
    exact ⟨_, e1, k c⟩
  have mid : ∀ (R : DTs) (Dd : DEnds) ρ (cell : Int), R Dd [some (.ref p), some (.int b), none, some (.int cell)] (sup S p (.lst [.lst (ns.map D.int), .int (i1 + 1), .int i2, .int i3])) → (∀ r S', 0 ≤ r → r < b → St p ns S' → Mv p S S' → Dd.rt (.int r) S') → ρ = [some (.ref p), some (.int b), none, some (.int cell)] →
      (dSeq (dAsg (dOp oAdd (dOp oIx (dVar 0) (dC (.int 1))) (dC (.int 1))) (dgSub (dVar 0) (dC (.int 1)))) (dSeq (dIf (dAnd (dB (dOp oGe (dVar 3) (dOp oPow (dC (.int 10)) (dC (.int 18))))) (dB (dOp oLe (dOp oIx (dVar 0) (dC (.int 1))) (dCB oLen [(dOp oIx (dVar 0) (dC (.int 0)))])))) (dSeq (dAsg (dOp oFdiv (dVar 3) (dVar 1)) (dgSub (dVar 0) (dC (.int 2)))) (dRet (dOp oMod (dVar 3) (dVar 1)))) dNext) R)) Dd ρ S := by
    intro R Dd ρ cell rest k eρ
    subst eρ
    walk_at "dl"
    refine ⟨_, _, e, rfl, ?_⟩
    walk_at "dl"
    refine ⟨_, _, e, rfl, (⟨by decide, by decide, by decide⟩ : CPow 10 18), ?_⟩
    walk_at "dl"
    refine ⟨fun c => ⟨_, _, sup_same, rfl, _, _, sup_same, rfl, ?_⟩, fun c => ?_⟩
    · walk_at "dl"
      refine ⟨fun c2 => ⟨⟨b0, b1⟩, _, _, sup_same, rfl, b0, ?_⟩, fun c2 => ?_⟩
      · rw [sup_sup]
        refine k _ _ (Int.emod_nonneg _ (by omega)) (Int.emod_lt_of_pos _ b0) ⟨_, _, _, sup_same, by omega, h3, h4⟩ Mv.sup
      · exact rest
    · exact rest
  have last : ∀ (Dd : DEnds) ρ (cell : Int), (∀ r S', 0 ≤ r → r < b → St p ns S' → Mv p S S' → Dd.rt (.int r) S') → ρ = [some (.ref p), some (.int b), none, some (.int cell)] →
      (dSeq (dAsg (dOp oAdd (dOp oIx (dVar 0) (dC (.int 1))) (dC (.int 1))) (dgSub (dVar 0) (dC (.int 1)))) (dSeq (dIf (dAnd (dB (dOp oGe (dVar 3) (dOp oPow (dC (.int 10)) (dC (.int 18))))) (dB (dOp oLe (dOp oIx (dVar 0) (dC (.int 1))) (dCB oLen [(dOp oIx (dVar 0) (dC (.int 0)))])))) (dSeq (dAsg (dOp oFdiv (dVar 3) (dVar 1)) (dgSub (dVar 0) (dC (.int 2)))) (dRet (dOp oMod (dVar 3) (dVar 1)))) dNext) (dSeq (dSet 3 (dOp oMod (dVar 3) (dC (.int 2305843009213693951)))) (dSeq (dAsg (dOp oMod (dOp oAdd (dOp oAdd (dOp oMul (dOp oIx (dVar 0) (dC (.int 3))) (dC (.int 48271))) (dOp oMul (dVar 3) (dC (.int 69621)))) (dOp oIx (dVar 0) (dC (.int 1)))) (dC (.int 2305843009213693951))) (dgSub (dVar 0) (dC (.int 3)))) (dRet (dOp oMod (dOp oFdiv (dOp oMod (dOp oMul (dOp oIx (dVar 0) (dC (.int 3))) (dOp oIx (dVar 0) (dC (.int 3)))) (dC (.int 2147483629))) (dC (.int 8))) (dVar 1))))))) Dd ρ S := by
    intro Dd ρ cell k eρ
    subst eρ
    let S1 := sup S p (.lst [.lst (ns.map D.int), .int (i1 + 1), .int i2, .int i3])
    have e1 : S1 p = some (.lst [.lst (ns.map D.int), .int (i1 + 1), .int i2, .int i3]) := sup_same
    have rest : (dSeq (dSet 3 (dOp oMod (dVar 3) (dC (.int 2305843009213693951)))) (dSeq (dAsg (dOp oMod (dOp oAdd (dOp oAdd (dOp oMul (dOp oIx (dVar 0) (dC (.int 3))) (dC (.int 48271))) (dOp oMul (dVar 3) (dC (.int 69621)))) (dOp oIx (dVar 0) (dC (.int 1)))) (dC (.int 2305843009213693951))) (dgSub (dVar 0) (dC (.int 3)))) (dRet (dOp oMod (dOp oFdiv (dOp oMod (dOp oMul (dOp oIx (dVar 0) (dC (.int 3))) (dOp oIx (dVar 0) (dC (.int 3)))) (dC (.int 2147483629))) (dC (.int 8))) (dVar 1))))) Dd [some (.ref p), some (.int b), none, some (.int cell)] S1 := by
      walk_at "dl"
      refine ⟨by decide, _, _, e1, rfl, ?_⟩
      walk_at "dl"
      refine ⟨.inr (by decide), .inr (by decide), _, _, e1, rfl, ?_⟩
      walk_at "dl"
      have m0 : (0 : Int) < 2305843009213693951 := by decide
      refine ⟨m0, _, _, e1, rfl, _, _, sup_same, rfl, _, _, sup_same, rfl, ?_⟩
      walk_at "dl"
      refine ⟨.inl ?_, by decide, ⟨by decide, by decide⟩, b0, ?_⟩
      · have z1 := Int.emod_nonneg (i3 * 48271 + cell % 2305843009213693951 * 69621 + (i1 + 1)) (b := 2305843009213693951) (by decide)
        have z2 := Int.emod_lt_of_pos (i3 * 48271 + cell % 2305843009213693951 * 69621 + (i1 + 1)) m0
        constructor <;> omega
      · rw [sup_sup]
        refine k _ _ (Int.emod_nonneg _ (by omega)) (Int.emod_lt_of_pos _ b0) ⟨_, _, _, sup_same, by omega, Int.emod_nonneg _ (by decide), Int.emod_lt_of_pos _ m0⟩ Mv.sup
    exact mid _ _ _ cell rest k rfl
  rw [dSeq, dIf]
  simp only [dB, dOp, dVar, dC, dstart, List.map_cons, List.map_nil, List.length_cons, List.length_nil, List.replicate, List.cons_append, List.nil_append, List.getElem?_cons_zero, Nat.reduceAdd, Nat.reduceSub, oIx]
  refine ⟨_, _, e, rfl, ?_⟩
  simp only [oI0]
  refine ⟨fun c => ?_, fun c => ?_⟩
  · walk_at "dl"
    refine ⟨_, _, e, rfl, ?_⟩
    walk_at "dl"
    refine ⟨b0, _, _, e, rfl, ?_⟩
    walk_at "dl"
    refine ⟨⟨b0, b1⟩, _, _, e, rfl, fin_same (q _ _ (Int.emod_nonneg _ (by omega)) (Int.emod_lt_of_pos _ b0) ⟨_, _, _, sup_same, h1, h3, h4⟩ Mv.sup)⟩
  · simp only [dNext]
    refine first _ _ _ (fun cell => ?_) rfl
    exact last _ _ cell (fun r S' z1 z2 z3 z4 => fin_same (q r S' z1 z2 z3 z4)) rfl
end Lw

namespace Lw
open PySem PySem.Spec PyProof.Rows L2 DL TL
local macro_rules | `(tactic| walk_at "dl") => `(tactic| simp only [dSeq, dIf, dRet, dRetN, dNext, dVar, dC, dOp, dCB, dCall, dArgs, dBM, dB, dNot, dAnd, dOr, dAndV, dOrV, dNotV, dIfE, dChain, dSet, dExpr, dAsg, dTup, dLst, dLstM, dstart, dLc, dLcM, dItStr, dItTup, dItLst, dgName, dwipe, dSl, dPart, dNoP, dFld, dFldA, dFldS, dMake, dRaise1, dBreak, dgSub, oIx, dNeg, dRng1, oJoin, oTuple, oI0, oI, oEqS, oLen, chkStr, chkLst, List.map_cons, List.map_nil, List.length_cons, List.length_nil, List.replicate, List.cons_append, List.nil_append, List.append_nil, List.getElem?_cons_zero, List.getElem?_cons_succ, List.set_cons_zero, List.set_cons_succ, Nat.reduceAdd, Nat.reduceSub, Nat.zero_add, true_implies, false_implies, Bool.true_eq_false, Bool.false_eq_true, eq_self, and_true, true_and, implies_true, Bool.not_true, Bool.not_false, Bool.true_bne, Bool.false_bne, decide_true, decide_false, Int.reducePow, Int.reduceToNat, Int.reduceAdd, Int.reduceNeg, Int.reduceMul, Int.reduceSub])
variable {P : Program} {w : World} {K : PySem.W.Frag} {mg : Str → Option Value} {base : Heap} {a : Ad}
theorem ok__law_number (G : Gs K mg a) {kt : Nat} (ct : Cal P w K mg base "_law_take" kt (sp__law_take a)) {f : Addr} {fd : FuncData} (I : Ins K mg "_law_number" s__law_number ["_law_state"] f fd) : Cal P w K mg base "_law_number" (kt + 1) (sp__law_number a) := by
  refine I.cal (dfn_ok I.F sc__law_number (fun ds S Q E h => by obtain ⟨p, ns, rfl, _⟩ := h; rfl) fun cdv A fr s H S E ds Qd Wd hr gd tk po h => ?_)
  obtain ⟨p, ns, rfl, st, q⟩ := h
  refine ⟨_, tm__law_number G ct (Nat.le_refl _) hr gd tk po, ?_⟩
  unfold rd__law_number
  walk_at "dl"
  refine ⟨p, ns, 4, rfl, st, by decide, by decide, fun r1 S1 z1 z2 st1 m1 => ⟨⟨by decide, by decide, by decide⟩, p, ns, 8, rfl, st1, by decide, by decide, fun r2 S2 z3 z4 st2 m2 => ?_⟩⟩
  obtain ⟨d, e1, i, rfl, h0, h1⟩ := at_ok (l := [D.int 0, .int 1, .int 9, .int 10, .int 99, .int 100, .int 999999999, .int 1000000000]) (P := fun d => ∃ i : Int, d = .int i ∧ 0 ≤ i ∧ i ≤ 1000000000) (fun x hx => by
    simp only [List.mem_cons, List.not_mem_nil, or_false] at hx
    rcases hx with rfl | rfl | rfl | rfl | rfl | rfl | rfl | rfl <;> exact ⟨_, rfl, by decide, by decide⟩) z3 z4
  refine ⟨_, e1, p, ns, 40, rfl, st2, by decide, by decide, fun r3 S3 z5 z6 st3 m3 => ⟨p, ns, 31627, rfl, st3, by decide, by decide, fun r4 S4 z7 z8 st4 m4 => ?_⟩⟩
  refine ⟨.inr (by decide), p, ns, 31627, rfl, st4, by decide, by decide, fun r5 S5 z9 z10 st5 m5 => ?_⟩
  walk_at "dl"
  refine ⟨⟨by decide, by decide, by decide⟩, by decide, ?_⟩
  have b1 := Int.emod_nonneg (r4 * 31627 + r5) (b := 1000000001) (by decide)
  have b2 := Int.emod_lt_of_pos (r4 * 31627 + r5) (b := 1000000001) (by decide)
  obtain ⟨d, e2, i, rfl, h2, h3⟩ := at_ok (l := [.int i, .int r3, .int ((r4 * 31627 + r5) % 1000000001), .int ((r4 * 31627 + r5) % 1000000001)]) (P := fun d => ∃ i : Int, d = .int i ∧ 0 ≤ i ∧ i ≤ 1000000000) (fun x hx => by
    simp only [List.mem_cons, List.not_mem_nil, or_false] at hx
    rcases hx with rfl | rfl | rfl | rfl
    · exact ⟨_, rfl, h0, h1⟩
    · exact ⟨_, rfl, z5, by omega⟩
    · exact ⟨_, rfl, b1, by omega⟩
    · exact ⟨_, rfl, b1, by omega⟩) z1 z2
  exact ⟨_, e2, fin_same (q _ _ h2 h3 st5 ((((m1.trans m2).trans m3).trans m4).trans m5))⟩
theorem lets_of : ∀ {l : List D}, (∀ y ∈ l, ∃ c, isLet c = true ∧ y = D.str ⟨#[c]⟩) → ∃ cs : List Nat, l = (cs.map fun c => (⟨#[c]⟩ : Str)).map D.str ∧ ∀ c ∈ cs, isLet c = true
  | [], _ => ⟨[], rfl, fun c h => by simp at h⟩
  | y :: l, h => by
    obtain ⟨cs, rfl, hc⟩ := lets_of fun z hz => h z (List.mem_cons_of_mem _ hz)
    obtain ⟨c, h1, rfl⟩ := h y List.mem_cons_self
    refine ⟨c :: cs, rfl, fun d hd => ?_⟩
    rcases List.mem_cons.mp hd with rfl | hd
    · exact h1
    · exact hc d hd
theorem joinL_ones : ∀ cs : List Nat, joinL [] (cs.map fun c => [c]) = cs
  | [] => rfl
  | [c] => rfl
  | c :: d :: cs => by
    have := joinL_ones (d :: cs)
    simp only [List.map_cons] at this
    simp only [List.map_cons, joinL, this, List.nil_append, List.cons_append]
theorem join_ones (cs : List Nat) : Txt.join (Str.ofString "") (cs.map fun c => (⟨#[c]⟩ : Str)) = ofL cs := by
  refine ext_tl ?_
  rw [join_eq, tl_join, tl_ofL, List.map_map]
  exact joinL_ones cs
theorem sum_ones (cs : List Nat) : ((cs.map fun c => (⟨#[c]⟩ : Str)).map (·.length)).sum = cs.length := by
  induction cs with
  | nil => rfl
  | cons c cs ih => simp only [List.map_cons, List.sum_cons, ih, List.length_cons]; show 1 + _ = _; omega
theorem ok__law_word (G : Gs K mg a) {kt : Nat} (ct : Cal P w K mg base "_law_take" kt (sp__law_take a)) {f : Addr} {fd : FuncData} (I : Ins K mg "_law_word" s__law_word ["_law_state"] f fd) : Cal P w K mg base "_law_word" (kt + 1) (sp__law_word a) := by
  refine I.cal (dfn_ok I.F sc__law_word (fun ds S Q E h => by obtain ⟨p, ns, rfl, _⟩ := h; rfl) fun cdv A fr s H S E ds Qd Wd hr gd tk po h => ?_)
  obtain ⟨p, ns, rfl, st, q⟩ := h
  refine ⟨_, tm__law_word G ct (Nat.le_refl _) hr gd tk po, ?_⟩
  unfold rd__law_word
  walk_at "dl"
  refine ⟨p, ns, 8, rfl, st, by decide, by decide, fun r1 S1 z1 z2 st1 m1 => ?_⟩
  walk_at "dl"
  refine ⟨p, ns, 4, rfl, st1, by decide, by decide, fun r2 S2 z3 z4 st2 m2 => ?_⟩
  obtain ⟨d, e1, i, rfl, h0, h1⟩ := at_ok (l := [D.int 1, .int 2, .int 8, .int (1 + r1)]) (P := fun d => ∃ i : Int, d = .int i ∧ 1 ≤ i ∧ i ≤ 8) (fun x hx => by
    simp only [List.mem_cons, List.not_mem_nil, or_false] at hx
    rcases hx with rfl | rfl | rfl | rfl
    · exact ⟨_, rfl, by decide, by decide⟩
    · exact ⟨_, rfl, by decide, by decide⟩
    · exact ⟨_, rfl, by decide, by decide⟩
    · exact ⟨_, rfl, by omega, by omega⟩) z3 z4
  refine ⟨_, e1, by omega, by omega, fun pl hpl => ?_⟩
  have ne := st2.ne hpl
  refine lc_st (fun S' => St p ns S' ∧ Mv p S2 S') (fun y => ∃ c, isLet c = true ∧ y = D.str ⟨#[c]⟩) _ ⟨st2, Mv.refl⟩ hpl (fun x _ S3 o Q' ⟨st3, m3⟩ hq k => ?_) (fun ys S3 ⟨st3, m3⟩ _ hl hy => ?_)
  · walk_at "dl"
    refine ⟨p, ns, 26, rfl, st3.sup hq, by decide, by decide, fun r S4 y1 y2 st4 m4 => ?_⟩
    obtain ⟨g1, g2, g3⟩ := st_back st3 m3 hq st4 m4
    have hl : (tl letters).length = 26 := by rw [letters_tl]; rfl
    have hr : r.toNat < (tl letters).length := by omega
    refine ⟨(tl letters)[r.toNat], ?_, k _ _ g1 ⟨g2, g3⟩ ⟨_, ?_, rfl⟩⟩
    · show atI (tl letters) r = _
      unfold atI ixN
      rw [if_pos y1, if_pos (by rw [hl]; exact y2)]
      simp [hr]
    · rw [← mem_letters]; exact decide_eq_true (List.getElem_mem hr)
  · obtain ⟨cs, rfl, hc⟩ := lets_of hy
    simp only [List.length_map, List.length_range] at hl
    have sl := sizeL
    refine ⟨_, rfl, ?_, ?_, fin_same (q _ _ ?_ st3 ((m1.trans m2).trans m3))⟩
    · rw [sum_ones, List.length_map]
      show cs.length + cs.length * 0 ≤ _
      omega
    · rw [join_ones, len_ofL]; omega
    · rw [join_ones]
      simp only [wordB, Bool.and_eq_true, decide_eq_true_eq, List.all_eq_true, tl_ofL, len_ofL]
      exact ⟨⟨by omega, by omega⟩, hc⟩
theorem wts_le {m : Nat} : ∀ {l : List D}, (∀ x ∈ l, wt x ≤ m) → wts l ≤ l.length * (m + 3)
  | [], _ => Nat.zero_le _
  | d :: l, h => by
    have h1 := h d List.mem_cons_self
    have h2 := wts_le fun x hx => h x (List.mem_cons_of_mem _ hx)
    simp only [wts, List.length_cons, Nat.add_mul, Nat.one_mul]
    omega
theorem wtT_ge : ∀ n, 110 ≤ wtT n
  | 0 => Nat.le_refl _
  | n + 1 => by have := wtT_ge n; simp only [wtT]; omega
theorem leaf_wt {d : D} (h : leafB d = true) : wt d ≤ 110 := by
  rcases leaf_cases h with ⟨x, rfl, hx⟩ | ⟨i, rfl, _⟩
  · simp only [wordB, Bool.and_eq_true, decide_eq_true_eq] at hx
    simp only [wt]; omega
  · simp only [wt]; omega
theorem leaf_thing {n : Nat} {d : D} (h : leafB d = true) : thingW n d = true := thingW_mono (Nat.zero_le n) (show thingW 0 d = true from h)
theorem ok__law_tree (G : Gs K mg a) {kt kw kn : Nat} (ct : Cal P w K mg base "_law_take" kt (sp__law_take a)) (cw : Cal P w K mg base "_law_word" kw (sp__law_word a)) (cn : Cal P w K mg base "_law_number" kn (sp__law_number a)) {f : Addr} {fd : FuncData} (I : Ins K mg "_law_tree" s__law_tree ["_law_state", "_law_left"] f fd) :
    ∀ n, Cal P w K mg base "_law_tree" (kt + kw + kn + 1 + n) (spn__law_tree n) := by
  have main : ∀ n (r : DSp) k, kt + kw + kn ≤ k → Cal P w K mg base "_law_tree" k r → (∀ m, m + 1 = n → ∀ ds S Q E, spn__law_tree m ds S Q E → r ds S Q E) → Cal P w K mg base "_law_tree" (k + 1) (spn__law_tree n) := by
    intro n r k hk cr hrec
    refine I.cal (dfn_ok I.F sc__law_tree (fun ds S Q E h => by obtain ⟨p, ns, m, rfl, _⟩ := h; rfl) fun cdv A fr s H S E ds Qd Wd hr gd tk po h => ?_)
    obtain ⟨p, ns, m, rfl, hm, st, q⟩ := h
    refine ⟨_, tm__law_tree G ct (by omega) cw (by omega) cn (by omega) cr (Nat.le_refl _) hr gd tk po, ?_⟩
    unfold rd__law_tree
    walk_at "dl"
    refine ⟨p, ns, 5, rfl, st, by decide, by decide, fun r1 S1 z1 z2 st1 m1 => ?_⟩
    walk_at "dl"
    have leaf : ∀ d S', leafB d = true → St p ns S' → Mv p S S' → fin Qd d S' := fun d S' h h2 h3 => fin_same (q d S' (leaf_thing h) (Nat.le_trans (leaf_wt h) (wtT_ge m)) h2 h3)
    have num : (sp__law_number a) [D.ref p] S1 (fin Qd) (fun cls fl S' => finX Wd cls fl [some (D.ref p), some (D.int (m : Nat)), some (D.int r1), none] S') := by
      refine ⟨p, ns, rfl, st1, fun i S' y1 y2 y3 y4 => leaf _ _ ?_ y3 (m1.trans y4)⟩
      simp only [leafB, wordD, colourB, Bool.false_or, decide_eq_true_eq]
      exact ⟨y1, y2⟩
    refine ⟨fun _ => ⟨p, ns, rfl, st1, fun x S' y1 y2 y3 => leaf _ _ ?_ y2 (m1.trans y3)⟩, fun _ => ⟨fun _ => num, fun _ => ⟨fun _ => num, fun c => ?_⟩⟩⟩
    · simp only [leafB, wordD, y1, Bool.true_or]
    · have c' := of_decide_eq_false c
      obtain ⟨m', rfl⟩ : ∃ m', m = m' + 1 := ⟨m - 1, by omega⟩
      obtain ⟨n', rfl⟩ : ∃ n', n = n' + 1 := ⟨n - 1, by omega⟩
      refine ⟨p, ns, 4, rfl, st1, by decide, by decide, fun r2 S2 z3 z4 st2 m2 => ?_⟩
      walk_at "dl"
      refine ⟨by omega, by omega, fun pl hpl => ?_⟩
      refine lc_st (fun S' => St p ns S' ∧ Mv p S2 S') (fun y => thingW m' y = true ∧ wt y ≤ wtT m') _ ⟨st2, Mv.refl⟩ hpl (fun x _ S3 o Q' ⟨st3, m3⟩ hq k => ?_) (fun ys S3 ⟨st3, m3⟩ _ hl hy => ?_)
      · walk_at "dl"
        rw [show ((m' + 1 : Nat) : Int) - 1 = (m' : Nat) by omega]
        refine hrec n' rfl _ _ _ _ ⟨p, ns, m', rfl, by omega, st3.sup hq, fun d S4 y1 y2 st4 m4 => ?_⟩
        obtain ⟨g1, g2, g3⟩ := st_back st3 m3 hq st4 m4
        exact k _ _ g1 ⟨g2, g3⟩ ⟨y1, y2⟩
      · refine fin_same (q _ _ ?_ ?_ st3 ((m1.trans m2).trans m3))
        · simp only [thingW, List.all_eq_true]; exact fun x hx => (hy x hx).1
        · simp only [List.length_map, List.length_range] at hl
          have h1 := wts_le fun x hx => (hy x hx).2
          have h2 : ys.length * (wtT m' + 3) ≤ 3 * (wtT m' + 3) := Nat.mul_le_mul_right _ (by omega)
          simp only [wt, wtT]
          omega
  intro n
  induction n with
  | zero => exact main 0 _ _ (by omega) (I.never.mono (Nat.zero_le _)) (fun m h => by omega)
  | succ n ih => 
    have := main (n + 1) _ _ (by omega) ih fun m h ds S Q E z => by cases h; exact z
    rwa [show kt + kw + kn + 1 + n + 1 = kt + kw + kn + 1 + (n + 1) by omega] at this
def oddB (o : D) : Bool := dat o && decide (wt o ≤ 300) && decide (dp o ≤ 4) && (good true o || good false o)
theorem oddOk {o : D} (h : oddB o = true) : OddOk o := by
  simp only [oddB, Bool.and_eq_true, Bool.or_eq_true, decide_eq_true_eq] at h
  exact ⟨h.1.1.1, h.1.1.2, h.1.2, h.2⟩
end Lw

namespace Lw
open PySem PySem.Spec PyProof.Rows L2 DL TL
local macro_rules | `(tactic| walk_at "dl") => `(tactic| simp only [dSeq, dIf, dRet, dRetN, dNext, dVar, dC, dOp, dCB, dCall, dArgs, dBM, dB, dNot, dAnd, dOr, dAndV, dOrV, dNotV, dIfE, dChain, dSet, dExpr, dAsg, dTup, dLst, dLstM, dstart, dLc, dLcM, dItStr, dItTup, dItLst, dgName, dwipe, dSl, dFor, dPart, dNoP, dFld, dFldA, dFldS, dMake, dRaise1, dBreak, dgSub, oIx, dNeg, dRng1, oJoin, oTuple, oI0, oI, oEqS, oLen, chkStr, chkLst, List.map_cons, List.map_nil, List.length_cons, List.length_nil, List.replicate, List.cons_append, List.nil_append, List.append_nil, List.getElem?_cons_zero, List.getElem?_cons_succ, List.set_cons_zero, List.set_cons_succ, Nat.reduceAdd, Nat.reduceSub, Nat.zero_add, true_implies, false_implies, Bool.true_eq_false, Bool.false_eq_true, eq_self, and_true, true_and, implies_true, Bool.not_true, Bool.not_false, Bool.true_bne, Bool.false_bne, decide_true, decide_false, Int.reducePow, Int.reduceToNat, Int.reduceAdd, Int.reduceNeg, Int.reduceMul, Int.reduceSub])
variable {P : Program} {w : World} {K : PySem.W.Frag} {mg : Str → Option Value} {base : Heap} {a : Ad}
/-- r: d wrapped j times -/
theorem has_letters (c : Nat) : letters.cps.contains c = isLet c := by
  rw [← mem_letters]
  show letters.cps.contains c = decide (c ∈ letters.cps.toList)
  rw [Bool.eq_iff_iff, decide_eq_true_eq, Array.contains_iff_mem, Array.mem_toList_iff]
theorem getD_tl (x : Str) {k : Nat} (h : k < (tl x).length) : x.cps.getD k 0 = (tl x)[k] := by
  rw [← getD_list]
  show (tl x).getD k 0 = _
  rw [List.getD_eq_getElem?_getD, List.getElem?_eq_getElem h]
  rfl
theorem strip_letters (x : Str) : decide (Txt.stripChars x letters = Str.ofString "") = (tl x).all isLet := by
  have he : ∀ z : Str, z = Str.ofString "" ↔ tl z = [] := fun z => ⟨fun h => by rw [h]; rfl, fun h => ext_tl (h.trans rfl)⟩
  rw [Bool.eq_iff_iff, decide_eq_true_eq, he, List.all_eq_true]
  unfold Txt.stripChars
  rw [stripBy_eq, tl_strSub]
  obtain ⟨l1, l2, l3⟩ := lo_facts letters.cps.contains x
  obtain ⟨h1, h2, h3, h4⟩ := hi_facts letters.cps.contains x _ l1
  generalize stripLo letters.cps.contains true x = lo at *
  generalize stripHi letters.cps.contains true x lo = hi at *
  have lx : x.length = (tl x).length := len_tl x
  rw [lx] at l1 l3 h2 h3
  constructor
  · intro h c hc
    have hz : ((tl x).drop lo).take (hi - lo) = [] := h
    have hlen := congrArg List.length hz
    rw [List.length_take, List.length_drop, List.length_nil] at hlen
    obtain ⟨k, hk, rfl⟩ := List.getElem_of_mem hc
    rw [← getD_tl x hk, ← has_letters]
    by_cases hkl : k < lo
    · exact l2 k hkl
    · exact h3 k (by omega) hk
  · intro h
    have hlo : lo = (tl x).length := by
      rcases l3 with e | e
      · exact e
      · by_cases hk : lo < (tl x).length
        · rw [getD_tl x hk, has_letters, h _ (List.getElem_mem hk)] at e; cases e
        · omega
    rw [hlo, List.drop_length, List.take_nil]
theorem ok__law_is_thing (G : Gs K mg a) {f : Addr} {fd : FuncData} (I : Ins K mg "_law_is_thing" s__law_is_thing ["_law_thing", "_law_left"] f fd) :
    ∀ n, Cal P w K mg base "_law_is_thing" (1 + n) (spn__law_is_thing n) := by
  have main : ∀ n (r : DSp) k, Cal P w K mg base "_law_is_thing" k r → (∀ m, m + 1 = n → ∀ ds S Q E, spn__law_is_thing m ds S Q E → r ds S Q E) → Cal P w K mg base "_law_is_thing" (k + 1) (spn__law_is_thing n) := by
    intro n r k cr hrec
    refine I.cal (dfn_ok I.F sc__law_is_thing (fun ds S Q E h => by obtain ⟨d, m, rfl, _⟩ := h; rfl) fun cdv A fr s H S E ds Qd Wd hr gd tk po h => ?_)
    obtain ⟨d, m, rfl, hm, hd, q⟩ := h
    refine ⟨_, tm__law_is_thing G cr (Nat.le_refl _) hr gd tk po, ?_⟩
    unfold rd__law_is_thing
    walk_at "dl"
    refine isi_tup hd ?_
    cases ht : isTupB d with
    | true =>
      cases d <;> try (cases ht; done)
      rename_i l
      walk_at "dl"
      simp only [dat] at hd
      have loop : ∀ (xs : List D) (x2 : Option D) (g : DGt) (tb : DTs) (Dd : DEnds), (∀ x ∈ xs, dat x = true) → g = dgName 2 →
          tb = (dIf (dOr (dB (dOp (oEqS false) (dVar 1) (dC (.int 0)))) (dNot (dB (dCall (r) (finX Wd) [] [(dVar 2), (dOp oSub (dVar 1) (dC (.int 1)))])))) (dRet (dC (.bl false))) dNext) →
          (∀ x2, (m = 0 → xs = []) → (∀ m', m = m' + 1 → xs.all (thingW m') = true) → Dd.nx [some (.tup l), some (.int (m : Nat)), x2] S) →
          ((m = 0 ∧ xs ≠ []) ∨ (∃ m', m = m' + 1 ∧ xs.all (thingW m') = false) → Dd.rt (.bl false) S) → dLoop g tb xs Dd [some (.tup l), some (.int (m : Nat)), x2] S := by
        intro xs
        induction xs with
        | nil => intro x2 g tb Dd _ _ _ k1 _; exact k1 x2 (fun _ => rfl) (fun _ _ => rfl)
        | cons x xs ih =>
          intro x2 g tb Dd hx eg et k1 k2
          unfold dLoop
          rw [eg, et]
          walk_at "dl"
          refine ⟨fun c => k2 (.inl ⟨by have := of_decide_eq_true c; omega, by simp⟩), fun c => ?_⟩
          have c' := of_decide_eq_false c
          obtain ⟨m', rfl⟩ : ∃ m', m = m' + 1 := ⟨m - 1, by omega⟩
          obtain ⟨n', rfl⟩ : ∃ n', n = n' + 1 := ⟨n - 1, by omega⟩
          rw [show ((m' + 1 : Nat) : Int) - 1 = (m' : Nat) by omega]
          refine hrec n' rfl _ _ _ _ ⟨x, m', rfl, by omega, hx x List.mem_cons_self, ?_⟩
          walk_at "dl"
          refine ⟨fun c => k2 (.inr ⟨m', rfl, ?_⟩), fun c => ?_⟩
          · rw [List.all_cons]
            have : thingW m' x = false := by simpa using c
            rw [this]; rfl
          · have hx1 : thingW m' x = true := by simpa using c
            refine ih _ _ _ _ (fun y hy => hx y (List.mem_cons_of_mem _ hy)) rfl rfl (fun x2 h1 h2 => k1 x2 (fun e => by omega) fun m2 e => ?_) (fun h => k2 ?_)
            · rw [List.all_cons, show m2 = m' by omega, hx1, h2 m' rfl]; rfl
            · rcases h with ⟨e, _⟩ | ⟨m2, e, h⟩
              · omega
              · refine .inr ⟨m', rfl, ?_⟩
                rw [List.all_cons, hx1, Bool.true_and]
                rw [show m' = m2 by omega]; exact h
      refine loop l none _ _ _ (fun x hx => dats_mem hd hx) rfl rfl (fun x2 h1 h2 => ?_) (fun h => fin_same ?_)
      · walk_at "dl"
        refine fin_same ?_
        cases m with
        | zero => exact q
        | succ m =>
          rw [decide_eq_true (by omega)]
          have : thingW (m + 1) (.tup l) = true := h2 m rfl
          rw [this] at q; exact q
      · rcases h with ⟨rfl, _⟩ | ⟨m', rfl, h⟩
        · exact q
        · have : thingW (m' + 1) (.tup l) = false := h
          rw [this] at q; exact q
    | false =>
      rw [thingW_ntup ht] at q
      walk_at "dl"
      refine isi_str hd ?_
      cases d with
      | str x =>
        simp only [isStrB]
        walk_at "dl"
        simp only [leafB, wordD, colourB, Bool.or_false, wordB] at q
        have big : decide (1 ≤ x.length ∧ x.length ≤ 8) = false → fin Qd (.bl false) S := fun e => by
          rw [e] at q; exact fin_same q
        refine ⟨fun h1 => ⟨fun h2 => ?_, fun h2 => ?_⟩, fun h1 => ?_⟩
        · have h1' := of_decide_eq_true h1
          have h2' := of_decide_eq_true h2
          have e : decide (1 ≤ x.length ∧ x.length ≤ 8) = true := decide_eq_true (by omega)
          rw [e, Bool.true_and] at q
          simp only [oStrip]
          have sl := sizeL
          refine ⟨by have := len_stripChars x letters; show (Txt.stripChars x letters).length ≤ _; omega, ?_⟩
          refine fin_same ?_
          rw [show Txt.stripChars x (Str.ofString "abcdefghijklmnopqrstuvwxyz") = Txt.stripChars x letters from rfl]
          rw [strip_letters]; exact q
        · refine big (decide_eq_false ?_)
          have := of_decide_eq_false h2
          omega
        · refine big (decide_eq_false ?_)
          have := of_decide_eq_false h1
          omega
      | int i =>
        simp only [isStrB]
        walk_at "dl"
        refine isi_int hd ?_
        simp only [isIntB]
        walk_at "dl"
        refine isi_bool hd ?_
        simp only [isBoolB]
        walk_at "dl"
        simp only [leafB, wordD, colourB, Bool.false_or] at q
        refine ⟨fun h1 => ⟨⟨by decide, by decide, by decide⟩, ?_⟩, fun h1 => ?_⟩
        · have h1' := of_decide_eq_true h1
          simp only [h1', true_and] at q
          exact fin_same q
        · have h1' := of_decide_eq_false h1
          simp only [h1', false_and, decide_false] at q
          exact fin_same q
      | tup l => cases ht
      | bl b =>
        simp only [isStrB]
        walk_at "dl"
        refine isi_int hd ?_
        simp only [isIntB]
        walk_at "dl"
        refine isi_bool hd ?_
        simp only [isBoolB]
        walk_at "dl"
        exact fin_same q
      | _ =>
        simp only [isStrB]
        walk_at "dl"
        refine isi_int hd ?_
        simp only [isIntB]
        walk_at "dl"
        exact fin_same q
  intro n
  induction n with
  | zero => exact main 0 _ _ (I.never.mono (Nat.zero_le _)) (fun m h => by omega)
  | succ n ih =>
    have := main (n + 1) _ _ ih fun m h ds S Q E z => by cases h; exact z
    rwa [show 1 + n + 1 = 1 + (n + 1) by omega] at this
end Lw

namespace Lw
open PySem PySem.Spec PyProof.Rows L2 DL TL
local macro_rules | `(tactic| walk_at "dl") => `(tactic| simp only [dSeq, dIf, dRet, dRetN, dNext, dVar, dC, dOp, dCB, dCall, dArgs, dBM, dB, dNot, dAnd, dOr, dAndV, dOrV, dNotV, dIfE, dChain, dSet, dExpr, dAsg, dTup, dLst, dLstM, dstart, dLc, dLcM, dItStr, dItTup, dItLst, dgName, dwipe, dSl, dFor, dZip, dTryAs, wTry, dPart, dNoP, dFld, dFldA, dFldS, dMake, dRaise1, dBreak, dgSub, oIx, dNeg, dRng1, oJoin, oTuple, oI0, oI, oEqS, oLen, chkStr, chkLst, List.map_cons, List.map_nil, List.length_cons, List.length_nil, List.replicate, List.cons_append, List.nil_append, List.append_nil, List.getElem?_cons_zero, List.getElem?_cons_succ, List.set_cons_zero, List.set_cons_succ, Nat.reduceAdd, Nat.reduceSub, Nat.zero_add, true_implies, false_implies, Bool.true_eq_false, Bool.false_eq_true, eq_self, and_true, true_and, implies_true, Bool.not_true, Bool.not_false, Bool.true_bne, Bool.false_bne, decide_true, decide_false, Int.reducePow, Int.reduceToNat, Int.reduceAdd, Int.reduceNeg, Int.reduceMul, Int.reduceSub])
variable {P : Program} {w : World} {K : PySem.W.Frag} {mg : Str → Option Value} {base : Heap} {a : Ad}
theorem txt_mem {x : D} : ∀ {l : List D}, x ∈ l → (txt x).length ≤ (txts l).length
  | [], h => by simp at h
  | [d], h => by simp only [List.mem_singleton] at h; subst h; simp only [txts]; omega
  | d :: e :: l, h => by
    have e1 : txts (d :: e :: l) = txt d ++ 32 :: txts (e :: l) := by conv => lhs; unfold txts
    rw [e1, List.length_append, List.length_cons]
    rcases List.mem_cons.mp h with rfl | h
    · omega
    · have := txt_mem h; omega
theorem sum_txts : ∀ l : List D, ((l.map textD).map (·.length)).sum ≤ (txts l).length
  | [] => Nat.le_refl _
  | [d] => by
    have : (textD d).length = (txt d).length := len_ofL _
    simp only [List.map_cons, List.map_nil, List.sum_cons, List.sum_nil, txts]; omega
  | d :: e :: l => by
    have e1 : txts (d :: e :: l) = txt d ++ 32 :: txts (e :: l) := by conv => lhs; unfold txts
    have ih := sum_txts (e :: l)
    have : (textD d).length = (txt d).length := len_ofL _
    rw [e1, List.length_append, List.length_cons]
    rw [List.map_cons, List.map_cons, List.sum_cons]
    omega
theorem txts_many : ∀ l : List D, l.length ≤ (txts l).length + 1
  | [] => Nat.zero_le _
  | [d] => by simp
  | d :: e :: l => by
    have e1 : txts (d :: e :: l) = txt d ++ 32 :: txts (e :: l) := by conv => lhs; unfold txts
    have ih := txts_many (e :: l)
    rw [e1, List.length_append, List.length_cons]
    simp only [List.length_cons] at ih ⊢
    omega
theorem oJoin_thingsT {l : List D} (hw : (txts l).length ≤ 1000000) {S : DS} {Q : DQ} (q : Q (.str (ofL (txts l))) S) : oJoin (.str (Str.ofString " ")) [.lst (l.map fun x => .str (textD x))] S Q := by
  have e : (Txt.join (Str.ofString " ") (l.map textD)) = ofL (txts l) := joined l
  have h1 := sum_txts l
  have h2 := txts_many l
  have := sizeL
  refine ⟨l.map textD, by rw [List.map_map]; rfl, ?_, ?_, ?_⟩
  · have e1 : (Str.ofString " ").length = 1 := rfl
    rw [e1, List.length_map]
    omega
  · rw [e, len_ofL]; omega
  · rw [e]; exact q
theorem ok__law_text (G : Gs K mg a) {f : Addr} {fd : FuncData} (I : Ins K mg "_law_text" s__law_text ["_law_thing"] f fd) : ∀ n, Cal P w K mg base "_law_text" (1 + n) (spn__law_text n) := by
  have main : ∀ n (r : DSp) k, Cal P w K mg base "_law_text" k r → (∀ m d S Q E, m + 1 ≤ n → thingW m d = true → (txt d).length ≤ 1000000 → Q (.str (textD d)) S → r [d] S Q E) → Cal P w K mg base "_law_text" (k + 1) (spn__law_text n) := by
    intro n r k cr hrec
    refine I.cal (dfn_ok I.F sc__law_text (fun ds S Q E h => by obtain ⟨d, rfl, _⟩ := h; rfl) fun cdv A fr s H S E ds Qd Wd hr gd tk po h => ?_)
    obtain ⟨d, rfl, hd, hw, q⟩ := h
    refine ⟨_, tm__law_text G cr (Nat.le_refl _) hr gd tk po, ?_⟩
    unfold rd__law_text
    simp only [dSeq, dIf, dRet, dNext, dVar, dC, dOp, dCB, dCall, dArgs, dBM, dB, dstart, List.map_cons, List.map_nil, List.length_cons, List.length_nil, List.replicate, List.cons_append, List.nil_append, List.append_nil, List.getElem?_cons_zero, List.getElem?_cons_succ, List.set_cons_zero, List.set_cons_succ, Nat.reduceAdd, Nat.reduceSub, Nat.zero_add]
    refine isi_tup (thing_dat hd) ?_
    rcases thing_leaf hd with ⟨l, rfl⟩ | hl
    · simp only [isTupB]
      simp only [dLc, dItTup, dVar, dwipe, dgName, true_implies, false_implies, Bool.true_eq_false, Bool.false_eq_true, eq_self, and_true, true_and, implies_true, chkStr, List.getElem?_cons_zero, List.set_cons_succ, List.set_cons_zero]
      cases n with
      | zero => simp [thingW, leafB, wordD, colourB] at hd
      | succ n =>
        have hh := hd
        simp only [thingW, List.all_eq_true] at hd
        simp only [txt, List.length_cons, List.length_append, List.length_nil] at hw
        intro p hp
        have da := thing_dat hh
        simp only [dat] at da
        have := sizeL
        refine lc_map1 (fun x => .str (textD x)) l hp (fun x hx S' Q' q' => ?_) ?_
        · walk_at "dl"
          exact hrec n x _ _ _ (Nat.le_refl _) (hd x hx) (by have := txt_mem hx; omega) q'
        · refine oJoin_thingsT (by omega) ?_
          have e1 : (Str.ofString "(").length = 1 := rfl
          have e2 : (Str.ofString ")").length = 1 := rfl
          refine ⟨by rw [len_ofL, e1]; omega, ?_⟩
          refine ⟨by rw [len_app, len_ofL, e1, e2]; omega, fin_same ?_⟩
          rw [← text_tup]; exact q
    · rcases leaf_cases hl with ⟨x, rfl, hx⟩ | ⟨i, rfl, hi⟩
      · simp only [isTupB]
        walk_at "dl"
        refine isi_str rfl ?_
        simp only [isStrB]
        walk_at "dl"
        refine fin_same ?_
        have : textD (.str x) = x := ext_tl (tl_ofL _)
        rwa [this] at q
      · simp only [isTupB]
        walk_at "dl"
        refine isi_str rfl ?_
        simp only [isStrB]
        walk_at "dl"
        exact oStrI_num hi (fin_same q)
  intro n
  induction n with
  | zero => exact main 0 (fun _ _ _ _ => False) _ I.never (fun m d S Q E h => by omega)
  | succ n ih =>
    have := main (n + 1) _ _ ih fun m d S Q E h hd hw q => ⟨d, rfl, thingW_mono (by omega) hd, hw, q⟩
    rwa [show 1 + n + 1 = 1 + (n + 1) by omega] at this
end Lw

namespace Lw
open PySem PySem.Spec PyProof.Rows L2 DL TL
theorem runs_append : ∀ (a b : List Nat) (s : Ms), runs s (a ++ b) = (runs s a).bind fun s' => runs s' b
  | [], b, s => rfl
  | c :: a, b, s => by
    simp only [List.cons_append, runs]
    cases step s c with
    | none => rfl
    | some s' => simp only [Option.bind_some]; exact runs_append a b s'
theorem runs_to {a b : List Nat} {s s1 : Ms} (h : runs s a = some s1) : runs s (a ++ b) = runs s1 b := by rw [runs_append, h]; rfl
theorem stopAt_runs : ∀ (a b : List Nat) (s s1 : Ms) (k : Nat), runs s a = some s1 → stopAt s k (a ++ b) = stopAt s1 (k + a.length) b
  | [], b, s, s1, k, h => by
    simp only [runs, Option.some.injEq] at h
    subst h; rfl
  | c :: a, b, s, s1, k, h => by
    simp only [runs] at h
    cases e : step s c with
    | none => rw [e] at h; cases h
    | some s' =>
      rw [e] at h
      simp only [List.cons_append, stopAt, e]
      rw [stopAt_runs a b s' s1 (k + 1) h, List.length_cons, show k + 1 + a.length = k + (a.length + 1) by omega]
theorem stopAt_stuck {s : Ms} {l : List Nat} {k : Nat} (h : Stuck s l) : stopAt s k l = some k := by
  cases l with
  | nil => simp only [stopAt]; exact if_pos (show 0 < s.dep ∨ s.last = .need from h)
  | cons c r => simp only [stopAt]; rw [show step s c = none from h]
theorem dig_let {c : Nat} (h : isDig c = true) : isLet c = false := by
  have : 48 ≤ c ∧ c ≤ 57 := of_decide_eq_true h
  exact decide_eq_false (by omega)
theorem let_dig {c : Nat} (h : isLet c = true) : isDig c = false := by
  have : 97 ≤ c ∧ c ≤ 122 := of_decide_eq_true h
  exact decide_eq_false (by omega)
theorem step_dig {s : Ms} {c : Nat} (h : isDig c = true) (hb : begins s = true) : step s c = some ⟨s.dep, c - 48, .num⟩ := by
  unfold step; rw [h, hb]; rfl
theorem step_digm {s : Ms} {c : Nat} (h : isDig c = true) (hm : moreD s c = true) : step s c = some ⟨s.dep, s.many * 10 + (c - 48), .num⟩ := by
  have hb : begins s = false := by
    have : s.last = .num ∧ 0 < s.many ∧ _ := of_decide_eq_true hm
    unfold begins; rw [this.1]; decide
  unfold step; rw [h, hb, hm]; rfl
theorem step_let {s : Ms} {c : Nat} (h : isLet c = true) (hb : (begins s || moreL s) = true) : step s c = some ⟨s.dep, (if s.last = .wrd then s.many else 0) + 1, .wrd⟩ := by
  unfold step; rw [let_dig h, h, hb]; rfl
theorem step_open {s : Ms} (hb : begins s = true) (hd : s.dep < 60) : step s 40 = some ⟨s.dep + 1, s.many, .opn⟩ := by
  unfold step
  rw [show isDig 40 = false from rfl, show isLet 40 = false from rfl, hb, decide_eq_true hd]; rfl
theorem step_close {s : Ms} (he : ends s = true) : step s 41 = some ⟨s.dep - 1, s.many, .clo⟩ := by
  unfold step
  rw [show isDig 41 = false from rfl, show isLet 41 = false from rfl, he]; rfl
theorem step_sp {s : Ms} (he : ends s = true) (ho : s.last ≠ .opn) : step s 32 = some ⟨s.dep, s.many, .need⟩ := by
  unfold step
  rw [show isDig 32 = false from rfl, show isLet 32 = false from rfl, he, decide_eq_true ho]; rfl
/-- what stops a machine where a part may begin -/
theorem step_none {s : Ms} {c : Nat} (h1 : isDig c = false) (h2 : isLet c = false) (h3 : c = 40 → ¬ s.dep < 60) (h4 : c = 41 → ends s = false) (h5 : c = 32 → (ends s && decide (s.last ≠ .opn)) = false) : step s c = none := by
  unfold step
  rw [h1, h2]
  have e3 : (decide (c = 40) && (begins s && decide (s.dep < 60))) = false := by
    by_cases h : c = 40
    · rw [decide_eq_false (h3 h), Bool.and_false, Bool.and_false]
    · rw [decide_eq_false h]; rfl
  have e4 : (decide (c = 41) && ends s) = false := by
    by_cases h : c = 41
    · rw [h4 h, Bool.and_false]
    · rw [decide_eq_false h]; rfl
  have e5 : (decide (c = 32) && (ends s && decide (s.last ≠ .opn))) = false := by
    by_cases h : c = 32
    · rw [h5 h, Bool.and_false]
    · rw [decide_eq_false h]; rfl
  rw [e3, e4, e5]
  rfl
theorem done_none {s : Ms} {c : Nat} {r : List Nat} (h : Done s (c :: r)) (hc : (c = 41 ∨ c = 32) → s.dep = 0) : step s c = none := by
  obtain ⟨h1, h2, h3⟩ := h
  obtain ⟨d1, d2⟩ := h3 c r rfl
  have hb : begins s = false := decide_eq_false (by rintro (e | e); exact h1 e; exact h2 e)
  have he : (c = 41 ∨ c = 32) → ends s = false := fun h => decide_eq_false (by have := hc h; omega)
  unfold step
  rw [hb, Bool.and_false, Bool.false_or, Bool.false_and]
  have e1 : (isDig c && moreD s c) = false := by
    cases e : isDig c with
    | false => rfl
    | true => rw [d1 e]; rfl
  have e2 : (isLet c && moreL s) = false := by
    cases e : isLet c with
    | false => rfl
    | true => rw [d2 e]; rfl
  have e4 : (decide (c = 41) && ends s) = false := by
    by_cases h : c = 41
    · rw [he (.inl h), Bool.and_false]
    · rw [decide_eq_false h]; rfl
  have e5 : (decide (c = 32) && (ends s && decide (s.last ≠ .opn))) = false := by
    by_cases h : c = 32
    · rw [he (.inr h), Bool.false_and, Bool.and_false]
    · rw [decide_eq_false h]; rfl
  rw [e1, e2, e4, e5, Bool.and_false]
  rfl
theorem num_run {s : Ms} (hb : begins s = true) : ∀ v : Nat, v ≤ 1000000000 → runs s (numL v) = some ⟨s.dep, v, .num⟩ := by
  intro v
  induction v using Nat.strongRecOn with
  | ind v ih =>
    intro hv
    by_cases h : v < 10
    · rw [numL_lt h]
      simp only [runs]
      rw [step_dig (decide_eq_true (by omega)) hb]
      simp
    · rw [numL_step (by omega), runs_to (ih (v / 10) (by omega) (by omega))]
      simp only [runs]
      have hd : isDig (48 + v % 10) = true := decide_eq_true (by omega)
      rw [step_digm hd (decide_eq_true ⟨rfl, by simp only; omega, by simp only; omega⟩)]
      simp only [Option.bind_some, Option.some.injEq, Ms.mk.injEq, true_and, and_true]
      omega
theorem word_more {dep : Nat} : ∀ (l : List Nat) (m : Nat), (∀ c ∈ l, isLet c = true) → m + l.length ≤ 8 → runs ⟨dep, m, .wrd⟩ l = some ⟨dep, m + l.length, .wrd⟩
  | [], m, _, _ => rfl
  | c :: l, m, h, hm => by
    simp only [List.length_cons] at hm
    simp only [runs]
    rw [step_let (h c List.mem_cons_self) (by rw [Bool.or_eq_true]; exact .inr (decide_eq_true ⟨rfl, by simp only; omega⟩))]
    simp only [Option.bind_some, if_true, List.length_cons]
    rw [word_more l (m + 1) (fun x hx => h x (List.mem_cons_of_mem _ hx)) (by omega), show m + 1 + l.length = m + (l.length + 1) by omega]
theorem word_run {s : Ms} (hb : begins s = true) : ∀ l : List Nat, l ≠ [] → (∀ c ∈ l, isLet c = true) → l.length ≤ 8 → runs s l = some ⟨s.dep, l.length, .wrd⟩
  | [], h, _, _ => absurd rfl h
  | c :: l, _, h, hm => by
    simp only [List.length_cons] at hm
    have hl : s.last ≠ .wrd := by
      have : s.last = .need ∨ s.last = .opn := of_decide_eq_true hb
      rcases this with e | e <;> rw [e] <;> decide
    simp only [runs]
    rw [step_let (h c List.mem_cons_self) (by rw [hb]; rfl), if_neg hl]
    simp only [Option.bind_some, List.length_cons]
    rw [word_more l (0 + 1) (fun x hx => h x (List.mem_cons_of_mem _ hx)) (by omega), show 0 + 1 + l.length = l.length + 1 by omega]
theorem Beg.b {m : Nat} {s : Ms} (h : Beg m s) : begins s = true := decide_eq_true (h.l.imp id fun z => z.1)
theorem num_done {s : Ms} {v : Nat} {post : List Nat} (hb : begins s = true) (hv : v ≤ 1000000000) (h : ∀ c r, post = c :: r → isDig c = true → ¬ (0 < v ∧ v * 10 + (c - 48) ≤ 1000000000)) : ∃ s', runs s (numL v) = some s' ∧ s'.dep = s.dep ∧ Done s' post :=
  ⟨_, num_run hb v hv, rfl, (by decide : La.num ≠ La.need), (by decide : La.num ≠ La.opn), fun c r e => ⟨fun hd => decide_eq_false fun z => h c r e hd ⟨z.2.1, z.2.2⟩, fun _ => decide_eq_false fun z => by cases z.1⟩⟩
theorem word_done {s : Ms} {l post : List Nat} (hb : begins s = true) (hl : l ≠ []) (al : ∀ c ∈ l, isLet c = true) (h8 : l.length ≤ 8) (h : ∀ c r, post = c :: r → isLet c = true → l.length = 8) : ∃ s', runs s l = some s' ∧ s'.dep = s.dep ∧ Done s' post :=
  ⟨_, word_run hb l hl al h8, rfl, (by decide : La.wrd ≠ La.need), (by decide : La.wrd ≠ La.opn), fun c r e => ⟨fun _ => decide_eq_false fun z => (by cases z.1), fun hc => decide_eq_false fun z => by have := h c r e hc; have := z.2; simp only at this; omega⟩⟩
end Lw

namespace Lw
open PySem PySem.Spec PyProof.Rows L2 DL TL
local macro_rules | `(tactic| walk_at "dl") => `(tactic| simp only [dSeq, dIf, dRet, dRetN, dNext, dVar, dC, dOp, dCB, dCall, dArgs, dBM, dB, dNot, dAnd, dOr, dAndV, dOrV, dNotV, dIfE, dChain, dSet, dExpr, dAsg, dTup, dLst, dLstM, dstart, dLc, dLcM, dItStr, dItTup, dItLst, dgName, dwipe, dSl, dPart, dNoP, dFld, dFldA, dFldS, dMake, dRaise1, dBreak, oI0, oI, oEqS, oLen, chkStr, chkLst, List.map_cons, List.map_nil, List.length_cons, List.length_nil, List.replicate, List.cons_append, List.nil_append, List.append_nil, List.getElem?_cons_zero, List.getElem?_cons_succ, List.set_cons_zero, List.set_cons_succ, Nat.reduceAdd, Nat.reduceSub, Nat.zero_add, true_implies, false_implies, Bool.true_eq_false, Bool.false_eq_true, eq_self, and_true, true_and, implies_true, Bool.not_true, Bool.not_false, Bool.true_bne, Bool.false_bne, decide_true, decide_false])
variable {P : Program} {w : World} {K : PySem.W.Frag} {mg : Str → Option Value} {base : Heap} {a : Ad}
theorem ok_pass_sign (G : Gs K mg a) {k : Nat} (c : Cal P w K mg base "sign_at" k (sp_sign_at a)) {f : Addr} {fd : FuncData} (I : Ins K mg "pass_sign" s_pass_sign ["scan", "sign"] f fd) : Cal P w K mg base "pass_sign" (max k 2 + 1) (sp_pass_sign a) := by
  refine I.cal (dfn_ok I.F sc_pass_sign (fun ds S Q E h => by obtain ⟨p, t, k, c, rfl, _⟩ := h; rfl) fun cdv A fr s H S E ds Qd Wd hr gd tk po h => ?_)
  obtain ⟨p, t, j, ch, rfl, h, q1, q2⟩ := h
  refine ⟨_, tm_pass_sign G c (by omega) (by omega) hr gd tk po, ?_⟩
  unfold rd_pass_sign
  walk_at "dl"
  refine ⟨p, t, j, rfl, h, ?_⟩
  walk_at "dl"
  by_cases hc : (tl t)[j]? = some ch
  · rw [hc]
    walk_at "dl"
    refine ⟨_, _, h, look_place, _, h, (by decide : 2 < 1000), ?_⟩
    rw [put_place]
    exact fin_same (q1 hc)
  · rw [decide_eq_false (fun e => hc (sg_inj e))]
    walk_at "dl"
    exact ⟨_, _, fields_scn h, look_place, finX_same (q2 hc)⟩
theorem ok_read_number (G : Gs K mg a) {k k2 : Nat} (c : Cal P w K mg base "sign_at" k (sp_sign_at a)) (c2 : Cal P w K mg base "is_one_of" k2 (sp_is_one_of a)) {f : Addr} {fd : FuncData} (I : Ins K mg "read_number" s_read_number ["scan"] f fd) : Cal P w K mg base "read_number" (max k k2 + 1) (sp_read_number a) := by
  refine I.cal (dfn_ok I.F sc_read_number (fun ds S Q E h => by obtain ⟨p, t, k, c, rfl, _⟩ := h; rfl) fun cdv A fr s H S E ds Qd Wd hr gd tk po h => ?_)
  obtain ⟨p, t, j, ch, rfl, h, hch, dch, q⟩ := h
  refine ⟨_, tm_read_number G c (by omega) c2 (by omega) hr gd tk po, ?_⟩
  unfold rd_read_number
  walk_at "dl"
  refine ⟨p, t, j, rfl, h, ?_⟩
  rw [hch]
  refine ⟨ch - 48, index_fig dch, ?_⟩
  refine ⟨_, _, h, look_place, _, h, (by decide : 2 < 1000), ?_⟩
  rw [put_place]
  show dWhile _ _ _ _ (sup S p (scn a t (j + 1)))
  have hb : 48 ≤ ch ∧ ch ≤ 57 := of_decide_eq_true dch
  have hlt : j < (tl t).length := by
    rcases Nat.lt_or_ge j (tl t).length with z | z
    · exact z
    · rw [List.getElem?_eq_none z] at hch; cases hch
  have hd : (tl t).drop j = ch :: (tl t).drop (j + 1) := by
    rw [List.drop_eq_getElem_cons hlt]
    rw [List.getElem?_eq_getElem hlt] at hch
    rw [Option.some.inj hch]
  have n1 : numL (ch - 48) = [ch] := by rw [numL_lt (by omega), show 48 + (ch - 48) = ch by omega]
  have loop : ∀ (ds : List Nat) (v m : Nat) (x : Option D) (S' : DS), S' p = some (scn a t m) → (tl t).drop m = ds → (tl t).drop j = numL v ++ ds → j + (numL v).length = m → v ≤ 1000000000 → ∀ (c : DTt) (tb : DTs) (D : DEnds),
      c = (dAnd (dB (dOp oGt (dVar 1) (dC (.int 0)))) (dB (dCall (sp_is_one_of a) (finX Wd) [] [(dCall (sp_sign_at a) (finX Wd) [] [(dVar 0)]), (dC (.str "0123456789"))]))) →
      tb = (dSeq (dSet 2 (dOp oAdd (dOp oMul (dC (.int 10)) (dVar 1)) (dBM chkStr oIndexS (dC (.str "0123456789")) [(dCall (sp_sign_at a) (finX Wd) [] [(dVar 0)])]))) (dSeq (dIf (dB (dOp oGt (dVar 2) (dC (.int 1000000000)))) dBreak dNext) (dSeq (dSet 1 (dVar 2)) (dFldA a.Scan "place" oAdd (dVar 0) (dC (.int 1)))))) →
      (∀ (n m : Nat) x post, (tl t).drop j = numL n ++ post → j + (numL n).length = m → n ≤ 1000000000 → (∀ c r, post = c :: r → isDig c = true → ¬ (0 < n ∧ n * 10 + (c - 48) ≤ 1000000000)) → D.nx [some (.ref p), some (.int (n : Nat)), x] (sup S' p (scn a t m))) →
      dWh c tb (ds.length + 1) D [some (.ref p), some (.int (v : Nat)), x] S' := by
    intro ds
    induction ds with
    | nil =>
      intro v m x S' h' hd' had hm hv c tb D ec et k1
      subst ec et
      unfold dWh
      walk_at "dl"
      have kk := k1 v m x [] had hm hv (fun c r e => by cases e)
      rw [show sup S' p (scn a t m) = S' from sup_self h'] at kk
      refine ⟨fun hz => ⟨p, t, m, rfl, h', (tl t)[m]?, figures, rfl, ?_⟩, fun hz => kk⟩
      rw [any_fig, head_drop, hd']
      exact ⟨fun e => (by cases e), fun _ => kk⟩
    | cons y ds ih =>
      intro v m x S' h' hd' had hm hv c tb D ec et k1
      unfold dWh
      rw [ec, et]
      walk_at "dl"
      have hmy : (tl t)[m]? = some y := by rw [head_drop, hd']; rfl
      have stop : (∀ c r, y :: ds = c :: r → isDig c = true → ¬ (0 < v ∧ v * 10 + (c - 48) ≤ 1000000000)) → D.nx [some (.ref p), some (.int (v : Nat)), x] S' := fun hq => by
        have kk := k1 v m x (y :: ds) had hm hv hq
        rwa [show sup S' p (scn a t m) = S' from sup_self h'] at kk
      refine ⟨fun hz => ⟨p, t, m, rfl, h', (tl t)[m]?, figures, rfl, ?_⟩, fun hz => stop fun c r e hc z => ?_⟩
      · have hv0 : 0 < v := by have := of_decide_eq_true hz; omega
        rw [any_fig, hmy]
        simp only [Option.any_some]
        cases dy : isDig y with
        | false =>
          walk_at "dl"
          exact stop fun c r e hc => by cases e; rw [dy] at hc; cases hc
        | true =>
          walk_at "dl"
          have hy : 48 ≤ y ∧ y ≤ 57 := of_decide_eq_true dy
          refine ⟨.inl (by decide), p, t, m, rfl, h', ?_⟩
          rw [hmy]
          refine ⟨y - 48, index_fig dy, ?_⟩
          walk_at "dl"
          have e1 : ((10 : Int) * (v : Nat) + ((y - 48 : Nat) : Nat)) = ((v * 10 + (y - 48) : Nat) : Int) := by omega
          rw [e1]
          refine ⟨fun big => ?_, fun small => ?_⟩
          · have big' := of_decide_eq_true big
            have kk := k1 v m (some (.int ((v * 10 + (y - 48) : Nat) : Int))) (y :: ds) had hm hv (fun c r e hc z => by cases e; omega)
            rwa [show sup S' p (scn a t m) = S' from sup_self h'] at kk
          · have small' := of_decide_eq_false small
            refine ⟨_, _, h', look_place, _, h', (by decide : 2 < 1000), ?_⟩
            rw [put_place]
            have nn : numL (v * 10 + (y - 48)) = numL v ++ [y] := by
              rw [numL_step (by omega), show (v * 10 + (y - 48)) / 10 = v by omega, show 48 + (v * 10 + (y - 48)) % 10 = y by omega]
            refine ih (v * 10 + (y - 48)) (m + 1) _ (sup S' p (scn a t (m + 1))) sup_same (drop_next hd') (by rw [nn, had, List.append_assoc]; rfl) (by rw [nn, List.length_append]; simp only [List.length_cons, List.length_nil]; omega) (by omega) _ _ _ rfl rfl (fun n m' x' post g1 g2 g3 g4 => ?_)
            rw [scn_next]; exact k1 n m' x' post g1 g2 g3 g4
      · have := of_decide_eq_false hz
        omega
  have fine : ∀ (n m : Nat) (x : Option D) post, (tl t).drop j = numL n ++ post → j + (numL n).length = m → n ≤ 1000000000 → (∀ c r, post = c :: r → isDig c = true → ¬ (0 < n ∧ n * 10 + (c - 48) ≤ 1000000000)) → fin Qd (.int (n : Nat)) (sup (sup S p (scn a t (j + 1))) p (scn a t m)) := fun n m x post g1 g2 g3 g4 => by
    rw [scn_next, ← g2]
    exact fin_same (q n post g1 g3 fun s hb => num_done hb g3 g4)
  refine ⟨_, loop _ (ch - 48) (j + 1) none _ sup_same rfl (by rw [n1, hd]; rfl) (by rw [n1]; rfl) (by omega) _ _ _ rfl rfl (fun n m x post g1 g2 g3 g4 => ?_)⟩
  walk_at "dl"; exact fine n m x post g1 g2 g3 g4
end Lw

namespace Lw
open PySem PySem.Spec PyProof.Rows L2 DL TL
local macro_rules | `(tactic| walk_at "dl") => `(tactic| simp only [dSeq, dIf, dRet, dRetN, dNext, dVar, dC, dOp, dCB, dCall, dArgs, dBM, dB, dNot, dAnd, dOr, dAndV, dOrV, dNotV, dIfE, dChain, dSet, dExpr, dAsg, dTup, dLst, dLstM, dstart, dLc, dLcM, dItStr, dItTup, dItLst, dgName, dwipe, dSl, dPart, dNoP, dFld, dFldA, dFldS, dMake, dRaise1, dBreak, oI0, oI, oEqS, oLen, chkStr, chkLst, List.map_cons, List.map_nil, List.length_cons, List.length_nil, List.replicate, List.cons_append, List.nil_append, List.append_nil, List.getElem?_cons_zero, List.getElem?_cons_succ, List.set_cons_zero, List.set_cons_succ, Nat.reduceAdd, Nat.reduceSub, Nat.zero_add, true_implies, false_implies, Bool.true_eq_false, Bool.false_eq_true, eq_self, and_true, true_and, implies_true, Bool.not_true, Bool.not_false, Bool.true_bne, Bool.false_bne, decide_true, decide_false])
variable {P : Program} {w : World} {K : PySem.W.Frag} {mg : Str → Option Value} {base : Heap} {a : Ad}
theorem ok_read_word (G : Gs K mg a) {k k2 : Nat} (c : Cal P w K mg base "sign_at" k (sp_sign_at a)) (c2 : Cal P w K mg base "is_one_of" k2 (sp_is_one_of a)) {f : Addr} {fd : FuncData} (I : Ins K mg "read_word" s_read_word ["scan"] f fd) : Cal P w K mg base "read_word" (max k k2 + 1) (sp_read_word a) := by
  refine I.cal (dfn_ok I.F sc_read_word (fun ds S Q E h => by obtain ⟨p, t, k, c, rfl, _⟩ := h; rfl) fun cdv A fr s H S E ds Qd Wd hr gd tk po h => ?_)
  obtain ⟨p, t, j, ch, rfl, h, hch, dch, q⟩ := h
  refine ⟨_, tm_read_word G c (by omega) c2 (by omega) hr gd tk po, ?_⟩
  unfold rd_read_word
  walk_at "dl"
  refine ⟨_, _, fields_scn h, look_place, ?_⟩
  have loop : ∀ (ds : List Nat) (m : Nat) (wl : List Nat) (S' : DS), S' p = some (scn a t m) → (tl t).drop m = ds → (tl t).drop j = wl ++ ds → j + wl.length = m → (∀ y ∈ wl, isLet y = true) → wl.length ≤ 8 → ∀ (c : DTt) (tb : DTs) (D : DEnds),
      c = (dAnd (dB (dCall (sp_is_one_of a) (finX Wd) [] [(dCall (sp_sign_at a) (finX Wd) [] [(dVar 0)]), (dC (.str "abcdefghijklmnopqrstuvwxyz"))])) (dB (dOp oLt (dOp oSub (dFld a.Scan "place" (dVar 0)) (dVar 1)) (dC (.int 8))))) →
      tb = (dFldA a.Scan "place" oAdd (dVar 0) (dC (.int 1))) →
      (∀ wl m post, (tl t).drop j = wl ++ post → j + wl.length = m → (∀ y ∈ wl, isLet y = true) → wl.length ≤ 8 → (∀ c r, post = c :: r → isLet c = true → wl.length = 8) → D.nx [some (.ref p), some (.int (j : Nat))] (sup S' p (scn a t m))) → dWh c tb (ds.length + 1) D [some (.ref p), some (.int (j : Nat))] S' := by
    intro ds
    induction ds with
    | nil =>
      intro m wl S' h' hd' had hm al h8 c tb D ec et k1
      subst ec et
      unfold dWh
      walk_at "dl"
      have kk := k1 wl m [] had hm al h8 (fun c r e => by cases e)
      rw [show sup S' p (scn a t m) = S' from sup_self h'] at kk
      refine ⟨p, t, m, rfl, h', (tl t)[m]?, letters, rfl, ?_⟩
      rw [any_let, head_drop, hd']
      exact ⟨fun e => (by cases e), fun _ => kk⟩
    | cons y ds ih =>
      intro m wl S' h' hd' had hm al h8 c tb D ec et k1
      unfold dWh
      rw [ec, et]
      walk_at "dl"
      have hmy : (tl t)[m]? = some y := by rw [head_drop, hd']; rfl
      have stop : (∀ c r, y :: ds = c :: r → isLet c = true → wl.length = 8) → D.nx [some (.ref p), some (.int (j : Nat))] S' := fun hq => by
        have kk := k1 wl m (y :: ds) had hm al h8 hq
        rwa [show sup S' p (scn a t m) = S' from sup_self h'] at kk
      refine ⟨p, t, m, rfl, h', (tl t)[m]?, letters, rfl, ?_⟩
      rw [any_let, hmy]
      simp only [Option.any_some]
      cases dy : isLet y with
      | false =>
        walk_at "dl"
        exact stop fun c r e hc => by cases e; rw [dy] at hc; cases hc
      | true =>
        walk_at "dl"
        refine ⟨_, _, fields_scn h', look_place, ?_⟩
        walk_at "dl"
        refine ⟨fun lt => ?_, fun ge => stop fun c r e hc => ?_⟩
        · have lt' := of_decide_eq_true lt
          refine ⟨_, _, h', look_place, _, h', (by decide : 2 < 1000), ?_⟩
          rw [put_place]
          refine ih (m + 1) (wl ++ [y]) (sup S' p (scn a t (m + 1))) sup_same (drop_next hd') (by rw [had, List.append_assoc]; rfl) (by rw [List.length_append]; simp only [List.length_cons, List.length_nil]; omega) (fun z hz => ?_) (by rw [List.length_append]; simp only [List.length_cons, List.length_nil]; omega) _ _ _ rfl rfl (fun wl' m' post g1 g2 g3 g4 g5 => ?_)
          · rcases List.mem_append.mp hz with hz | hz
            · exact al z hz
            · simp only [List.mem_singleton] at hz; subst hz; exact dy
          · rw [scn_next]; exact k1 wl' m' post g1 g2 g3 g4 g5
        · have ge' := of_decide_eq_false ge
          omega
  refine ⟨_, loop _ j [] S h rfl rfl rfl (fun y hy => by simp at hy) (by simp) _ _ _ rfl rfl (fun wl m post g1 g2 g3 g4 g5 => ?_)⟩
  walk_at "dl"
  subst g2
  refine ⟨_, _, fields_scn sup_same, look_text, _, _, fields_scn sup_same, look_place, ?_⟩
  walk_at "dl"
  have e : cutS t (some (j : Nat)) (some ((j + wl.length : Nat) : Int)) = ofL wl := by
    refine ext_tl ?_
    rw [cut_at, g1, List.take_left', tl_ofL]
    rfl
  rw [e]
  have ne : wl ≠ [] := fun z => by
    subst z
    simp only [List.nil_append] at g1
    cases post with
    | nil => rw [head_drop, g1] at hch; cases hch
    | cons c r =>
      rw [head_drop, g1] at hch
      cases hch
      have := g5 _ _ rfl dch
      simp at this
  have hl : 1 ≤ wl.length := by cases wl; exact absurd rfl ne; simp
  have wb : wordB (ofL wl) = true := by
    simp only [wordB, Bool.and_eq_true, decide_eq_true_eq, List.all_eq_true, tl_ofL, len_ofL]
    exact ⟨⟨hl, g4⟩, g3⟩
  have q' := q (ofL wl) post (by rw [tl_ofL]; exact g1) wb (fun s hb => by rw [tl_ofL]; exact word_done hb ne g3 g4 g5)
  rw [tl_ofL] at q'
  exact fin_same q'
theorem atX_int {k : Int} : (some [((Str.ofString "at"), D.int k)] : DFl) = atX k := rfl
theorem ok_read_thing (G : Gs K mg a) {ks ko kn kw : Nat} (c : Cal P w K mg base "sign_at" ks (sp_sign_at a)) (c2 : Cal P w K mg base "is_one_of" ko (sp_is_one_of a)) (c3 : Cal P w K mg base "read_number" kn (sp_read_number a)) (c4 : Cal P w K mg base "read_word" kw (sp_read_word a)) {f : Addr} {fd : FuncData} (I : Ins K mg "read_thing" s_read_thing ["scan", "left"] f fd) :
    ∀ n (r : DSp) k, ks ≤ k → ko ≤ k → kn ≤ k → kw ≤ k → 2 ≤ k → Cal P w K mg base "read_tuple" k r → (∀ m, m + 1 = n → ∀ ds S Q E, spn_read_tuple a m ds S Q E → r ds S Q E) → Cal P w K mg base "read_thing" (k + 1) (spn_read_thing a n) := by
  intro n r k h1 h2 h3 h4 h5 cr hrec
  refine I.cal (dfn_ok I.F sc_read_thing (fun ds S Q E h => by obtain ⟨p, t, k, m, rfl, _⟩ := h; rfl) fun cdv A fr s H S E ds Qd Wd hr gd tk po h => ?_)
  obtain ⟨p, t, j, m, rfl, h, hmn, hn, ht, q1, q2⟩ := h
  refine ⟨_, tm_read_thing G c h1 c2 h2 c3 h3 c4 h4 cr (Nat.le_refl _) h5 hr gd tk po, ?_⟩
  unfold rd_read_thing
  walk_at "dl"
  refine ⟨p, t, j, rfl, h, (tl t)[j]?, figures, rfl, ?_⟩
  rw [any_fig]
  have hh : ((tl t).drop j).head? = (tl t)[j]? := head_drop.symm
  have bad0 : (∀ ch, (tl t)[j]? = some ch → isDig ch = false ∧ isLet ch = false ∧ (ch = 40 → m = 0)) → finX Wd (.ref a.NoText) (atX (j : Nat)) [some (.ref p), some (.int (m : Nat)), some (.str (sg (tl t)[j]?))] S := fun hq => by
    have b : BadT m ((tl t).drop j) 0 := by
      refine ⟨Nat.zero_le _, fun s hb ho => ⟨s, rfl, ?_⟩⟩
      rw [List.drop_zero]
      cases e : (tl t).drop j with
      | nil =>
        rcases hb.l with z | z
        · exact .inr z
        · exact .inl z.2
      | cons ch rr =>
        rw [e] at hh ho
        have hc : (tl t)[j]? = some ch := hh.symm
        obtain ⟨d1, d2, d3⟩ := hq ch hc
        refine step_none d1 d2 (fun z => ?_) (fun z => ?_) (fun z => ?_)
        · have := d3 z; have := hb.d; omega
        · rcases hb.l with y | y
          · exact decide_eq_false fun w => w.1 y
          · exact absurd (by rw [z]; rfl) (ho y.1)
        · rcases hb.l with y | y
          · rw [show ends s = false from decide_eq_false fun w => w.1 y]; rfl
          · rw [y.1]; simp
    have := q2 0 j b
    rw [show sup S p (scn a t j) = S from sup_self h] at this
    exact finX_same this
  cases hc : (tl t)[j]? with
  | none =>
    rw [hc] at bad0
    simp only [Option.any_none]
    walk_at "dl"
    refine ⟨none, letters, rfl, ?_⟩
    simp only [Option.any_none]
    walk_at "dl"
    have e3 : decide (sg none = Str.ofString "(") = false := by decide +kernel
    rw [e3]
    walk_at "dl"
    exact ⟨_, _, fields_scn h, look_place, bad0 (fun ch e => by cases e)⟩
  | some ch =>
    rw [hc] at bad0
    simp only [Option.any_some]
    cases e1 : isDig ch with
    | true =>
      walk_at "dl"
      refine ⟨p, t, j, ch, rfl, h, hc, e1, fun nn post g1 g2 g3 => fin_same ?_⟩
      have okk : OkT m ((tl t).drop j) (.int (nn : Nat)) post := by
        refine ⟨by simp only [txt, Int.toNat_natCast]; exact g1, ?_, fun s hb => ?_⟩
        · exact thingW_mono (Nat.zero_le m) (show thingW 0 (.int (nn : Nat)) = true by simp only [thingW, leafB, wordD, colourB, Bool.false_or, decide_eq_true_eq]; omega)
        · simp only [txt, Int.toNat_natCast]; exact g3 s hb.b
      have := q1 _ _ okk
      simpa only [txt, Int.toNat_natCast] using this
    | false =>
      walk_at "dl"
      refine ⟨some ch, letters, rfl, ?_⟩
      rw [any_let]
      simp only [Option.any_some]
      cases e2 : isLet ch with
      | true =>
        walk_at "dl"
        refine ⟨p, t, j, ch, rfl, h, hc, e2, fun x post g1 g2 g3 => fin_same ?_⟩
        have okk : OkT m ((tl t).drop j) (.str x) post := by
          refine ⟨by simp only [txt]; exact g1, ?_, fun s hb => ?_⟩
          · exact thingW_mono (Nat.zero_le m) (show thingW 0 (.str x) = true by simp only [thingW, leafB, wordD, g2, Bool.true_or])
          · simp only [txt]; exact g3 s hb.b
        have := q1 _ _ okk
        simpa only [txt] using this
      | false =>
        walk_at "dl"
        by_cases h40 : ch = 40
        · subst h40
          have e3 : decide (sg (some 40) = Str.ofString "(") = true := decide_eq_true rfl
          rw [e3]
          walk_at "dl"
          refine ⟨fun z => ?_, fun z => ?_⟩
          · have z' := of_decide_eq_true z
            exact ⟨_, _, fields_scn h, look_place, bad0 (fun c' e => by cases e; exact ⟨rfl, rfl, fun _ => by omega⟩)⟩
          · have z' := of_decide_eq_false z
            obtain ⟨m', rfl⟩ : ∃ m', m = m' + 1 := ⟨m - 1, by omega⟩
            obtain ⟨n', rfl⟩ : ∃ n', n = n' + 1 := ⟨n - 1, by omega⟩
            rw [show ((m' + 1 : Nat) : Int) - 1 = (m' : Nat) by omega]
            refine hrec n' rfl _ _ _ _ ⟨p, t, j, m', rfl, h, by omega, by omega, ht, hc, fun l post ok => fin_same (q1 _ _ ⟨ok.1, by simp only [thingW]; exact ok.2.1, fun s hb => ?_⟩), fun jj k' bd => finX_same (q2 jj k' ⟨bd.1, fun s hb _ => bd.2 s hb⟩)⟩
            obtain ⟨s', r1, r2, r3⟩ := ok.2.2 s hb
            exact ⟨s', r1, r2, by rw [r3]; decide, by rw [r3]; decide, fun c' r' _ => ⟨fun _ => decide_eq_false fun w => (by rw [r3] at w; cases w.1), fun _ => decide_eq_false fun w => (by rw [r3] at w; cases w.1)⟩⟩
        · have e3 : decide (sg (some ch) = Str.ofString "(") = false := decide_eq_false (sg_ne ch _ (by rw [show tl (Str.ofString "(") = [40] from rfl]; simp; omega))
          rw [e3]
          walk_at "dl"
          exact ⟨_, _, fields_scn h, look_place, bad0 (fun c' e => by cases e; exact ⟨e1, e2, fun z => absurd z h40⟩)⟩
end Lw

namespace Lw
open PySem PySem.Spec PyProof.Rows L2 DL TL
local macro_rules | `(tactic| walk_at "dl") => `(tactic| simp only [dSeq, dIf, dRet, dRetN, dNext, dVar, dC, dOp, dCB, dCall, dArgs, dBM, dB, dNot, dAnd, dOr, dAndV, dOrV, dNotV, dIfE, dChain, dSet, dExpr, dAsg, dTup, dLst, dLstM, dstart, dLc, dLcM, dItStr, dItTup, dItLst, dgName, dwipe, dSl, dPart, dNoP, dFld, dFldA, dFldS, dMake, dRaise1, dBreak, oI0, oI, oEqS, oLen, chkStr, chkLst, List.map_cons, List.map_nil, List.length_cons, List.length_nil, List.replicate, List.cons_append, List.nil_append, List.append_nil, List.getElem?_cons_zero, List.getElem?_cons_succ, List.set_cons_zero, List.set_cons_succ, Nat.reduceAdd, Nat.reduceSub, Nat.zero_add, true_implies, false_implies, Bool.true_eq_false, Bool.false_eq_true, eq_self, and_true, true_and, implies_true, Bool.not_true, Bool.not_false, Bool.true_bne, Bool.false_bne, decide_true, decide_false])
variable {P : Program} {w : World} {K : PySem.W.Frag} {mg : Str → Option Value} {base : Heap} {a : Ad}
theorem take_more {α : Type} : ∀ (pre rest : List α) (j : Nat), (pre ++ rest).take (pre.length + j) = pre ++ rest.take j
  | [], rest, j => by simp
  | x :: pre, rest, j => by
    rw [List.cons_append, List.length_cons, show pre.length + 1 + j = (pre.length + j) + 1 by omega, List.take_succ_cons, take_more pre rest j]; rfl
theorem drop_more {α : Type} : ∀ (pre rest : List α) (j : Nat), (pre ++ rest).drop (pre.length + j) = rest.drop j
  | [], rest, j => by simp
  | x :: pre, rest, j => by
    rw [List.cons_append, List.length_cons, show pre.length + 1 + j = (pre.length + j) + 1 by omega, List.drop_succ_cons, drop_more pre rest j]
theorem txts_two (e f : D) (l : List D) : txts (e :: f :: l) = txt e ++ 32 :: txts (f :: l) := by
  conv => lhs; unfold txts
theorem txts_snoc (d : D) : ∀ l : List D, l ≠ [] → txts (l ++ [d]) = txts l ++ 32 :: txt d
  | [], h => absurd rfl h
  | [e], _ => by simp only [List.cons_append, List.nil_append, txts]
  | e :: f :: l, _ => by
    have := txts_snoc d (f :: l) (by simp)
    simp only [List.cons_append] at this
    rw [List.cons_append, List.cons_append, txts_two, txts_two, this, List.append_assoc, List.cons_append]
/-- what is known where a tuple's next part, or its end, is looked for -/
structure Mid (m : Nat) (l1 : List D) (rest : List Nat) : Prop where
  t : ∀ x ∈ l1, thingW m x = true
  r : ∀ s, Beg (m + 1) s → ∃ s1, runs s (40 :: txts l1) = some s1 ∧ s1.dep = s.dep + 1 ∧ ((l1 = [] ∧ s1.last = .opn) ∨ (l1 ≠ [] ∧ Done s1 rest))
theorem txt_pos {m : Nat} {d : D} (h : thingW m d = true) : 0 < (txt d).length := by
  obtain ⟨c, r, e, _⟩ := txt_head h
  rw [e]; simp
theorem txts_len : ∀ l : List D, (∀ x ∈ l, 0 < (txt x).length) → l.length ≤ (txts l).length
  | [], _ => Nat.le_refl _
  | d :: l, h => by
    have h1 := h d List.mem_cons_self
    have h2 := txts_len l fun x hx => h x (List.mem_cons_of_mem _ hx)
    cases l with
    | nil => simp only [txts, List.length_cons, List.length_nil] at *; omega
    | cons e l => simp only [txts, List.length_append, List.length_cons] at *; omega
theorem ok_read_tuple (G : Gs K mg a) {ks kp : Nat} (c : Cal P w K mg base "sign_at" ks (sp_sign_at a)) (c2 : Cal P w K mg base "pass_sign" kp (sp_pass_sign a)) {f : Addr} {fd : FuncData} (I : Ins K mg "read_tuple" s_read_tuple ["scan", "left"] f fd) :
    ∀ n (r : DSp) k, ks ≤ k → kp ≤ k → Cal P w K mg base "read_thing" k r → (∀ ds S Q E, spn_read_thing a n ds S Q E → r ds S Q E) → Cal P w K mg base "read_tuple" (k + 1) (spn_read_tuple a n) := by
  intro n r k hks hkp cr hrec
  refine I.cal (dfn_ok I.F sc_read_tuple (fun ds S Q E h => by obtain ⟨p, t, k, m, rfl, _⟩ := h; rfl) fun cdv A fr s H S E ds Qd Wd hr gd tk po h => ?_)
  obtain ⟨p, t, j, m, rfl, h, hmn, hn, ht, hc, q1, q2⟩ := h
  refine ⟨_, tm_read_tuple G c2 hkp c hks cr (Nat.le_refl _) hr gd tk po, ?_⟩
  unfold rd_read_tuple
  walk_at "dl"
  have hlt : j < (tl t).length := by
    rcases Nat.lt_or_ge j (tl t).length with z | z
    · exact z
    · rw [List.getElem?_eq_none z] at hc; cases hc
  have hd1 : (tl t).drop j = 40 :: (tl t).drop (j + 1) := by
    rw [List.drop_eq_getElem_cons hlt]
    rw [List.getElem?_eq_getElem hlt] at hc
    rw [Option.some.inj hc]
  refine ⟨p, t, j, 40, rfl, h, fun _ => ?_, fun z => absurd hc z⟩
  intro pl hpl
  have pne : p ≠ pl := fun e => by rw [e, ← e, sup_same] at hpl; cases hpl
  have hpl0 : S pl = none := by rw [sup_ne (Ne.symm pne)] at hpl; exact hpl
  have subS : ∀ l i, Sub (sup S p (scn a t i)) (sup (sup S pl (.lst l)) p (scn a t i)) := fun l i b o hb => by
    by_cases hbp : b = p
    · subst hbp; rw [sup_same] at hb ⊢; exact hb
    · rw [sup_ne hbp] at hb ⊢
      rw [sup_ne (fun e => by rw [e, hpl0] at hb; cases hb)]; exact hb
  -- an error behind pre
  have bad : ∀ (pre rest : List Nat) (jj i : Nat) (l : List D) ρ, (tl t).drop j = pre ++ rest → jj ≤ rest.length → (∀ s, Beg (m + 1) s → ∃ s1 s', runs s pre = some s1 ∧ runs s1 (rest.take jj) = some s' ∧ Stuck s' (rest.drop jj)) →
      finX Wd (.ref a.NoText) (atX ((j + pre.length + jj : Nat) : Int)) ρ (sup (sup S pl (.lst l)) p (scn a t i)) := fun pre rest jj i l ρ e hj hq => by
    have b : BadU m ((tl t).drop j) (pre.length + jj) := by
      refine ⟨by rw [e, List.length_append]; omega, fun s hs => ?_⟩
      obtain ⟨s1, s', g1, g2, g3⟩ := hq s hs
      exact ⟨s', by rw [e, take_more, runs_to g1]; exact g2, by rw [e, drop_more]; exact g3⟩
    have := q2 (pre.length + jj) i b
    rw [show j + (pre.length + jj) = j + pre.length + jj by omega] at this
    exact finX_drop (subS l i) this
  have loop : ∀ (N : Nat) (rest : List Nat) (l1 : List D) (i : Nat), rest.length < N → (tl t).drop j = (40 :: txts l1) ++ rest → i = j + 1 + (txts l1).length → Mid m l1 rest → ∀ (c : DTt) (tb : DTs) (D : DEnds),
      c = (dB (dOp (oEqS true) (dCall (sp_sign_at a) (finX Wd) [] [(dVar 0)]) (dC (.str ")")))) →
      tb = (dSeq (dIf (dB (dOp oNe (dVar 2) (dLst []))) (dExpr (dCall (sp_pass_sign a) (finX Wd) [] [(dVar 0), (dC (.str " "))])) dNext) (dExpr (dBM chkLst oAppend (dVar 2) [(dCall (r) (finX Wd) [] [(dVar 0), (dVar 1)])]))) →
      (∀ l1 post i, (tl t).drop j = (40 :: txts l1) ++ (41 :: post) → i = j + 1 + (txts l1).length → Mid m l1 (41 :: post) → D.nx [some (.ref p), some (.int (m : Nat)), some (.ref pl)] (sup (sup S pl (.lst l1)) p (scn a t i))) → dWh c tb N D [some (.ref p), some (.int (m : Nat)), some (.ref pl)] (sup (sup S pl (.lst l1)) p (scn a t i)) := by
    intro N
    induction N with
    | zero => intro rest l1 i hN; omega
    | succ N ih =>
      intro rest l1 i hN hd hi mid c tb D ec et kk
      have hdi : (tl t).drop i = rest := by
        rw [hi, show j + 1 + (txts l1).length = j + (40 :: txts l1).length by simp only [List.length_cons]; omega, ← List.drop_drop, hd, List.drop_left']
        rfl
      unfold dWh
      rw [ec, et]
      walk_at "dl"
      refine ⟨p, t, i, rfl, sup_same, ?_⟩
      walk_at "dl"
      by_cases h41 : (tl t)[i]? = some 41
      · rw [h41]
        have e1 : decide (sg (some 41) = Str.ofString ")") = true := decide_eq_true rfl
        rw [e1]
        walk_at "dl"
        obtain ⟨post, rfl⟩ : ∃ post, rest = 41 :: post := by
          rw [head_drop, hdi] at h41
          cases rest with
          | nil => cases h41
          | cons c r => simp only [List.head?_cons, Option.some.injEq] at h41; subst h41; exact ⟨r, rfl⟩
        exact kk l1 post i hd hi mid
      · have e1 : decide (sg (tl t)[i]? = Str.ofString ")") = false := decide_eq_false (fun e => h41 (sg_inj (o' := some 41) (e.trans rfl)))
        rw [e1]
        walk_at "dl"
        obtain ⟨ps, t1, t2, t3, t4⟩ := things_can (n := m) (by omega) (l := l1) mid.t
        have hS : (sup (sup S pl (.lst l1)) p (scn a t i)) pl = some (.lst l1) := by rw [sup_ne (Ne.symm pne), sup_same]
        refine ⟨.list ps, .list [], by unfold toPS; simp only [hS, t1, Option.map_some], by unfold toPS; rfl, by simp only [SeqAt.shaped, PyData.canLay0, t2, Bool.true_and, PyData.depth]; exact decide_eq_true (by omega), by decide, ?_⟩
        rw [eqv_nilL, t4]
        walk_at "dl"
        have tlen : (tl t).length = t.length := (len_tl t).symm
        -- reading a part behind pre
        have part : ∀ (pre rest' : List Nat) (i' : Nat), (tl t).drop j = pre ++ rest' → i' = j + pre.length → rest'.length ≤ rest.length → (∀ d, txts (l1 ++ [d]) = (pre.drop 1) ++ txt d ∧ 40 :: pre.drop 1 = pre) →
            (∀ s, Beg (m + 1) s → ∃ s1, runs s pre = some s1 ∧ s1.dep = s.dep + 1 ∧ (s1.last = .need ∨ (s1.last = .opn ∧ rest'.head? ≠ some 41))) →
            ((∃ l, (sup (sup S pl (.lst l1)) p (scn a t i')) pl = some (DO.lst l)) ∧ r [.ref p, .int (m : Nat)] (sup (sup S pl (.lst l1)) p (scn a t i')) (fun d' S2 => oAppend (.ref pl) [d'] S2 fun x S1 => dWh (dB (dOp (oEqS true) (dCall (sp_sign_at a) (finX Wd) [] [(dVar 0)]) (dC (.str ")")))) (dSeq (dIf (dB (dOp oNe (dVar 2) (dLst []))) (dExpr (dCall (sp_pass_sign a) (finX Wd) [] [(dVar 0), (dC (.str " "))])) dNext) (dExpr (dBM chkLst oAppend (dVar 2) [(dCall (r) (finX Wd) [] [(dVar 0), (dVar 1)])]))) N D [some (.ref p), some (.int (m : Nat)), some (.ref pl)] S1)
              (fun cls fl S' => finX Wd cls fl [some (.ref p), some (.int (m : Nat)), some (.ref pl)] S')) := by
          intro pre rest' i' hd' hi' hle hsn hrun
          have hdi' : (tl t).drop i' = rest' := by
            rw [hi', ← List.drop_drop, hd', List.drop_left']; rfl
          have begs : ∀ s s1, Beg (m + 1) s → s1.dep = s.dep + 1 → (s1.last = .need ∨ (s1.last = .opn ∧ rest'.head? ≠ some 41)) → Beg m s1 := fun s s1 hb e1 e2 => ⟨by have := hb.d; omega, e2.imp id fun z => ⟨z.1, by omega⟩⟩
          refine ⟨⟨l1, by rw [sup_ne (Ne.symm pne), sup_same]⟩, hrec _ _ _ _ ⟨p, t, i', m, rfl, sup_same, hmn, by omega, ht, fun d post ok => ?_, fun jj k' bd => ?_⟩⟩
          · rw [hdi'] at ok
            rw [scn_next]
            have dpos := txt_pos ok.2.1
            obtain ⟨g1, g2⟩ := hsn d
            have nl : ∀ x ∈ l1 ++ [d], thingW m x = true := fun x hx => by
              rcases List.mem_append.mp hx with hx | hx
              · exact mid.t x hx
              · simp only [List.mem_singleton] at hx; subst hx; exact ok.2.1
            have whole : (tl t).drop j = (40 :: txts (l1 ++ [d])) ++ post := by
              rw [g1, hd', ok.1, ← List.cons_append, g2, List.append_assoc]
            refine ⟨l1, by rw [sup_ne (Ne.symm pne), sup_same], ?_, ?_⟩
            · have h1 := txts_len l1 fun x hx => txt_pos (mid.t x hx)
              have h2 := congrArg List.length hd
              rw [List.length_drop, List.length_append, List.length_cons] at h2
              have h3 := sizeL
              omega
            · rw [sup_comm pne, sup_sup]
              refine ih post (l1 ++ [d]) (i' + (txt d).length) ?_ whole ?_ ⟨nl, fun s hb => ?_⟩ _ _ _ rfl rfl kk
              · have := congrArg List.length ok.1
                rw [List.length_append] at this
                omega
              · have := congrArg List.length g1
                have g3 := congrArg List.length g2
                rw [List.length_append] at this
                rw [List.length_cons] at g3
                omega
              · obtain ⟨s1, r1, r2, r3⟩ := hrun s hb
                obtain ⟨s2, r4, r5, r6⟩ := ok.2.2 s1 (begs s s1 hb r2 r3)
                refine ⟨s2, ?_, by omega, .inr ⟨by simp, r6⟩⟩
                rw [g1, ← List.cons_append, g2, runs_to r1]; exact r4
          · rw [hdi'] at bd
            rw [scn_next]
            have := bad pre rest' jj k' l1 [some (.ref p), some (.int (m : Nat)), some (.ref pl)] hd' bd.1 (fun s hb => by
              obtain ⟨s1, r1, r2, r3⟩ := hrun s hb
              obtain ⟨s', r4, r5⟩ := bd.2 s1 (begs s s1 hb r2 r3) (fun e => by rcases r3 with z | z; rw [z] at e; cases e; exact z.2)
              exact ⟨s1, s', r1, r4, r5⟩)
            rw [hi']; exact this
        by_cases hl1 : l1 = []
        · subst hl1
          rw [show ([] : List DL.D).isEmpty = true from rfl]
          walk_at "dl"
          refine part [40] rest i hd (by rw [hi]; rfl) (Nat.le_refl _) (fun d => ⟨rfl, rfl⟩) fun s hb => ?_
          obtain ⟨s1, r1, r2, r3⟩ := mid.r s hb
          refine ⟨s1, r1, r2, .inr ?_⟩
          rcases r3 with z | z
          · exact ⟨z.2, by rw [← hdi, ← head_drop]; exact h41⟩
          · exact absurd rfl z.1
        · rw [show l1.isEmpty = false by cases l1; exact absurd rfl hl1; rfl]
          walk_at "dl"
          have dn : ∀ s, Beg (m + 1) s → ∃ s1, runs s (40 :: txts l1) = some s1 ∧ s1.dep = s.dep + 1 ∧ Done s1 rest := fun s hb => by
            obtain ⟨s1, r1, r2, r3⟩ := mid.r s hb
            rcases r3 with z | z
            · exact absurd z.1 hl1
            · exact ⟨s1, r1, r2, z.2⟩
          refine ⟨p, t, i, 32, rfl, sup_same, fun h32 => ?_, fun h32 => ?_⟩
          · rw [scn_next]
            obtain ⟨rest', rfl⟩ : ∃ r, rest = 32 :: r := by
              rw [head_drop, hdi] at h32
              cases rest with
              | nil => cases h32
              | cons c r => simp only [List.head?_cons, Option.some.injEq] at h32; subst h32; exact ⟨r, rfl⟩
            refine part (40 :: (txts l1 ++ [32])) rest' (i + 1) (by rw [hd]; simp) (by rw [hi]; simp only [List.length_cons, List.length_append, List.length_nil]; omega) (by simp) (fun d => ⟨by rw [txts_snoc d l1 hl1]; simp, rfl⟩) fun s hb => ?_
            obtain ⟨s1, r1, r2, r3⟩ := dn s hb
            have he : ends s1 = true := decide_eq_true ⟨r3.1, by omega⟩
            refine ⟨⟨s1.dep, s1.many, .need⟩, by rw [← List.cons_append, runs_to r1]; simp only [runs, step_sp he r3.2.1, Option.bind_some], r2, .inl rfl⟩
          · have := bad (40 :: txts l1) rest 0 i l1 [some (.ref p), some (.int (m : Nat)), some (.ref pl)] hd (Nat.zero_le _) (fun s hb => by
              obtain ⟨s1, r1, r2, r3⟩ := dn s hb
              refine ⟨s1, s1, r1, rfl, ?_⟩
              rw [List.drop_zero]
              cases hrest : rest with
              | nil => exact .inl (by omega)
              | cons c r =>
                rw [hrest] at r3 hdi
                refine done_none r3 fun z => ?_
                rcases z with z | z
                · exact absurd (by rw [head_drop, hdi, z]; rfl) h41
                · exact absurd (by rw [head_drop, hdi, z]; rfl) h32)
            rw [show j + (40 :: txts l1).length + 0 = i by rw [hi]; simp only [List.length_cons]; omega] at this
            exact this
  refine ⟨((tl t).drop (j + 1)).length + 1, by
    rw [sup_comm pne]
    refine loop _ ((tl t).drop (j + 1)) [] (j + 1) (Nat.lt_succ_self _) (by rw [hd1]; rfl) rfl ⟨fun x hx => by simp at hx, fun s hb => ?_⟩ _ _ _ rfl rfl fun l1 post i g1 g2 mid => ?_
    · refine ⟨⟨s.dep + 1, s.many, .opn⟩, ?_, rfl, .inl ⟨rfl, rfl⟩⟩
      simp only [txts, runs, step_open hb.b (by have := hb.d; omega), Option.bind_some]
    · walk_at "dl"
      have hdi : (tl t).drop i = 41 :: post := by
        rw [g2, show j + 1 + (txts l1).length = j + (40 :: txts l1).length by simp only [List.length_cons]; omega, ← List.drop_drop, g1, List.drop_left']
        rfl
      have h41 : (tl t)[i]? = some 41 := by rw [head_drop, hdi]; rfl
      refine ⟨p, t, i, 41, rfl, sup_same, fun _ => ?_, fun z => absurd h41 z⟩
      rw [scn_next]
      refine ⟨l1, by rw [sup_ne (Ne.symm pne), sup_same], fin_drop (subS l1 (i + 1)) ?_⟩
      have := q1 l1 post ⟨by rw [g1]; simp only [txt, List.cons_append, List.append_assoc, List.nil_append], by rw [List.all_eq_true]; exact mid.t, fun s hb => ?_⟩
      · rwa [show j + (txt (.tup l1)).length = i + 1 by rw [g2]; simp only [txt, List.length_cons, List.length_append, List.length_nil]; omega] at this
      · obtain ⟨s1, r1, r2, r3⟩ := mid.r s hb
        have he : ends s1 = true := decide_eq_true ⟨by rcases r3 with z | z; rw [z.2]; decide; exact z.2.1, by omega⟩
        refine ⟨⟨s1.dep - 1, s1.many, .clo⟩, ?_, by simp only; omega, rfl⟩
        simp only [txt]
        rw [← List.cons_append, runs_to r1]
        simp only [runs, step_close he, Option.bind_some]⟩
end Lw

namespace Lw
open PySem PySem.Spec PyProof.Rows L2 DL TL
local macro_rules | `(tactic| walk_at "dl") => `(tactic| simp only [dSeq, dIf, dRet, dRetN, dNext, dVar, dC, dOp, dCB, dCall, dArgs, dBM, dB, dNot, dAnd, dOr, dAndV, dOrV, dNotV, dIfE, dChain, dSet, dExpr, dAsg, dTup, dLst, dLstM, dstart, dLc, dLcM, dItStr, dItTup, dItLst, dgName, dwipe, dSl, dPart, dNoP, dFld, dFldA, dFldS, dMake, dRaise1, dBreak, dFor, dgSub, oIx, dNeg, dRng1, oJoin, oTuple, oI0, oI, oEqS, oLen, chkStr, chkLst, List.map_cons, List.map_nil, List.length_cons, List.length_nil, List.replicate, List.cons_append, List.nil_append, List.append_nil, List.getElem?_cons_zero, List.getElem?_cons_succ, List.set_cons_zero, List.set_cons_succ, Nat.reduceAdd, Nat.reduceSub, Nat.zero_add, true_implies, false_implies, Bool.true_eq_false, Bool.false_eq_true, eq_self, and_true, true_and, implies_true, Bool.not_true, Bool.not_false, Bool.true_bne, Bool.false_bne, decide_true, decide_false, Int.reducePow, Int.reduceToNat, Int.reduceAdd, Int.reduceNeg, Int.reduceMul, Int.reduceSub])
variable {P : Program} {w : World} {K : PySem.W.Frag} {mg : Str → Option Value} {base : Heap} {a : Ad}
theorem dp_str : isStrB (.str (Str.ofString "")) = true := rfl
theorem ok_read (G : Gs K mg a) {ks kt : Nat} (c : CalC P w K mg base "Scan" a.Scan ks (sp_Scan a)) (c2 : Cal P w K mg base "read_thing" kt (sp_read_thing a)) {f : Addr} {fd : FuncData} (I : Ins K mg "read" s_read ["text"] f fd) : Cal P w K mg base "read" (max (max (ks + 1) kt) 2 + 1) (sp_read a) := by
  refine I.cal (dfn_ok I.F sc_read (fun ds S Q E h => by obtain ⟨d, rfl, _⟩ := h; rfl) fun cdv A fr s H S E ds Qd Wd hr gd tk po h => ?_)
  obtain ⟨d, rfl, hd, qn, qs⟩ := h
  refine ⟨_, tm_read G c (by omega) c2 (by omega) (by omega) hr gd tk po, ?_⟩
  unfold rd_read
  walk_at "dl"
  refine isi_str hd ?_
  cases hs : isStrB d with
  | false =>
    walk_at "dl"
    exact finX_same (qn hs)
  | true =>
    cases d <;> try (cases hs; done)
    rename_i t
    obtain ⟨hl, q1, q2⟩ := qs t rfl
    walk_at "dl"
    intro p hp
    refine ⟨p, t, rfl, sup_same, ?_⟩
    rw [sup_sup]
    have bs : Beg 60 start := ⟨rfl, .inl rfl⟩
    refine ⟨p, t, 0, 60, rfl, sup_same, Nat.le_refl _, Nat.le_refl _, hl, fun d' post ok => ?_, fun j k' bd => ?_⟩
    · rw [List.drop_zero] at ok
      obtain ⟨s', r1, r2, r3⟩ := ok.2.2 start bs
      have st : stopAt start 0 (tl t) = stopAt s' (0 + (txt d').length) post := by rw [ok.1]; exact stopAt_runs _ _ _ _ _ r1
      rw [sup_sup]
      refine ⟨_, _, fields_scn sup_same, look_place, ?_⟩
      walk_at "dl"
      have e : t.length = (txt d').length + post.length := by rw [len_tl, ok.1, List.length_append]
      rw [e]
      cases post with
      | nil =>
        rw [decide_eq_false (by simp only [List.length_nil]; omega)]
        walk_at "dl"
        have z : stopI (tl t) = -1 := by
          unfold stopI
          rw [st]
          simp only [stopAt]
          rw [if_neg (fun z => by rcases z with z | z; rw [r2] at z; exact absurd z (by decide); exact r3.1 z)]
        exact fin_drop (Sub.sup hp) (q1 d' z ok.2.1 (by rw [ok.1, List.append_nil]))
      | cons ch rr =>
        rw [decide_eq_true (by simp only [List.length_cons]; omega)]
        walk_at "dl"
        refine ⟨_, _, fields_scn sup_same, look_place, ?_⟩
        have z : stopI (tl t) = (((txt d').length : Nat) : Int) := by
          unfold stopI
          rw [st]
          simp only [stopAt, done_none r3 (fun _ => r2), Nat.zero_add]
        exact finX_drop (Sub.sup hp) (q2 _ z)
    · rw [List.drop_zero] at bd
      rw [sup_sup]
      obtain ⟨s', r1, r2⟩ := bd.2 start bs (fun z => by cases z)
      have z : stopI (tl t) = ((0 + j : Nat) : Int) := by
        unfold stopI
        have := stopAt_runs ((tl t).take j) ((tl t).drop j) start s' 0 r1
        rw [List.take_append_drop] at this
        rw [this, stopAt_stuck r2]
        simp only [List.length_take, Nat.min_eq_left bd.1]
      exact finX_drop (Sub.sup hp) (q2 _ z)
def laS : La → Str
  | .need => Str.ofString "need"
  | .opn => Str.ofString "open"
  | .num => Str.ofString "number"
  | .wrd => Str.ofString "word"
  | .clo => Str.ofString "closed"
theorem la_need (l : La) : decide (laS l = Str.ofString "need") = decide (l = .need) := by cases l <;> decide +kernel
theorem la_opn (l : La) : decide (laS l = Str.ofString "open") = decide (l = .opn) := by cases l <;> decide +kernel
theorem la_num (l : La) : decide (laS l = Str.ofString "number") = decide (l = .num) := by cases l <;> decide +kernel
theorem la_wrd (l : La) : decide (laS l = Str.ofString "word") = decide (l = .wrd) := by cases l <;> decide +kernel
theorem seq_set {i : Nat} {t : DTm} {R : DTs} {Dd : DEnds} {ρ : DEnv} {S : DS} (h : t ρ S fun d S1 => R Dd (ρ.set i (some d)) S1) : dSeq (dSet i t) R Dd ρ S := h
theorem if_ok {t : DTt} {u v : DTs} {Dd : DEnds} {ρ : DEnv} {S : DS} (b : Bool) (ht : ∀ Q : Bool → DS → Prop, Q b S → t ρ S Q) (h1 : b = true → u Dd ρ S) (h2 : b = false → v Dd ρ S) : dIf t u v Dd ρ S := ht _ ⟨h1, h2⟩
theorem and_ok {t u : DTt} {ρ : DEnv} {S : DS} {b c : Bool} (ht : ∀ Q : Bool → DS → Prop, Q b S → t ρ S Q) (hu : b = true → ∀ Q : Bool → DS → Prop, Q c S → u ρ S Q) (Q : Bool → DS → Prop) (q : Q (b && c) S) : dAnd t u ρ S Q :=
  ht _ ⟨fun e => hu e _ (by rw [e, Bool.true_and] at q; exact q), fun e => by rw [e, Bool.false_and] at q; exact q⟩
theorem or_ok {t u : DTt} {ρ : DEnv} {S : DS} {b c : Bool} (ht : ∀ Q : Bool → DS → Prop, Q b S → t ρ S Q) (hu : ∀ Q : Bool → DS → Prop, Q c S → u ρ S Q) (Q : Bool → DS → Prop) (q : Q (b || c) S) : dOr t u ρ S Q :=
  ht _ ⟨fun e => by rw [e, Bool.true_or] at q; exact q, fun e => hu _ (by rw [e, Bool.false_or] at q; exact q)⟩
theorem moreD_eq (s : Ms) (c : Nat) : moreD s c = (decide (s.last = .num) && (decide (0 < s.many) && decide (s.many * 10 + (c - 48) ≤ 1000000000))) := by unfold moreD; rw [Bool.decide_and, Bool.decide_and]
theorem moreL_eq (s : Ms) : moreL s = (decide (s.last = .wrd) && decide (s.many < 8)) := by unfold moreL; rw [Bool.decide_and]
theorem ends_eq (s : Ms) : ends s = (!decide (s.last = .need) && decide (0 < s.dep)) := by unfold ends; rw [Bool.decide_and, decide_not]
theorem begins_eq (s : Ms) : begins s = (decide (s.last = .need) || decide (s.last = .opn)) := by unfold begins; rw [Bool.decide_or]
theorem int_sign {c : Nat} (h : isDig c = true) {S : DS} {Q : DQ} (q : Q (.int ((c - 48 : Nat) : Int)) S) : oIntS [.str ⟨#[c]⟩] S Q := by
  have hb : 48 ≤ c ∧ c ≤ 57 := of_decide_eq_true h
  refine ⟨_, intText_digits (x := ⟨#[c]⟩) (fun y hy => ?_) (by simp) (by show 1 ≤ 4300; decide), by show 1 ≤ 640; decide, ?_⟩
  · have : y = c := by simpa using hy
    rw [this]; exact hb
  · simpa [NumText.digitsVal] using q
abbrev RhoS (x : Str) (s : Ms) (x4 x5 x6 x7 : Option D) : DEnv := [some (.str x), some (.int (s.dep : Nat)), some (.int (s.many : Nat)), some (.str (laS s.last)), x4, x5, x6, x7]
theorem ok__law_stop (G : Gs K mg a) {f : Addr} {fd : FuncData} (I : Ins K mg "_law_stop" s__law_stop ["_law_text_here"] f fd) : Cal P w K mg base "_law_stop" 1 (sp__law_stop a) := by
  refine I.cal (dfn_ok I.F sc__law_stop (fun ds S Q E h => by obtain ⟨d, rfl, _⟩ := h; rfl) fun cdv A fr s H S E ds Qd Wd hr gd tk po h => ?_)
  obtain ⟨x, rfl, q⟩ := h
  refine ⟨_, tm__law_stop G hr gd tk po, ?_⟩
  unfold rd__law_stop
  refine seq_set (seq_set (seq_set ?_))
  simp only [dC, dstart, List.map_cons, List.map_nil, List.length_cons, List.length_nil, List.replicate, List.cons_append, List.nil_append, List.set_cons_zero, List.set_cons_succ, Nat.reduceAdd, Nat.reduceSub]
  simp only [dSeq, dFor, dEnumS, dArgs, dVar, List.getElem?_cons_zero]
  have loop : ∀ (cs : List Nat) (i : Nat) (s : Ms) (x4 x5 x6 x7 : Option D) (g : DGt) (tb : DTs) (Dd : DEnds), g = dgT 2 [dgName 4, dgName 5] →
      (∀ (Dd : DEnds) (i c : Nat) (s : Ms) x6 x7, (step s c = none → Dd.rt (.int (i : Nat)) S) → (∀ s' x4 x5 x6 x7, step s c = some s' → Dd.nx (RhoS x s' x4 x5 x6 x7) S) → tb Dd (RhoS x s (some (.int (i : Nat))) (some (.str ⟨#[c]⟩)) x6 x7) S) →
      (∀ k, stopAt s i cs = some k → k < i + cs.length → Dd.rt (.int (k : Nat)) S) → (∀ s' x4 x5 x6 x7, stopAt s i cs = stopAt s' (i + cs.length) [] → Dd.nx (RhoS x s' x4 x5 x6 x7) S) → dLoop g tb (enumD i cs) Dd (RhoS x s x4 x5 x6 x7) S := by
    intro cs
    induction cs with
    | nil => intro i s x4 x5 x6 x7 g tb Dd eg hb k1 k2; exact k2 s _ _ _ _ rfl
    | cons c cs ih =>
      intro i s x4 x5 x6 x7 g tb Dd eg hb k1 k2
      unfold enumD dLoop
      rw [eg]
      simp only [dgT, dgTup, dGs, dgName, RhoS, List.set_cons_succ, List.set_cons_zero, List.length_cons, List.length_nil, Nat.reduceAdd, true_and]
      refine hb _ i c s _ _ (fun e => ?_) (fun s' y4 y5 y6 y7 e => ?_)
      · exact k1 i (by simp only [stopAt, e]) (by simp only [List.length_cons]; omega)
      · refine ih (i + 1) s' _ _ _ _ _ _ _ rfl hb (fun k hk hlt => k1 k (by simp only [stopAt, e]; exact hk) (by simp only [List.length_cons]; omega)) (fun s2 z4 z5 z6 z7 hk => k2 s2 _ _ _ _ ?_)
        simp only [stopAt, e, List.length_cons]
        rw [hk, show i + 1 + cs.length = i + (cs.length + 1) by omega]; rfl
  refine loop (tl x) 0 start none none none none _ _ _ rfl (fun Dd i c s x6 x7 h1 h2 => ?_) (fun k hk _ => fin_same ?_) (fun s' x4 x5 x6 x7 hk => ?_)
  · -- one sign
    have t6 : ∀ Q : DQ, Q (.bl (begins s)) S → (dOrV (dOp (oEqS false) (dVar 3) (dC (.str "need"))) (dOp (oEqS false) (dVar 3) (dC (.str "open")))) (RhoS x s (some (.int (i : Nat))) (some (.str ⟨#[c]⟩)) x6 x7) S Q := fun Q r => by
      rw [begins_eq] at r
      simp only [dOrV, dOp, dVar, dC, RhoS, List.getElem?_cons_succ, List.getElem?_cons_zero, oEqS, la_need, la_opn, Bool.false_bne]
      exact ⟨fun e => by rw [e, Bool.true_or] at r; exact r, fun e => by rw [e, Bool.false_or] at r; exact r⟩
    refine seq_set (t6 _ ?_)
    simp only [RhoS, List.set_cons_succ, List.set_cons_zero]
    have t7 : ∀ (Q : DQ) ρ, ρ[3]? = some (some (D.str (laS s.last))) → ρ[1]? = some (some (D.int (s.dep : Nat))) → Q (.bl (ends s)) S → (dAndV (dOp (oEqS true) (dVar 3) (dC (.str "need"))) (dOp oGt (dVar 1) (dC (.int 0)))) ρ S Q := fun Q ρ e3 e1 r => by
      rw [ends_eq] at r
      have e0 : decide ((0 : Int) < (s.dep : Nat)) = decide (0 < s.dep) := by
        rw [Bool.eq_iff_iff, decide_eq_true_eq, decide_eq_true_eq]; omega
      simp only [dAndV, dOp, dVar, dC, e3, e1, oEqS, la_need, Bool.true_bne, oI0, e0]
      exact ⟨fun e => by rw [e, Bool.true_and] at r; exact r, fun e => by rw [e, Bool.false_and] at r; exact r⟩
    refine seq_set (t7 _ _ rfl rfl ?_)
    simp only [List.set_cons_succ, List.set_cons_zero]
    have tIn : ∀ (z : Str) (Q : Bool → DS → Prop) ρ, ρ[5]? = some (some (D.str ⟨#[c]⟩)) → Q (decide (c ∈ tl z)) S → dB (dOp (oInS false) (dVar 5) (dC (.str z))) ρ S Q := fun z Q ρ e5 qq => by
      simp only [dB, dOp, dVar, dC, e5, oInS, Bool.false_bne]
      have := found_sign z c
      rw [this]; exact qq
    have tEq : ∀ (y : Nat) (z : Str) (Q : Bool → DS → Prop) ρ, tl z = [y] → ρ[5]? = some (some (D.str ⟨#[c]⟩)) → Q (decide (c = y)) S → dB (dOp (oEqS false) (dVar 5) (dC (.str z))) ρ S Q := fun y z Q ρ ez e5 qq => by
      simp only [dB, dOp, dVar, dC, e5, oEqS, Bool.false_bne]
      have : decide ((⟨#[c]⟩ : Str) = z) = decide (c = y) := by
        rw [Bool.eq_iff_iff, decide_eq_true_eq, decide_eq_true_eq]
        constructor
        · intro e
          have := congrArg tl e
          rw [ez] at this
          simpa [tl] using this
        · intro e
          subst e
          exact ext_tl ez.symm
      rw [this]; exact qq
    let ρ : DEnv := [some (.str x), some (.int (s.dep : Nat)), some (.int (s.many : Nat)), some (.str (laS s.last)), some (.int (i : Nat)), some (.str ⟨#[c]⟩), some (.bl (begins s)), some (.bl (ends s))]
    show dIf _ _ _ Dd ρ S
    have e5 : ρ[5]? = some (some (D.str ⟨#[c]⟩)) := rfl
    have dig : ∀ Q : Bool → DS → Prop, Q (isDig c) S → dB (dOp (oInS false) (dVar 5) (dC (.str (Str.ofString "0123456789")))) ρ S Q := fun Q qq => tIn figures Q ρ e5 (by rw [mem_figures]; exact qq)
    have lett : ∀ Q : Bool → DS → Prop, Q (isLet c) S → dB (dOp (oInS false) (dVar 5) (dC (.str (Str.ofString "abcdefghijklmnopqrstuvwxyz")))) ρ S Q := fun Q qq => tIn letters Q ρ e5 (by rw [mem_letters]; exact qq)
    have beg : ∀ Q : Bool → DS → Prop, Q (begins s) S → dB (dVar 6) ρ S Q := fun Q qq => qq
    have en : ∀ Q : Bool → DS → Prop, Q (ends s) S → dB (dVar 7) ρ S Q := fun Q qq => qq
    have lst : ∀ (z : Str) (b : Bool), decide (laS s.last = z) = b → ∀ Q : Bool → DS → Prop, Q b S → dB (dOp (oEqS false) (dVar 3) (dC (.str z))) ρ S Q := fun z b e Q qq => by
      show Q (false != decide (laS s.last = z)) S
      rw [e, Bool.false_bne]; exact qq
    refine if_ok (isDig c && begins s) (and_ok dig fun _ => beg) (fun e => ?_) fun n1 => ?_
    · walk_at "dl"
      have e' := e
      rw [Bool.and_eq_true] at e'
      exact int_sign e'.1 (h2 ⟨s.dep, c - 48, .num⟩ _ _ _ _ (step_dig e'.1 e'.2))
    refine if_ok (isDig c && moreD s c) ?_ (fun e => ?_) fun n2 => ?_
    · rw [moreD_eq]
      refine and_ok dig fun hd => and_ok (lst _ _ (la_num _)) fun _ => and_ok (fun Q qq => ?_) fun _ Q qq => ?_
      · show Q (decide ((0 : Int) < (s.many : Nat))) S
        have : decide ((0 : Int) < (s.many : Nat)) = decide (0 < s.many) := by rw [Bool.eq_iff_iff, decide_eq_true_eq, decide_eq_true_eq]; omega
        rw [this]; exact qq
      · show CMul _ _ ∧ _
        refine ⟨.inr (by decide), ?_⟩
        simp only [dCB, dArgs, dVar, e5]
        refine int_sign hd ?_
        show CPow 10 9 ∧ _
        refine ⟨⟨by decide, by decide, by decide⟩, ?_⟩
        show Q (decide ((s.many : Int) * 10 + ((c - 48 : Nat) : Int) ≤ (10 : Int) ^ (9 : Int).toNat)) S
        have : decide ((s.many : Int) * 10 + ((c - 48 : Nat) : Int) ≤ (10 : Int) ^ (9 : Int).toNat) = decide (s.many * 10 + (c - 48) ≤ 1000000000) := by
          rw [Bool.eq_iff_iff, decide_eq_true_eq, decide_eq_true_eq, show (10 : Int) ^ (9 : Int).toNat = 1000000000 from by decide]; omega
        rw [this]; exact qq
    · have e' := e
      rw [Bool.and_eq_true] at e'
      walk_at "dl"
      refine ⟨.inr (by decide), int_sign e'.1 ?_⟩
      walk_at "dl"
      have := h2 ⟨s.dep, s.many * 10 + (c - 48), .num⟩ (some (.int (i : Nat))) (some (.str ⟨#[c]⟩)) (some (.bl (begins s))) (some (.bl (ends s))) (step_digm e'.1 e'.2)
      have ln : s.last = .num := (of_decide_eq_true e'.2 : _ ∧ _).1
      simp only [RhoS] at this
      rw [show ((s.many * 10 + (c - 48) : Nat) : Int) = (s.many : Int) * 10 + ((c - 48 : Nat) : Int) by omega] at this
      rw [← ln] at this; exact this
    refine if_ok (isLet c && (begins s || moreL s)) ?_ (fun e => ?_) fun n3 => ?_
    · rw [moreL_eq]
      refine and_ok lett fun _ => or_ok beg (and_ok (lst _ _ (la_wrd _)) fun _ Q qq => ?_)
      show Q (decide ((s.many : Int) < 8)) S
      have : decide ((s.many : Int) < 8) = decide (s.many < 8) := by rw [Bool.eq_iff_iff, decide_eq_true_eq, decide_eq_true_eq]; omega
      rw [this]; exact qq
    · have e' := e
      rw [Bool.and_eq_true] at e'
      walk_at "dl"
      simp only [la_wrd, oIntB]
      refine ⟨.inr ?_, ?_⟩
      · split <;> decide
      have := h2 ⟨s.dep, (if s.last = .wrd then s.many else 0) + 1, .wrd⟩ (some (.int (i : Nat))) (some (.str ⟨#[c]⟩)) (some (.bl (begins s))) (some (.bl (ends s))) (step_let e'.1 e'.2)
      simp only [RhoS] at this
      have em : (((if s.last = .wrd then s.many else 0) + 1 : Nat) : Int) = (s.many : Int) * (if decide (s.last = .wrd) = true then 1 else 0) + 1 := by
        by_cases hw : s.last = .wrd
        · simp [hw]
        · simp [hw]
      rw [em, ← la_wrd] at this
      exact this
    refine if_ok (decide (c = 40) && (begins s && decide (s.dep < 60))) ?_ (fun e => ?_) fun n4 => ?_
    · refine and_ok (fun Q qq => tEq 40 _ Q ρ (by rw [tl_ofString]; decide +kernel) e5 qq) fun _ => and_ok beg fun _ Q qq => ?_
      show Q (decide ((s.dep : Int) < 60)) S
      have : decide ((s.dep : Int) < 60) = decide (s.dep < 60) := by rw [Bool.eq_iff_iff, decide_eq_true_eq, decide_eq_true_eq]; omega
      rw [this]; exact qq
    · simp only [Bool.and_eq_true, decide_eq_true_eq] at e
      obtain ⟨rfl, eb, ed⟩ := e
      walk_at "dl"
      exact h2 ⟨s.dep + 1, s.many, .opn⟩ _ _ _ _ (step_open eb ed)
    refine if_ok (decide (c = 41) && ends s) ?_ (fun e => ?_) fun n5 => ?_
    · exact and_ok (fun Q qq => tEq 41 _ Q ρ (by rw [tl_ofString]; decide +kernel) e5 qq) fun _ => en
    · simp only [Bool.and_eq_true, decide_eq_true_eq] at e
      obtain ⟨rfl, ee⟩ := e
      walk_at "dl"
      have hd0 : 0 < s.dep := (of_decide_eq_true ee : _ ∧ _).2
      have := h2 ⟨s.dep - 1, s.many, .clo⟩ (some (.int (i : Nat))) (some (.str ⟨#[41]⟩)) (some (.bl (begins s))) (some (.bl (ends s))) (step_close ee)
      simp only [RhoS] at this
      rw [show ((s.dep - 1 : Nat) : Int) = (s.dep : Int) - 1 by omega] at this
      exact this
    refine if_ok (decide (c = 32) && (ends s && decide (s.last ≠ .opn))) ?_ (fun e => ?_) fun n6 => ?_
    · refine and_ok (fun Q qq => tEq 32 _ Q ρ (by rw [tl_ofString]; decide +kernel) e5 qq) fun _ => and_ok en fun _ Q qq => ?_
      show Q (true != decide (laS s.last = Str.ofString "open")) S
      rw [la_opn, Bool.true_bne, ← decide_not]; exact qq
    · simp only [Bool.and_eq_true, decide_eq_true_eq] at e
      obtain ⟨rfl, ee, eo⟩ := e
      walk_at "dl"
      exact h2 ⟨s.dep, s.many, .need⟩ _ _ _ _ (step_sp ee eo)
    · walk_at "dl"
      refine h1 ?_
      unfold step
      rw [n1, n2, n3, n4, n5, n6]
      rfl
  · have : stopI (tl x) = (k : Nat) := by unfold stopI; rw [hk]
    rw [this] at q; exact q
  · walk_at "dl"
    have e0 : decide ((0 : Int) < (s'.dep : Nat)) = decide (0 < s'.dep) := by rw [Bool.eq_iff_iff, decide_eq_true_eq, decide_eq_true_eq]; omega
    rw [e0]
    have lx : (tl x).length = x.length := (len_tl x).symm
    have fin1 : (0 < s'.dep ∨ s'.last = .need) → fin Qd (.int (x.length : Nat)) S := fun z => by
      have : stopI (tl x) = ((0 + (tl x).length : Nat) : Int) := by
        unfold stopI; rw [hk]; simp only [stopAt]; rw [if_pos z]
      rw [this, Nat.zero_add, lx] at q
      exact fin_same q
    refine ⟨fun z => fin1 (.inl (of_decide_eq_true z)), fun z => ?_⟩
    rw [la_need]
    refine ⟨fun y => fin1 (.inr (of_decide_eq_true y)), fun y => fin_same ?_⟩
    have : stopI (tl x) = -1 := by
      unfold stopI; rw [hk]; simp only [stopAt]
      rw [if_neg (fun w => by rcases w with w | w; exact of_decide_eq_false z w; exact of_decide_eq_false y w)]
    rw [this] at q; exact q
end Lw

namespace Lw
open PySem PySem.Spec PyProof.Rows L2 DL TL
local macro_rules | `(tactic| walk_at "dl") => `(tactic| simp only [dSeq, dIf, dRet, dRetN, dNext, dVar, dC, dOp, dCB, dCall, dArgs, dBM, dB, dNot, dAnd, dOr, dAndV, dOrV, dNotV, dIfE, dChain, dSet, dExpr, dAsg, dTup, dLst, dLstM, dstart, dLc, dLcM, dItStr, dItTup, dItLst, dgName, dwipe, dSl, dPart, dNoP, dFld, dFldA, dFldS, dMake, dRaise1, dBreak, dFor, dTryAs, wTry, dXf, dgSub, oIx, dNeg, dRng1, oTuple, oAddS, oMulS, oCatMM, oIsF, oIsN, oI0, oI, oEqS, oLen, chkStr, chkLst, List.map_cons, List.map_nil, List.length_cons, List.length_nil, List.replicate, List.cons_append, List.nil_append, List.append_nil, List.getElem?_cons_zero, List.getElem?_cons_succ, List.set_cons_zero, List.set_cons_succ, Nat.reduceAdd, Nat.reduceSub, Nat.zero_add, true_implies, false_implies, Bool.true_eq_false, Bool.false_eq_true, eq_self, and_true, true_and, implies_true, Bool.not_true, Bool.not_false, Bool.true_bne, Bool.false_bne, decide_true, decide_false, Int.reducePow, Int.reduceToNat, Int.reduceAdd, Int.reduceNeg, Int.reduceMul, Int.reduceSub])
variable {P : Program} {w : World} {K : PySem.W.Frag} {mg : Str → Option Value} {base : Heap} {a : Ad}
theorem sign_ok (z : Str) {i : Int} (h0 : 0 ≤ i) (h1 : i < (z.length : Nat)) : ∃ c, atI z.cps.toList i = some c := by
  have hl : i.toNat < (tl z).length := by rw [← len_tl]; omega
  refine ⟨(tl z)[i.toNat], ?_⟩
  show atI (tl z) i = _
  unfold atI ixN
  rw [if_pos h0, if_pos (by rw [← len_tl]; exact h1)]
  simp [hl]
def Sh (n : Nat) (d : D) : Prop := ∃ x : Str, d = .str x ∧ x.length ≤ n
theorem ok__law_written (G : Gs K mg a) {f : Addr} {fd : FuncData} (I : Ins K mg "_law_written" s__law_written ["_law_number_here"] f fd) : Cal P w K mg base "_law_written" 1 (sp__law_written a) := by
  refine I.cal (dfn_ok I.F sc__law_written (fun ds S Q E h => by obtain ⟨d, rfl, _⟩ := h; rfl) fun cdv A fr s H S E ds Qd Wd hr gd tk po h => ?_)
  obtain ⟨i, rfl, h0, h1, q⟩ := h
  refine ⟨_, tm__law_written G hr gd tk po, ?_⟩
  unfold rd__law_written
  have sl := sizeL
  walk_at "dl"
  intro p1 e1 p2 e2
  have n12 : p1 ≠ p2 := ne_of_new sup_same e2
  refine ⟨_, _, by rw [sup_ne n12]; exact sup_same, sup_same, by simp only [List.length_cons, List.length_nil]; omega, fun p3 e3 => ?_⟩
  have one : ∀ z : String, z.toList.length = 1 → (Str.ofString z).length = 1 := fun z hz => by rw [PyProof.Rows.ofString_length]; exact hz
  refine ⟨rfl, by decide, by decide, fun z1 l1 => ⟨rfl, by decide, by decide, fun z2 l2 => ⟨rfl, by decide, by decide, fun z3 l3 => ⟨by omega, ?_⟩⟩⟩⟩
  refine ⟨rfl, by decide, by decide, fun z4 l4 => ⟨rfl, by decide, by decide, fun z5 l5 => ⟨by omega, ?_⟩⟩⟩
  refine ⟨rfl, by decide, by decide, fun z6 l6 => ⟨rfl, by decide, by decide, fun z7 l7 => ⟨by omega, ?_⟩⟩⟩
  have lx : (Str.ofString "x").length = 1 := rfl
  refine ⟨rfl, by decide, by decide, fun z8 l8 => ⟨by omega, rfl, by decide, by decide, fun z9 l9 => ⟨by rw [len_app]; omega, ?_⟩⟩⟩
  intro p4 e4
  have n34 : p3 ≠ p4 := ne_of_new sup_same e4
  refine ⟨_, _, by rw [sup_ne n34]; exact sup_same, sup_same, by simp only [List.length_append, List.length_cons, List.length_nil]; omega, fun p5 e5 => ?_⟩
  refine ⟨rfl, by decide, by decide, fun y1 m1 => ?_⟩
  intro p6 e6
  have n56 : p5 ≠ p6 := ne_of_new sup_same e6
  refine ⟨_, _, by rw [sup_ne n56]; exact sup_same, sup_same, by simp only [List.length_append, List.length_cons, List.length_nil]; omega, fun p7 e7 => ?_⟩
  refine ⟨by decide, ?_⟩
  have ei : i % 38 = i := Int.emod_eq_of_lt h0 h1
  rw [ei]
  have lit : ∀ z : String, z.toList.length ≤ 1000 → Sh 1000 (.str (Str.ofString z)) := fun z hz => ⟨_, rfl, by rw [PyProof.Rows.ofString_length]; exact hz⟩
  have fin' : ∀ (L : List D) (S' : DS), S' p7 = some (.lst L) → Sub S S' → (∀ d ∈ L, Sh 1000 d) → i < (L.length : Nat) → ∃ l d, S' p7 = some (.lst l) ∧ atI l i = some d ∧ fin Qd d S' := fun L S' h1 h2 h3 h4 => by
    obtain ⟨d, g1, x, rfl, hx⟩ := at_ok (P := Sh 1000) h3 h0 h4
    exact ⟨L, _, h1, g1, fin_drop h2 (q x hx)⟩
  refine fin' _ _ sup_same ((((((Sub.sup e1).trans (Sub.sup e2)).trans (Sub.sup e3)).trans (Sub.sup e4)).trans (Sub.sup e5)).trans ((Sub.sup e6).trans (Sub.sup e7))) (fun d hd => ?_) (by simp only [List.length_append, List.length_cons, List.length_nil]; omega)
  simp only [List.mem_append, List.mem_cons, List.not_mem_nil, or_false] at hd
  repeat' (rcases hd with hd | hd)
  all_goals (first | exact lit _ (by decide) | exact ⟨_, rfl, by omega⟩ | exact ⟨_, rfl, by rw [len_app]; omega⟩ | exact ⟨_, rfl, by rw [len_app, len_app]; omega⟩)
theorem ok__law_sign (G : Gs K mg a) {kt : Nat} (ct : Cal P w K mg base "_law_take" kt (sp__law_take a)) {f : Addr} {fd : FuncData} (I : Ins K mg "_law_sign" s__law_sign ["_law_state"] f fd) : Cal P w K mg base "_law_sign" (kt + 1) (sp__law_sign a) := by
  refine I.cal (dfn_ok I.F sc__law_sign (fun ds S Q E h => by obtain ⟨p, ns, rfl, _⟩ := h; rfl) fun cdv A fr s H S E ds Qd Wd hr gd tk po h => ?_)
  obtain ⟨p, ns, rfl, st, q⟩ := h
  refine ⟨_, tm__law_sign G ct (Nat.le_refl _) hr gd tk po, ?_⟩
  unfold rd__law_sign
  walk_at "dl"
  refine ⟨p, ns, 2, rfl, st, by decide, by decide, fun r1 S1 z1 z2 st1 m1 => ?_⟩
  walk_at "dl"
  refine ⟨fun _ => ⟨p, ns, 8, rfl, st1, by decide, by decide, fun r2 S2 z3 z4 st2 m2 => ?_⟩, fun _ => ?_⟩
  · obtain ⟨c, hc⟩ := sign_ok (Str.ofString " ()0a9z1") z3 z4
    exact ⟨c, hc, fin_same (q _ _ rfl st2 (m1.trans m2))⟩
  · refine ⟨p, ns, _, rfl, st1, by decide +kernel, by decide +kernel, fun r2 S2 z3 z4 st2 m2 => ?_⟩
    obtain ⟨c, hc⟩ := sign_ok _ z3 z4
    exact ⟨c, hc, fin_same (q _ _ rfl st2 (m1.trans m2))⟩
end Lw

namespace Lw
open PySem PySem.Spec PyProof.Rows L2 DL TL
local macro_rules | `(tactic| walk_at "dl") => `(tactic| simp only [dSeq, dIf, dRet, dRetN, dNext, dVar, dC, dOp, dCB, dCall, dArgs, dBM, dB, dNot, dAnd, dOr, dAndV, dOrV, dNotV, dIfE, dChain, dSet, dExpr, dAsg, dTup, dLst, dLstM, dstart, dLc, dLcM, dItStr, dItTup, dItLst, dgName, dwipe, dSl, dPart, dNoP, dFld, dFldA, dFldS, dMake, dRaise1, dBreak, dFor, dTryAs, wTry, dXf, dgSub, oIx, dNeg, dRng1, oTuple, oAddS, oMulS, oCatMM, oIsF, oIsN, oI0, oI, oEqS, oLen, chkStr, chkLst, List.map_cons, List.map_nil, List.length_cons, List.length_nil, List.replicate, List.cons_append, List.nil_append, List.append_nil, List.getElem?_cons_zero, List.getElem?_cons_succ, List.set_cons_zero, List.set_cons_succ, Nat.reduceAdd, Nat.reduceSub, Nat.zero_add, true_implies, false_implies, Bool.true_eq_false, Bool.false_eq_true, eq_self, and_true, true_and, implies_true, Bool.not_true, Bool.not_false, Bool.true_bne, Bool.false_bne, decide_true, decide_false, Int.reducePow, Int.reduceToNat, Int.reduceAdd, Int.reduceNeg, Int.reduceMul, Int.reduceSub])
variable {P : Program} {w : World} {K : PySem.W.Frag} {mg : Str → Option Value} {base : Heap} {a : Ad}
/-- a term that tells d and changes nothing -/
def Ev (t : DTm) (ρ : DEnv) (S : DS) (d : D) : Prop := ∀ Q : DQ, Q d S → t ρ S Q
theorem ev_var {i : Nat} {ρ : DEnv} {S : DS} {d : D} (h : ρ[i]? = some (some d)) : Ev (dVar i) ρ S d := fun Q q => by unfold dVar; rw [h]; exact q
theorem ev_add {ta tb : DTm} {ρ : DEnv} {S : DS} {u v : Str} (ha : Ev ta ρ S (.str u)) (hb : Ev tb ρ S (.str v)) (hl : u.length + v.length ≤ sizeLine) : Ev (dOp oAddS ta tb) ρ S (.str (u ++ v)) := fun Q q => ha _ (hb _ ⟨hl, q⟩)
def EvO (t : DTo) (ρ : DEnv) (S : DS) (o : Option Int) : Prop := ∀ Q : Option Int → DS → Prop, Q o S → t ρ S Q
theorem evo_no {ρ : DEnv} {S : DS} : EvO dNoP ρ S none := fun Q q => q
theorem evo_part {t : DTm} {ρ : DEnv} {S : DS} {i : Int} (h : Ev t ρ S (.int i)) : EvO (dPart t) ρ S (some i) := fun Q q => h _ q
theorem ev_sl {t : DTm} {tl th : DTo} {ρ : DEnv} {S : DS} {z : Str} {lo hi : Option Int} (h : Ev t ρ S (.str z)) (hl : EvO tl ρ S lo) (hh : EvO th ρ S hi) : Ev (dSl t tl th) ρ S (.str (cutS z lo hi)) := fun Q q => h _ (hl _ (hh _ q))
theorem ev_add1 {i : Nat} {ρ : DEnv} {S : DS} {k : Int} (h : ρ[i]? = some (some (.int k))) : Ev (dOp oAdd (dVar i) (dC (.int 1))) ρ S (.int (k + 1)) := fun Q q => ev_var h _ q
def EvA (ts : List DTm) (ρ : DEnv) (S : DS) (ds : List D) : Prop := ∀ Q : List D → DS → Prop, Q ds S → dArgs ts ρ S Q
theorem eva_nil {ρ : DEnv} {S : DS} : EvA [] ρ S [] := fun Q q => q
theorem eva_cons {t : DTm} {ts : List DTm} {ρ : DEnv} {S : DS} {d : D} {ds : List D} (h : Ev t ρ S d) (hs : EvA ts ρ S ds) : EvA (t :: ts) ρ S (d :: ds) := fun Q q => h _ (hs _ q)
theorem ev_pick {ρ : DEnv} {S : DS} {j : Int} {w1 : D} (h : Ev (dVar 3) ρ S (.int j)) (g : atI [D.str (Str.ofString " "), .str (Str.ofString "")] (j % 2) = some w1) : Ev (dOp oIx (dLst [(dC (.str " ")), (dC (.str ""))]) (dOp oMod (dVar 3) (dC (.int 2)))) ρ S w1 := fun Q q => by
  simp only [dOp, dLst, dArgs, dC]
  exact h _ ⟨(by decide : (0 : Int) < 2), _, g, q⟩
theorem ok__law_bent (G : Gs K mg a) {kt ks : Nat} (ct : Cal P w K mg base "_law_take" kt (sp__law_take a)) (cs : Cal P w K mg base "_law_sign" ks (sp__law_sign a)) {f : Addr} {fd : FuncData} (I : Ins K mg "_law_bent" s__law_bent ["_law_state", "_law_text_here"] f fd) : Cal P w K mg base "_law_bent" (kt + ks + 1) (sp__law_bent a) := by
  refine I.cal (dfn_ok I.F sc__law_bent (fun ds S Q E h => by obtain ⟨p, ns, y, rfl, _⟩ := h; rfl) fun cdv A fr s H S E ds Qd Wd hr gd tk po h => ?_)
  obtain ⟨p, ns, y, rfl, st, hy, q⟩ := h
  refine ⟨_, tm__law_bent G ct (by omega) cs (by omega) hr gd tk po, ?_⟩
  unfold rd__law_bent
  have sl := sizeL
  refine seq_set ?_
  simp only [dCall, dArgs, dVar, dC, dstart, List.map_cons, List.map_nil, List.length_cons, List.length_nil, List.replicate, List.cons_append, List.nil_append, List.append_nil, List.getElem?_cons_zero, List.set_cons_zero, List.set_cons_succ, Nat.reduceAdd, Nat.reduceSub]
  refine ⟨p, ns, 8, rfl, st, by decide, by decide, fun r1 S1 z1 z2 st1 m1 => ?_⟩
  refine seq_set ?_
  simp only [dCall, dArgs, dVar, dC, dOp, dCB, oLen, oI0, List.append_nil, List.cons_append, List.nil_append, List.getElem?_cons_zero, List.getElem?_cons_succ, List.set_cons_zero, List.set_cons_succ]
  refine ⟨p, ns, _, rfl, st1, by omega, by omega, fun r2 S2 z3 z4 st2 m2 => ?_⟩
  obtain ⟨j, rfl⟩ : ∃ j : Nat, r2 = (j : Nat) := ⟨r2.toNat, by omega⟩
  refine seq_set ?_
  simp only [dCall, dArgs, dVar, List.append_nil, List.getElem?_cons_zero, List.getElem?_cons_succ, List.set_cons_zero, List.set_cons_succ]
  refine ⟨p, ns, rfl, st2, fun x S3 hx st3 m3 => ?_⟩
  have cl := cutS_len y none (some (j : Nat))
  have ch := cutS_len y (some (j : Nat)) none
  have ch1 := cutS_len y (some ((j : Nat) + 1)) none
  have c1 : (cutS y (some (j : Nat)) (some ((j : Nat) + 1))).length ≤ 1 := by
    rw [cut_sign, len_tl, tl_sg]
    cases (tl y)[j]? <;> simp
  refine seq_set ?_
  have ρx : ∀ (o : Option D) (S : DS), Ev (dVar 1) [some (.ref p), some (.str y), some (.int r1), some (.int (j : Nat)), some (.str x), o] S (.str y) ∧ Ev (dVar 3) [some (.ref p), some (.str y), some (.int r1), some (.int (j : Nat)), some (.str x), o] S (.int (j : Nat)) ∧ Ev (dVar 4) [some (.ref p), some (.str y), some (.int r1), some (.int (j : Nat)), some (.str x), o] S (.str x) := fun o S => ⟨ev_var rfl, ev_var rfl, ev_var rfl⟩
  obtain ⟨v1, v3, v4⟩ := ρx none S3
  have A1 := ev_sl v1 evo_no (evo_part v3)
  have B1 := ev_sl v1 (evo_part v3) evo_no
  have C1 := ev_sl v1 (evo_part (ev_add1 (i := 3) rfl)) evo_no
  refine eva_cons v1 (eva_cons (ev_add (ev_add A1 v4 (by omega)) B1 (by rw [len_app]; omega)) (eva_cons (ev_add A1 C1 (by omega)) (eva_cons (ev_add (ev_add A1 v4 (by omega)) C1 (by rw [len_app]; omega)) (eva_cons A1 eva_nil)))) _ ?_
  intro p1 e1
  refine seq_set ?_
  simp only [List.set_cons_zero, List.set_cons_succ]
  obtain ⟨v1, v3, v4⟩ := ρx (some (.ref p1)) (sup S3 p1 (.lst [.str y, .str (cutS y none (some (j : Nat)) ++ x ++ cutS y (some (j : Nat)) none), .str (cutS y none (some (j : Nat)) ++ cutS y (some ((j : Nat) + 1)) none), .str (cutS y none (some (j : Nat)) ++ x ++ cutS y (some ((j : Nat) + 1)) none), .str (cutS y none (some (j : Nat)))]))
  have A1 := ev_sl v1 evo_no (evo_part v3)
  have B1 := ev_sl v1 (evo_part v3) evo_no
  have E1 := ev_sl v1 (evo_part v3) (evo_part (ev_add1 (i := 3) rfl))
  have m1' : (0 : Int) < 2 := by decide
  obtain ⟨d, g1, w1, rfl, hw1⟩ := at_ok (P := Sh 1) (l := [D.str (Str.ofString " "), .str (Str.ofString "")]) (fun d hd => by
    simp only [List.mem_cons, List.not_mem_nil, or_false] at hd
    rcases hd with rfl | rfl
    · exact ⟨_, rfl, Nat.le_refl 1⟩
    · exact ⟨_, rfl, Nat.zero_le 1⟩) (Int.emod_nonneg (j : Int) (by decide)) (Int.emod_lt_of_pos (j : Int) m1')
  have W1 := ev_pick v3 g1
  have L2 := eva_cons B1 (eva_cons (ev_add (ev_add v1 W1 (by omega)) v1 (by rw [len_app]; omega)) (eva_cons (ev_add (ev_add A1 E1 (by omega)) B1 (by rw [len_app]; omega)) eva_nil))
  refine ev_var (i := 5) rfl _ (L2 _ ?_)
  intro p2 e2
  have n12 : p1 ≠ p2 := ne_of_new sup_same e2
  refine ⟨_, _, by rw [sup_ne n12]; exact sup_same, sup_same, by simp only [List.length_cons, List.length_nil]; omega, fun p3 e3 => ?_⟩
  have fin' : ∀ (L : List D) (S' : DS), S' p3 = some (.lst L) → Sub S3 S' → (∀ d ∈ L, Sh (2 * y.length + 1) d) → r1 < (L.length : Nat) → ∃ l d, S' p3 = some (.lst l) ∧ atI l r1 = some d ∧ fin Qd d S' := fun L S' h1 h2 h3 h4 => by
    obtain ⟨d, g1, x, rfl, hx⟩ := at_ok (P := Sh (2 * y.length + 1)) h3 z1 h4
    exact ⟨L, _, h1, g1, fin_drop h2 (q x S3 hx st3 ((m1.trans m2).trans m3))⟩
  refine fin' _ _ sup_same (((Sub.sup e1).trans (Sub.sup e2)).trans (Sub.sup e3)) (fun d hd => ?_) (by simp only [List.length_append, List.length_cons, List.length_nil]; omega)
  simp only [List.mem_append, List.mem_cons, List.not_mem_nil, or_false] at hd
  repeat' (rcases hd with hd | hd)
  all_goals (first | exact ⟨_, rfl, by omega⟩ | exact ⟨_, rfl, by rw [len_app]; omega⟩ | exact ⟨_, rfl, by rw [len_app, len_app]; omega⟩)
end Lw

namespace Lw
open PySem PySem.Spec PyProof.Rows L2 DL TL
local macro_rules | `(tactic| walk_at "dl") => `(tactic| simp only [dSeq, dIf, dRet, dRetN, dNext, dVar, dC, dOp, dCB, dCall, dArgs, dBM, dB, dNot, dAnd, dOr, dAndV, dOrV, dNotV, dIfE, dChain, dSet, dExpr, dAsg, dTup, dLst, dLstM, dstart, dLc, dLcM, dItStr, dItTup, dItLst, dgName, dwipe, dFld, dFldA, dFldS, dMake, dRaise1, dBreak, dFor, dTryAs, wTry, dXf, dgSub, oIx, dNeg, dRng1, oTuple, oAddS, oMulS, oCatMM, oIsF, oIsN, oI0, oI, oEqS, oLen, chkStr, chkLst, List.map_cons, List.map_nil, List.length_cons, List.length_nil, List.replicate, List.cons_append, List.nil_append, List.append_nil, List.getElem?_cons_zero, List.getElem?_cons_succ, List.set_cons_zero, List.set_cons_succ, Nat.reduceAdd, Nat.reduceSub, Nat.zero_add, true_implies, false_implies, Bool.true_eq_false, Bool.false_eq_true, eq_self, and_true, true_and, implies_true, Bool.not_true, Bool.not_false, Bool.true_bne, Bool.false_bne, decide_true, decide_false, Int.reducePow, Int.reduceToNat, Int.reduceAdd, Int.reduceNeg, Int.reduceMul, Int.reduceSub])
variable {P : Program} {w : World} {K : PySem.W.Frag} {mg : Str → Option Value} {base : Heap} {a : Ad}
theorem ok__law_read (G : Gs K mg a) {k : Nat} (c : Cal P w K mg base "read" k (sp_read a)) {f : Addr} {fd : FuncData} (I : Ins K mg "_law_read" s__law_read ["_law_text_here"] f fd) : Cal P w K mg base "_law_read" (k + 1) (sp__law_read a) := by
  refine I.cal (dfn_ok I.F sc__law_read (fun ds S Q E h => by obtain ⟨d, rfl, _⟩ := h; rfl) fun cdv A fr s H S E ds Qd Wd hr gd tk po h => ?_)
  obtain ⟨d, rfl, hd, ht, q⟩ := h
  refine ⟨_, tm__law_read G c (Nat.le_refl _) hr gd tk po, ?_⟩
  unfold rd__law_read
  walk_at "dl"
  refine ⟨d, rfl, hd, fun hn => ⟨true, G.em_NoText_NoText, ?_⟩, fun t et => ?_⟩
  · walk_at "dl"
    intro xa
    refine ⟨_, _, rfl, G.ec_NoText, G.kt_NoText_LikewebsError, ?_⟩
    walk_at "dl"
    refine ⟨_, _, rfl, G.ec_NoText, G.kt_NoText_ValueError, ?_⟩
    walk_at "dl"
    refine ⟨_, _, rfl, G.ec_NoText, G.kt_NoText_NoThing, _, _, rfl, rfl, ?_⟩
    walk_at "dl"
    refine ⟨_, _, rfl, G.ec_NoText, G.kt_NoText_NoWeb, ?_⟩
    walk_at "dl"
    exact fin_same (q _ (.inl ⟨hn, rfl⟩))
  · subst et
    refine ⟨ht, fun d' z1 z2 z3 => fin_same (q _ (.inr ⟨t, rfl, .inl ⟨d', z1, z2, z3, rfl⟩⟩)), fun k z => ⟨true, G.em_NoText_NoText, ?_⟩⟩
    walk_at "dl"
    intro xa
    refine ⟨_, _, rfl, G.ec_NoText, G.kt_NoText_LikewebsError, ?_⟩
    walk_at "dl"
    refine ⟨_, _, rfl, G.ec_NoText, G.kt_NoText_ValueError, ?_⟩
    walk_at "dl"
    refine ⟨_, _, rfl, G.ec_NoText, G.kt_NoText_NoThing, _, _, rfl, rfl, ?_⟩
    walk_at "dl"
    refine ⟨_, _, rfl, G.ec_NoText, G.kt_NoText_NoWeb, ?_⟩
    walk_at "dl"
    exact fin_same (q _ (.inr ⟨t, rfl, .inr ⟨k, z, rfl⟩⟩))
theorem ok__law_right (G : Gs K mg a) {k1 k2 k3 : Nat} (c1 : Cal P w K mg base "_law_stop" k1 (sp__law_stop a)) (c2 : Cal P w K mg base "_law_is_thing" k2 (sp__law_is_thing a)) (c3 : Cal P w K mg base "_law_text" k3 (sp__law_text a)) {f : Addr} {fd : FuncData} (I : Ins K mg "_law_right" s__law_right ["_law_text_here", "_law_told"] f fd) : Cal P w K mg base "_law_right" (k1 + k2 + k3 + 1) (sp__law_right a) := by
  refine I.cal (dfn_ok I.F sc__law_right (fun ds S Q E h => by obtain ⟨d, r, rfl, _⟩ := h; rfl) fun cdv A fr s H S E ds Qd Wd hr gd tk po h => ?_)
  obtain ⟨d, r, rfl, hd, ht, told, q⟩ := h
  refine ⟨_, tm__law_right G c1 (by omega) c2 (by omega) c3 (by omega) hr gd tk po, ?_⟩
  unfold rd__law_right
  walk_at "dl"
  refine isi_str hd ?_
  rcases told with ⟨hn, rfl⟩ | ⟨t, rfl, told⟩
  · rw [hn]
    walk_at "dl"
    refine ⟨_, rfl, ?_⟩
    walk_at "dl"
    refine ⟨_, rfl, ?_⟩
    simp only [isNon]
    walk_at "dl"
    exact ⟨_, rfl, fin_same q⟩
  · simp only [isStrB]
    walk_at "dl"
    refine ⟨t, rfl, ?_⟩
    walk_at "dl"
    rcases told with ⟨d', z1, z2, z3, rfl⟩ | ⟨k, z, rfl⟩
    · rw [z1]
      walk_at "dl"
      refine ⟨_, rfl, ?_⟩
      walk_at "dl"
      refine ⟨_, rfl, d', 60, rfl, Nat.le_refl _, thing_dat z2, ?_⟩
      rw [z2]
      walk_at "dl"
      have e : textD d' = t := ext_tl (by unfold textD; rw [tl_ofL]; exact z3)
      have lt : (txt d').length ≤ 1000000 := by rw [z3, ← len_tl]; exact ht
      refine ⟨_, rfl, d', rfl, z2, lt, ?_⟩
      rw [e]
      walk_at "dl"
      exact fin_same q
    · rw [z, decide_eq_false (show ¬ ((k : Nat) : Int) = -1 by omega)]
      walk_at "dl"
      refine ⟨_, rfl, ?_⟩
      walk_at "dl"
      refine ⟨_, rfl, ?_⟩
      walk_at "dl"
      refine ⟨_, rfl, isi_int rfl ?_⟩
      simp only [isIntB]
      walk_at "dl"
      refine ⟨_, rfl, isi_bool rfl ?_⟩
      simp only [isBoolB]
      walk_at "dl"
      refine ⟨_, rfl, ?_⟩
      walk_at "dl"
      exact fin_same q
end Lw

namespace Lw
open PySem PySem.Spec PyProof.Rows L2 DL TL
local macro_rules | `(tactic| walk_at "dl") => `(tactic| simp only [dSeq, dIf, dRet, dRetN, dNext, dVar, dC, dOp, dCB, dCall, dArgs, dBM, dB, dNot, dAnd, dOr, dAndV, dOrV, dNotV, dIfE, dChain, dSet, dExpr, dAsg, dTup, dLst, dLstM, dstart, dLc, dLcM, dItStr, dItTup, dItLst, dgName, dwipe, dFld, dFldA, dFldS, dMake, dRaise1, dBreak, dFor, dTryAs, wTry, dXf, dgSub, oIx, dNeg, dRng1, oTuple, oAddS, oMulS, oCatMM, oIsF, oIsN, oI0, oI, oEqS, oLen, chkStr, chkLst, List.map_cons, List.map_nil, List.length_cons, List.length_nil, List.replicate, List.cons_append, List.nil_append, List.append_nil, List.getElem?_cons_zero, List.getElem?_cons_succ, List.set_cons_zero, List.set_cons_succ, Nat.reduceAdd, Nat.reduceSub, Nat.zero_add, true_implies, false_implies, Bool.true_eq_false, Bool.false_eq_true, eq_self, and_true, true_and, implies_true, Bool.not_true, Bool.not_false, Bool.true_bne, Bool.false_bne, decide_true, decide_false, Int.reducePow, Int.reduceToNat, Int.reduceAdd, Int.reduceNeg, Int.reduceMul, Int.reduceSub])
variable {P : Program} {w : World} {K : PySem.W.Frag} {mg : Str → Option Value} {base : Heap} {a : Ad}
abbrev Rho (s : D) (p : Addr) (x2 x3 x4 x5 : Option D) : DEnv := [some s, some (.ref p), x2, x3, x4, x5]
theorem turn1 {S : DS} {p : Addr} {ns : List Int} {s : D} {x2 : Option D} {r1 : Int} {tw : Bool} {x : Str} {W : DWx} (st : St p ns S) (hx : x.length ≤ 10000) (R : DTs) (Dd : DEnds)
    (k : ∀ y S', y.length ≤ 10000 → St p ns S' → R Dd (Rho s p x2 (some (.int r1)) (some (.bl tw)) (some (.str y))) S') :
    dSeq (dIf (dB (dOp oGt (dVar 3) (dC (.int 3)))) (dSet 5 (dCall (sp__law_text a) W [] [(dCall (sp__law_tree a) W [] [(dVar 1), (dC (.int 4))])])) dNext) R Dd (Rho s p x2 (some (.int r1)) (some (.bl tw)) (some (.str x))) S := by
  unfold Rho at *
  walk_at "dl"
  refine ⟨fun _ => ⟨p, ns, 4, rfl, Nat.le_refl _, st, fun d S1 h4 hw st1 m1 => ?_⟩, fun _ => k x S hx st⟩
  have tl' := txt_le d (thing_dat h4) ⟨4, h4⟩
  have w4 : wtT 4 = 9350 := rfl
  refine ⟨d, rfl, thingW_mono (by decide) h4, by omega, k _ S1 ?_ st1⟩
  unfold textD; rw [len_ofL]; omega
theorem turn2 {S : DS} {p : Addr} {ns : List Int} {s : D} {x2 : Option D} {r1 : Int} {tw : Bool} {x : Str} {W : DWx} (st : St p ns S) (hx : x.length ≤ 10000) (R : DTs) (Dd : DEnds)
    (k : ∀ y S', y.length ≤ 20001 → St p ns S' → R Dd (Rho s p x2 (some (.int r1)) (some (.bl tw)) (some (.str y))) S') :
    dSeq (dIf (dB (dOp oGt (dVar 3) (dC (.int 1)))) (dSet 5 (dCall (sp__law_bent a) W [] [(dVar 1), (dVar 5)])) dNext) R Dd (Rho s p x2 (some (.int r1)) (some (.bl tw)) (some (.str x))) S := by
  unfold Rho at *
  walk_at "dl"
  exact ⟨fun _ => ⟨p, ns, x, rfl, st, by omega, fun y S1 hy st1 m1 => k y S1 (by omega) st1⟩, fun _ => k x S (by omega) st⟩
theorem turn3 {S : DS} {p : Addr} {ns : List Int} {s : D} {x2 : Option D} {r1 : Int} {tw : Bool} {x : Str} {W : DWx} (st : St p ns S) (hx : x.length ≤ 20001) (R : DTs) (Dd : DEnds)
    (k : ∀ y S', y.length ≤ 50000 → St p ns S' → R Dd (Rho s p x2 (some (.int r1)) (some (.bl tw)) (some (.str y))) S') :
    dSeq (dIf (dAnd (dB (dOp oGt (dVar 3) (dC (.int 1)))) (dB (dVar 4))) (dSet 5 (dCall (sp__law_bent a) W [] [(dVar 1), (dVar 5)])) dNext) R Dd (Rho s p x2 (some (.int r1)) (some (.bl tw)) (some (.str x))) S := by
  unfold Rho at *
  walk_at "dl"
  exact ⟨fun _ => ⟨fun _ => ⟨p, ns, x, rfl, st, by omega, fun y S1 hy st1 m1 => k y S1 (by omega) st1⟩, fun _ => k x S (by omega) st⟩, fun _ => k x S (by omega) st⟩
theorem turn4 {S : DS} {p : Addr} {ns : List Int} {s : D} {x2 : Option D} {r1 : Int} {tw : Bool} {x : Str} {W : DWx} (st : St p ns S) (hx : x.length ≤ 50000) (R : DTs) (Dd : DEnds)
    (k : ∀ d S', dat d = true → txtOk d → St p ns S' → R Dd (Rho s p x2 (some (.int r1)) (some (.bl tw)) (some d)) S') :
    dSeq (dIf (dB (dOp (oEqS false) (dVar 3) (dC (.int 0)))) (dSet 5 (dOp oIx (dLst [(dC .non), (dC (.int 5)), (dC (.bl true)), (dTup [(dC (.str "a"))]), (dLst [(dC (.str "(")), (dC (.str ")"))]), dDic0, (dTup [])]) (dCall (sp__law_take a) W [] [(dVar 1), (dC (.int 7))]))) dNext) R Dd (Rho s p x2 (some (.int r1)) (some (.bl tw)) (some (.str x))) S := by
  unfold Rho at *
  walk_at "dl"
  refine ⟨fun _ => ?_, fun _ => k _ S rfl (by show x.length ≤ 1000000; omega) st⟩
  simp only [dDic0]
  refine ⟨p, ns, 7, rfl, st, by decide, by decide, fun r S1 z1 z2 st1 m1 => ?_⟩
  obtain ⟨d, g1, h1, h2⟩ := at_ok (P := fun d => dat d = true ∧ txtOk d) (l := [D.non, .int 5, .bl true, .tup [.str (Str.ofString "a")], .lst [.str (Str.ofString "("), .str (Str.ofString ")")], .dic [] [], .tup []]) (fun d hd => by
    simp only [List.mem_cons, List.not_mem_nil, or_false] at hd
    rcases hd with rfl | rfl | rfl | rfl | rfl | rfl | rfl <;> exact ⟨rfl, trivial⟩) z1 z2
  exact ⟨d, g1, k d S1 h1 h2 st1⟩
theorem ok_law (G : Gs K mg a) {k k1 k2 k3 k4 k5 k6 k7 : Nat} (c1 : Cal P w K mg base "_law_take" k1 (sp__law_take a)) (c2 : Cal P w K mg base "_law_written" k2 (sp__law_written a)) (c3 : Cal P w K mg base "_law_tree" k3 (sp__law_tree a)) (c4 : Cal P w K mg base "_law_text" k4 (sp__law_text a)) (c5 : Cal P w K mg base "_law_bent" k5 (sp__law_bent a))
    (c6 : Cal P w K mg base "_law_read" k6 (sp__law_read a)) (c7 : Cal P w K mg base "_law_right" k7 (sp__law_right a))
    (h1 : k1 ≤ k) (h2 : k2 ≤ k) (h3 : k3 ≤ k) (h4 : k4 ≤ k) (h5 : k5 ≤ k) (h6 : k6 ≤ k) (h7 : k7 ≤ k)
    {f : Addr} {fd : FuncData} (I : Ins K mg "law" s_law ["_law_script"] f fd) : DFn P w K mg base (k + 1) f fd ["_law_script"] (spLaw 63) := by
  refine dfn_ok I.F sc_law (fun ds S Q E h => by obtain ⟨ns, rfl, _⟩ := h; rfl) fun cdv A fr s H S E ds Qd Wd hr gd tk po h => ?_
  obtain ⟨ns, rfl, hns, q⟩ := h
  refine ⟨_, tm_law G c1 h1 c2 h2 c3 h3 c4 h4 c5 h5 c6 h6 c7 h7 hr gd tk po, ?_⟩
  unfold rd_law
  simp only [dSeq, dSet, dLstM, dArgs, dVar, dC, dstart, List.map_cons, List.map_nil, List.length_cons, List.length_nil, List.replicate, List.cons_append, List.nil_append, List.getElem?_cons_zero, List.set_cons_zero, List.set_cons_succ, Nat.reduceAdd, Nat.reduceSub]
  intro p hp
  simp only [dFor, dRng1, dArgs, dC]
  refine ⟨by decide, by decide, ?_⟩
  have loop : ∀ (xs : List D) (x2 x3 x4 x5 : Option D) (S : DS) (g : DGt) (tb : DTs) (Dd : DEnds) (T : DTs), St p ns S → (∀ x2 x3 x4 x5 S, St p ns S → Dd.nx (Rho (.lst (ns.map D.int)) p x2 x3 x4 x5) S) →
      g = dgName 2 → (∀ Dd x2 x3 x4 x5 S, St p ns S → (∀ x2 x3 x4 x5 S, St p ns S → Dd.nx (Rho (.lst (ns.map D.int)) p x2 x3 x4 x5) S) → tb Dd (Rho (.lst (ns.map D.int)) p x2 x3 x4 x5) S) →
      dLoop g tb xs Dd (Rho (.lst (ns.map D.int)) p x2 x3 x4 x5) S := by
    intro xs
    induction xs with
    | nil => intro x2 x3 x4 x5 S g tb Dd T st k _ _; exact k _ _ _ _ _ st
    | cons x xs ih =>
      intro x2 x3 x4 x5 S g tb Dd T st k eg hb
      unfold dLoop
      rw [eg]
      exact hb _ _ _ _ _ _ st fun x2 x3 x4 x5 S st => ih _ _ _ _ S _ _ _ dNext st k rfl hb
  refine loop _ none none none none _ _ _ _ dNext ⟨0, 0, 91, sup_same, by decide, by decide, by decide⟩ (fun _ _ _ _ S' _ => ?_) rfl fun Dd x2 x3 x4 x5 S' st kk => ?_
  · simp only [dRet, dC]
    exact fin_same (q _)
  · refine seq_set ?_
    simp only [dOp, dCall, dArgs, dVar, dC, Rho, List.getElem?_cons_succ, List.getElem?_cons_zero, List.append_nil]
    refine ⟨p, ns, 14, rfl, st, by decide, by decide, fun r1 S1 _ _ st1 m1 => ?_⟩
    refine seq_set ?_
    simp only [dOp, dCall, dArgs, dVar, dC, List.getElem?_cons_succ, List.getElem?_cons_zero, List.append_nil, List.set_cons_succ, List.set_cons_zero]
    refine ⟨p, ns, 3, rfl, st1, by decide, by decide, fun r2 S2 _ _ st2 m2 => ?_⟩
    simp only [oEqS, Bool.false_bne]
    refine seq_set ?_
    simp only [dOp, dCall, dArgs, dVar, dC, List.getElem?_cons_succ, List.getElem?_cons_zero, List.append_nil, List.set_cons_succ, List.set_cons_zero]
    refine ⟨p, ns, 38, rfl, st2, by decide, by decide, fun r3 S3 z1 z2 st3 m3 => ⟨r3, rfl, z1, z2, fun x hx => ?_⟩⟩
    refine turn1 st3 (by omega) _ _ fun y S4 hy st4 => ?_
    refine turn2 st4 hy _ _ fun y S5 hy st5 => ?_
    refine turn3 st5 hy _ _ fun y S6 hy st6 => ?_
    refine turn4 st6 hy _ _ fun d S7 hd ht st7 => ?_
    unfold Rho at *
    walk_at "dl"
    refine ⟨d, rfl, hd, ht, fun r told => ⟨d, r, rfl, hd, ht, told, ?_⟩⟩
    walk_at "dl"
    exact kk _ _ _ _ _ st7
end Lw

namespace Lw
open PySem PySem.Spec PyProof.Rows L2 DL TL
theorem law_all {P : Program} {w : World} {K : PySem.W.Frag} {mg : Str → Option Value} {base : Heap} {a : Ad} (G : Gs K mg a)
    {f_sign_at : Addr} {fd_sign_at : FuncData} (I_sign_at : Ins K mg "sign_at" s_sign_at ["scan"] f_sign_at fd_sign_at)
    {f_is_one_of : Addr} {fd_is_one_of : FuncData} (I_is_one_of : Ins K mg "is_one_of" s_is_one_of ["sign", "signs"] f_is_one_of fd_is_one_of)
    {f_pass_sign : Addr} {fd_pass_sign : FuncData} (I_pass_sign : Ins K mg "pass_sign" s_pass_sign ["scan", "sign"] f_pass_sign fd_pass_sign)
    {f_read_number : Addr} {fd_read_number : FuncData} (I_read_number : Ins K mg "read_number" s_read_number ["scan"] f_read_number fd_read_number)
    {f_read_word : Addr} {fd_read_word : FuncData} (I_read_word : Ins K mg "read_word" s_read_word ["scan"] f_read_word fd_read_word)
    {f_read_tuple : Addr} {fd_read_tuple : FuncData} (I_read_tuple : Ins K mg "read_tuple" s_read_tuple ["scan", "left"] f_read_tuple fd_read_tuple)
    {f_read_thing : Addr} {fd_read_thing : FuncData} (I_read_thing : Ins K mg "read_thing" s_read_thing ["scan", "left"] f_read_thing fd_read_thing)
    {f_read : Addr} {fd_read : FuncData} (I_read : Ins K mg "read" s_read ["text"] f_read fd_read)
    {f__law_take : Addr} {fd__law_take : FuncData} (I__law_take : Ins K mg "_law_take" s__law_take ["_law_state", "_law_below"] f__law_take fd__law_take)
    {f__law_number : Addr} {fd__law_number : FuncData} (I__law_number : Ins K mg "_law_number" s__law_number ["_law_state"] f__law_number fd__law_number)
    {f__law_word : Addr} {fd__law_word : FuncData} (I__law_word : Ins K mg "_law_word" s__law_word ["_law_state"] f__law_word fd__law_word)
    {f__law_tree : Addr} {fd__law_tree : FuncData} (I__law_tree : Ins K mg "_law_tree" s__law_tree ["_law_state", "_law_left"] f__law_tree fd__law_tree)
    {f__law_text : Addr} {fd__law_text : FuncData} (I__law_text : Ins K mg "_law_text" s__law_text ["_law_thing"] f__law_text fd__law_text)
    {f__law_written : Addr} {fd__law_written : FuncData} (I__law_written : Ins K mg "_law_written" s__law_written ["_law_number_here"] f__law_written fd__law_written)
    {f__law_sign : Addr} {fd__law_sign : FuncData} (I__law_sign : Ins K mg "_law_sign" s__law_sign ["_law_state"] f__law_sign fd__law_sign)
    {f__law_bent : Addr} {fd__law_bent : FuncData} (I__law_bent : Ins K mg "_law_bent" s__law_bent ["_law_state", "_law_text_here"] f__law_bent fd__law_bent)
    {f__law_stop : Addr} {fd__law_stop : FuncData} (I__law_stop : Ins K mg "_law_stop" s__law_stop ["_law_text_here"] f__law_stop fd__law_stop)
    {f__law_is_thing : Addr} {fd__law_is_thing : FuncData} (I__law_is_thing : Ins K mg "_law_is_thing" s__law_is_thing ["_law_thing", "_law_left"] f__law_is_thing fd__law_is_thing)
    {f__law_read : Addr} {fd__law_read : FuncData} (I__law_read : Ins K mg "_law_read" s__law_read ["_law_text_here"] f__law_read fd__law_read)
    {f__law_right : Addr} {fd__law_right : FuncData} (I__law_right : Ins K mg "_law_right" s__law_right ["_law_text_here", "_law_told"] f__law_right fd__law_right)
    {f_Scan : Addr} {fd_Scan : FuncData} (F_Scan : Fun K "__init__" "Scan.__init__" s_Scan f_Scan fd_Scan) (M_Scan : Mk K a.Scan f_Scan) (b_Scan : Binds K fd_Scan ["self", "text"] [])
    {f_law : Addr} {fd_law : FuncData} (I_law : Ins K mg "law" s_law ["_law_script"] f_law fd_law) : DFn P w K mg base 200 f_law fd_law ["_law_script"] (spLaw 63) := by
  have c8 : Cal P w K mg base "sign_at" 1 (sp_sign_at a) := ok_sign_at G I_sign_at
  have c9 : Cal P w K mg base "is_one_of" 1 (sp_is_one_of a) := ok_is_one_of G I_is_one_of
  have c10 : Cal P w K mg base "pass_sign" 3 (sp_pass_sign a) := (ok_pass_sign G c8 I_pass_sign).mono (by decide)
  have c11 : Cal P w K mg base "read_number" 2 (sp_read_number a) := ok_read_number G c8 c9 I_read_number
  have c12 : Cal P w K mg base "read_word" 2 (sp_read_word a) := ok_read_word G c8 c9 I_read_word
  have rt : ∀ n, n ≤ 60 → Cal P w K mg base "read_thing" (4 + 2 * n) (spn_read_thing a n) := by
    intro n
    induction n with
    | zero => exact fun _ => ok_read_thing G c8 c9 c11 c12 I_read_thing 0 _ 3 (by decide) (by decide) (by decide) (by decide) (by decide) (I_read_tuple.never.mono (by decide)) (fun m h => by omega)
    | succ n ih =>
      intro hn
      have t := ok_read_tuple G c8 c10 I_read_tuple n _ (4 + 2 * n) (by omega) (by omega) (ih (by omega)) (fun _ _ _ _ z => z)
      have u := ok_read_thing G c8 c9 c11 c12 I_read_thing (n + 1) _ (4 + 2 * n + 1) (by omega) (by omega) (by omega) (by omega) (by omega) t (fun m h _ _ _ _ z => by cases h; exact z)
      rwa [show 4 + 2 * n + 1 + 1 = 4 + 2 * (n + 1) by omega] at u
  have c13 : Cal P w K mg base "read_thing" 124 (sp_read_thing a) := rt 60 (by decide)
  have c14 : Cal P w K mg base "read" 125 (sp_read a) := (ok_read G ⟨_, _, _, ok_Scan G F_Scan, M_Scan, G.k_Scan, b_Scan⟩ c13 I_read).mono (by decide)
  have d1 : Cal P w K mg base "_law_take" 1 (sp__law_take a) := ok__law_take G I__law_take
  have d2 : Cal P w K mg base "_law_number" 2 (sp__law_number a) := ok__law_number G d1 I__law_number
  have d3 : Cal P w K mg base "_law_word" 2 (sp__law_word a) := ok__law_word G d1 I__law_word
  have d4 : Cal P w K mg base "_law_tree" 10 (sp__law_tree a) := (ok__law_tree G d1 d3 d2 I__law_tree 4).mono (by decide)
  have d5 : Cal P w K mg base "_law_written" 1 (sp__law_written a) := ok__law_written G I__law_written
  have d6 : Cal P w K mg base "_law_sign" 2 (sp__law_sign a) := ok__law_sign G d1 I__law_sign
  have d7 : Cal P w K mg base "_law_bent" 4 (sp__law_bent a) := ok__law_bent G d1 d6 I__law_bent
  have d8 : Cal P w K mg base "_law_stop" 1 (sp__law_stop a) := ok__law_stop G I__law_stop
  have d9 : Cal P w K mg base "_law_is_thing" 61 (sp__law_is_thing a) := ok__law_is_thing G I__law_is_thing 60
  have d10 : Cal P w K mg base "_law_text" 61 (sp__law_text a) := ok__law_text G I__law_text 60
  have d11 : Cal P w K mg base "_law_read" 126 (sp__law_read a) := ok__law_read G c14 I__law_read
  have d12 : Cal P w K mg base "_law_right" 124 (sp__law_right a) := ok__law_right G d8 d9 d10 I__law_right
  exact ok_law (k := 199) G d1 d5 d4 d10 d7 d11 d12 (by decide) (by decide) (by decide) (by decide) (by decide) (by decide) (by decide) I_law
end Lw

namespace Lw
open PySem PySem.Spec PyProof.Rows L2 DL
theorem kit_self {K : PySem.W.Frag} {D : Addr} : PySem.W.kitOne K (.ref D) (.ref D) = some true := by unfold PySem.W.kitOne; rw [if_pos (by simp)]
theorem kit_ref {K : PySem.W.Frag} {D C : Addr} {b : Bool} (hd : PySem.W.hasDictIn K C = true) (ht : PySem.W.typeIn K (.ref C) = some (.type "type")) (n : (D == C) = false) (h : PySem.W.subIn K (.ref D) (.ref C) = some b) : PySem.W.kitOne K (.ref D) (.ref C) = some b := by
  obtain ⟨cd, hc, _⟩ := PySem.W.any_some hd
  have n' : D ≠ C := by simpa using n
  unfold PySem.W.kitOne
  rw [if_neg (by simpa using n')]
  unfold PySem.W.kitCls
  have e2 : ((PySem.W.clsIn K C).isSome && PySem.W.typeIn K (.ref C) == some (.type "type")) = true := by rw [hc, ht] <;> rfl
  simp only [e2, if_true]
  exact h
theorem kit_type {K : PySem.W.Frag} {D : Addr} {T : String} {b : Bool} (hk : PySem.W.kitMeta T = true) (h : PySem.W.subIn K (.ref D) (.type T) = some b) : PySem.W.kitOne K (.ref D) (.type T) = some b := by
  unfold PySem.W.kitOne
  rw [if_neg (by simp)]
  unfold PySem.W.kitCls
  simp only [hk, if_true]
  exact h
theorem all_mk {P : Program} {w : World} {K : PySem.W.Frag} {h : Heap} {mg : Str → Option Value} {fa : Addr} (X : K.In h) (G : h.Ns mainGlobals mg) (hfa : mg "law" = some (.ref fa))
    {C_LikewebsError : Addr} {C_NoWeb : Addr} {C_NoThing : Addr} {C_NoText : Addr} {C_Scan : Addr} {t_DEEP : Tok} {t_FIGURES : Tok} {t_LETTERS : Tok} {t_LONGEST : Tok} {f_sign_at : Addr} {od_sign_at an_sign_at : Option Addr} {sl_sign_at : Array (Option Value)} {oc_sign_at kV_sign_at dc_sign_at pm_sign_at cd_sign_at ct_sign_at : Value} {f_is_one_of : Addr} {od_is_one_of an_is_one_of : Option Addr} {sl_is_one_of : Array (Option Value)} {oc_is_one_of kV_is_one_of dc_is_one_of pm_is_one_of cd_is_one_of ct_is_one_of : Value} {f_pass_sign : Addr} {od_pass_sign an_pass_sign : Option Addr} {sl_pass_sign : Array (Option Value)} {oc_pass_sign kV_pass_sign dc_pass_sign pm_pass_sign cd_pass_sign ct_pass_sign : Value} {f_read_number : Addr} {od_read_number an_read_number : Option Addr} {sl_read_number : Array (Option Value)} {oc_read_number kV_read_number dc_read_number pm_read_number cd_read_number ct_read_number : Value} {f_read_word : Addr} {od_read_word an_read_word : Option Addr} {sl_read_word : Array (Option Value)} {oc_read_word kV_read_word dc_read_word pm_read_word cd_read_word ct_read_word : Value} {f_read_tuple : Addr} {od_read_tuple an_read_tuple : Option Addr} {sl_read_tuple : Array (Option Value)} {oc_read_tuple kV_read_tuple dc_read_tuple pm_read_tuple cd_read_tuple ct_read_tuple : Value} {f_read_thing : Addr} {od_read_thing an_read_thing : Option Addr} {sl_read_thing : Array (Option Value)} {oc_read_thing kV_read_thing dc_read_thing pm_read_thing cd_read_thing ct_read_thing : Value} {f_read : Addr} {od_read an_read : Option Addr} {sl_read : Array (Option Value)} {oc_read kV_read dc_read pm_read cd_read ct_read : Value} {f__law_take : Addr} {od__law_take an__law_take : Option Addr} {sl__law_take : Array (Option Value)} {oc__law_take kV__law_take dc__law_take pm__law_take cd__law_take ct__law_take : Value} {f__law_number : Addr} {od__law_number an__law_number : Option Addr} {sl__law_number : Array (Option Value)} {oc__law_number kV__law_number dc__law_number pm__law_number cd__law_number ct__law_number : Value} {f__law_word : Addr} {od__law_word an__law_word : Option Addr} {sl__law_word : Array (Option Value)} {oc__law_word kV__law_word dc__law_word pm__law_word cd__law_word ct__law_word : Value} {f__law_tree : Addr} {od__law_tree an__law_tree : Option Addr} {sl__law_tree : Array (Option Value)} {oc__law_tree kV__law_tree dc__law_tree pm__law_tree cd__law_tree ct__law_tree : Value} {f__law_text : Addr} {od__law_text an__law_text : Option Addr} {sl__law_text : Array (Option Value)} {oc__law_text kV__law_text dc__law_text pm__law_text cd__law_text ct__law_text : Value} {f__law_written : Addr} {od__law_written an__law_written : Option Addr} {sl__law_written : Array (Option Value)} {oc__law_written kV__law_written dc__law_written pm__law_written cd__law_written ct__law_written : Value} {f__law_sign : Addr} {od__law_sign an__law_sign : Option Addr} {sl__law_sign : Array (Option Value)} {oc__law_sign kV__law_sign dc__law_sign pm__law_sign cd__law_sign ct__law_sign : Value} {f__law_bent : Addr} {od__law_bent an__law_bent : Option Addr} {sl__law_bent : Array (Option Value)} {oc__law_bent kV__law_bent dc__law_bent pm__law_bent cd__law_bent ct__law_bent : Value} {f__law_stop : Addr} {od__law_stop an__law_stop : Option Addr} {sl__law_stop : Array (Option Value)} {oc__law_stop kV__law_stop dc__law_stop pm__law_stop cd__law_stop ct__law_stop : Value} {f__law_is_thing : Addr} {od__law_is_thing an__law_is_thing : Option Addr} {sl__law_is_thing : Array (Option Value)} {oc__law_is_thing kV__law_is_thing dc__law_is_thing pm__law_is_thing cd__law_is_thing ct__law_is_thing : Value} {f__law_read : Addr} {od__law_read an__law_read : Option Addr} {sl__law_read : Array (Option Value)} {oc__law_read kV__law_read dc__law_read pm__law_read cd__law_read ct__law_read : Value} {f__law_right : Addr} {od__law_right an__law_right : Option Addr} {sl__law_right : Array (Option Value)} {oc__law_right kV__law_right dc__law_right pm__law_right cd__law_right ct__law_right : Value} {f_law : Addr} {od_law an_law : Option Addr} {sl_law : Array (Option Value)} {oc_law kV_law dc_law pm_law cd_law ct_law : Value} {f_Scan : Addr} {od_Scan an_Scan : Option Addr} {sl_Scan : Array (Option Value)} {oc_Scan kV_Scan dc_Scan pm_Scan cd_Scan ct_Scan : Value} {f_NoWeb_init : Addr} {od_NoWeb_init an_NoWeb_init : Option Addr} {sl_NoWeb_init : Array (Option Value)} {oc_NoWeb_init kV_NoWeb_init dc_NoWeb_init pm_NoWeb_init cd_NoWeb_init ct_NoWeb_init : Value} {f_NoText_init : Addr} {od_NoText_init an_NoText_init : Option Addr} {sl_NoText_init : Array (Option Value)} {oc_NoText_init kV_NoText_init dc_NoText_init pm_NoText_init cd_NoText_init ct_NoText_init : Value} {nm_NoWeb q_NoWeb : Str} {N_NoWeb : Addr} {bs_NoWeb bm_NoWeb : List Value} {sn_NoWeb : List Str} {sub_NoWeb : List Value} {ab_NoWeb : Bool} {col_NoWeb : Option Bool} {dd_NoWeb : Option Addr} {k0_NoWeb k1_NoWeb k2_NoWeb k3_NoWeb k5_NoWeb : Option Value} {nm_NoText q_NoText : Str} {N_NoText : Addr} {bs_NoText bm_NoText : List Value} {sn_NoText : List Str} {sub_NoText : List Value} {ab_NoText : Bool} {col_NoText : Option Bool} {dd_NoText : Option Addr} {k0_NoText k1_NoText k2_NoText k3_NoText k5_NoText : Option Value}
    (k_LikewebsError : PySem.W.nsIn K mainGlobals "LikewebsError" = some (some (.ref C_LikewebsError)))
    (k_NoWeb : PySem.W.nsIn K mainGlobals "NoWeb" = some (some (.ref C_NoWeb)))
    (k_NoThing : PySem.W.nsIn K mainGlobals "NoThing" = some (some (.ref C_NoThing)))
    (k_NoText : PySem.W.nsIn K mainGlobals "NoText" = some (some (.ref C_NoText)))
    (k_Scan : PySem.W.nsIn K mainGlobals "Scan" = some (some (.ref C_Scan)))
    (b_ValueError : PySem.W.nsIn K mainGlobals "ValueError" = some none)
    (b_bool : PySem.W.nsIn K mainGlobals "bool" = some none)
    (b_enumerate : PySem.W.nsIn K mainGlobals "enumerate" = some none)
    (b_int : PySem.W.nsIn K mainGlobals "int" = some none)
    (b_isinstance : PySem.W.nsIn K mainGlobals "isinstance" = some none)
    (b_len : PySem.W.nsIn K mainGlobals "len" = some none)
    (b_range : PySem.W.nsIn K mainGlobals "range" = some none)
    (b_str : PySem.W.nsIn K mainGlobals "str" = some none)
    (b_tuple : PySem.W.nsIn K mainGlobals "tuple" = some none)
    (g_DEEP : PySem.W.nsIn K mainGlobals "DEEP" = some (some (.int 60 t_DEEP)))
    (g_FIGURES : PySem.W.nsIn K mainGlobals "FIGURES" = some (some (.str "0123456789" t_FIGURES)))
    (g_GREATEST : ∃ v, mg "GREATEST" = some v ∧ PySem.W.ReadsLit h v (PySem.W.WData.int 1000000000) [])
    (g_LETTERS : PySem.W.nsIn K mainGlobals "LETTERS" = some (some (.str "abcdefghijklmnopqrstuvwxyz" t_LETTERS)))
    (g_LONGEST : PySem.W.nsIn K mainGlobals "LONGEST" = some (some (.int 8 t_LONGEST)))
    (a_sign_at : PySem.W.nsIn K mainGlobals "sign_at" = some (some (.ref f_sign_at)))
    (l_sign_at : K.lookup f_sign_at = some ⟨oc_sign_at, od_sign_at, .func (PySem.W.fnOf "sign_at" "sign_at" (defArgs s_sign_at) (defBody s_sign_at) (defScope s_sign_at) .none kV_sign_at dc_sign_at pm_sign_at an_sign_at cd_sign_at ct_sign_at), sl_sign_at⟩)
    (c_sign_at : PySem.W.codeIn K cd_sign_at "sign_at" = true)
    (p_sign_at : PySem.W.keepIn K (.ref f_sign_at) = true)
    (a_is_one_of : PySem.W.nsIn K mainGlobals "is_one_of" = some (some (.ref f_is_one_of)))
    (l_is_one_of : K.lookup f_is_one_of = some ⟨oc_is_one_of, od_is_one_of, .func (PySem.W.fnOf "is_one_of" "is_one_of" (defArgs s_is_one_of) (defBody s_is_one_of) (defScope s_is_one_of) .none kV_is_one_of dc_is_one_of pm_is_one_of an_is_one_of cd_is_one_of ct_is_one_of), sl_is_one_of⟩)
    (c_is_one_of : PySem.W.codeIn K cd_is_one_of "is_one_of" = true)
    (p_is_one_of : PySem.W.keepIn K (.ref f_is_one_of) = true)
    (a_pass_sign : PySem.W.nsIn K mainGlobals "pass_sign" = some (some (.ref f_pass_sign)))
    (l_pass_sign : K.lookup f_pass_sign = some ⟨oc_pass_sign, od_pass_sign, .func (PySem.W.fnOf "pass_sign" "pass_sign" (defArgs s_pass_sign) (defBody s_pass_sign) (defScope s_pass_sign) .none kV_pass_sign dc_pass_sign pm_pass_sign an_pass_sign cd_pass_sign ct_pass_sign), sl_pass_sign⟩)
    (c_pass_sign : PySem.W.codeIn K cd_pass_sign "pass_sign" = true)
    (p_pass_sign : PySem.W.keepIn K (.ref f_pass_sign) = true)
    (a_read_number : PySem.W.nsIn K mainGlobals "read_number" = some (some (.ref f_read_number)))
    (l_read_number : K.lookup f_read_number = some ⟨oc_read_number, od_read_number, .func (PySem.W.fnOf "read_number" "read_number" (defArgs s_read_number) (defBody s_read_number) (defScope s_read_number) .none kV_read_number dc_read_number pm_read_number an_read_number cd_read_number ct_read_number), sl_read_number⟩)
    (c_read_number : PySem.W.codeIn K cd_read_number "read_number" = true)
    (p_read_number : PySem.W.keepIn K (.ref f_read_number) = true)
    (a_read_word : PySem.W.nsIn K mainGlobals "read_word" = some (some (.ref f_read_word)))
    (l_read_word : K.lookup f_read_word = some ⟨oc_read_word, od_read_word, .func (PySem.W.fnOf "read_word" "read_word" (defArgs s_read_word) (defBody s_read_word) (defScope s_read_word) .none kV_read_word dc_read_word pm_read_word an_read_word cd_read_word ct_read_word), sl_read_word⟩)
    (c_read_word : PySem.W.codeIn K cd_read_word "read_word" = true)
    (p_read_word : PySem.W.keepIn K (.ref f_read_word) = true)
    (a_read_tuple : PySem.W.nsIn K mainGlobals "read_tuple" = some (some (.ref f_read_tuple)))
    (l_read_tuple : K.lookup f_read_tuple = some ⟨oc_read_tuple, od_read_tuple, .func (PySem.W.fnOf "read_tuple" "read_tuple" (defArgs s_read_tuple) (defBody s_read_tuple) (defScope s_read_tuple) .none kV_read_tuple dc_read_tuple pm_read_tuple an_read_tuple cd_read_tuple ct_read_tuple), sl_read_tuple⟩)
    (c_read_tuple : PySem.W.codeIn K cd_read_tuple "read_tuple" = true)
    (p_read_tuple : PySem.W.keepIn K (.ref f_read_tuple) = true)
    (a_read_thing : PySem.W.nsIn K mainGlobals "read_thing" = some (some (.ref f_read_thing)))
    (l_read_thing : K.lookup f_read_thing = some ⟨oc_read_thing, od_read_thing, .func (PySem.W.fnOf "read_thing" "read_thing" (defArgs s_read_thing) (defBody s_read_thing) (defScope s_read_thing) .none kV_read_thing dc_read_thing pm_read_thing an_read_thing cd_read_thing ct_read_thing), sl_read_thing⟩)
    (c_read_thing : PySem.W.codeIn K cd_read_thing "read_thing" = true)
    (p_read_thing : PySem.W.keepIn K (.ref f_read_thing) = true)
    (a_read : PySem.W.nsIn K mainGlobals "read" = some (some (.ref f_read)))
    (l_read : K.lookup f_read = some ⟨oc_read, od_read, .func (PySem.W.fnOf "read" "read" (defArgs s_read) (defBody s_read) (defScope s_read) .none kV_read dc_read pm_read an_read cd_read ct_read), sl_read⟩)
    (c_read : PySem.W.codeIn K cd_read "read" = true)
    (p_read : PySem.W.keepIn K (.ref f_read) = true)
    (a__law_take : PySem.W.nsIn K mainGlobals "_law_take" = some (some (.ref f__law_take)))
    (l__law_take : K.lookup f__law_take = some ⟨oc__law_take, od__law_take, .func (PySem.W.fnOf "_law_take" "_law_take" (defArgs s__law_take) (defBody s__law_take) (defScope s__law_take) .none kV__law_take dc__law_take pm__law_take an__law_take cd__law_take ct__law_take), sl__law_take⟩)
    (c__law_take : PySem.W.codeIn K cd__law_take "_law_take" = true)
    (p__law_take : PySem.W.keepIn K (.ref f__law_take) = true)
    (a__law_number : PySem.W.nsIn K mainGlobals "_law_number" = some (some (.ref f__law_number)))
    (l__law_number : K.lookup f__law_number = some ⟨oc__law_number, od__law_number, .func (PySem.W.fnOf "_law_number" "_law_number" (defArgs s__law_number) (defBody s__law_number) (defScope s__law_number) .none kV__law_number dc__law_number pm__law_number an__law_number cd__law_number ct__law_number), sl__law_number⟩)
    (c__law_number : PySem.W.codeIn K cd__law_number "_law_number" = true)
    (p__law_number : PySem.W.keepIn K (.ref f__law_number) = true)
    (a__law_word : PySem.W.nsIn K mainGlobals "_law_word" = some (some (.ref f__law_word)))
    (l__law_word : K.lookup f__law_word = some ⟨oc__law_word, od__law_word, .func (PySem.W.fnOf "_law_word" "_law_word" (defArgs s__law_word) (defBody s__law_word) (defScope s__law_word) .none kV__law_word dc__law_word pm__law_word an__law_word cd__law_word ct__law_word), sl__law_word⟩)
    (c__law_word : PySem.W.codeIn K cd__law_word "_law_word" = true)
    (p__law_word : PySem.W.keepIn K (.ref f__law_word) = true)
    (a__law_tree : PySem.W.nsIn K mainGlobals "_law_tree" = some (some (.ref f__law_tree)))
    (l__law_tree : K.lookup f__law_tree = some ⟨oc__law_tree, od__law_tree, .func (PySem.W.fnOf "_law_tree" "_law_tree" (defArgs s__law_tree) (defBody s__law_tree) (defScope s__law_tree) .none kV__law_tree dc__law_tree pm__law_tree an__law_tree cd__law_tree ct__law_tree), sl__law_tree⟩)
    (c__law_tree : PySem.W.codeIn K cd__law_tree "_law_tree" = true)
    (p__law_tree : PySem.W.keepIn K (.ref f__law_tree) = true)
    (a__law_text : PySem.W.nsIn K mainGlobals "_law_text" = some (some (.ref f__law_text)))
    (l__law_text : K.lookup f__law_text = some ⟨oc__law_text, od__law_text, .func (PySem.W.fnOf "_law_text" "_law_text" (defArgs s__law_text) (defBody s__law_text) (defScope s__law_text) .none kV__law_text dc__law_text pm__law_text an__law_text cd__law_text ct__law_text), sl__law_text⟩)
    (c__law_text : PySem.W.codeIn K cd__law_text "_law_text" = true)
    (p__law_text : PySem.W.keepIn K (.ref f__law_text) = true)
    (a__law_written : PySem.W.nsIn K mainGlobals "_law_written" = some (some (.ref f__law_written)))
    (l__law_written : K.lookup f__law_written = some ⟨oc__law_written, od__law_written, .func (PySem.W.fnOf "_law_written" "_law_written" (defArgs s__law_written) (defBody s__law_written) (defScope s__law_written) .none kV__law_written dc__law_written pm__law_written an__law_written cd__law_written ct__law_written), sl__law_written⟩)
    (c__law_written : PySem.W.codeIn K cd__law_written "_law_written" = true)
    (p__law_written : PySem.W.keepIn K (.ref f__law_written) = true)
    (a__law_sign : PySem.W.nsIn K mainGlobals "_law_sign" = some (some (.ref f__law_sign)))
    (l__law_sign : K.lookup f__law_sign = some ⟨oc__law_sign, od__law_sign, .func (PySem.W.fnOf "_law_sign" "_law_sign" (defArgs s__law_sign) (defBody s__law_sign) (defScope s__law_sign) .none kV__law_sign dc__law_sign pm__law_sign an__law_sign cd__law_sign ct__law_sign), sl__law_sign⟩)
    (c__law_sign : PySem.W.codeIn K cd__law_sign "_law_sign" = true)
    (p__law_sign : PySem.W.keepIn K (.ref f__law_sign) = true)
    (a__law_bent : PySem.W.nsIn K mainGlobals "_law_bent" = some (some (.ref f__law_bent)))
    (l__law_bent : K.lookup f__law_bent = some ⟨oc__law_bent, od__law_bent, .func (PySem.W.fnOf "_law_bent" "_law_bent" (defArgs s__law_bent) (defBody s__law_bent) (defScope s__law_bent) .none kV__law_bent dc__law_bent pm__law_bent an__law_bent cd__law_bent ct__law_bent), sl__law_bent⟩)
    (c__law_bent : PySem.W.codeIn K cd__law_bent "_law_bent" = true)
    (p__law_bent : PySem.W.keepIn K (.ref f__law_bent) = true)
    (a__law_stop : PySem.W.nsIn K mainGlobals "_law_stop" = some (some (.ref f__law_stop)))
    (l__law_stop : K.lookup f__law_stop = some ⟨oc__law_stop, od__law_stop, .func (PySem.W.fnOf "_law_stop" "_law_stop" (defArgs s__law_stop) (defBody s__law_stop) (defScope s__law_stop) .none kV__law_stop dc__law_stop pm__law_stop an__law_stop cd__law_stop ct__law_stop), sl__law_stop⟩)
    (c__law_stop : PySem.W.codeIn K cd__law_stop "_law_stop" = true)
    (p__law_stop : PySem.W.keepIn K (.ref f__law_stop) = true)
    (a__law_is_thing : PySem.W.nsIn K mainGlobals "_law_is_thing" = some (some (.ref f__law_is_thing)))
    (l__law_is_thing : K.lookup f__law_is_thing = some ⟨oc__law_is_thing, od__law_is_thing, .func (PySem.W.fnOf "_law_is_thing" "_law_is_thing" (defArgs s__law_is_thing) (defBody s__law_is_thing) (defScope s__law_is_thing) .none kV__law_is_thing dc__law_is_thing pm__law_is_thing an__law_is_thing cd__law_is_thing ct__law_is_thing), sl__law_is_thing⟩)
    (c__law_is_thing : PySem.W.codeIn K cd__law_is_thing "_law_is_thing" = true)
    (p__law_is_thing : PySem.W.keepIn K (.ref f__law_is_thing) = true)
    (a__law_read : PySem.W.nsIn K mainGlobals "_law_read" = some (some (.ref f__law_read)))
    (l__law_read : K.lookup f__law_read = some ⟨oc__law_read, od__law_read, .func (PySem.W.fnOf "_law_read" "_law_read" (defArgs s__law_read) (defBody s__law_read) (defScope s__law_read) .none kV__law_read dc__law_read pm__law_read an__law_read cd__law_read ct__law_read), sl__law_read⟩)
    (c__law_read : PySem.W.codeIn K cd__law_read "_law_read" = true)
    (p__law_read : PySem.W.keepIn K (.ref f__law_read) = true)
    (a__law_right : PySem.W.nsIn K mainGlobals "_law_right" = some (some (.ref f__law_right)))
    (l__law_right : K.lookup f__law_right = some ⟨oc__law_right, od__law_right, .func (PySem.W.fnOf "_law_right" "_law_right" (defArgs s__law_right) (defBody s__law_right) (defScope s__law_right) .none kV__law_right dc__law_right pm__law_right an__law_right cd__law_right ct__law_right), sl__law_right⟩)
    (c__law_right : PySem.W.codeIn K cd__law_right "_law_right" = true)
    (p__law_right : PySem.W.keepIn K (.ref f__law_right) = true)
    (a_law : PySem.W.nsIn K mainGlobals "law" = some (some (.ref f_law)))
    (l_law : K.lookup f_law = some ⟨oc_law, od_law, .func (PySem.W.fnOf "law" "law" (defArgs s_law) (defBody s_law) (defScope s_law) .none kV_law dc_law pm_law an_law cd_law ct_law), sl_law⟩)
    (c_law : PySem.W.codeIn K cd_law "law" = true)
    (p_law : PySem.W.keepIn K (.ref f_law) = true)
    (a_Scan : PySem.W.findIn K (.ref C_Scan) "__init__" = some (some (.ref f_Scan)))
    (l_Scan : K.lookup f_Scan = some ⟨oc_Scan, od_Scan, .func (PySem.W.fnOf "__init__" "Scan.__init__" (defArgs s_Scan) (defBody s_Scan) (defScope s_Scan) .none kV_Scan dc_Scan pm_Scan an_Scan cd_Scan ct_Scan), sl_Scan⟩)
    (c_Scan : PySem.W.codeIn K cd_Scan "Scan.__init__" = true)
    (p_Scan : PySem.W.keepIn K (.ref f_Scan) = true)
    (i_Scan : PySem.W.isFn K (.ref f_Scan) = true)
    (pg_Scan : PySem.W.plainGet K C_Scan Str.empty = true)
    (hd_Scan : PySem.W.hasDictIn K C_Scan = true)
    (po_Scan : PySem.W.plainOver K C_Scan = true)
    (sa_Scan : PySem.W.findIn K (.ref C_Scan) "__setattr__" = some (some (.builtin "object.__setattr__")))
    (mk_Scan : PySem.W.makesIn K C_Scan = true)
    (kc_Scan : PySem.W.keepIn K (.ref C_Scan) = true)
    (na_Scan_text : PySem.W.findIn K (.ref C_Scan) "text" = some none)
    (na_Scan_place : PySem.W.findIn K (.ref C_Scan) "place" = some none)
    (ek_LikewebsError : PySem.W.keepIn K (.ref C_LikewebsError) = true)
    (eb_LikewebsError : PySem.W.subIn K (.ref C_LikewebsError) (.type "BaseException") = some true)
    (et_LikewebsError : PySem.W.typeIn K (.ref C_LikewebsError) = some (.type "type"))
    (ed_LikewebsError : PySem.W.hasDictIn K C_LikewebsError = true)
    (eq_LikewebsError : PySem.W.excIn K C_LikewebsError [.type "ValueError", .type "Exception", .type "BaseException", .type "object"] "ValueError.__new__" = true)
    (ek_NoWeb : PySem.W.keepIn K (.ref C_NoWeb) = true)
    (eb_NoWeb : PySem.W.subIn K (.ref C_NoWeb) (.type "BaseException") = some true)
    (et_NoWeb : PySem.W.typeIn K (.ref C_NoWeb) = some (.type "type"))
    (ed_NoWeb : PySem.W.hasDictIn K C_NoWeb = true)
    (el_NoWeb : K.lookup C_NoWeb = some (excClassObj nm_NoWeb q_NoWeb C_NoWeb N_NoWeb bs_NoWeb bm_NoWeb true sn_NoWeb sub_NoWeb ab_NoWeb col_NoWeb dd_NoWeb k0_NoWeb k1_NoWeb k2_NoWeb k3_NoWeb k5_NoWeb "ValueError.__new__"))
    (er_NoWeb : PySem.HandSPX.refsVE bm_NoWeb = true)
    (a_NoWeb_init : PySem.W.findIn K (.ref C_NoWeb) "__init__" = some (some (.ref f_NoWeb_init)))
    (l_NoWeb_init : K.lookup f_NoWeb_init = some ⟨oc_NoWeb_init, od_NoWeb_init, .func (PySem.W.fnOf "__init__" "NoWeb.__init__" (defArgs s_NoWeb_init) (defBody s_NoWeb_init) (defScope s_NoWeb_init) .none kV_NoWeb_init dc_NoWeb_init pm_NoWeb_init an_NoWeb_init cd_NoWeb_init ct_NoWeb_init), sl_NoWeb_init⟩)
    (c_NoWeb_init : PySem.W.codeIn K cd_NoWeb_init "NoWeb.__init__" = true)
    (p_NoWeb_init : PySem.W.keepIn K (.ref f_NoWeb_init) = true)
    (ei_NoWeb : PySem.W.typeIn K (.ref f_NoWeb_init) = some (.type "function"))
    (es_NoWeb : PySem.W.findIn K (.ref C_NoWeb) "__setattr__" = some (some (.builtin "object.__setattr__")))
    (xn_NoWeb_at : PySem.W.findIn K (.ref C_NoWeb) "at" = some none)
    (ek_NoThing : PySem.W.keepIn K (.ref C_NoThing) = true)
    (eb_NoThing : PySem.W.subIn K (.ref C_NoThing) (.type "BaseException") = some true)
    (et_NoThing : PySem.W.typeIn K (.ref C_NoThing) = some (.type "type"))
    (ed_NoThing : PySem.W.hasDictIn K C_NoThing = true)
    (eq_NoThing : PySem.W.excIn K C_NoThing [.type "ValueError", .type "Exception", .type "BaseException", .type "object"] "ValueError.__new__" = true)
    (ek_NoText : PySem.W.keepIn K (.ref C_NoText) = true)
    (eb_NoText : PySem.W.subIn K (.ref C_NoText) (.type "BaseException") = some true)
    (et_NoText : PySem.W.typeIn K (.ref C_NoText) = some (.type "type"))
    (ed_NoText : PySem.W.hasDictIn K C_NoText = true)
    (el_NoText : K.lookup C_NoText = some (excClassObj nm_NoText q_NoText C_NoText N_NoText bs_NoText bm_NoText true sn_NoText sub_NoText ab_NoText col_NoText dd_NoText k0_NoText k1_NoText k2_NoText k3_NoText k5_NoText "ValueError.__new__"))
    (er_NoText : PySem.HandSPX.refsVE bm_NoText = true)
    (a_NoText_init : PySem.W.findIn K (.ref C_NoText) "__init__" = some (some (.ref f_NoText_init)))
    (l_NoText_init : K.lookup f_NoText_init = some ⟨oc_NoText_init, od_NoText_init, .func (PySem.W.fnOf "__init__" "NoText.__init__" (defArgs s_NoText_init) (defBody s_NoText_init) (defScope s_NoText_init) .none kV_NoText_init dc_NoText_init pm_NoText_init an_NoText_init cd_NoText_init ct_NoText_init), sl_NoText_init⟩)
    (c_NoText_init : PySem.W.codeIn K cd_NoText_init "NoText.__init__" = true)
    (p_NoText_init : PySem.W.keepIn K (.ref f_NoText_init) = true)
    (ei_NoText : PySem.W.typeIn K (.ref f_NoText_init) = some (.type "function"))
    (es_NoText : PySem.W.findIn K (.ref C_NoText) "__setattr__" = some (some (.builtin "object.__setattr__")))
    (xn_NoText_at : PySem.W.findIn K (.ref C_NoText) "at" = some none)
    (em_NoText_NoText : PySem.W.subIn K (.ref C_NoText) (.ref C_NoText) = some true)
    (kt_NoText_LikewebsError : PySem.W.subIn K (.ref C_NoText) (.ref C_LikewebsError) = some true)
    (kn_NoText_LikewebsError : (C_NoText == C_LikewebsError) = false)
    (kt_NoText_NoThing : PySem.W.subIn K (.ref C_NoText) (.ref C_NoThing) = some false)
    (kn_NoText_NoThing : (C_NoText == C_NoThing) = false)
    (kt_NoText_NoWeb : PySem.W.subIn K (.ref C_NoText) (.ref C_NoWeb) = some false)
    (kn_NoText_NoWeb : (C_NoText == C_NoWeb) = false)
    (kt_NoText_ValueError : PySem.W.subIn K (.ref C_NoText) (.type "ValueError") = some true)
    (hg_NoText : PySem.W.findIn K (.ref C_NoText) "__getattribute__" = some (some (.builtin "BaseException.__getattribute__")))
    (hk_NoText : PySem.W.findIn K (.ref C_NoText) "__getattr__" = some none)
    (ha_NoText : PySem.W.findIn K (.ref C_NoText) "__class__" = some (some (.builtin "object.__class__")))
    (hm_NoText : PySem.W.mroIn K C_NoText (.type "object") = some true)
    (hn_x : PySem.W.specialIn K (.builtin "object.__class__") "__get__" = some (some (.builtin "getset_descriptor.__get__")))
    (ht_x : PySem.W.takesIn K (.builtin "object.__class__") = some true)
    : ∃ fd : FuncData, (∀ (s : Shared) (u : Value), BindsTo s fd ⟨[u], []⟩ [("_law_script", u)]) ∧ ∀ base : Heap, K.In base → base.Ns mainGlobals mg → DFn P w K mg base 200 fa fd ["_law_script"] (spLaw 63) := by
  have e := hfa.symm.trans (PySem.W.mg_of X G a_law)
  cases e
  have GG : Gs K mg ⟨C_LikewebsError, C_NoWeb, C_NoThing, C_NoText, C_Scan, f_NoWeb_init, f_NoText_init⟩ := {
    b_ValueError := PySem.W.mg_none_of X G b_ValueError,
    b_bool := PySem.W.mg_none_of X G b_bool,
    b_enumerate := PySem.W.mg_none_of X G b_enumerate,
    b_int := PySem.W.mg_none_of X G b_int,
    b_isinstance := PySem.W.mg_none_of X G b_isinstance,
    b_len := PySem.W.mg_none_of X G b_len,
    b_range := PySem.W.mg_none_of X G b_range,
    b_str := PySem.W.mg_none_of X G b_str,
    b_tuple := PySem.W.mg_none_of X G b_tuple,
    g_DEEP := ⟨t_DEEP, PySem.W.mg_of X G g_DEEP⟩,
    g_FIGURES := ⟨t_FIGURES, PySem.W.mg_of X G g_FIGURES⟩,
    g_GREATEST := (let ⟨v, h1, h2⟩ := g_GREATEST; let ⟨t, ht, _⟩ := PySem.W.readsW_int_inv h2; ⟨t, by rw [h1, ht]⟩),
    g_LETTERS := ⟨t_LETTERS, PySem.W.mg_of X G g_LETTERS⟩,
    g_LONGEST := ⟨t_LONGEST, PySem.W.mg_of X G g_LONGEST⟩,
    k_LikewebsError := PySem.W.mg_of X G k_LikewebsError,
    k_NoWeb := PySem.W.mg_of X G k_NoWeb,
    k_NoThing := PySem.W.mg_of X G k_NoThing,
    k_NoText := PySem.W.mg_of X G k_NoText,
    k_Scan := PySem.W.mg_of X G k_Scan,
    cl_Scan := ⟨pg_Scan, hd_Scan, po_Scan, sa_Scan⟩,
    na_Scan_text := na_Scan_text,
    na_Scan_place := na_Scan_place,
    x_LikewebsError := ⟨eq_LikewebsError, PySem.W.mg_of X G k_LikewebsError, ek_LikewebsError, eb_LikewebsError, et_LikewebsError⟩,
    x_NoWeb := ⟨⟨⟨_, _, _, _, _, _, _, _, _, _, _, _, _, _, _, el_NoWeb, er_NoWeb⟩, es_NoWeb, eb_NoWeb, et_NoWeb, ek_NoWeb⟩, PySem.W.mg_of X G k_NoWeb, a_NoWeb_init, ei_NoWeb⟩,
    fi_NoWeb := ⟨_, fun_mk (st := s_NoWeb_init) l_NoWeb_init c_NoWeb_init p_NoWeb_init, (fun_mk (st := s_NoWeb_init) l_NoWeb_init c_NoWeb_init p_NoWeb_init).binds (ps := ["self", "at"]) fun _ _ _ _ _ _ us hl => match us, hl with | [_, _], _ => rfl⟩,
    xn_NoWeb_at := xn_NoWeb_at,
    x_NoThing := ⟨eq_NoThing, PySem.W.mg_of X G k_NoThing, ek_NoThing, eb_NoThing, et_NoThing⟩,
    x_NoText := ⟨⟨⟨_, _, _, _, _, _, _, _, _, _, _, _, _, _, _, el_NoText, er_NoText⟩, es_NoText, eb_NoText, et_NoText, ek_NoText⟩, PySem.W.mg_of X G k_NoText, a_NoText_init, ei_NoText⟩,
    fi_NoText := ⟨_, fun_mk (st := s_NoText_init) l_NoText_init c_NoText_init p_NoText_init, (fun_mk (st := s_NoText_init) l_NoText_init c_NoText_init p_NoText_init).binds (ps := ["self", "at"]) fun _ _ _ _ _ _ us hl => match us, hl with | [_, _], _ => rfl⟩,
    xn_NoText_at := xn_NoText_at,
    em_NoText_NoText := PySem.W.exm_ref eb_NoText ed_NoText et_NoText em_NoText_NoText,
    kt_NoText_LikewebsError := kit_ref ed_LikewebsError et_LikewebsError kn_NoText_LikewebsError kt_NoText_LikewebsError,
    kt_NoText_NoThing := kit_ref ed_NoThing et_NoThing kn_NoText_NoThing kt_NoText_NoThing,
    kt_NoText_NoWeb := kit_ref ed_NoWeb et_NoWeb kn_NoText_NoWeb kt_NoText_NoWeb,
    kt_NoText_ValueError := kit_type (by decide +kernel) kt_NoText_ValueError,
    xf_NoText := ⟨hg_NoText, hk_NoText, eb_NoText, ed_NoText⟩,
    ec_NoText := ⟨hg_NoText, hk_NoText, eb_NoText, ed_NoText, ha_NoText, hn_x, ht_x, hm_NoText⟩ }
  exact ⟨PySem.W.fnOf "law" "law" (defArgs s_law) (defBody s_law) (defScope s_law) .none kV_law dc_law pm_law an_law cd_law ct_law, fun s v => .of_eq rfl, fun base _ _ =>
    law_all GG
      (⟨fun_mk (st := s_sign_at) l_sign_at c_sign_at p_sign_at, PySem.W.mg_of X G a_sign_at, (fun_mk (st := s_sign_at) l_sign_at c_sign_at p_sign_at).binds (ps := ["scan"]) fun _ _ _ _ _ _ us hl => match us, hl with | [_], _ => rfl⟩)
      (⟨fun_mk (st := s_is_one_of) l_is_one_of c_is_one_of p_is_one_of, PySem.W.mg_of X G a_is_one_of, (fun_mk (st := s_is_one_of) l_is_one_of c_is_one_of p_is_one_of).binds (ps := ["sign", "signs"]) fun _ _ _ _ _ _ us hl => match us, hl with | [_, _], _ => rfl⟩)
      (⟨fun_mk (st := s_pass_sign) l_pass_sign c_pass_sign p_pass_sign, PySem.W.mg_of X G a_pass_sign, (fun_mk (st := s_pass_sign) l_pass_sign c_pass_sign p_pass_sign).binds (ps := ["scan", "sign"]) fun _ _ _ _ _ _ us hl => match us, hl with | [_, _], _ => rfl⟩)
      (⟨fun_mk (st := s_read_number) l_read_number c_read_number p_read_number, PySem.W.mg_of X G a_read_number, (fun_mk (st := s_read_number) l_read_number c_read_number p_read_number).binds (ps := ["scan"]) fun _ _ _ _ _ _ us hl => match us, hl with | [_], _ => rfl⟩)
      (⟨fun_mk (st := s_read_word) l_read_word c_read_word p_read_word, PySem.W.mg_of X G a_read_word, (fun_mk (st := s_read_word) l_read_word c_read_word p_read_word).binds (ps := ["scan"]) fun _ _ _ _ _ _ us hl => match us, hl with | [_], _ => rfl⟩)
      (⟨fun_mk (st := s_read_tuple) l_read_tuple c_read_tuple p_read_tuple, PySem.W.mg_of X G a_read_tuple, (fun_mk (st := s_read_tuple) l_read_tuple c_read_tuple p_read_tuple).binds (ps := ["scan", "left"]) fun _ _ _ _ _ _ us hl => match us, hl with | [_, _], _ => rfl⟩)
      (⟨fun_mk (st := s_read_thing) l_read_thing c_read_thing p_read_thing, PySem.W.mg_of X G a_read_thing, (fun_mk (st := s_read_thing) l_read_thing c_read_thing p_read_thing).binds (ps := ["scan", "left"]) fun _ _ _ _ _ _ us hl => match us, hl with | [_, _], _ => rfl⟩)
      (⟨fun_mk (st := s_read) l_read c_read p_read, PySem.W.mg_of X G a_read, (fun_mk (st := s_read) l_read c_read p_read).binds (ps := ["text"]) fun _ _ _ _ _ _ us hl => match us, hl with | [_], _ => rfl⟩)
      (⟨fun_mk (st := s__law_take) l__law_take c__law_take p__law_take, PySem.W.mg_of X G a__law_take, (fun_mk (st := s__law_take) l__law_take c__law_take p__law_take).binds (ps := ["_law_state", "_law_below"]) fun _ _ _ _ _ _ us hl => match us, hl with | [_, _], _ => rfl⟩)
      (⟨fun_mk (st := s__law_number) l__law_number c__law_number p__law_number, PySem.W.mg_of X G a__law_number, (fun_mk (st := s__law_number) l__law_number c__law_number p__law_number).binds (ps := ["_law_state"]) fun _ _ _ _ _ _ us hl => match us, hl with | [_], _ => rfl⟩)
      (⟨fun_mk (st := s__law_word) l__law_word c__law_word p__law_word, PySem.W.mg_of X G a__law_word, (fun_mk (st := s__law_word) l__law_word c__law_word p__law_word).binds (ps := ["_law_state"]) fun _ _ _ _ _ _ us hl => match us, hl with | [_], _ => rfl⟩)
      (⟨fun_mk (st := s__law_tree) l__law_tree c__law_tree p__law_tree, PySem.W.mg_of X G a__law_tree, (fun_mk (st := s__law_tree) l__law_tree c__law_tree p__law_tree).binds (ps := ["_law_state", "_law_left"]) fun _ _ _ _ _ _ us hl => match us, hl with | [_, _], _ => rfl⟩)
      (⟨fun_mk (st := s__law_text) l__law_text c__law_text p__law_text, PySem.W.mg_of X G a__law_text, (fun_mk (st := s__law_text) l__law_text c__law_text p__law_text).binds (ps := ["_law_thing"]) fun _ _ _ _ _ _ us hl => match us, hl with | [_], _ => rfl⟩)
      (⟨fun_mk (st := s__law_written) l__law_written c__law_written p__law_written, PySem.W.mg_of X G a__law_written, (fun_mk (st := s__law_written) l__law_written c__law_written p__law_written).binds (ps := ["_law_number_here"]) fun _ _ _ _ _ _ us hl => match us, hl with | [_], _ => rfl⟩)
      (⟨fun_mk (st := s__law_sign) l__law_sign c__law_sign p__law_sign, PySem.W.mg_of X G a__law_sign, (fun_mk (st := s__law_sign) l__law_sign c__law_sign p__law_sign).binds (ps := ["_law_state"]) fun _ _ _ _ _ _ us hl => match us, hl with | [_], _ => rfl⟩)
      (⟨fun_mk (st := s__law_bent) l__law_bent c__law_bent p__law_bent, PySem.W.mg_of X G a__law_bent, (fun_mk (st := s__law_bent) l__law_bent c__law_bent p__law_bent).binds (ps := ["_law_state", "_law_text_here"]) fun _ _ _ _ _ _ us hl => match us, hl with | [_, _], _ => rfl⟩)
      (⟨fun_mk (st := s__law_stop) l__law_stop c__law_stop p__law_stop, PySem.W.mg_of X G a__law_stop, (fun_mk (st := s__law_stop) l__law_stop c__law_stop p__law_stop).binds (ps := ["_law_text_here"]) fun _ _ _ _ _ _ us hl => match us, hl with | [_], _ => rfl⟩)
      (⟨fun_mk (st := s__law_is_thing) l__law_is_thing c__law_is_thing p__law_is_thing, PySem.W.mg_of X G a__law_is_thing, (fun_mk (st := s__law_is_thing) l__law_is_thing c__law_is_thing p__law_is_thing).binds (ps := ["_law_thing", "_law_left"]) fun _ _ _ _ _ _ us hl => match us, hl with | [_, _], _ => rfl⟩)
      (⟨fun_mk (st := s__law_read) l__law_read c__law_read p__law_read, PySem.W.mg_of X G a__law_read, (fun_mk (st := s__law_read) l__law_read c__law_read p__law_read).binds (ps := ["_law_text_here"]) fun _ _ _ _ _ _ us hl => match us, hl with | [_], _ => rfl⟩)
      (⟨fun_mk (st := s__law_right) l__law_right c__law_right p__law_right, PySem.W.mg_of X G a__law_right, (fun_mk (st := s__law_right) l__law_right c__law_right p__law_right).binds (ps := ["_law_text_here", "_law_told"]) fun _ _ _ _ _ _ us hl => match us, hl with | [_, _], _ => rfl⟩)
      (fun_mk (st := s_Scan) l_Scan c_Scan p_Scan) ⟨mk_Scan, a_Scan, i_Scan, kc_Scan⟩ ((fun_mk (st := s_Scan) l_Scan c_Scan p_Scan).binds (ps := ["self", "text"]) fun _ _ _ _ _ _ us hl => match us, hl with | [_, _], _ => rfl)
      (⟨fun_mk (st := s_law) l_law c_law p_law, PySem.W.mg_of X G a_law, (fun_mk (st := s_law) l_law c_law p_law).binds (ps := ["_law_script"]) fun _ _ _ _ _ _ us hl => match us, hl with | [_], _ => rfl⟩)⟩
end Lw

open PySem PySem.W PyProof.Rows
set_option maxHeartbeats 0
theorem PySem.Challenge.cw_likewebs_k91_no_texts_and_where_holds : PySem.Challenge.rw_likewebs_k91_no_texts_and_where.Holds := by
  w_on; o_law; k_head; (case hw => w_witness2)
  k_fill
  refine DL.walk_D (l := PySem.Challenge.rw_likewebs_k91_no_texts_and_where) (n := 63) (k := 200) (x := "_law_script") rfl (by decide) rfl ⟨rfl, by decide, by decide⟩ (fun w h Y => PySem.W.kIn_of Y) ?F
  case F =>
    intro w mg fa h KX X G hmg
    refine' Lw.all_mk KX G hmg ?k_LikewebsError ?k_NoWeb ?k_NoThing ?k_NoText ?k_Scan ?b_ValueError ?b_bool ?b_enumerate ?b_int ?b_isinstance ?b_len ?b_range ?b_str ?b_tuple ?g_DEEP ?g_FIGURES ?g_GREATEST ?g_LETTERS ?g_LONGEST ?a_sign_at ?l_sign_at ?c_sign_at ?p_sign_at ?a_is_one_of ?l_is_one_of ?c_is_one_of ?p_is_one_of ?a_pass_sign ?l_pass_sign ?c_pass_sign ?p_pass_sign ?a_read_number ?l_read_number ?c_read_number ?p_read_number ?a_read_word ?l_read_word ?c_read_word ?p_read_word ?a_read_tuple ?l_read_tuple ?c_read_tuple ?p_read_tuple ?a_read_thing ?l_read_thing ?c_read_thing ?p_read_thing ?a_read ?l_read ?c_read ?p_read ?a__law_take ?l__law_take ?c__law_take ?p__law_take ?a__law_number ?l__law_number ?c__law_number ?p__law_number ?a__law_word ?l__law_word ?c__law_word ?p__law_word ?a__law_tree ?l__law_tree ?c__law_tree ?p__law_tree ?a__law_text ?l__law_text ?c__law_text ?p__law_text ?a__law_written ?l__law_written ?c__law_written ?p__law_written ?a__law_sign ?l__law_sign ?c__law_sign ?p__law_sign ?a__law_bent ?l__law_bent ?c__law_bent ?p__law_bent ?a__law_stop ?l__law_stop ?c__law_stop ?p__law_stop ?a__law_is_thing ?l__law_is_thing ?c__law_is_thing ?p__law_is_thing ?a__law_read ?l__law_read ?c__law_read ?p__law_read ?a__law_right ?l__law_right ?c__law_right ?p__law_right ?a_law ?l_law ?c_law ?p_law ?a_Scan ?l_Scan ?c_Scan ?p_Scan ?i_Scan ?pg_Scan ?hd_Scan ?po_Scan ?sa_Scan ?mk_Scan ?kc_Scan ?na_Scan_text ?na_Scan_place ?ek_LikewebsError ?eb_LikewebsError ?et_LikewebsError ?ed_LikewebsError ?eq_LikewebsError ?ek_NoWeb ?eb_NoWeb ?et_NoWeb ?ed_NoWeb ?el_NoWeb ?er_NoWeb ?a_NoWeb_init ?l_NoWeb_init ?c_NoWeb_init ?p_NoWeb_init ?ei_NoWeb ?es_NoWeb ?xn_NoWeb_at ?ek_NoThing ?eb_NoThing ?et_NoThing ?ed_NoThing ?eq_NoThing ?ek_NoText ?eb_NoText ?et_NoText ?ed_NoText ?el_NoText ?er_NoText ?a_NoText_init ?l_NoText_init ?c_NoText_init ?p_NoText_init ?ei_NoText ?es_NoText ?xn_NoText_at ?em_NoText_NoText ?kt_NoText_LikewebsError ?kn_NoText_LikewebsError ?kt_NoText_NoThing ?kn_NoText_NoThing ?kt_NoText_NoWeb ?kn_NoText_NoWeb ?kt_NoText_ValueError ?hg_NoText ?hk_NoText ?ha_NoText ?hm_NoText ?hn_x ?ht_x
    (case k_LikewebsError => k_is)
    (case k_NoWeb => k_is)
    (case k_NoThing => k_is)
    (case k_NoText => k_is)
    (case k_Scan => k_is)
    (case b_ValueError => k_is)
    (case b_bool => k_is)
    (case b_enumerate => k_is)
    (case b_int => k_is)
    (case b_isinstance => k_is)
    (case b_len => k_is)
    (case b_range => k_is)
    (case b_str => k_is)
    (case b_tuple => k_is)
    (case g_DEEP => k_is)
    (case g_FIGURES => k_is)
    (case g_GREATEST => exact X.2.val _ (by first | exact List.mem_cons_self | simp))
    (case g_LETTERS => k_is)
    (case g_LONGEST => k_is)
    (case a_sign_at => k_is)
    (case l_sign_at => k_is)
    (case c_sign_at => k_is)
    (case p_sign_at => k_is)
    (case a_is_one_of => k_is)
    (case l_is_one_of => k_is)
    (case c_is_one_of => k_is)
    (case p_is_one_of => k_is)
    (case a_pass_sign => k_is)
    (case l_pass_sign => k_is)
    (case c_pass_sign => k_is)
    (case p_pass_sign => k_is)
    (case a_read_number => k_is)
    (case l_read_number => k_is)
    (case c_read_number => k_is)
    (case p_read_number => k_is)
    (case a_read_word => k_is)
    (case l_read_word => k_is)
    (case c_read_word => k_is)
    (case p_read_word => k_is)
    (case a_read_tuple => k_is)
    (case l_read_tuple => k_is)
    (case c_read_tuple => k_is)
    (case p_read_tuple => k_is)
    (case a_read_thing => k_is)
    (case l_read_thing => k_is)
    (case c_read_thing => k_is)
    (case p_read_thing => k_is)
    (case a_read => k_is)
    (case l_read => k_is)
    (case c_read => k_is)
    (case p_read => k_is)
    (case a__law_take => k_is)
    (case l__law_take => k_is)
    (case c__law_take => k_is)
    (case p__law_take => k_is)
    (case a__law_number => k_is)
    (case l__law_number => k_is)
    (case c__law_number => k_is)
    (case p__law_number => k_is)
    (case a__law_word => k_is)
    (case l__law_word => k_is)
    (case c__law_word => k_is)
    (case p__law_word => k_is)
    (case a__law_tree => k_is)
    (case l__law_tree => k_is)
    (case c__law_tree => k_is)
    (case p__law_tree => k_is)
    (case a__law_text => k_is)
    (case l__law_text => k_is)
    (case c__law_text => k_is)
    (case p__law_text => k_is)
    (case a__law_written => k_is)
    (case l__law_written => k_is)
    (case c__law_written => k_is)
    (case p__law_written => k_is)
    (case a__law_sign => k_is)
    (case l__law_sign => k_is)
    (case c__law_sign => k_is)
    (case p__law_sign => k_is)
    (case a__law_bent => k_is)
    (case l__law_bent => k_is)
    (case c__law_bent => k_is)
    (case p__law_bent => k_is)
    (case a__law_stop => k_is)
    (case l__law_stop => k_is)
    (case c__law_stop => k_is)
    (case p__law_stop => k_is)
    (case a__law_is_thing => k_is)
    (case l__law_is_thing => k_is)
    (case c__law_is_thing => k_is)
    (case p__law_is_thing => k_is)
    (case a__law_read => k_is)
    (case l__law_read => k_is)
    (case c__law_read => k_is)
    (case p__law_read => k_is)
    (case a__law_right => k_is)
    (case l__law_right => k_is)
    (case c__law_right => k_is)
    (case p__law_right => k_is)
    (case a_law => k_is)
    (case l_law => k_is)
    (case c_law => k_is)
    (case p_law => k_is)
    (case a_Scan => k_is)
    (case l_Scan => k_is)
    (case c_Scan => k_is)
    (case p_Scan => k_is)
    (case i_Scan => k_is)
    (case pg_Scan => k_is)
    (case hd_Scan => k_is)
    (case po_Scan => k_is)
    (case sa_Scan => k_is)
    (case mk_Scan => k_is)
    (case kc_Scan => k_is)
    (case na_Scan_text => k_is)
    (case na_Scan_place => k_is)
    (case ek_LikewebsError => k_is)
    (case eb_LikewebsError => k_is)
    (case et_LikewebsError => k_is)
    (case ed_LikewebsError => k_is)
    (case eq_LikewebsError => k_exc)
    (case ek_NoWeb => k_is)
    (case eb_NoWeb => k_is)
    (case et_NoWeb => k_is)
    (case ed_NoWeb => k_is)
    (case el_NoWeb => k_is)
    (case er_NoWeb => decide +kernel)
    (case a_NoWeb_init => k_is)
    (case l_NoWeb_init => k_is)
    (case c_NoWeb_init => k_is)
    (case p_NoWeb_init => k_is)
    (case ei_NoWeb => k_is)
    (case es_NoWeb => k_is)
    (case xn_NoWeb_at => k_is)
    (case ek_NoThing => k_is)
    (case eb_NoThing => k_is)
    (case et_NoThing => k_is)
    (case ed_NoThing => k_is)
    (case eq_NoThing => k_exc)
    (case ek_NoText => k_is)
    (case eb_NoText => k_is)
    (case et_NoText => k_is)
    (case ed_NoText => k_is)
    (case el_NoText => k_is)
    (case er_NoText => decide +kernel)
    (case a_NoText_init => k_is)
    (case l_NoText_init => k_is)
    (case c_NoText_init => k_is)
    (case p_NoText_init => k_is)
    (case ei_NoText => k_is)
    (case es_NoText => k_is)
    (case xn_NoText_at => k_is)
    (case em_NoText_NoText => k_is)
    (case kt_NoText_LikewebsError => k_is)
    (case kn_NoText_LikewebsError => decide)
    (case kt_NoText_NoThing => k_is)
    (case kn_NoText_NoThing => decide)
    (case kt_NoText_NoWeb => k_is)
    (case kn_NoText_NoWeb => decide)
    (case kt_NoText_ValueError => k_is)
    (case hg_NoText => k_is)
    (case hk_NoText => k_is)
    (case ha_NoText => k_is)
    (case hm_NoText => k_is)
    (case hn_x => k_is)
    (case ht_x => k_is)
