import PyProof.Rows.All
import Wide.All
import OpenK.AllK
import Wide.FinOn
import HandS.ForMost
import HandS.IsInst
import HandS.TupAny
import HandS.Walk
import HandS.Deep
import HandS.Style
import HandS.TupLe
import HandS.Conv
import KE.SortData
import KE.KDictPairs
import KE.KDictKeyed
import KE.KDictWalk
import HandS.Set
import HandS.Strs
import HandS.Comp
import KE.SortLaws
import PySem.Challenge.RW_sumsheld_k34_books_that_change
set_option Elab.async false
set_option linter.all false
set_option maxRecDepth 100000
set_option autoImplicit false
/-! PM, part a: data, stores, the relation to the hand layer's heaps, the canonical readings. -/
namespace PM
open PySem PySem.Spec PyProof.Rows L2

/-- what a name may hold: data that never changes, or a thing in the store -/
inductive D where
  | d (x : PyData)
  | ref (n : Nat)
/-- what stands in the store -/
inductive Cell where
  | lst (xs : List D)
  | dK (lock : Bool) (kvs : List (L2.Key × D))
  | dT (lock : Bool) (kvs : List (List L2.Key × D))
abbrev Store := List Cell
abbrev Env := List (Option D)
abbrev M (α : Type) := Store → Option (α × Store)
/-- how a statement ends -/
inductive Fl where
  | nx (e : Env)
  | rt (x : D)
  | bk (e : Env)
  | ct (e : Env)

def TupAt (_K : PySem.W.Frag) (ρ : List Addr) (H : Hp) (a : Addr) (vs : List V) : Prop := H a = some (.tup vs) ∧ a ∉ ρ
section
variable (K : PySem.W.Frag) (ρ : List Addr) (H : Hp)
def LstAt (a : Addr) (vs : List V) : Prop := (Rd H a (.lst vs) ∧ a ∉ ρ) ∨ SqL K (fun _ => Option.none) a vs
mutual
inductive DV : V → PyData → Prop
  | non : DV .non .none
  | bl (b : Bool) : DV (.bl b) (.bool b)
  | int (i : Int) : DV (.int i) (.int i)
  | str (x : Str) : DV (.str x) (.str x)
  | tup {a : Addr} {vs : List V} {ds : List PyData} : TupAt K ρ H a vs → DVs vs ds → DV (.ref a) (.tuple ds)
  | lst {a : Addr} {vs : List V} {ds : List PyData} : LstAt K ρ H a vs → DVs vs ds → DV (.ref a) (.list ds)
inductive DVs : List V → List PyData → Prop
  | nil : DVs [] []
  | cons {v : V} {vs : List V} {d : PyData} {ds : List PyData} : DV v d → DVs vs ds → DVs (v :: vs) (d :: ds)
end
inductive VX : V → D → Prop
  | d {v : V} {x : PyData} : DV K ρ H v x → VX v (.d x)
  | ref {a : Addr} {n : Nat} : ρ[n]? = some a → VX (.ref a) (.ref n)
abbrev VXs : List V → List D → Prop := Paired (VX K ρ H)
abbrev KVX {κ : Type} : List (κ × V) → List (κ × D) → Prop := Paired fun p q => p.1 = q.1 ∧ VX K ρ H p.2 q.2
def CellOk (a : Addr) : Cell → Prop
  | .lst xs => ∃ vs, H a = some (.lst vs) ∧ VXs K ρ H vs xs
  | .dK false kvs => ∃ kws, H a = some (.dK kws) ∧ KVX K ρ H kws kvs
  | .dK true kvs => ∃ kws o, H a = some (.frz o (.dK kws)) ∧ KVX K ρ H kws kvs
  | .dT false kvs => ∃ kws, H a = some (.dT kws) ∧ KVX K ρ H kws kvs
  | .dT true kvs => ∃ kws o, H a = some (.frz o (.dT kws)) ∧ KVX K ρ H kws kvs
structure SR (st : Store) : Prop where
  nd : ρ.Nodup
  len : ρ.length = st.length
  ok : ∀ (i : Nat) (a : Addr) (c : Cell), ρ[i]? = some a → st[i]? = some c → CellOk K ρ H a c
structure ER (env : Env) (σ : L2.St) : Prop where
  len : env.length = σ.length
  get : ∀ (i : Nat) (x : D), env[i]? = some (some x) → ∃ v, σ[i]? = some (some v) ∧ VX K ρ H v x
end
structure Ext (ρ : List Addr) (H : Hp) (ρ' : List Addr) (H' : Hp) : Prop where
  pre : ∃ t, ρ' = ρ ++ t
  new : ∀ a, a ∈ ρ' → a ∉ ρ → H a = none
  keep : ∀ a o, H a = some o → a ∉ ρ → H' a = some o
  frz : ∀ a o u, H a = some (.frz o u) → H' a = some (.frz o u)

section
variable {K : PySem.W.Frag} {ρ ρ' ρ'' : List Addr} {H H' H'' : Hp}
theorem Ext.refl : Ext ρ H ρ H := ⟨⟨[], by simp⟩, fun a h n => absurd h n, fun _ _ h _ => h, fun _ _ _ h => h⟩
theorem Ext.sub (e : Ext ρ H ρ' H') {a : Addr} (h : a ∈ ρ) : a ∈ ρ' := by
  obtain ⟨t, rfl⟩ := e.pre
  exact List.mem_append_left _ h
theorem Ext.get (e : Ext ρ H ρ' H') {n : Nat} {a : Addr} (h : ρ[n]? = some a) : ρ'[n]? = some a := by
  obtain ⟨t, rfl⟩ := e.pre
  rw [List.getElem?_append_left (List.getElem?_eq_some_iff.mp h).1]
  exact h
theorem Ext.out (e : Ext ρ H ρ' H') {a : Addr} {o : HO} (h : H a = some o) (n : a ∉ ρ) : a ∉ ρ' := fun m => by
  rw [e.new a m n] at h
  cases h
theorem Ext.trans (e : Ext ρ H ρ' H') (f : Ext ρ' H' ρ'' H'') : Ext ρ H ρ'' H'' := by
  refine ⟨?_, fun a m n => ?_, fun a o h n => f.keep a o (e.keep a o h n) (e.out h n), fun a o u h => f.frz a o u (e.frz a o u h)⟩
  · obtain ⟨t, rfl⟩ := e.pre
    obtain ⟨u, rfl⟩ := f.pre
    exact ⟨t ++ u, by simp⟩
  · by_cases q : a ∈ ρ'
    · exact e.new a q n
    · cases h : H a with
      | none => rfl
      | some o =>
        have := f.new a m q
        rw [e.keep a o h n] at this
        cases this
theorem rd_ext (e : Ext ρ H ρ' H') {a : Addr} {u : HO} (h : Rd H a u) (n : a ∉ ρ) : Rd H' a u ∧ a ∉ ρ' := by
  rcases h with h | ⟨o, h⟩
  · exact ⟨.inl (e.keep a _ h n), e.out h n⟩
  · exact ⟨.inr ⟨o, e.keep a _ h n⟩, e.out h n⟩
theorem TupAt.ext (e : Ext ρ H ρ' H') {a : Addr} {vs : List V} (h : TupAt K ρ H a vs) : TupAt K ρ' H' a vs := ⟨e.keep a _ h.1 h.2, e.out h.1 h.2⟩
theorem LstAt.ext (e : Ext ρ H ρ' H') {a : Addr} {vs : List V} (h : LstAt K ρ H a vs) : LstAt K ρ' H' a vs := by
  rcases h with ⟨h, n⟩ | h
  · exact .inl (rd_ext e h n)
  · exact .inr h
theorem TupAt.sq {a : Addr} {vs : List V} (h : TupAt K ρ H a vs) : SqT K H a vs := .inl (.inl h.1)
theorem LstAt.sq {a : Addr} {vs : List V} (h : LstAt K ρ H a vs) : SqL K H a vs := by
  rcases h with ⟨h, _⟩ | (h | h)
  · exact .inl h
  · rcases h with h | ⟨_, h⟩ <;> cases h
  · exact .inr h
theorem LstAt.of_sq {a : Addr} {vs : List V} (h : SqL K H a vs) (n : a ∉ ρ) : LstAt K ρ H a vs := by
  rcases h with h | h
  · exact .inl ⟨h, n⟩
  · exact .inr (.inr h)
mutual
theorem DV.ext (e : Ext ρ H ρ' H') : ∀ (x : PyData) (v : V), DV K ρ H v x → DV K ρ' H' v x
  | .none, _, h => by cases h; exact .non
  | .bool b, _, h => by cases h; exact .bl b
  | .int i, _, h => by cases h; exact .int i
  | .str s, _, h => by cases h; exact .str s
  | .tuple ds, _, h => by
    cases h with
    | tup h1 h2 => exact .tup (h1.ext e) (DVs.ext e ds _ h2)
  | .list ds, _, h => by
    cases h with
    | lst h1 h2 => exact .lst (h1.ext e) (DVs.ext e ds _ h2)
  | .dict _, _, h => by cases h
theorem DVs.ext (e : Ext ρ H ρ' H') : ∀ (xs : List PyData) (vs : List V), DVs K ρ H vs xs → DVs K ρ' H' vs xs
  | [], _, h => by cases h; exact .nil
  | d :: ds, _, h => by
    cases h with
    | cons h1 h2 => exact .cons (DV.ext e d _ h1) (DVs.ext e ds _ h2)
end
mutual
theorem DV.dp : ∀ (x : PyData) (v : V), DV K ρ H v x → Dp K H v x
  | .none, _, h => by cases h; exact .non
  | .bool b, _, h => by cases h; exact .bl b
  | .int i, _, h => by cases h; exact .int i
  | .str s, _, h => by cases h; exact .str s
  | .tuple ds, _, h => by
    cases h with
    | tup h1 h2 => exact .tup h1.sq (DVs.dp ds _ h2)
  | .list ds, _, h => by
    cases h with
    | lst h1 h2 => exact .lst h1.sq (DVs.dp ds _ h2)
  | .dict _, _, h => by cases h
theorem DVs.dp : ∀ (xs : List PyData) (vs : List V), DVs K ρ H vs xs → DpAll K H vs xs
  | [], _, h => by cases h; exact .nil
  | d :: ds, _, h => by
    cases h with
    | cons h1 h2 => exact .cons (DV.dp d _ h1) (DVs.dp ds _ h2)
end
theorem VX.ext (e : Ext ρ H ρ' H') {v : V} {x : D} (h : VX K ρ H v x) : VX K ρ' H' v x := by
  cases h with
  | d h => exact .d (DV.ext e _ _ h)
  | ref h => exact .ref (e.get h)
theorem VXs.ext (e : Ext ρ H ρ' H') {vs : List V} {xs : List D} (h : VXs K ρ H vs xs) : VXs K ρ' H' vs xs := L2.Paired.mapP h fun _ _ q => q.ext e
theorem KVX.ext {κ : Type} (e : Ext ρ H ρ' H') {vs : List (κ × V)} {xs : List (κ × D)} (h : KVX K ρ H vs xs) : KVX K ρ' H' vs xs := L2.Paired.mapP h fun _ _ q => ⟨q.1, q.2.ext e⟩
theorem CellOk.ext (e : Ext ρ H ρ' H') {a : Addr} {c : Cell} (h : CellOk K ρ H a c) (s : H' a = H a) : CellOk K ρ' H' a c := by
  cases c with
  | lst xs =>
    obtain ⟨vs, h1, h2⟩ := h
    exact ⟨vs, s.trans h1, VXs.ext e h2⟩
  | dK l kvs =>
    cases l with
    | false =>
      obtain ⟨vs, h1, h2⟩ := h
      exact ⟨vs, s.trans h1, KVX.ext e h2⟩
    | true =>
      obtain ⟨vs, o, h1, h2⟩ := h
      exact ⟨vs, o, s.trans h1, KVX.ext e h2⟩
  | dT l kvs =>
    cases l with
    | false =>
      obtain ⟨vs, h1, h2⟩ := h
      exact ⟨vs, s.trans h1, KVX.ext e h2⟩
    | true =>
      obtain ⟨vs, o, h1, h2⟩ := h
      exact ⟨vs, o, s.trans h1, KVX.ext e h2⟩
theorem nofrz_lst {p : Addr} {vs : List V} (h : H p = some (.lst vs)) : ∀ o u, H p ≠ some (.frz o u) := fun _ _ z => by
  rw [h] at z
  cases z
theorem nofrz_dK {p : Addr} {vs : List (L2.Key × V)} (h : H p = some (.dK vs)) : ∀ o u, H p ≠ some (.frz o u) := fun _ _ z => by
  rw [h] at z
  cases z
theorem nofrz_dT {p : Addr} {vs : List (List L2.Key × V)} (h : H p = some (.dT vs)) : ∀ o u, H p ≠ some (.frz o u) := fun _ _ z => by
  rw [h] at z
  cases z
theorem CellOk.there {a : Addr} {c : Cell} (h : CellOk K ρ H a c) : H a ≠ none := fun z => by
  cases c with
  | lst xs =>
    obtain ⟨vs, h1, h2⟩ := h
    rw [z] at h1
    cases h1
  | dK l kvs =>
    cases l with
    | false =>
      obtain ⟨vs, h1, h2⟩ := h
      rw [z] at h1
      cases h1
    | true =>
      obtain ⟨vs, o, h1, h2⟩ := h
      rw [z] at h1
      cases h1
  | dT l kvs =>
    cases l with
    | false =>
      obtain ⟨vs, h1, h2⟩ := h
      rw [z] at h1
      cases h1
    | true =>
      obtain ⟨vs, o, h1, h2⟩ := h
      rw [z] at h1
      cases h1
theorem ER.ext (e : Ext ρ H ρ' H') {env : Env} {σ : L2.St} (h : ER K ρ H env σ) : ER K ρ' H' env σ :=
  ⟨h.len, fun i x q => let ⟨v, a, b⟩ := h.get i x q; ⟨v, a, b.ext e⟩⟩
variable {st : Store}
theorem SR.there (S : SR K ρ H st) {a : Addr} (h : a ∈ ρ) : H a ≠ none := by
  obtain ⟨i, hi, e⟩ := List.getElem_of_mem h
  have h1 : ρ[i]? = some a := by rw [List.getElem?_eq_getElem hi, e]
  have h2 : i < st.length := S.len ▸ hi
  exact (S.ok i a st[i] h1 (List.getElem?_eq_getElem h2)).there
theorem SR.fresh (S : SR K ρ H st) {p : Addr} (h : H p = none) : p ∉ ρ := fun m => S.there m h
/-- something else is laid or known -/
theorem SR.side (S : SR K ρ H st) (e : Ext ρ H ρ H') (s : ∀ a ∈ ρ, H' a = H a) : SR K ρ H' st :=
  ⟨S.nd, S.len, fun i a c h1 h2 => (S.ok i a c h1 h2).ext e (s a (List.mem_of_getElem? h1))⟩
theorem ext_new {p : Addr} {o : HO} (h : H p = none) : Ext ρ H ρ (upd H p o) :=
  ⟨⟨[], by simp⟩, fun a m n => absurd m n, fun a u q _ => by rw [upd_ne (ne_of_none q h)]; exact q, fun a _ u q => by rw [upd_ne (ne_of_none q h)]; exact q⟩
theorem SR.data (S : SR K ρ H st) {p : Addr} {o : HO} (h : H p = none) : SR K ρ (upd H p o) st :=
  S.side (ext_new h) fun a m => upd_ne fun z => S.fresh h (z ▸ m)
theorem SR.ext_push (S : SR K ρ H st) {p : Addr} {o : HO} (h : H p = none) : Ext ρ H (ρ ++ [p]) (upd H p o) :=
  ⟨⟨[p], rfl⟩, fun a m n => by
    rcases List.mem_append.mp m with m | m
    · exact absurd m n
    · rw [List.mem_singleton.mp m]
      exact h, fun a u q _ => by rw [upd_ne (ne_of_none q h)]; exact q, fun a _ u q => by rw [upd_ne (ne_of_none q h)]; exact q⟩
theorem SR.push (S : SR K ρ H st) {p : Addr} {o : HO} {c : Cell} (h : H p = none) (ok : CellOk K (ρ ++ [p]) (upd H p o) p c) : SR K (ρ ++ [p]) (upd H p o) (st ++ [c]) := by
  have np := S.fresh h
  refine ⟨?_, by simp [S.len], fun i a c' h1 h2 => ?_⟩
  · rw [List.nodup_append]
    exact ⟨S.nd, by simp, fun a m b q => by rw [List.mem_singleton.mp q]; exact fun z => np (z ▸ m)⟩
  · by_cases hi : i < ρ.length
    · rw [List.getElem?_append_left hi] at h1
      rw [List.getElem?_append_left (S.len ▸ hi)] at h2
      exact (S.ok i a c' h1 h2).ext (S.ext_push h) (upd_ne fun z => np (z ▸ List.mem_of_getElem? h1))
    · have e : i = ρ.length := by
        have := (List.getElem?_eq_some_iff.mp h1).1
        simp at this
        omega
      subst e
      rw [List.getElem?_append_right (Nat.le_refl _), Nat.sub_self] at h1
      rw [List.getElem?_append_right (Nat.le_of_eq S.len.symm), S.len, Nat.sub_self] at h2
      cases h1
      cases h2
      exact ok
theorem ext_set {p : Addr} {o : HO} (h : p ∈ ρ) (hf : ∀ o u, H p ≠ some (.frz o u)) : Ext ρ H ρ (upd H p o) :=
  ⟨⟨[], by simp⟩, fun a m n => absurd m n, fun a u q n => by rw [upd_ne (show a ≠ p from fun z => n (by rw [z]; exact h))]; exact q, fun a o' u q => by rw [upd_ne (show a ≠ p from fun z => hf o' u (by rw [← z]; exact q))]; exact q⟩
theorem SR.set (S : SR K ρ H st) {n : Nat} {p : Addr} {o : HO} {c : Cell} (h : ρ[n]? = some p) (hf : ∀ o u, H p ≠ some (.frz o u)) (ok : CellOk K ρ (upd H p o) p c) : SR K ρ (upd H p o) (st.set n c) := by
  have mp : p ∈ ρ := List.mem_of_getElem? h
  refine ⟨S.nd, by simp [S.len], fun i a c' h1 h2 => ?_⟩
  by_cases e : i = n
  · subst e
    rw [h] at h1
    cases h1
    rw [List.getElem?_set_self (by rw [← S.len]; exact (List.getElem?_eq_some_iff.mp h).1)] at h2
    cases h2
    exact ok
  · rw [List.getElem?_set_ne (Ne.symm e)] at h2
    refine (S.ok i a c' h1 h2).ext (ext_set mp hf) (upd_ne fun z => ?_)
    subst z
    obtain ⟨l1, e1⟩ := List.getElem?_eq_some_iff.mp h1
    obtain ⟨l2, e2⟩ := List.getElem?_eq_some_iff.mp h
    exact e ((List.getElem_inj S.nd).mp (e1.trans e2.symm))
theorem CellOk.notup {a : Addr} {c : Cell} (h : CellOk K ρ H a c) : ∀ vs, H a ≠ some (.tup vs) := fun vs z => by
  cases c with
  | lst xs =>
    obtain ⟨vs, h1, h2⟩ := h
    rw [z] at h1
    cases h1
  | dK l kvs =>
    cases l with
    | false =>
      obtain ⟨vs, h1, h2⟩ := h
      rw [z] at h1
      cases h1
    | true =>
      obtain ⟨vs, o, h1, h2⟩ := h
      rw [z] at h1
      cases h1
  | dT l kvs =>
    cases l with
    | false =>
      obtain ⟨vs, h1, h2⟩ := h
      rw [z] at h1
      cases h1
    | true =>
      obtain ⟨vs, o, h1, h2⟩ := h
      rw [z] at h1
      cases h1
theorem SR.notup (S : SR K ρ H st) {a : Addr} {vs : List V} (h : H a = some (.tup vs)) : a ∉ ρ := fun m => by
  obtain ⟨i, hi, e⟩ := List.getElem_of_mem m
  have h1 : ρ[i]? = some a := by rw [List.getElem?_eq_getElem hi, e]
  have h2 : i < st.length := S.len ▸ hi
  exact (S.ok i a st[i] h1 (List.getElem?_eq_getElem h2)).notup vs h
theorem SR.at (S : SR K ρ H st) {n : Nat} {a : Addr} {c : Cell} (h : ρ[n]? = some a) (hc : st[n]? = some c) : CellOk K ρ H a c := S.ok n a c h hc
end

/-! ### the canonical readings -/
def Cont (K : PySem.W.Frag) (ρ : List Addr) (H : Hp) (x : D) (st : Store) (Q : VK) : Prop := ∀ v H' ρ', Ext ρ H ρ' H' → SR K ρ' H' st → VX K ρ' H' v x → Q v H'
def cE (K : PySem.W.Frag) (A : Env → M D) : TE := fun σ H Q => ∃ ρ env st x st', ER K ρ H env σ ∧ SR K ρ H st ∧ A env st = some (x, st') ∧ Cont K ρ H x st' Q
def cT (K : PySem.W.Frag) (A : Env → M Bool) : TT := fun σ H Q => ∃ ρ env st b st', ER K ρ H env σ ∧ SR K ρ H st ∧ A env st = some (b, st') ∧ ∀ H' ρ', Ext ρ H ρ' H' → SR K ρ' H' st' → Q b H'
def cA (K : PySem.W.Frag) (A : Env → M (List D)) : TA := fun σ H Q => ∃ ρ env st xs st', ER K ρ H env σ ∧ SR K ρ H st ∧ A env st = some (xs, st') ∧ ∀ vs H' ρ', Ext ρ H ρ' H' → SR K ρ' H' st' → VXs K ρ' H' vs xs → Q vs H'
def ContS (K : PySem.W.Frag) (ρ : List Addr) (H : Hp) (st : Store) (E : Ends) : Fl → Prop
  | .nx env => ∀ σ' H' ρ', Ext ρ H ρ' H' → SR K ρ' H' st → ER K ρ' H' env σ' → E.nx σ' H'
  | .bk env => ∀ σ' H' ρ', Ext ρ H ρ' H' → SR K ρ' H' st → ER K ρ' H' env σ' → E.bk σ' H'
  | .ct env => ∀ σ' H' ρ', Ext ρ H ρ' H' → SR K ρ' H' st → ER K ρ' H' env σ' → E.ct σ' H'
  | .rt x => Cont K ρ H x st E.rt
def cS (K : PySem.W.Frag) (S : Env → M Fl) : TS := fun E σ H => ∃ ρ env st f st', ER K ρ H env σ ∧ SR K ρ H st ∧ S env st = some (f, st') ∧ ContS K ρ H st' E f
theorem ContS.ext {K : PySem.W.Frag} {ρ ρ' : List Addr} {H H' : Hp} {st : Store} {E : Ends} {f : Fl} (e : Ext ρ H ρ' H') (h : ContS K ρ H st E f) : ContS K ρ' H' st E f := by
  cases f with
  | nx env => exact fun σ' H'' ρ'' a b c => h σ' H'' ρ'' (e.trans a) b c
  | bk env => exact fun σ' H'' ρ'' a b c => h σ' H'' ρ'' (e.trans a) b c
  | ct env => exact fun σ' H'' ρ'' a b c => h σ' H'' ρ'' (e.trans a) b c
  | rt x => exact fun v H'' ρ'' a b c => h v H'' ρ'' (e.trans a) b c

theorem PE.weak {X : Cx} {e : Expr} {t t' : TE} (h : PE X e t) (w : ∀ σ H Q, t' σ H Q → t σ H Q) : PE X e t' := ⟨fun pins s σ H Q I q => h.run pins s σ H Q I (w _ _ _ q)⟩
theorem PT.weak {X : Cx} {e : Expr} {t t' : TT} (h : PT X e t) (w : ∀ σ H Q, t' σ H Q → t σ H Q) : PT X e t' := ⟨fun pins s σ H Q I q => h.run pins s σ H Q I (w _ _ _ q)⟩
theorem PA.weak {X : Cx} {e : List Expr} {t t' : TA} (h : PA X e t) (w : ∀ σ H Q, t' σ H Q → t σ H Q) : PA X e t' := ⟨fun pos pins s σ H Q I q => h.run pos pins s σ H Q I (w _ _ _ q)⟩
theorem PS.weak {X : Cx} {e : Stmt} {t t' : TS} (h : PS X e t) (w : ∀ E σ H, t' E σ H → t E σ H) : PS X e t' := ⟨fun pins s σ H Q I q => h.run pins s σ H Q I (w _ _ _ q)⟩
theorem PSs.weak {X : Cx} {e : List Stmt} {t t' : TS} (h : PSs X e t) (w : ∀ E σ H, t' E σ H → t E σ H) : PSs X e t' := ⟨fun pins s σ H Q I q => h.run pins s σ H Q I (w _ _ _ q)⟩

abbrev XE (X : Cx) (e : Expr) (A : Env → M D) : Prop := PE X e (cE X.K A)
abbrev XT (X : Cx) (e : Expr) (A : Env → M Bool) : Prop := PT X e (cT X.K A)
abbrev XA (X : Cx) (es : List Expr) (A : Env → M (List D)) : Prop := PA X es (cA X.K A)
abbrev XS (X : Cx) (s : Stmt) (A : Env → M Fl) : Prop := PS X s (cS X.K A)
abbrev XSs (X : Cx) (s : List Stmt) (A : Env → M Fl) : Prop := PSs X s (cS X.K A)

/-- what a def does, as a promise -/
def spM (K : PySem.W.Frag) (F : List D → M D) : Sp := fun vs H Q _ => ∃ ρ st xs x st', VXs K ρ H vs xs ∧ SR K ρ H st ∧ F xs st = some (x, st') ∧ Cont K ρ H x st' Q
def retM (r : Fl × Store) : Option (D × Store) := match r.1 with
  | .rt x => some (x, r.2)
  | .nx _ => some (.d .none, r.2)
  | _ => none
/-- a def of n parameters and m names in all -/
def bodyM (n m : Nat) (S : Env → M Fl) : List D → M D := fun xs st => if xs.length = n then (S (xs.map some ++ List.replicate (m - n) none) st).bind retM else none
theorem paired_get {α β : Type} {F : α → β → Prop} : ∀ {l : List α} {m : List β} {i : Nat} {y : β}, Paired F l m → m[i]? = some y → ∃ x, l[i]? = some x ∧ F x y
  | _, _, _, _, .nil, h => by simp at h
  | _, _, 0, _, .cons r _, h => by simp at h; subst h; exact ⟨_, rfl, r⟩
  | _, _, i + 1, y, .cons _ t, h => by
    obtain ⟨x, h1, h2⟩ := paired_get (i := i) (y := y) t (by simpa using h)
    exact ⟨x, by simpa using h1, h2⟩
theorem er_start {K : PySem.W.Frag} {ρ : List Addr} {H : Hp} {N : List Str} {vs : List V} {xs : List D} (h : VXs K ρ H vs xs) (hl : vs.length ≤ N.length) :
    ER K ρ H (xs.map some ++ List.replicate (N.length - xs.length) none) (L2.start N vs) := by
  have l := Paired.length h
  refine ⟨by unfold L2.start; simp [l], fun i x q => ?_⟩
  by_cases hi : i < xs.length
  · rw [List.getElem?_append_left (by simpa using hi), List.getElem?_map] at q
    cases e : xs[i]? with
    | none =>
      rw [e] at q
      cases q
    | some y =>
      rw [e] at q
      have ey : y = x := by simpa using q
      subst ey
      obtain ⟨v, h1, h2⟩ := paired_get h e
      refine ⟨v, ?_, h2⟩
      unfold L2.start
      rw [List.getElem?_append_left (by rw [List.length_map, l]; exact hi), List.getElem?_map, h1]
      rfl
  · rw [List.getElem?_append_right (by simpa using hi), List.getElem?_replicate] at q
    split at q <;> cases q
section
variable {P : Program} {w : World} {K : PySem.W.Frag} {mg : Str → Option Value} {base : Heap}
/-- a def by its body -/
theorem ok_of {x qual : Str} {st : Stmt} {f : Addr} {fd : FuncData} {N ps : List Str} {k : Nat} {S : Env → M Fl} (F : Fun K x qual st f fd) (sc : FnScope N ps (defScope st)) (hN : ps.length ≤ N.length)
    (hbody : ∀ (cdv : Value) (A : Around) (outer : List PySem.Env) (s : Shared) (H : Hp) (E : XK), Room k (A.deeper (envOfC qual (defScope st) s.heap.objs.size f cdv)) →
      XSs (cxOf CX0 P w K mg base N qual (defScope st) f cdv A outer s H E).nox (defBody st) S) : FnOk P w K mg base CX0 (k + 1) f fd ps (spM K (bodyM ps.length N.length S)) := by
  refine F.ok sc (fun vs H Q E h => ?_) (fun cdv A outer s H vs Q E hr h => ⟨_, hbody cdv A outer s H E hr, ?_⟩)
  · obtain ⟨ρ, st, xs, y, st', hv, hs, run, k⟩ := h
    unfold bodyM at run
    split at run
    · rename_i e
      rw [Paired.length hv, e]
    · cases run
  obtain ⟨ρ, st, xs, y, st', hv, hs, run, k⟩ := h
  unfold bodyM at run
  split at run
  case isFalse => cases run
  rename_i hl
  cases e : S (xs.map some ++ List.replicate (N.length - ps.length) none) st with
  | none =>
    rw [e] at run
    cases run
  | some r =>
    obtain ⟨f, st1⟩ := r
    rw [e] at run
    refine ⟨ρ, _, st, f, st1, er_start hv (by rw [Paired.length hv, hl]; exact hN), hs, by rw [hl]; exact e, ?_⟩
    cases f with
    | rt z =>
      cases run
      exact k
    | nx env =>
      cases run
      exact fun σ' H' ρ' a b _ => k .non H' ρ' a b (.d .non)
    | bk env => cases run
    | ct env => cases run
end
end PM

set_option Elab.async false
set_option linter.all false
set_option maxRecDepth 100000
set_option autoImplicit false
/-! PM, part b: expressions and statements by their canonical readings. -/
namespace PM
open PySem PySem.Spec PyProof.Rows L2

/-! ### expressions -/
section
variable {X : Cx} {a b c e : Expr} {es : List Expr} {pos : Pos} {A B C : Env → M D}
def mC (x : PyData) : Env → M D := fun _ st => some (.d x, st)
def mVar (i : Nat) : Env → M D := fun env st => match env[i]? with
  | some (some x) => some (x, st)
  | _ => none
theorem vx_scalar {K : PySem.W.Frag} {ρ : List Addr} {H : Hp} {v : V} {x : PyData} (h : DV K ρ H v x) : VX K ρ H v (.d x) := .d h
theorem xe_const {v : V} {x : PyData} (h : PE X e (tC v)) (r : ∀ ρ H, DV X.K ρ H v x) : XE X e (mC x) := PE.weak h fun σ H Q ⟨ρ, env, st, y, st', E, S, run, k⟩ => by
  cases run
  exact k v H ρ .refl S (.d (r ρ H))
theorem xe_int {i : Int} {j} : XE X (.Constant (.int i) j pos) (mC (.int i)) := xe_const pe_int fun _ _ => .int i
theorem xe_bl {i : Bool} {j} : XE X (.Constant (.bool i) j pos) (mC (.bool i)) := xe_const pe_bl fun _ _ => .bl i
theorem xe_non {j} : XE X (.Constant .none j pos) (mC .none) := xe_const pe_non fun _ _ => .non
theorem xe_str {i : Str} {j} : XE X (.Constant (.str i) j pos) (mC (.str i)) := xe_const pe_str fun _ _ => .str i
theorem xe_globI {x : Str} {i : Int} {t : Tok} (hg : Gl X x) (hm : X.mg x = some (.int i t)) (hd : (x == ("__debug__" : Str)) = false := by decide) : XE X (.Name x pos) (mC (.int i)) :=
  xe_const (pe_glob (v := .int i) hg hm ⟨_, rfl⟩ hd) fun _ _ => .int i
theorem xe_globS {x z : Str} {t : Tok} (hg : Gl X x) (hm : X.mg x = some (.str z t)) (hd : (x == ("__debug__" : Str)) = false := by decide) : XE X (.Name x pos) (mC (.str z)) :=
  xe_const (pe_glob (v := .str z) hg hm ⟨_, rfl⟩ hd) fun _ _ => .str z
theorem xv (i : Nat) {x : Str} (hN : X.N[i]? = some x := by rfl) (hv : Vis X.env.scope x := by first | exact Or.inl rfl | exact Or.inr (Or.inl rfl) | exact Or.inr (Or.inr rfl)) (hd : (x == ("__debug__" : Str)) = false := by decide)
    (hcd : (x == ("__classdict__" : Str)) = false := by decide) : XE X (.Name x pos) (mVar i) := PE.weak (pe_var hN hv hd hcd) fun σ H Q ⟨ρ, env, st, y, st', E, S, run, k⟩ => by
  unfold mVar at run
  split at run
  · rename_i x h
    cases run
    obtain ⟨v, h1, h2⟩ := E.get i _ h
    exact ⟨v, h1, k v H ρ .refl S h2⟩
  · cases run
/-- an operation on two values -/
def cO (K : PySem.W.Frag) (f : D → D → M D) : R2 := fun x y H Q => ∃ ρ st a b r st', SR K ρ H st ∧ VX K ρ H x a ∧ VX K ρ H y b ∧ f a b st = some (r, st') ∧ Cont K ρ H r st' Q
abbrev OpS (X : Cx) (g : Value → Value → Sem Value) (f : D → D → M D) : Prop := OpR X g (cO X.K f)
abbrev IxS (X : Cx) (f : D → D → M D) : Prop := IxR X (cO X.K f)
def cU (K : PySem.W.Frag) (f : D → M D) : V → Hp → VK → Prop := fun x H Q => ∃ ρ st a r st', SR K ρ H st ∧ VX K ρ H x a ∧ f a st = some (r, st') ∧ Cont K ρ H r st' Q
abbrev UnS (X : Cx) (g : Value → Sem Value) (f : D → M D) : Prop := UnR X g (cU X.K f)
def cC (K : PySem.W.Frag) (f : List D → M D) : List V → Hp → VK → Prop := fun vs H Q => ∃ ρ st xs r st', SR K ρ H st ∧ VXs K ρ H vs xs ∧ f xs st = some (r, st') ∧ Cont K ρ H r st' Q
abbrev CallS (X : Cx) (g : Value) (f : List D → M D) : Prop := CallR X g (cC X.K f)
def cM (K : PySem.W.Frag) (f : D → List D → M D) : V → List V → Hp → VK → Prop := fun v vs H Q => ∃ ρ st x xs r st', SR K ρ H st ∧ VX K ρ H v x ∧ VXs K ρ H vs xs ∧ f x xs st = some (r, st') ∧ Cont K ρ H r st' Q
abbrev MtS (X : Cx) (id : String) (f : D → List D → M D) : Prop := MtR X id (cM X.K f)
def mOp (f : D → D → M D) (A B : Env → M D) : Env → M D := fun env st => (A env st).bind fun r => (B env r.2).bind fun q => f r.1 q.1 q.2
def mUn (f : D → M D) (A : Env → M D) : Env → M D := fun env st => (A env st).bind fun r => f r.1 r.2
theorem bindS {α β : Type} {o : Option α} {f : α → Option β} {z : β} (h : o.bind f = some z) : ∃ y, o = some y ∧ f y = some z := by
  cases o with
  | none => cases h
  | some y => exact ⟨y, rfl, h⟩
theorem Cont.ext {K : PySem.W.Frag} {ρ ρ' : List Addr} {H H' : Hp} {x : D} {st : Store} {Q : VK} (e : Ext ρ H ρ' H') (k : Cont K ρ H x st Q) : Cont K ρ' H' x st Q := fun v H2 ρ2 a b c => k v H2 ρ2 (e.trans a) b c
theorem op_w {K : PySem.W.Frag} {f : D → D → M D} {σ : L2.St} {H : Hp} {Q : VK} (h : cE K (mOp f A B) σ H Q) : tOp (cO K f) (cE K A) (cE K B) σ H Q := by
  obtain ⟨ρ, env, st, x, st', E, S, run, k⟩ := h
  obtain ⟨⟨x1, s1⟩, h1, run⟩ := bindS run
  obtain ⟨⟨x2, s2⟩, h2, run⟩ := bindS run
  refine ⟨ρ, env, st, x1, s1, E, S, h1, fun v1 H1 ρ1 e1 S1 r1 => ⟨ρ1, env, s1, x2, s2, E.ext e1, S1, h2, fun v2 H2 ρ2 e2 S2 r2 => ?_⟩⟩
  exact ⟨ρ2, s2, x1, x2, x, st', S2, r1.ext e2, r2, run, k.ext (e1.trans e2)⟩
theorem un_w {K : PySem.W.Frag} {f : D → M D} {σ : L2.St} {H : Hp} {Q : VK} (h : cE K (mUn f A) σ H Q) : tUn (cU K f) (cE K A) σ H Q := by
  obtain ⟨ρ, env, st, x, st', E, S, run, k⟩ := h
  obtain ⟨⟨x1, s1⟩, h1, run⟩ := bindS run
  exact ⟨ρ, env, st, x1, s1, E, S, h1, fun v1 H1 ρ1 e1 S1 r1 => ⟨ρ1, s1, x1, x, st', S1, r1, run, k.ext e1⟩⟩
theorem xe_op {op : Operator} {f : D → D → M D} (ho : OpS X (binaryOp op) f) (ha : XE X a A) (hb : XE X b B) : XE X (.BinOp a op b pos) (mOp f A B) := PE.weak (pe_op ho ha hb) fun _ _ _ h => op_w h
theorem xe_un {op : UnaryOp} {f : D → M D} (ho : UnS X (unaryOp op) f) (ha : XE X a A) : XE X (.UnaryOp op a pos) (mUn f A) := PE.weak (pe_un ho ha) fun _ _ _ h => un_w h
theorem xe_ix {f : D → D → M D} (ho : IxS X f) (ha : XE X a A) (hb : XE X b B) (hs : PlainIx b) : XE X (.Subscript a b pos) (mOp f A B) := PE.weak (pe_ix ho ha hb hs) fun _ _ _ h => op_w h
theorem xe_cmp {op : CmpOp} {f : D → D → M D} (ho : OpS X (compareOp op) f) (ha : XE X a A) (hb : XE X b B) (hm : behindInMarks op b = false) : XE X (.Compare a [op] [b] pos) (mOp f A B) := PE.weak (pe_cmpR ho ha hb hm) fun _ _ _ h => op_w h
/-- a value that is a truth, as a test -/
def mTest (A : Env → M D) : Env → M Bool := fun env st => (A env st).bind fun r => match r.1 with
  | .d (.bool b) => some (b, r.2)
  | _ => none
theorem test_w {K : PySem.W.Frag} {σ : L2.St} {H : Hp} {Q : Bool → Hp → Prop} (h : cT K (mTest A) σ H Q) : tTest (cE K A) σ H Q := by
  obtain ⟨ρ, env, st, x, st', E, S, run, k⟩ := h
  obtain ⟨⟨x1, s1⟩, h1, run⟩ := bindS run
  split at run
  · rename_i b' e
    have e : x1 = .d (.bool b') := e
    subst e
    cases run
    refine ⟨ρ, env, st, _, _, E, S, h1, fun v1 H1 ρ1 e1 S1 r1 => ?_⟩
    cases r1 with
    | d r1 =>
      cases r1
      exact ⟨_, rfl, k H1 ρ1 e1 S1⟩
  · cases run
theorem testB_w {K : PySem.W.Frag} {σ : L2.St} {H : Hp} {Q : Bool → Hp → Prop} (h : cT K (mTest A) σ H Q) : tB (cE K A) σ H Q := test_w h
theorem xt_cmp {op : CmpOp} {f : D → D → M D} (ho : OpS X (compareOp op) f) (ha : XE X a A) (hb : XE X b B) (hm : behindInMarks op b = false) : XT X (.Compare a [op] [b] pos) (mTest (mOp f A B)) :=
  PT.weak (pt_cmpR ho ha hb hm) fun _ _ _ h => by
    obtain ⟨ρ, env, st, x, st', E, S, run, k⟩ := h
    obtain ⟨⟨x1, s1⟩, h1, run⟩ := bindS run
    refine op_w (A := A) (B := B) ⟨ρ, env, st, x1, s1, E, S, h1, fun v H' ρ' e S' r => ?_⟩
    split at run
    · rename_i b' e'
      have e' : x1 = .d (.bool b') := e'
      subst e'
      cases run
      cases r with
      | d r =>
        cases r
        exact ⟨_, rfl, k H' ρ' e S'⟩
    · cases run
theorem xt_val (h : XE X e A) (he : ∀ whole, isTrue e X.env whole = (do let v ← whole; standAt e.pos; holding [v] (truthy v)) := by intro _; rfl) : XT X e (mTest A) := PT.weak (pt_val h he) fun _ _ _ h => testB_w h
/-- a < b < c -/
def mChain (f g : D → D → M D) (A B C : Env → M D) : Env → M D := fun env st => (A env st).bind fun r => (B env r.2).bind fun q => (f r.1 q.1 q.2).bind fun z => match z.1 with
  | .d (.bool true) => (C env z.2).bind fun p => g q.1 p.1 p.2
  | .d (.bool false) => some (.d (.bool false), z.2)
  | _ => none
theorem chain_w {K : PySem.W.Frag} {f g : D → D → M D} {σ : L2.St} {H : Hp} {Q : VK} (h : cE K (mChain f g A B C) σ H Q) : tChain (cO K f) (cO K g) (cE K A) (cE K B) (cE K C) σ H Q := by
  obtain ⟨ρ, env, st, x, st', E, S, run, k⟩ := h
  obtain ⟨⟨x1, s1⟩, h1, run⟩ := bindS run
  obtain ⟨⟨x2, s2⟩, h2, run⟩ := bindS run
  obtain ⟨⟨x3, s3⟩, h3, run⟩ := bindS run
  refine ⟨ρ, env, st, x1, s1, E, S, h1, fun v1 H1 ρ1 e1 S1 r1 => ⟨ρ1, env, s1, x2, s2, E.ext e1, S1, h2, fun v2 H2 ρ2 e2 S2 r2 => ?_⟩⟩
  refine ⟨ρ2, s2, x1, x2, x3, s3, S2, r1.ext e2, r2, h3, fun v3 H3 ρ3 e3 S3 r3 => ?_⟩
  split at run
  · rename_i e'
    have e' : x3 = .d (.bool true) := e'
    subst e'
    cases r3 with
    | d r3 =>
      cases r3
      refine ⟨true, rfl, ?_⟩
      rw [if_pos rfl]
      obtain ⟨⟨x4, s4⟩, h4, run⟩ := bindS run
      refine ⟨ρ3, env, s3, x4, s4, E.ext ((e1.trans e2).trans e3), S3, h4, fun v4 H4 ρ4 e4 S4 r4 => ?_⟩
      exact ⟨ρ4, s4, x2, x4, x, st', S4, r2.ext (e3.trans e4), r4, run, k.ext (((e1.trans e2).trans e3).trans e4)⟩
  · rename_i e'
    have e' : x3 = .d (.bool false) := e'
    subst e'
    cases run
    cases r3 with
    | d r3 =>
      cases r3
      refine ⟨false, rfl, ?_⟩
      rw [if_neg Bool.false_ne_true]
      exact k _ H3 ρ3 ((e1.trans e2).trans e3) S3 (.d (.bl false))
  · cases run
theorem xe_chain {op op' : CmpOp} {f g : D → D → M D} (ho : OpS X (compareOp op) f) (ho' : OpS X (compareOp op') g) (ha : XE X a A) (hb : XE X b B) (hc : XE X c C) (hm : lastMarks [op, op'] [b, c] = false := by with_unfolding_all rfl) :
    XE X (.Compare a [op, op'] [b, c] pos) (mChain f g A B C) := PE.weak (pe_chain ho ho' ha hb hc hm) fun _ _ _ h => chain_w h
/-! and, or, not -/
variable {T U : Env → M Bool} {rest : List Expr}
def mAnd (T U : Env → M Bool) : Env → M Bool := fun env st => (T env st).bind fun r => if r.1 = true then U env r.2 else some (false, r.2)
def mOr (T U : Env → M Bool) : Env → M Bool := fun env st => (T env st).bind fun r => if r.1 = true then some (true, r.2) else U env r.2
def mNot (T : Env → M Bool) : Env → M Bool := fun env st => (T env st).bind fun r => some (!r.1, r.2)
abbrev XW (X : Cx) (e : Expr) (A : Env → M Bool) : Prop := PW X e (cT X.K A)
theorem PW.weak {X : Cx} {e : Expr} {t t' : TT} (h : PW X e t) (w : ∀ σ H Q, t' σ H Q → t σ H Q) : PW X e t' := ⟨fun wh pins s σ H Q I q => h.run wh pins s σ H Q I (w _ _ _ q)⟩
theorem and_w {K : PySem.W.Frag} {σ : L2.St} {H : Hp} {Q : Bool → Hp → Prop} (h : cT K (mAnd T U) σ H Q) : tAnd (cT K T) (cT K U) σ H Q := by
  obtain ⟨ρ, env, st, x, st', E, S, run, k⟩ := h
  obtain ⟨⟨x1, s1⟩, h1, run⟩ := bindS run
  refine ⟨ρ, env, st, x1, s1, E, S, h1, fun H1 ρ1 e1 S1 => ?_⟩
  cases x1 with
  | true =>
    rw [if_pos rfl] at run ⊢
    exact ⟨ρ1, env, s1, x, st', E.ext e1, S1, run, fun H' ρ' e' S' => k H' ρ' (e1.trans e') S'⟩
  | false =>
    rw [if_neg Bool.false_ne_true] at run ⊢
    cases run
    exact k H1 ρ1 e1 S1
theorem or_w {K : PySem.W.Frag} {σ : L2.St} {H : Hp} {Q : Bool → Hp → Prop} (h : cT K (mOr T U) σ H Q) : tOr (cT K T) (cT K U) σ H Q := by
  obtain ⟨ρ, env, st, x, st', E, S, run, k⟩ := h
  obtain ⟨⟨x1, s1⟩, h1, run⟩ := bindS run
  refine ⟨ρ, env, st, x1, s1, E, S, h1, fun H1 ρ1 e1 S1 => ?_⟩
  cases x1 with
  | false =>
    rw [if_neg Bool.false_ne_true] at run ⊢
    exact ⟨ρ1, env, s1, x, st', E.ext e1, S1, run, fun H' ρ' e' S' => k H' ρ' (e1.trans e') S'⟩
  | true =>
    rw [if_pos rfl] at run ⊢
    cases run
    exact k H1 ρ1 e1 S1
theorem xw_and1 (ha : XT X a T) : XW X (.BoolOp .And [a] pos) T := pw_and1 ha
theorem xw_or1 (ha : XT X a T) : XW X (.BoolOp .Or [a] pos) T := pw_or1 ha
theorem xw_and (ha : XT X a T) (hb : XW X (.BoolOp .And (b :: rest) pos) U) : XW X (.BoolOp .And (a :: b :: rest) pos) (mAnd T U) := PW.weak (pw_and ha hb) fun _ _ _ h => and_w h
theorem xw_or (ha : XT X a T) (hb : XW X (.BoolOp .Or (b :: rest) pos) U) : XW X (.BoolOp .Or (a :: b :: rest) pos) (mOr T U) := PW.weak (pw_or ha hb) fun _ _ _ h => or_w h
theorem xt_w (h : XW X e T) : XT X e T := L2.PW.pt h
theorem xt_not (ha : XT X a T) : XT X (.UnaryOp .Not a pos) (mNot T) := PT.weak (pt_not ha) fun σ H Q h => by
  obtain ⟨ρ, env, st, x, st', E, S, run, k⟩ := h
  obtain ⟨⟨x1, s1⟩, h1, run⟩ := bindS run
  cases run
  exact ⟨ρ, env, st, x1, s1, E, S, h1, fun H1 ρ1 e1 S1 => k H1 ρ1 e1 S1⟩
def mAndV (A B : Env → M D) : Env → M D := fun env st => (A env st).bind fun r => match r.1 with
  | .d (.bool true) => B env r.2
  | .d (.bool false) => some (.d (.bool false), r.2)
  | _ => none
def mOrV (A B : Env → M D) : Env → M D := fun env st => (A env st).bind fun r => match r.1 with
  | .d (.bool true) => some (.d (.bool true), r.2)
  | .d (.bool false) => B env r.2
  | _ => none
def mNotV (A : Env → M D) : Env → M D := fun env st => (A env st).bind fun r => match r.1 with
  | .d (.bool b) => some (.d (.bool (!b)), r.2)
  | _ => none
theorem xe_and (ha : XE X a A) (hb : XE X (.BoolOp .And (b :: rest) pos) B) : XE X (.BoolOp .And (a :: b :: rest) pos) (mAndV A B) := PE.weak (pe_and ha hb) fun σ H Q h => by
  obtain ⟨ρ, env, st, x, st', E, S, run, k⟩ := h
  obtain ⟨⟨x1, s1⟩, h1, run⟩ := bindS run
  refine ⟨ρ, env, st, x1, s1, E, S, h1, fun v1 H1 ρ1 e1 S1 r1 => ?_⟩
  split at run
  · rename_i e'
    have e' : x1 = .d (.bool true) := e'
    subst e'
    cases r1 with
    | d r1 =>
      cases r1
      refine ⟨true, rfl, ?_⟩
      rw [if_pos rfl]
      exact ⟨ρ1, env, s1, x, st', E.ext e1, S1, run, k.ext e1⟩
  · rename_i e'
    have e' : x1 = .d (.bool false) := e'
    subst e'
    cases run
    cases r1 with
    | d r1 =>
      cases r1
      refine ⟨false, rfl, ?_⟩
      rw [if_neg Bool.false_ne_true]
      exact k _ H1 ρ1 e1 S1 (.d (.bl false))
  · cases run
theorem xe_or (ha : XE X a A) (hb : XE X (.BoolOp .Or (b :: rest) pos) B) : XE X (.BoolOp .Or (a :: b :: rest) pos) (mOrV A B) := PE.weak (pe_or ha hb) fun σ H Q h => by
  obtain ⟨ρ, env, st, x, st', E, S, run, k⟩ := h
  obtain ⟨⟨x1, s1⟩, h1, run⟩ := bindS run
  refine ⟨ρ, env, st, x1, s1, E, S, h1, fun v1 H1 ρ1 e1 S1 r1 => ?_⟩
  split at run
  · rename_i e'
    have e' : x1 = .d (.bool true) := e'
    subst e'
    cases run
    cases r1 with
    | d r1 =>
      cases r1
      refine ⟨true, rfl, ?_⟩
      rw [if_pos rfl]
      exact k _ H1 ρ1 e1 S1 (.d (.bl true))
  · rename_i e'
    have e' : x1 = .d (.bool false) := e'
    subst e'
    cases r1 with
    | d r1 =>
      cases r1
      refine ⟨false, rfl, ?_⟩
      rw [if_neg Bool.false_ne_true]
      exact ⟨ρ1, env, s1, x, st', E.ext e1, S1, run, k.ext e1⟩
  · cases run
theorem xe_one {op : BoolOp} (ha : XE X a A) : XE X (.BoolOp op [a] pos) A := pe_one ha
theorem xe_not (ha : XE X a A) : XE X (.UnaryOp .Not a pos) (mNotV A) := PE.weak (pe_not ha) fun σ H Q h => by
  obtain ⟨ρ, env, st, x, st', E, S, run, k⟩ := h
  obtain ⟨⟨x1, s1⟩, h1, run⟩ := bindS run
  refine ⟨ρ, env, st, x1, s1, E, S, h1, fun v1 H1 ρ1 e1 S1 r1 => ?_⟩
  split at run
  · rename_i b' e'
    have e' : x1 = .d (.bool b') := e'
    subst e'
    cases run
    cases r1 with
    | d r1 =>
      cases r1
      exact ⟨b', rfl, k _ H1 ρ1 e1 S1 (.d (.bl _))⟩
  · cases run
def mIf (T : Env → M Bool) (A B : Env → M D) : Env → M D := fun env st => (T env st).bind fun r => if r.1 = true then A env r.2 else B env r.2
theorem xe_if (hc : XT X c T) (ha : XE X a A) (hb : XE X b B) : XE X (.IfExp c a b pos) (mIf T A B) := PE.weak (pe_ifExp hc ha hb) fun σ H Q h => by
  obtain ⟨ρ, env, st, x, st', E, S, run, k⟩ := h
  obtain ⟨⟨x1, s1⟩, h1, run⟩ := bindS run
  refine ⟨ρ, env, st, x1, s1, E, S, h1, fun H1 ρ1 e1 S1 => ?_⟩
  cases x1 with
  | true =>
    rw [if_pos rfl] at run ⊢
    exact ⟨ρ1, env, s1, x, st', E.ext e1, S1, run, k.ext e1⟩
  | false =>
    rw [if_neg Bool.false_ne_true] at run ⊢
    exact ⟨ρ1, env, s1, x, st', E.ext e1, S1, run, k.ext e1⟩
/-! arguments, tuples, lists -/
variable {As : Env → M (List D)}
def mNil : Env → M (List D) := fun _ st => some ([], st)
def mCons (A : Env → M D) (As : Env → M (List D)) : Env → M (List D) := fun env st => (A env st).bind fun r => (As env r.2).bind fun q => some (r.1 :: q.1, q.2)
theorem xa_nil : XA X [] mNil := PA.weak pa_nil fun σ H Q h => by
  obtain ⟨ρ, env, st, x, st', E, S, run, k⟩ := h
  cases run
  exact k [] H ρ .refl S .nil
theorem xa_cons (ha : XE X e A) (hr : XA X es As) (hs : starEach (e :: es) X.env = (false, eval e X.env) :: starEach es X.env := by rfl) : XA X (e :: es) (mCons A As) := PA.weak (pa_cons ha hr hs) fun σ H Q h => by
  obtain ⟨ρ, env, st, x, st', E, S, run, k⟩ := h
  obtain ⟨⟨x1, s1⟩, h1, run⟩ := bindS run
  obtain ⟨⟨x2, s2⟩, h2, run⟩ := bindS run
  cases run
  exact ⟨ρ, env, st, x1, s1, E, S, h1, fun v1 H1 ρ1 e1 S1 r1 => ⟨ρ1, env, s1, x2, s2, E.ext e1, S1, h2, fun vs H2 ρ2 e2 S2 r2 => k (v1 :: vs) H2 ρ2 (e1.trans e2) S2 (.cons (r1.ext e2) r2)⟩⟩
/-- data alone -/
def datas : List D → Option (List PyData)
  | [] => some []
  | .d x :: r => (datas r).map (x :: ·)
  | .ref _ :: _ => none
theorem datas_vs {K : PySem.W.Frag} {ρ : List Addr} {H : Hp} : ∀ {xs : List D} {vs : List V} {ds : List PyData}, VXs K ρ H vs xs → datas xs = some ds → DVs K ρ H vs ds
  | [], _, _, .nil, e => by cases e; exact .nil
  | .d x :: r, _, ds, .cons h t, e => by
    unfold datas at e
    cases q : datas r with
    | none =>
      rw [q] at e
      cases e
    | some l =>
      rw [q] at e
      cases e
      cases h with
      | d h => exact .cons h (datas_vs t q)
  | .ref _ :: r, _, _, _, e => by cases e
theorem DVs.len {K : PySem.W.Frag} {ρ : List Addr} {H : Hp} : ∀ {vs : List V} {ds : List PyData}, DVs K ρ H vs ds → vs.length = ds.length
  | _, _, .nil => rfl
  | _, _, .cons _ t => by rw [List.length_cons, List.length_cons, DVs.len t]
def fits (n : Nat) : Bool := decide (n ≤ sizeLine)
theorem fits_of {n : Nat} (h : fits n = true) : n ≤ sizeLine := of_decide_eq_true h
/-- data laid anew -/
theorem tup_new {K : PySem.W.Frag} {ρ : List Addr} {H : Hp} {st : Store} {p : Addr} {vs : List V} {ds : List PyData} (S : SR K ρ H st) (hp : H p = none) (h : DVs K ρ H vs ds) : DV K ρ (upd H p (.tup vs)) (.ref p) (.tuple ds) :=
  .tup ⟨upd_same, S.fresh hp⟩ (DVs.ext (ext_new hp) _ _ h)
theorem lstd_new {K : PySem.W.Frag} {ρ : List Addr} {H : Hp} {st : Store} {p : Addr} {vs : List V} {ds : List PyData} (S : SR K ρ H st) (hp : H p = none) (h : DVs K ρ H vs ds) : DV K ρ (upd H p (.lst vs)) (.ref p) (.list ds) :=
  .lst (.inl ⟨.inl upd_same, S.fresh hp⟩) (DVs.ext (ext_new hp) _ _ h)
def mTup (As : Env → M (List D)) : Env → M D := fun env st => (As env st).bind fun r => (datas r.1).bind fun ds => if fits ds.length then some (.d (.tuple ds), r.2) else none
def mLstD (As : Env → M (List D)) : Env → M D := fun env st => (As env st).bind fun r => (datas r.1).bind fun ds => if fits ds.length then some (.d (.list ds), r.2) else none
def mLst (As : Env → M (List D)) : Env → M D := fun env st => (As env st).bind fun r => if fits r.1.length then some (.ref r.2.length, r.2 ++ [.lst r.1]) else none
theorem xe_tup {k : Nat} (h : XA X es As) : XE X (.Tuple es k pos) (mTup As) := PE.weak (pe_tup h) fun σ H Q h => by
  obtain ⟨ρ, env, st, x, st', E, S, run, k⟩ := h
  obtain ⟨⟨x1, s1⟩, h1, run⟩ := bindS run
  obtain ⟨ds, h2, run⟩ := bindS run
  split at run
  · rename_i hf
    cases run
    refine ⟨ρ, env, st, x1, s1, E, S, h1, fun vs H1 ρ1 e1 S1 r1 => ?_⟩
    have d1 := datas_vs r1 h2
    exact ⟨by rw [d1.len]; exact fits_of hf, fun p hp => k _ _ ρ1 (e1.trans (ext_new hp)) (S1.data hp) (.d (tup_new S1 hp d1))⟩
  · cases run
theorem xe_lstD (h : XA X es As) : XE X (.List es pos) (mLstD As) := PE.weak (pe_lst h) fun σ H Q h => by
  obtain ⟨ρ, env, st, x, st', E, S, run, k⟩ := h
  obtain ⟨⟨x1, s1⟩, h1, run⟩ := bindS run
  obtain ⟨ds, h2, run⟩ := bindS run
  split at run
  · rename_i hf
    cases run
    refine ⟨ρ, env, st, x1, s1, E, S, h1, fun vs H1 ρ1 e1 S1 r1 => ?_⟩
    have d1 := datas_vs r1 h2
    exact ⟨by rw [d1.len]; exact fits_of hf, fun p hp => k _ _ ρ1 (e1.trans (ext_new hp)) (S1.data hp) (.d (lstd_new S1 hp d1))⟩
  · cases run
theorem push_lst {K : PySem.W.Frag} {ρ : List Addr} {H : Hp} {st : Store} {p : Addr} {vs : List V} {xs : List D} (S : SR K ρ H st) (hp : H p = none) (h : VXs K ρ H vs xs) :
    SR K (ρ ++ [p]) (upd H p (.lst vs)) (st ++ [.lst xs]) ∧ VX K (ρ ++ [p]) (upd H p (.lst vs)) (.ref p) (.ref st.length) :=
  ⟨S.push hp ⟨vs, upd_same, VXs.ext (S.ext_push hp) h⟩, .ref (by rw [← S.len, List.getElem?_append_right (Nat.le_refl _), Nat.sub_self]; rfl)⟩
theorem xe_lst (h : XA X es As) : XE X (.List es pos) (mLst As) := PE.weak (pe_lst h) fun σ H Q h => by
  obtain ⟨ρ, env, st, x, st', E, S, run, k⟩ := h
  obtain ⟨⟨x1, s1⟩, h1, run⟩ := bindS run
  split at run
  · rename_i hf
    cases run
    refine ⟨ρ, env, st, x1, s1, E, S, h1, fun vs H1 ρ1 e1 S1 r1 => ?_⟩
    refine ⟨by rw [Paired.length r1]; exact fits_of hf, fun p hp => ?_⟩
    obtain ⟨a, b⟩ := push_lst S1 hp r1
    exact k _ _ _ (e1.trans (S1.ext_push hp)) a b
  · cases run
/-! calls -/
def mCall (F : List D → M D) (As : Env → M (List D)) : Env → M D := fun env st => (As env st).bind fun r => F r.1 r.2
theorem callb_w {K : PySem.W.Frag} {F : List D → M D} {σ : L2.St} {H : Hp} {Q : VK} (h : cE K (mCall F As) σ H Q) : tCB (cC K F) (cA K As) σ H Q := by
  obtain ⟨ρ, env, st, x, st', E, S, run, k⟩ := h
  obtain ⟨⟨x1, s1⟩, h1, run⟩ := bindS run
  exact ⟨ρ, env, st, x1, s1, E, S, h1, fun vs H1 ρ1 e1 S1 r1 => ⟨ρ1, s1, x1, x, st', S1, r1, run, k.ext e1⟩⟩
theorem xe_callB {x : Str} {id : String} {p : Pos} {F : List D → M D} (hc : CallS X (.builtin id) F) (hg : Gl X x) (hm : X.mg x = none) (hv : bootBuiltins x = some (.builtin id)) (ha : XA X (e :: es) As) (hn : x ≠ "__name__" := by decide) (hdb : (x == ("__debug__" : Str)) = false := by decide)
    (he : starEach (e :: es) X.env = (false, eval e X.env) :: starEach es X.env := by rfl) (hpl : (backTo pos (starEach es X.env)).any (·.1) = false := by rfl) : XE X (.Call (.Name x p) (e :: es) [] pos) (mCall F As) := PE.weak (pe_callB hc hg hm hv ha hn hdb he hpl) fun _ _ _ h => callb_w h
theorem xe_callTy {x : Str} {T : String} {p : Pos} {F : List D → M D} (hc : CallS X (.type T) F) (hg : Gl X x) (hm : X.mg x = none) (hv : bootBuiltins x = some (.type T)) (ha : XA X (e :: es) As) (hn : x ≠ "__name__" := by decide) (hdb : (x == ("__debug__" : Str)) = false := by decide)
    (he : starEach (e :: es) X.env = (false, eval e X.env) :: starEach es X.env := by rfl) (hpl : (backTo pos (starEach es X.env)).any (·.1) = false := by rfl) : XE X (.Call (.Name x p) (e :: es) [] pos) (mCall F As) := PE.weak (pe_callTy hc hg hm hv ha hn hdb he hpl) fun _ _ _ h => callb_w h
/-- a def of the program stands ready: its name, its level, what it does -/
structure Fn (P : Program) (w : World) (K : PySem.W.Frag) (mg : Str → Option Value) (base : Heap) (x : Str) (k : Nat) (F : List D → M D) : Prop where
  ex : ∃ (f : Addr) (fd : FuncData) (ps : List Str), FnOk P w K mg base CX0 k f fd ps (spM K F) ∧ mg x = some (.ref f) ∧ PySem.W.keepIn K (.ref f) = true ∧ Binds K fd ps []
theorem xe_call {x : Str} {k : Nat} {p : Pos} {F : List D → M D} (G : Fn X.prog X.w X.K X.mg X.base x k F) (hr : Room k X.A) (hg : Gl X x) (ha : XA X (e :: es) As)
    (hd : (x == ("__debug__" : Str)) = false := by decide) (he : starEach (e :: es) X.env = (false, eval e X.env) :: starEach es X.env := by rfl) (hpl : (backTo pos (starEach es X.env)).any (·.1) = false := by rfl) : XE X (.Call (.Name x p) (e :: es) [] pos) (mCall F As) := by
  obtain ⟨f, fd, ps, G, hm, hk, hb⟩ := G.ex
  refine PE.weak (pe_call G hr hg hm hk hb .nil pass0 ha hd he hpl) fun σ H Q h => ?_
  obtain ⟨ρ, env, st, x, st', E, S, run, k⟩ := h
  obtain ⟨⟨x1, s1⟩, h1, run⟩ := bindS run
  refine ⟨ρ, env, st, x1, s1, E, S, h1, fun vs H1 ρ1 e1 S1 r1 => ?_⟩
  show spM X.K F (vs ++ []) H1 Q E0
  rw [List.append_nil]
  exact ⟨ρ1, s1, x1, x, st', r1, S1, run, k.ext e1⟩
/-! a method of a built-in type -/
def tyC (T : String) : Option Cell → Bool
  | some (.lst _) => T == "list"
  | some (.dK false _) => T == "dict"
  | some (.dT false _) => T == "dict"
  | _ => false
def tyD (T : String) (st : Store) : D → Bool
  | .d (.str _) => T == "str"
  | .d (.tuple _) => T == "tuple"
  | .d (.list _) => T == "list"
  | .ref n => tyC T st[n]?
  | _ => false
def mMeth (T : String) (f : D → List D → M D) (A : Env → M D) (As : Env → M (List D)) : Env → M D := fun env st => (A env st).bind fun r => if tyD T r.2 r.1 = true then (As env r.2).bind fun q => f r.1 q.1 q.2 else none
end
end PM

set_option Elab.async false
set_option linter.all false
set_option maxRecDepth 100000
set_option autoImplicit false
/-! PM, part c: statements, loops, comprehensions by their canonical readings. -/
namespace PM
open PySem PySem.Spec PyProof.Rows L2
open Classical

section
variable {X : Cx} {a b c e : Expr} {es : List Expr} {pos : Pos} {A B C : Env → M D} {T : Env → M Bool} {As : Env → M (List D)}
/-! ### methods -/
theorem tyV_of {K : PySem.W.Frag} {ρ : List Addr} {H : Hp} {st : Store} {Ty : String} {v : V} {x : D} (S : SR K ρ H st) (h : VX K ρ H v x) (t : tyD Ty st x = true) (hT : Ty ≠ "tuple") : tyV K Ty v H := by
  cases h with
  | d h =>
    cases h with
    | str z =>
      have : (Ty == "str") = true := t
      exact (beq_iff_eq.mp this)
    | tup h1 h2 =>
      have : (Ty == "tuple") = true := t
      exact absurd (beq_iff_eq.mp this) hT
    | lst h1 h2 =>
      have : (Ty == "list") = true := t
      exact .inl ⟨beq_iff_eq.mp this, _, h1.sq⟩
    | non => cases t
    | bl b => cases t
    | int i => cases t
  | ref h =>
    rename_i p n
    have t : tyC Ty st[n]? = true := t
    cases q : st[n]? with
    | none =>
      rw [q] at t
      cases t
    | some c =>
      rw [q] at t
      have ok := S.at h q
      cases c with
      | lst xs =>
        obtain ⟨vs, h1, _⟩ := ok
        have : (Ty == "list") = true := t
        exact .inl ⟨beq_iff_eq.mp this, vs, .of h1⟩
      | dK l kvs =>
        cases l with
        | true => cases t
        | false =>
          obtain ⟨vs, h1, _⟩ := ok
          have : (Ty == "dict") = true := t
          exact .inr (.inr (.inl ⟨beq_iff_eq.mp this, .inl ⟨vs, h1⟩⟩))
      | dT l kvs =>
        cases l with
        | true => cases t
        | false =>
          obtain ⟨vs, h1, _⟩ := ok
          have : (Ty == "dict") = true := t
          exact .inr (.inr (.inl ⟨beq_iff_eq.mp this, .inr ⟨vs, h1⟩⟩))
theorem xe_bm {Ty id : String} {nm : Str} {apos : Pos} {f : D → List D → M D} (pa : PlainAttrs Ty) (slot : Slot Ty nm id) (hty : typeOf (.builtin id) = pure (.type "method_descriptor")) (hm : MtS X id f) (ho : XE X a A) (ha : XA X (e :: es) As)
    (hT : Ty ≠ "tuple" := by decide)
    (hbase : attributeBase a nm X.env (eval a X.env) = eval a X.env := by rfl)
    (hfew : ((backTo pos (starEach (e :: es) X.env)).all (fun x => !x.1) && (backToKw pos (keywordEach [] X.env)).all (fun x => x.1.isSome)
      && decide ((e :: es).length + ([] : List Keyword).length + (if ([] : List Keyword).isEmpty then 0 else 1) < 30)) = true := by rfl)
    (hline : (apos.endLine == pos.line) = true := by rfl) (hs : starEach (e :: es) X.env = (false, eval e X.env) :: starEach es X.env := by rfl) (hplain : (backTo pos (starEach es X.env)).any (·.1) = false := by rfl) :
    XE X (.Call (.Attribute a nm apos) (e :: es) [] pos) (mMeth Ty f A As) := PE.weak (pe_bm pa slot hty hm ho ha hbase hfew hline hs hplain) fun σ H Q h => by
  obtain ⟨ρ, env, st, x, st', E, S, run, k⟩ := h
  obtain ⟨⟨x1, s1⟩, h1, run⟩ := bindS run
  split at run
  case isFalse => cases run
  rename_i t1
  obtain ⟨⟨x2, s2⟩, h2, run⟩ := bindS run
  refine ⟨ρ, env, st, x1, s1, E, S, h1, fun v H1 ρ1 e1 S1 r1 => ⟨tyV_of S1 r1 t1 hT, ρ1, env, s1, x2, s2, E.ext e1, S1, h2, fun vs H2 ρ2 e2 S2 r2 => ?_⟩⟩
  exact ⟨ρ2, s2, x1, x2, x, st', S2, r1.ext e2, r2, run, k.ext (e1.trans e2)⟩
theorem xe_bm0 {Ty id : String} {nm : Str} {apos : Pos} {f : D → List D → M D} (pa : PlainAttrs Ty) (slot : Slot Ty nm id) (hty : typeOf (.builtin id) = pure (.type "method_descriptor")) (hm : MtS X id f) (ho : XE X a A)
    (hT : Ty ≠ "tuple" := by decide)
    (hbase : attributeBase a nm X.env (eval a X.env) = eval a X.env := by rfl) (hline : (apos.endLine == pos.line) = true := by rfl) :
    XE X (.Call (.Attribute a nm apos) [] [] pos) (mMeth Ty f A mNil) := PE.weak (pe_bm0 pa slot hty hm ho hbase hline) fun σ H Q h => by
  obtain ⟨ρ, env, st, x, st', E, S, run, k⟩ := h
  obtain ⟨⟨x1, s1⟩, h1, run⟩ := bindS run
  split at run
  case isFalse => cases run
  rename_i t1
  obtain ⟨⟨x2, s2⟩, h2, run⟩ := bindS run
  cases h2
  exact ⟨ρ, env, st, x1, s1, E, S, h1, fun v H1 ρ1 e1 S1 r1 => ⟨tyV_of S1 r1 t1 hT, ρ1, s1, x1, [], x, st', S1, r1, .nil, run, k.ext e1⟩⟩
/-! ### slices -/
def mPart (P : Option (Env → M D)) : Env → M (Option Int) := fun env st => match P with
  | none => some (none, st)
  | some A => (A env st).bind fun r => match r.1 with
    | .d (.int i) => some (some i, r.2)
    | _ => none
def cP (K : PySem.W.Frag) (P : Env → M (Option Int)) : TO := fun σ H Q => ∃ ρ env st o st', ER K ρ H env σ ∧ SR K ρ H st ∧ P env st = some (o, st') ∧ ∀ H' ρ', Ext ρ H ρ' H' → SR K ρ' H' st' → Q o H'
abbrev XP (X : Cx) (o : Option Expr) (P : Env → M (Option Int)) : Prop := PO X o (cP X.K P)
theorem PO.weak {X : Cx} {e : Option Expr} {t t' : TO} (h : PO X e t) (w : ∀ σ H Q, t' σ H Q → t σ H Q) : PO X e t' := ⟨fun pins s σ H Q I q => h.run pins s σ H Q I (w _ _ _ q)⟩
theorem xp_none : XP X none (mPart none) := PO.weak po_none fun σ H Q h => by
  obtain ⟨ρ, env, st, x, st', E, S, run, k⟩ := h
  cases run
  exact k H ρ .refl S
theorem xp_some (ha : XE X a A) : XP X (some a) (mPart (some A)) := PO.weak (po_some ha) fun σ H Q h => by
  obtain ⟨ρ, env, st, x, st', E, S, run, k⟩ := h
  obtain ⟨⟨x1, s1⟩, h1, run⟩ := bindS run
  refine ⟨ρ, env, st, x1, s1, E, S, h1, fun v1 H1 ρ1 e1 S1 r1 => ?_⟩
  split at run
  · rename_i i e'
    have e' : x1 = .d (.int i) := e'
    subst e'
    cases run
    cases r1 with
    | d r1 =>
      cases r1
      exact ⟨i, rfl, k H1 ρ1 e1 S1⟩
  · cases run
def cSl (K : PySem.W.Frag) (f : D → Option Int → Option Int → M D) : V → Option Int → Option Int → Hp → VK → Prop := fun v lo hi H Q => ∃ ρ st x r st', SR K ρ H st ∧ VX K ρ H v x ∧ f x lo hi st = some (r, st') ∧ Cont K ρ H r st' Q
abbrev SlS (X : Cx) (f : D → Option Int → Option Int → M D) : Prop := SlR X (cSl X.K f)
def mSl (f : D → Option Int → Option Int → M D) (A : Env → M D) (L U : Env → M (Option Int)) : Env → M D := fun env st => (A env st).bind fun r => (L env r.2).bind fun l => (U env l.2).bind fun u => f r.1 l.1 u.1 u.2
theorem xe_slice {lo hi : Option Expr} {p2 : Pos} {f : D → Option Int → Option Int → M D} {L U : Env → M (Option Int)} (hf : SlS X f) (ha : XE X a A) (hl : XP X lo L) (hu : XP X hi U) : XE X (.Subscript a (.Slice lo hi none p2) pos) (mSl f A L U) :=
  PE.weak (pe_slice hf ha hl hu) fun σ H Q h => by
    obtain ⟨ρ, env, st, x, st', E, S, run, k⟩ := h
    obtain ⟨⟨x1, s1⟩, h1, run⟩ := bindS run
    obtain ⟨⟨x2, s2⟩, h2, run⟩ := bindS run
    obtain ⟨⟨x3, s3⟩, h3, run⟩ := bindS run
    refine ⟨ρ, env, st, x1, s1, E, S, h1, fun v1 H1 ρ1 e1 S1 r1 => ⟨ρ1, env, s1, x2, s2, E.ext e1, S1, h2, fun H2 ρ2 e2 S2 => ⟨ρ2, env, s2, x3, s3, E.ext (e1.trans e2), S2, h3, fun H3 ρ3 e3 S3 => ?_⟩⟩⟩
    exact ⟨ρ3, s3, x1, x, st', S3, r1.ext (e2.trans e3), run, k.ext ((e1.trans e2).trans e3)⟩

/-! ### statements -/
variable {st : Stmt} {rest : List Stmt} {S R : Env → M Fl}
def sNil : Env → M Fl := fun env st => some (.nx env, st)
def sSeq (S R : Env → M Fl) : Env → M Fl := fun env st => (S env st).bind fun r => match r.1 with
  | .nx env' => R env' r.2
  | f => some (f, r.2)
theorem xss_nil : XSs X [] sNil := PSs.weak pss_nil fun E σ H h => by
  obtain ⟨ρ, env, st, f, st', R, S, run, k⟩ := h
  cases run
  exact k σ H ρ .refl S R
theorem xss_cons (h1 : XS X st S) (h2 : XSs X rest R) : XSs X (st :: rest) (sSeq S R) := PSs.weak (pss_cons h1 h2) fun E σ H h => by
  obtain ⟨ρ, env, st, f, st', R, S, run, k⟩ := h
  obtain ⟨⟨f1, s1⟩, h1, run⟩ := bindS run
  refine ⟨ρ, env, st, f1, s1, R, S, h1, ?_⟩
  cases f1 with
  | nx env1 => exact fun σ' H' ρ' e S' R' => ⟨ρ', env1, s1, f, st', R', S', run, k.ext e⟩
  | bk env1 =>
    cases run
    exact k
  | ct env1 =>
    cases run
    exact k
  | rt v =>
    cases run
    exact k
def sPass : Env → M Fl := fun env st => some (.nx env, st)
def sBreak : Env → M Fl := fun env st => some (.bk env, st)
def sCont : Env → M Fl := fun env st => some (.ct env, st)
theorem xs_pass : XS X (.Pass pos) sPass := PS.weak ps_pass fun E σ H h => by
  obtain ⟨ρ, env, st, f, st', R, S, run, k⟩ := h
  cases run
  exact k σ H ρ .refl S R
theorem xs_break : XS X (.Break pos) sBreak := PS.weak ps_break fun E σ H h => by
  obtain ⟨ρ, env, st, f, st', R, S, run, k⟩ := h
  cases run
  exact k σ H ρ .refl S R
theorem xs_cont : XS X (.Continue pos) sCont := PS.weak ps_continue fun E σ H h => by
  obtain ⟨ρ, env, st, f, st', R, S, run, k⟩ := h
  cases run
  exact k σ H ρ .refl S R
def sExpr (A : Env → M D) : Env → M Fl := fun env st => (A env st).bind fun r => some (.nx env, r.2)
theorem xs_expr (ha : XE X a A) (hs : swapsWith a none pos.line X.env = pure false := by rfl) : XS X (.Expr a pos) (sExpr A) := PS.weak (ps_expr ha hs) fun E σ H h => by
  obtain ⟨ρ, env, st, f, st', R, S, run, k⟩ := h
  obtain ⟨⟨x1, s1⟩, h1, run⟩ := bindS run
  cases run
  exact ⟨ρ, env, st, x1, s1, R, S, h1, fun v H' ρ' e S' _ => k σ H' ρ' e S' (R.ext e)⟩
def sRet (A : Env → M D) : Env → M Fl := fun env st => (A env st).bind fun r => some (.rt r.1, r.2)
theorem xs_ret (ha : XE X a A) : XS X (.Return (some a) pos) (sRet A) := PS.weak (ps_ret ha) fun E σ H h => by
  obtain ⟨ρ, env, st, f, st', R, S, run, k⟩ := h
  obtain ⟨⟨x1, s1⟩, h1, run⟩ := bindS run
  cases run
  exact ⟨ρ, env, st, x1, s1, R, S, h1, k⟩
def sRetN : Env → M Fl := fun env st => some (.rt (.d .none), st)
theorem xs_retN : XS X (.Return none pos) sRetN := PS.weak ps_retN fun E σ H h => by
  obtain ⟨ρ, env, st, f, st', R, S, run, k⟩ := h
  cases run
  exact k .non H ρ .refl S (.d .non)
def sIf (T : Env → M Bool) (S R : Env → M Fl) : Env → M Fl := fun env st => (T env st).bind fun r => if r.1 = true then S env r.2 else R env r.2
theorem xs_if {t u : List Stmt} (hc : XT X c T) (ha : XSs X t S) (hb : XSs X u R) : XS X (.If c t u pos) (sIf T S R) := PS.weak (ps_if hc ha hb) fun E σ H h => by
  obtain ⟨ρ, env, st, f, st', R, S, run, k⟩ := h
  obtain ⟨⟨x1, s1⟩, h1, run⟩ := bindS run
  refine ⟨ρ, env, st, x1, s1, R, S, h1, fun H1 ρ1 e1 S1 => ?_⟩
  cases x1 with
  | true =>
    rw [if_pos rfl] at run ⊢
    exact ⟨ρ1, env, s1, f, st', R.ext e1, S1, run, k.ext e1⟩
  | false =>
    rw [if_neg Bool.false_ne_true] at run ⊢
    exact ⟨ρ1, env, s1, f, st', R.ext e1, S1, run, k.ext e1⟩
/-! ### targets -/
theorem ER.set {K : PySem.W.Frag} {ρ : List Addr} {H : Hp} {env : Env} {σ : L2.St} {i : Nat} {v : V} {x : D} (E : ER K ρ H env σ) (h : VX K ρ H v x) : ER K ρ H (env.set i (some x)) (σ.set i (some v)) := by
  refine ⟨by simp [E.len], fun j y q => ?_⟩
  by_cases e : j = i
  · subst e
    have hl : j < env.length := by
      have := (List.getElem?_eq_some_iff.mp q).1
      simpa using this
    rw [List.getElem?_set_self hl] at q
    cases q
    exact ⟨v, List.getElem?_set_self (E.len ▸ hl), h⟩
  · rw [List.getElem?_set_ne (Ne.symm e)] at q
    obtain ⟨w, h1, h2⟩ := E.get j y q
    exact ⟨w, by rw [List.getElem?_set_ne (Ne.symm e)]; exact h1, h2⟩
/-- a target: W tells how the slots may change -/
def cG (K : PySem.W.Frag) (W : L2.St → L2.St → Prop) (G : D → Env → M Env) : TG := fun v σ H Q => ∃ ρ env st x env' st', ER K ρ H env σ ∧ SR K ρ H st ∧ VX K ρ H v x ∧ G x env st = some (env', st') ∧
  ∀ σ' H' ρ', W σ σ' → Ext ρ H ρ' H' → SR K ρ' H' st' → ER K ρ' H' env' σ' → Q σ' H'
def cGs (K : PySem.W.Frag) (W : L2.St → L2.St → Prop) (G : List D → Env → M Env) : TGs := fun vs σ H Q => ∃ ρ env st xs env' st', ER K ρ H env σ ∧ SR K ρ H st ∧ VXs K ρ H vs xs ∧ G xs env st = some (env', st') ∧
  ∀ σ' H' ρ', W σ σ' → Ext ρ H ρ' H' → SR K ρ' H' st' → ER K ρ' H' env' σ' → Q σ' H'
theorem PG.weak {X : Cx} {e : Expr} {t t' : TG} (h : PG X e t) (w : ∀ v σ H Q, t' v σ H Q → t v σ H Q) : PG X e t' := ⟨fun pins s σ H v u Q I r q => h.run pins s σ H v u Q I r (w _ _ _ _ q)⟩
theorem PGs.weak {X : Cx} {e : List Expr} {t t' : TGs} (h : PGs X e t) (w : ∀ v σ H Q, t' v σ H Q → t v σ H Q) : PGs X e t' := ⟨fun pins s σ H v u Q I r q => h.run pins s σ H v u Q I r (w _ _ _ _ q)⟩
abbrev XG (X : Cx) (W : L2.St → L2.St → Prop) (e : Expr) (G : D → Env → M Env) : Prop := PG X e (cG X.K W G)
abbrev XGs (X : Cx) (W : L2.St → L2.St → Prop) (e : List Expr) (G : List D → Env → M Env) : Prop := PGs X e (cGs X.K W G)
structure Wok (W : L2.St → L2.St → Prop) (is : List Nat) : Prop where
  rf : ∀ σ, W σ σ
  tr : ∀ σ σ' σ'', W σ σ' → W σ' σ'' → W σ σ''
  st : ∀ σ i v, i ∈ is → W σ (σ.set i (some v))
def W0 : L2.St → L2.St → Prop := fun _ _ => True
theorem w0 {is : List Nat} : Wok W0 is := ⟨fun _ => trivial, fun _ _ _ _ _ => trivial, fun _ _ _ _ => trivial⟩
def Ww (is : List Nat) : L2.St → L2.St → Prop := fun σ σ' => wipe σ' is = wipe σ is
theorem wipe_set {v : Option V} : ∀ {is : List Nat} {σ : L2.St} {i : Nat}, i ∈ is → wipe (σ.set i v) is = wipe σ is
  | j :: is, σ, i, h => by
    unfold wipe
    by_cases e : i ∈ is
    · rw [wipe_set e]
    · have ej : i = j := by
        rcases List.mem_cons.mp h with h | h
        · exact h
        · exact absurd h e
      subst ej
      have go : ∀ {is : List Nat} {σ : L2.St}, i ∉ is → wipe (σ.set i v) is = (wipe σ is).set i v := by
        intro is
        induction is with
        | nil => intro σ _; rfl
        | cons j is ih =>
          intro σ hn
          simp only [List.mem_cons, not_or] at hn
          unfold wipe
          rw [ih hn.2, List.set_comm _ _ hn.1]
      rw [go e, List.set_set]
theorem ww {is : List Nat} : Wok (Ww is) is := ⟨fun _ => rfl, fun _ _ _ a b => b.trans a, fun _ _ _ h => wipe_set h⟩
def gN (i : Nat) : D → Env → M Env := fun x env st => some (env.set i (some x), st)
theorem xg_name {W : L2.St → L2.St → Prop} {is : List Nat} {x : Str} (i : Nat) (w : Wok W is) (hw : i ∈ is) (hN : X.N.Nodup) (hi : X.N[i]? = some x) (hx : Loc X.env.scope x) (hf : X.fn x = true ∨ X.env.scope.names.lookup x = some .local := by first | exact .inl rfl | exact .inr rfl | assumption) : XG X W (.Name x pos) (gN i) :=
  PG.weak (pg_name hN hi hx hf) fun v σ H Q h => by
    obtain ⟨ρ, env, st, y, env', st', E, S, r, run, k⟩ := h
    cases run
    exact k _ H ρ (w.st _ _ _ hw) .refl S (E.set r)
def gsNil : List D → Env → M Env := fun xs env st => match xs with
  | [] => some (env, st)
  | _ => none
def gsCons (G : D → Env → M Env) (Gs : List D → Env → M Env) : List D → Env → M Env := fun xs env st => match xs with
  | [] => none
  | x :: r => (G x env st).bind fun q => Gs r q.1 q.2
theorem xgs_nil {W : L2.St → L2.St → Prop} {is : List Nat} (w : Wok W is) : XGs X W [] gsNil := PGs.weak pgs_nil fun v σ H Q h => by
  obtain ⟨ρ, env, st, y, env', st', E, S, r, run, k⟩ := h
  cases r with
  | nil =>
    cases run
    exact ⟨rfl, k _ H ρ (w.rf _) .refl S E⟩
  | cons _ _ => cases run
theorem xgs_cons {W : L2.St → L2.St → Prop} {is : List Nat} (w : Wok W is) {G : D → Env → M Env} {Gs : List D → Env → M Env} (h1 : XG X W e G) (h2 : XGs X W es Gs) (hs : (assignEach (e :: es) X.env).map (·.2) = assign e X.env :: (assignEach es X.env).map (·.2) := by rfl) :
    XGs X W (e :: es) (gsCons G Gs) := PGs.weak (pgs_cons h1 h2 hs) fun v σ H Q h => by
  obtain ⟨ρ, env, st, y, env', st', E, S, r, run, k⟩ := h
  cases r with
  | nil => cases run
  | cons r rr =>
    rename_i x v0 xs vs
    obtain ⟨⟨env1, s1⟩, g1, run⟩ := bindS run
    refine ⟨_, _, rfl, ρ, env, st, _, env1, s1, E, S, r, g1, fun σ1 H1 ρ1 w1 e1 S1 E1 => ?_⟩
    exact ⟨ρ1, env1, s1, _, env', st', E1, S1, VXs.ext e1 rr, run, fun σ' H' ρ' w2 e2 S' E' => k σ' H' ρ' (w.tr _ _ _ w1 w2) (e1.trans e2) S' E'⟩
/-- a, b, .. -/
def gT (Gs : List D → Env → M Env) (n : Nat) : D → Env → M Env := fun x env st => match x with
  | .d (.tuple ds) => if ds.length = n then Gs (ds.map D.d) env st else none
  | _ => none
theorem vxs_map {K : PySem.W.Frag} {ρ : List Addr} {H : Hp} : ∀ {vs : List V} {ds : List PyData}, DVs K ρ H vs ds → VXs K ρ H vs (ds.map D.d)
  | _, _, .nil => .nil
  | _, _, .cons h t => .cons (.d h) (vxs_map t)
theorem xg_tup {W : L2.St → L2.St → Prop} {k n : Nat} {Gs : List D → Env → M Env} (hc : X.calm = true) (h : XGs X W es Gs) (hn : (assignEach es X.env).length = n := by rfl) (hst : (assignEach es X.env).findIdx? (·.1) = none := by rfl) :
    XG X W (.Tuple es k pos) (gT Gs n) := PG.weak (pg_tup hc h hn hst) fun v σ H Q h => by
  obtain ⟨ρ, env, st, y, env', st', E, S, r, run, k⟩ := h
  unfold gT at run
  split at run
  · rename_i ds
    split at run
    · rename_i hl
      cases r with
      | d r =>
        cases r with
        | tup h1 h2 => exact ⟨_, _, rfl, h1.sq, by rw [h2.len, hl], ρ, env, st, _, env', st', E, S, vxs_map h2, run, k⟩
    · cases run
  · cases run
def sAsg (A : Env → M D) (G : D → Env → M Env) : Env → M Fl := fun env st => (A env st).bind fun r => (G r.1 env r.2).bind fun q => some (.nx q.1, q.2)
theorem asg_w {K : PySem.W.Frag} {G : D → Env → M Env} {E : Ends} {σ : L2.St} {H : Hp} (h : cS K (sAsg A G) E σ H) : tAsg (cE K A) (cG K W0 G) E σ H := by
  obtain ⟨ρ, env, st, f, st', R, S, run, k⟩ := h
  obtain ⟨⟨x1, s1⟩, h1, run⟩ := bindS run
  obtain ⟨⟨env2, s2⟩, h2, run⟩ := bindS run
  cases run
  exact ⟨ρ, env, st, x1, s1, R, S, h1, fun v H' ρ' e S' r => ⟨ρ', env, s1, x1, env2, s2, R.ext e, S', r, h2, fun σ2 H2 ρ2 _ e2 S2 E2 => k σ2 H2 ρ2 (e.trans e2) S2 E2⟩⟩
theorem xs_asg {tg : Expr} {G : D → Env → M Env} (ha : XE X a A) (hg : XG X W0 tg G) (hs : swapsWithSole [tg] a pos.line X.env = pure false := by rfl) (hw : swappedStores [tg] a X.env = pure none := by rfl)
    (h1 : (assignEach [tg] X.env).map (·.2) = [assign tg X.env] := by rfl) : XS X (.Assign [tg] a pos) (sAsg A G) := PS.weak (ps_asg ha hg hs hw h1) fun _ _ _ h => asg_w h
theorem xs_set {x : Str} {pos' : Pos} (i : Nat) (hN : X.N.Nodup) (hi : X.N[i]? = some x) (hx : Loc X.env.scope x) (ha : XE X a A) (hs : swapsWith a (some (.Name x pos')) pos.line X.env = pure false := by rfl) (hf : X.fn x = true ∨ X.env.scope.names.lookup x = some .local := by first | exact .inl rfl | exact .inr rfl | assumption) :
    XS X (.Assign [.Name x pos'] a pos) (sAsg A (gN i)) := PS.weak (ps_set hN hi hx ha hs hf) fun E σ H h => by
  obtain ⟨ρ, env, st, f, st', R, S, run, k⟩ := h
  obtain ⟨⟨x1, s1⟩, h1, run⟩ := bindS run
  cases run
  exact ⟨ρ, env, st, x1, s1, R, S, h1, fun v H' ρ' e S' r => k _ H' ρ' e S' ((R.ext e).set r)⟩
/-- a, b = x, y: two local names -/
def sPar (i j : Nat) (As : Env → M (List D)) : Env → M Fl := fun env st => (As env st).bind fun r => match r.1 with
  | [x, y] => some (.nx ((env.set i (some x)).set j (some y)), r.2)
  | _ => none
theorem xs_par {i j : Nat} {x y : Str} {px py pt : Pos} {kt k2 : Nat} {pt2 : Pos} (hc : X.calm = true) (hN : X.N.Nodup) (hi : X.N[i]? = some x) (hj : X.N[j]? = some y) (hij : i ≠ j)
    (hx : X.env.scope.names.lookup x = some .local) (hy : X.env.scope.names.lookup y = some .local) (ha : XA X [a, b] As)
    (hw : swappedStores [.Tuple [.Name x px, .Name y py] kt pt] (.Tuple [a, b] k2 pt2) X.env = pure (some [x, y]))
    (hs : swapsWithSole [.Tuple [.Name x px, .Name y py] kt pt] (.Tuple [a, b] k2 pt2) pos.line X.env = pure false := by rfl) :
    XS X (.Assign [.Tuple [.Name x px, .Name y py] kt pt] (.Tuple [a, b] k2 pt2) pos) (sPar i j As) := PS.weak (ps_par hc hN hi hj hij hx hy ha hw hs) fun E σ H h => by
  obtain ⟨ρ, env, st, f, st', R, S, run, k⟩ := h
  obtain ⟨⟨x1, s1⟩, h1, run⟩ := bindS run
  split at run
  · rename_i z w e'
    have e' : x1 = [z, w] := e'
    subst e'
    cases run
    refine ⟨ρ, env, st, _, s1, R, S, h1, fun vs H' ρ' e S' r => ?_⟩
    cases r with
    | cons r1 r =>
      cases r with
      | cons r2 r =>
        cases r
        exact ⟨_, _, rfl, k _ H' ρ' e S' (((R.ext e).set r1).set r2)⟩
  · cases run
/-- o[i] = v, by values -/
def cSet (K : PySem.W.Frag) (f : D → D → D → Store → Option Store) : TSet := fun o i v H Q => ∃ ρ st x y z st', SR K ρ H st ∧ VX K ρ H o x ∧ VX K ρ H i y ∧ VX K ρ H v z ∧ f x y z st = some st' ∧ ∀ H' ρ', Ext ρ H ρ' H' → SR K ρ' H' st' → Q H'
abbrev SetS (X : Cx) (f : D → D → D → Store → Option Store) : Prop := PSet X (cSet X.K f)
def gIx (A B : Env → M D) (f : D → D → D → Store → Option Store) : D → Env → M Env := fun z env st => (A env st).bind fun x => (B env x.2).bind fun y => (f x.1 y.1 z y.2).map fun st' => (env, st')
theorem PSet.weak {t t' : TSet} (h : PSet X t) (w : ∀ o i v H Q, t' o i v H Q → t o i v H Q) : PSet X t' := fun pins s σ H o i v ov iv u Q I r1 r2 r3 q => h pins s σ H o i v ov iv u Q I r1 r2 r3 (w _ _ _ _ _ q)
theorem xg_sub {W : L2.St → L2.St → Prop} {is : List Nat} (w : Wok W is) {f : D → D → D → Store → Option Store} (ho : XE X a A) (hi : XE X b B) (hs : SetS X f)
    (ha : ∀ v, assign (.Subscript a b pos) X.env v = (do
      let ov ← holding [v] (eval a X.env)
      let iv ← holding [v, ov] (eval b X.env)
      standAt pos
      holding [v, ov, iv] (setItem ov iv v)
      release [v, ov, iv] []) := by intro _; rfl) : XG X W (.Subscript a b pos) (gIx A B f) := PG.weak (pg_sub ho hi hs ha) fun v σ H Q h => by
  obtain ⟨ρ, env, st, z, env', st', E, S, r, run, k⟩ := h
  obtain ⟨⟨x1, s1⟩, h1, run⟩ := bindS run
  obtain ⟨⟨x2, s2⟩, h2, run⟩ := bindS run
  cases h3 : f x1 x2 z s2 with
  | none =>
    simp only [h3] at run
    cases run
  | some s3 =>
    simp only [h3] at run
    cases run
    refine ⟨ρ, env, st, x1, s1, E, S, h1, fun v1 H1 ρ1 e1 S1 r1 => ⟨ρ1, env, s1, x2, s2, E.ext e1, S1, h2, fun v2 H2 ρ2 e2 S2 r2 => ?_⟩⟩
    exact ⟨ρ2, s2, x1, x2, z, st', S2, r1.ext e2, r2, r.ext (e1.trans e2), h3, fun H' ρ' e S' => k σ H' ρ' (w.rf _) ((e1.trans e2).trans e) S' (E.ext ((e1.trans e2).trans e))⟩
/-- x op= e -/
def sAug (i : Nat) (f : D → D → M D) (A : Env → M D) : Env → M Fl := fun env st => match env[i]? with
  | some (some x) => (A env st).bind fun r => (f x r.1 r.2).bind fun q => some (.nx (env.set i (some q.1)), q.2)
  | _ => none
theorem xs_aug {x : Str} {pos' : Pos} {op : Operator} {f : D → D → M D} (i : Nat) (hN : X.N.Nodup) (hi : X.N[i]? = some x) (hx : Loc X.env.scope x) (ha : XE X a A) (ho : OpS X (inplaceOp op) f) (hf : X.fn x = true ∨ X.env.scope.names.lookup x = some .local := by first | exact .inl rfl | exact .inr rfl | assumption) :
    XS X (.AugAssign (.Name x pos') op a pos) (sAug i f A) := by
  have hp : PIp X op (cO X.K f) := fun pins s σ H x y v u Q I r1 r2 q => ho pins s σ H x y v u Q I r1 r2 q
  refine PS.weak (ps_aug hN hi hx ha hp hf) fun E σ H h => ?_
  obtain ⟨ρ, env, st, g, st', R, S, run, k⟩ := h
  unfold sAug at run
  split at run
  · rename_i x0 h0
    obtain ⟨⟨x1, s1⟩, h1, run⟩ := bindS run
    obtain ⟨⟨x2, s2⟩, h2, run⟩ := bindS run
    cases run
    obtain ⟨v0, g0, r0⟩ := R.get i _ h0
    refine ⟨v0, g0, ρ, env, st, x1, s1, R, S, h1, fun v1 H1 ρ1 e1 S1 r1 => ?_⟩
    exact ⟨ρ1, s1, x0, x1, x2, s2, S1, r0.ext e1, r1, h2, fun v H' ρ' e S' r => k _ H' ρ' (e1.trans e) S' ((R.ext (e1.trans e)).set r)⟩
  · cases run
/-- o[i] op= e -/
def sAugIx (get : D → D → M D) (f : D → D → M D) (put : D → D → D → Store → Option Store) (A B C : Env → M D) : Env → M Fl := fun env st => (A env st).bind fun o => (B env o.2).bind fun i => (get o.1 i.1 i.2).bind fun x => (C env x.2).bind fun y => (f x.1 y.1 y.2).bind fun z =>
  (put o.1 i.1 z.1 z.2).map fun st' => (.nx env, st')
theorem xs_augIx {tpos : Pos} {op : Operator} {get f : D → D → M D} {put : D → D → D → Store → Option Store} (ha : XE X a A) (hb : XE X b B) (hg : PGet X (cO X.K get)) (hc : XE X c C) (ho : OpS X (inplaceOp op) f) (hp : SetS X put)
    (hs : ∀ ov iv new, augStore b ov iv new = (do holding [new, ov, iv] (setItem ov iv new); release [new, ov, iv] []; pure .next) := by intros; rfl) :
    XS X (.AugAssign (.Subscript a b tpos) op c pos) (sAugIx get f put A B C) := by
  have hip : PIp X op (cO X.K f) := fun pins s σ H x y v u Q I r1 r2 q => ho pins s σ H x y v u Q I r1 r2 q
  refine PS.weak (ps_augS ha hb hg hc hip hp hs) fun E σ H h => ?_
  obtain ⟨ρ, env, st, g, st', R, S, run, k⟩ := h
  obtain ⟨⟨x1, s1⟩, h1, run⟩ := bindS run
  obtain ⟨⟨x2, s2⟩, h2, run⟩ := bindS run
  obtain ⟨⟨x3, s3⟩, h3, run⟩ := bindS run
  obtain ⟨⟨x4, s4⟩, h4, run⟩ := bindS run
  obtain ⟨⟨x5, s5⟩, h5, run⟩ := bindS run
  cases h6 : put x1 x2 x5 s5 with
  | none =>
    simp only [h6] at run
    cases run
  | some s6 =>
    simp only [h6] at run
    cases run
    refine ⟨ρ, env, st, x1, s1, R, S, h1, fun v1 H1 ρ1 e1 S1 r1 => ⟨ρ1, env, s1, x2, s2, R.ext e1, S1, h2, fun v2 H2 ρ2 e2 S2 r2 => ?_⟩⟩
    refine ⟨ρ2, s2, x1, x2, x3, s3, S2, r1.ext e2, r2, h3, fun v3 H3 ρ3 e3 S3 r3 => ?_⟩
    refine ⟨ρ3, env, s3, x4, s4, R.ext ((e1.trans e2).trans e3), S3, h4, fun v4 H4 ρ4 e4 S4 r4 => ?_⟩
    refine ⟨ρ4, s4, x3, x4, x5, s5, S4, r3.ext e4, r4, h5, fun v5 H5 ρ5 e5 S5 r5 => ?_⟩
    have e25 := (e3.trans e4).trans e5
    exact ⟨ρ5, s5, x1, x2, x5, st', S5, r1.ext (e2.trans e25), r2.ext e25, r5, h6, fun H' ρ' e S' => k σ H' ρ' (((e1.trans e2).trans e25).trans e) S' (R.ext (((e1.trans e2).trans e25).trans e))⟩
end
end PM

set_option Elab.async false
set_option linter.all false
set_option maxRecDepth 100000
set_option autoImplicit false
/-! PM, part d: loops and comprehensions. -/
namespace PM
open PySem PySem.Spec PyProof.Rows L2
open Classical

/-- what a walk leans on: nothing, or a thing of the store that stays -/
abbrev Gd := Option (Nat × Cell)
def holds (g : Gd) (st : Store) : Prop := ∀ n c, g = some (n, c) → st[n]? = some c
/-- an iterator of the data xs that leans on g -/
structure Wlk (K : PySem.W.Frag) (ρ : List Addr) (H : Hp) (J : It) (xs : List D) (g : Gd) : Prop where
  ex : ∃ G Y, Walk J xs.length G Y ∧ (∀ ρ' H' st, Ext ρ H ρ' H' → SR K ρ' H' st → holds g st → G H') ∧
    ∀ i ρ' H' st v H2, Ext ρ H ρ' H' → SR K ρ' H' st → holds g st → i < xs.length → Y i H' v H2 → ∃ x, xs[i]? = some x ∧ Ext ρ' H' ρ' H2 ∧ SR K ρ' H2 st ∧ VX K ρ' H2 v x
def cI (K : PySem.W.Frag) (I : Env → M (List D × Gd)) : TI := fun σ H R => ∃ ρ env st r st', ER K ρ H env σ ∧ SR K ρ H st ∧ I env st = some (r, st') ∧ ∀ H' ρ' J, Ext ρ H ρ' H' → SR K ρ' H' st' → Wlk K ρ' H' J r.1 r.2 → R J H'
abbrev XI (X : Cx) (tg iter : Expr) (I : Env → M (List D × Gd)) : Prop := PI X tg iter (cI X.K I)
theorem PI.weak {X : Cx} {tg iter : Expr} {t t' : TI} (h : PI X tg iter t) (w : ∀ σ H R, t' σ H R → t σ H R) : PI X tg iter t' := ⟨fun pins s σ H R I q => h.run pins s σ H R I (w _ _ _ q)⟩

noncomputable def forM (g : Gd) (G : D → Env → M Env) (B : Env → M Fl) : List D → Env → M Fl
  | [], env, st => if holds g st then some (.nx env, st) else none
  | x :: xs, env, st => if holds g st then (G x env st).bind fun r => (B r.1 r.2).bind fun q => match q.1 with
      | .nx e => forM g G B xs e q.2
      | .ct e => forM g G B xs e q.2
      | .bk e => some (.nx e, q.2)
      | .rt v => some (.rt v, q.2)
    else none
noncomputable def sFor (I : Env → M (List D × Gd)) (G : D → Env → M Env) (B : Env → M Fl) : Env → M Fl := fun env st => (I env st).bind fun r => forM r.1.2 G B r.1.1 env r.2
theorem forM_holds {g : Gd} {G : D → Env → M Env} {B : Env → M Fl} {xs : List D} {env : Env} {st : Store} {r : Fl × Store} (h : forM g G B xs env st = some r) : holds g st := by
  cases xs with
  | nil =>
    unfold forM at h
    split at h
    · assumption
    · cases h
  | cons x xs =>
    unfold forM at h
    split at h
    · assumption
    · cases h
section
variable {X : Cx} {pos : Pos}
theorem xs_for {iter tg : Expr} {body : List Stmt} {I : Env → M (List D × Gd)} {G : D → Env → M Env} {B : Env → M Fl} (hp : PassesOwn (model X.prog X.w) X.A X.env X.xe) (hc : X.calm = true) (hi : XI X tg iter I) (hg : XG X W0 tg G) (hb : XSs X body B)
    (hs : ∀ x, foldedSetIterable iter X.env x = pure x := by intro _; rfl) : XS X (.For tg iter body [] pos) (sFor I G B) := PS.weak (ps_for hp hc hi hg hb hs) fun E σ H h => by
  obtain ⟨ρ0, env0, st0, f, stE, R0, S0, run, k⟩ := h
  obtain ⟨⟨⟨xs, g⟩, s1⟩, h1, run⟩ := bindS run
  refine ⟨ρ0, env0, st0, (xs, g), s1, R0, S0, h1, fun H1 ρ1 J e1 S1 w => ?_⟩
  obtain ⟨GG, Y, wk, wg, wy⟩ := w.ex
  refine for_it wk (fun i σ H => ∃ ρ env st, Ext ρ1 H1 ρ H ∧ ER X.K ρ H env σ ∧ SR X.K ρ H st ∧ forM g G B (xs.drop i) env st = some (f, stE))
    ⟨ρ1, env0, s1, .refl, R0.ext e1, S1, run⟩ ?_ ?_ ?_
  · rintro i σ H _ ⟨ρ, env, st, e, R, S, r⟩
    exact wg ρ H st e S (forM_holds r)
  · rintro i v σ H H2 hi ⟨ρ, env, st, e, R, S, r⟩ y
    obtain ⟨x, hx, e2, S2, rx⟩ := wy i ρ H st v H2 e S (forM_holds r) hi y
    have hd : xs.drop i = x :: xs.drop (i + 1) := by
      rw [List.drop_eq_getElem_cons hi]
      congr 1
      rw [List.getElem?_eq_getElem hi] at hx
      exact Option.some.inj hx
    rw [hd] at r
    unfold forM at r
    split at r
    case isFalse => cases r
    obtain ⟨⟨env1, st1⟩, g1, r⟩ := bindS r
    obtain ⟨⟨f1, st2⟩, g2, r⟩ := bindS r
    refine ⟨ρ, env, st, x, env1, st1, R.ext e2, S2, rx, g1, fun σ' H' ρ' _ e' S' R' => ⟨ρ', env1, st1, f1, st2, R', S', g2, ?_⟩⟩
    cases f1 with
    | nx env2 => exact fun σ3 H3 ρ3 e3 S3 R3 => ⟨ρ3, env2, st2, ((e.trans e2).trans e').trans e3, R3, S3, r⟩
    | ct env2 => exact fun σ3 H3 ρ3 e3 S3 R3 => ⟨ρ3, env2, st2, ((e.trans e2).trans e').trans e3, R3, S3, r⟩
    | bk env2 =>
      cases r
      exact fun σ3 H3 ρ3 e3 S3 R3 => k σ3 H3 ρ3 ((((e1.trans e).trans e2).trans e').trans e3) S3 R3
    | rt v2 =>
      cases r
      exact fun v3 H3 ρ3 e3 S3 R3 => k v3 H3 ρ3 ((((e1.trans e).trans e2).trans e').trans e3) S3 R3
  · rintro σ H ⟨ρ, env, st, e, R, S, r⟩
    rw [List.drop_length] at r
    unfold forM at r
    split at r
    case isFalse => cases r
    cases r
    exact k σ H ρ (e1.trans e) S R
/-! ### what is walked -/
variable {tg a : Expr} {A : Env → M D}
/-- a list or tuple of data, a list of the store -/
def mSeq (A : Env → M D) : Env → M (List D × Gd) := fun env st => (A env st).bind fun r => match r.1 with
  | .d (.list ds) => some ((ds.map D.d, none), r.2)
  | .ref n => match r.2[n]? with
    | some (.lst xs) => some ((xs, some (n, .lst xs)), r.2)
    | _ => none
  | _ => none
def mTupI (A : Env → M D) : Env → M (List D × Gd) := fun env st => (A env st).bind fun r => match r.1 with
  | .d (.tuple ds) => some ((ds.map D.d, none), r.2)
  | _ => none
theorem holds_none {st : Store} : holds none st := fun _ _ h => nomatch h
theorem holds_of {n : Nat} {c : Cell} {st : Store} (h : st[n]? = some c) : holds (some (n, c)) st := fun _ _ e => by
  cases e
  exact h
theorem holds_at {n : Nat} {c : Cell} {st : Store} (h : holds (some (n, c)) st) : st[n]? = some c := h n c rfl
theorem yat_of {K : PySem.W.Frag} {ρ : List Addr} {H H2 : Hp} {st : Store} {vs : List V} {xs : List D} {i : Nat} {v : V} (h : VXs K ρ H vs xs) (S : SR K ρ H st) (y : YAt vs i H v H2) : ∃ x, xs[i]? = some x ∧ Ext ρ H ρ H2 ∧ SR K ρ H2 st ∧ VX K ρ H2 v x := by
  obtain ⟨rfl, y⟩ := y
  have go : ∀ {l : List V} {m : List D} {i : Nat}, VXs K ρ H2 l m → l[i]? = some v → ∃ x, m[i]? = some x ∧ VX K ρ H2 v x := by
    intro l
    induction l with
    | nil => intro m i _ h; simp at h
    | cons a l ih =>
      intro m i hp h
      cases hp with
      | cons r t =>
        cases i with
        | zero =>
          simp at h
          subst h
          exact ⟨_, rfl, r⟩
        | succ i =>
          obtain ⟨x, h1, h2⟩ := ih t (by simpa using h)
          exact ⟨x, by simpa using h1, h2⟩
  obtain ⟨x, h1, h2⟩ := go h y
  exact ⟨x, h1, .refl, S, h2⟩
theorem wlk_data {K : PySem.W.Frag} {ρ : List Addr} {H : Hp} {p : Addr} {vs : List V} {ds : List PyData} (h1 : LstAt K ρ H p vs) (h2 : DVs K ρ H vs ds) : Wlk K ρ H (Itl K p) (ds.map D.d) none := by
  have l : vs.length = (ds.map D.d).length := by rw [List.length_map, h2.len]
  refine ⟨fun H => SqL K H p vs, YAt vs, l ▸ walk_list, fun ρ' H' st e S _ => (h1.ext e).sq, fun i ρ' H' st v H2 e S _ _ y => ?_⟩
  exact yat_of (vxs_map (DVs.ext e _ _ h2)) S y
theorem wlk_tup {K : PySem.W.Frag} {ρ : List Addr} {H : Hp} {p : Addr} {vs : List V} {ds : List PyData} (h1 : TupAt K ρ H p vs) (h2 : DVs K ρ H vs ds) : Wlk K ρ H (Itt K p) (ds.map D.d) none := by
  have l : vs.length = (ds.map D.d).length := by rw [List.length_map, h2.len]
  refine ⟨fun H => SqT K H p vs, YAt vs, l ▸ walk_tup, fun ρ' H' st e S _ => (h1.ext e).sq, fun i ρ' H' st v H2 e S _ _ y => ?_⟩
  exact yat_of (vxs_map (DVs.ext e _ _ h2)) S y
/-- a list of the store: what it holds at each turn is what it held -/
theorem wlk_lst {K : PySem.W.Frag} {ρ : List Addr} {H : Hp} {p : Addr} {n : Nat} {xs : List D} (h1 : ρ[n]? = some p) : Wlk K ρ H (Itl K p) xs (some (n, .lst xs)) := by
  refine ⟨fun H => ∃ vs, H p = some (.lst vs) ∧ vs.length = xs.length, fun i H x H' => H' = H ∧ ∀ vs, SqL K H p vs → vs[i]? = some x, ⟨fun i H hi ⟨vs, q, l⟩ => ⟨vs, vs[i]'(by omega), .of q, by simp [l, hi]⟩, fun H ⟨vs, q, l⟩ => ⟨vs, .of q, by omega⟩, fun i H x H' hi q y => y⟩, fun ρ' H' st e S g => ?_, fun i ρ' H' st v H2 e S g hi y => ?_⟩
  · obtain ⟨vs, q, r⟩ := S.at (e.get h1) (holds_at g)
    exact ⟨vs, q, Paired.length r⟩
  · obtain ⟨vs, q, r⟩ := S.at (e.get h1) (holds_at g)
    exact yat_of r S ⟨y.1, y.2 vs (.of q)⟩
theorem xi_seq (ha : XE X a A) : XI X tg a (mSeq A) := PI.weak (pi_list ha) fun σ H R h => by
  obtain ⟨ρ, env, st, r, st', E, S, run, k⟩ := h
  obtain ⟨⟨x1, s1⟩, h1, run⟩ := bindS run
  refine ⟨ρ, env, st, x1, s1, E, S, h1, fun v H1 ρ1 e1 S1 r1 => ?_⟩
  split at run
  · rename_i ds e'
    have e' : x1 = .d (.list ds) := e'
    subst e'
    cases run
    cases r1 with
    | d r1 =>
      cases r1 with
      | lst q1 q2 => exact ⟨_, rfl, ⟨_, q1.sq⟩, k H1 ρ1 _ e1 S1 (wlk_data q1 q2)⟩
  · rename_i n e'
    have e' : x1 = .ref n := e'
    subst e'
    split at run
    · rename_i xs q
      cases run
      cases r1 with
      | ref r1 =>
        obtain ⟨vs, q1, q2⟩ := S1.at r1 q
        exact ⟨_, rfl, ⟨vs, .of q1⟩, k H1 ρ1 _ e1 S1 (wlk_lst r1)⟩
    · cases run
  · cases run
theorem xi_tup (ha : XE X a A) : XI X tg a (mTupI A) := PI.weak (pi_tup ha) fun σ H R h => by
  obtain ⟨ρ, env, st, r, st', E, S, run, k⟩ := h
  obtain ⟨⟨x1, s1⟩, h1, run⟩ := bindS run
  refine ⟨ρ, env, st, x1, s1, E, S, h1, fun v H1 ρ1 e1 S1 r1 => ?_⟩
  split at run
  · rename_i ds e'
    have e' : x1 = .d (.tuple ds) := e'
    subst e'
    cases run
    cases r1 with
    | d r1 =>
      cases r1 with
      | tup q1 q2 => exact ⟨_, rfl, ⟨_, q1.sq⟩, k H1 ρ1 _ e1 S1 (wlk_tup q1 q2)⟩
  · cases run
def signs (z : Str) : List D := z.cps.toList.map fun c => .d (.str ⟨#[c]⟩)
def mStrI (A : Env → M D) : Env → M (List D × Gd) := fun env st => (A env st).bind fun r => match r.1 with
  | .d (.str z) => some ((signs z, none), r.2)
  | _ => none
theorem wlk_str {K : PySem.W.Frag} {ρ : List Addr} {H : Hp} {z : Str} : Wlk K ρ H (Its z) (signs z) none := by
  have l : z.cps.size = (signs z).length := by unfold signs; simp
  refine ⟨fun _ => True, _, l ▸ walk_str, fun _ _ _ _ _ _ => trivial, fun i ρ' H' st v H2 e S _ hi y => ?_⟩
  obtain ⟨rfl, c, h1, rfl⟩ := y
  refine ⟨.d (.str ⟨#[c]⟩), ?_, .refl, S, .d (.str _)⟩
  unfold signs
  rw [List.getElem?_map, Array.getElem?_toList, h1]
  rfl
theorem xi_str (ha : XE X a A) : XI X tg a (mStrI A) := PI.weak (pi_str ha) fun σ H R h => by
  obtain ⟨ρ, env, st, r, st', E, S, run, k⟩ := h
  obtain ⟨⟨x1, s1⟩, h1, run⟩ := bindS run
  refine ⟨ρ, env, st, x1, s1, E, S, h1, fun v H1 ρ1 e1 S1 r1 => ?_⟩
  split at run
  · rename_i z e'
    have e' : x1 = .d (.str z) := e'
    subst e'
    cases run
    cases r1 with
    | d r1 =>
      cases r1
      exact ⟨z, rfl, k H1 ρ1 _ e1 S1 wlk_str⟩
  · cases run
def rint (lo : Int) (n : Nat) : List D := (List.range n).map fun i => .d (.int (lo + (i : Nat)))
def small62 (i : Int) : Bool := decide (-(2 ^ 62) ≤ i ∧ i < 2 ^ 62)
theorem wlk_range {K : PySem.W.Frag} {ρ : List Addr} {H : Hp} {lo : Int} {n : Nat} : Wlk K ρ H (Itr lo n) (rint lo n) none := by
  have l : n = (rint lo n).length := by unfold rint; simp
  have wk : Walk (Itr lo n) (rint lo n).length (fun _ => True) (YFn fun i => .int (lo + i)) := by rw [← l]; exact walk_range
  refine ⟨fun _ => True, _, wk, fun _ _ _ _ _ _ => trivial, fun i ρ' H' st v H2 e S _ hi y => ?_⟩
  obtain ⟨rfl, rfl⟩ := y
  refine ⟨.d (.int (lo + (i : Nat))), ?_, .refl, S, .d (.int _)⟩
  rw [← l] at hi
  unfold rint
  rw [List.getElem?_map, List.getElem?_range hi]
  rfl
def mRange (As : Env → M (List D)) : Env → M (List D × Gd) := fun env st => (As env st).bind fun r => match r.1 with
  | [.d (.int j)] => if small62 j = true then some ((rint 0 j.toNat, none), r.2) else none
  | _ => none
def mRange2 (As : Env → M (List D)) : Env → M (List D × Gd) := fun env st => (As env st).bind fun r => match r.1 with
  | [.d (.int i), .d (.int j)] => if small62 i = true ∧ small62 j = true then some ((rint i (j - i).toNat, none), r.2) else none
  | _ => none
variable {b : Expr} {As : Env → M (List D)}
theorem xi_range1 {p : Pos} (hg : Gl X "range") (hm : X.mg "range" = none) (ha : XA X [a] As) (hs : starEach [a] X.env = [(false, eval a X.env)] := by rfl) : XI X tg (.Call (.Name "range" p) [a] [] pos) (mRange As) := PI.weak (pi_range1 hg hm ha hs) fun σ H R h => by
  obtain ⟨ρ, env, st, r, st', E, S, run, k⟩ := h
  obtain ⟨⟨x1, s1⟩, h1, run⟩ := bindS run
  refine ⟨ρ, env, st, x1, s1, E, S, h1, fun v H1 ρ1 e1 S1 r1 => ?_⟩
  split at run
  · rename_i j e'
    have e' : x1 = [.d (.int j)] := e'
    subst e'
    split at run
    · rename_i hj
      cases run
      cases r1 with
      | cons r1 r2 =>
        cases r2
        cases r1 with
        | d r1 =>
          cases r1
          have hj := of_decide_eq_true hj
          exact ⟨j, rfl, hj.1, hj.2, k H1 ρ1 _ e1 S1 wlk_range⟩
    · cases run
  · cases run
theorem xi_range2 {p : Pos} (hg : Gl X "range") (hm : X.mg "range" = none) (ha : XA X [a, b] As) (hs : starEach [a, b] X.env = [(false, eval a X.env), (false, eval b X.env)] := by rfl) (hs2 : starEach [b] X.env = [(false, eval b X.env)] := by rfl) :
    XI X tg (.Call (.Name "range" p) [a, b] [] pos) (mRange2 As) := PI.weak (pi_range2 hg hm ha hs hs2) fun σ H R h => by
  obtain ⟨ρ, env, st, r, st', E, S, run, k⟩ := h
  obtain ⟨⟨x1, s1⟩, h1, run⟩ := bindS run
  refine ⟨ρ, env, st, x1, s1, E, S, h1, fun v H1 ρ1 e1 S1 r1 => ?_⟩
  split at run
  · rename_i i j e'
    have e' : x1 = [.d (.int i), .d (.int j)] := e'
    subst e'
    split at run
    · rename_i hj
      cases run
      cases r1 with
      | cons r1 r2 =>
        cases r2 with
        | cons r2 r3 =>
          cases r3
          cases r1 with
          | d r1 =>
            cases r1
            cases r2 with
            | d r2 =>
              cases r2
              have h1 := of_decide_eq_true hj.1
              have h2 := of_decide_eq_true hj.2
              exact ⟨i, j, rfl, ⟨h1.1, h1.2, h2.1, h2.2⟩, k H1 ρ1 _ e1 S1 wlk_range⟩
    · cases run
  · cases run
/-! ### comprehensions -/
def wipeE (env : Env) : List Nat → Env
  | [] => env
  | v :: vs => (wipeE env vs).set v none
theorem ER.wipe {K : PySem.W.Frag} {ρ : List Addr} {H : Hp} {env : Env} {σ : L2.St} (E : ER K ρ H env σ) : ∀ vs : List Nat, ER K ρ H (wipeE env vs) (L2.wipe σ vs)
  | [] => E
  | v :: vs => by
    have ih := ER.wipe E vs
    unfold wipeE L2.wipe
    refine ⟨by simp [ih.len], fun i x q => ?_⟩
    by_cases e : i = v
    · subst e
      by_cases hl : i < (wipeE env vs).length
      · rw [List.getElem?_set_self hl] at q
        cases q
      · rw [List.getElem?_eq_none (by simpa using hl)] at q
        cases q
    · rw [List.getElem?_set_ne (Ne.symm e)] at q ⊢
      exact ih.get i x q
def appM (n : Nat) (y : D) (st : Store) : Option Store := match st[n]? with
  | some (.lst acc) => if acc.length < sizeLine then some (st.set n (.lst (acc ++ [y]))) else none
  | _ => none
noncomputable def lcM (n : Nat) (g : Gd) (G : D → Env → M Env) (T : Env → M Bool) (A : Env → M D) (env : Env) : List D → Store → Option Store
  | [], st => if holds g st then some st else none
  | x :: xs, st => if holds g st then (G x env st).bind fun r => (T r.1 r.2).bind fun b => if b.1 = true then (A r.1 b.2).bind fun y => (appM n y.1 y.2).bind fun st' => lcM n g G T A env xs st' else lcM n g G T A env xs b.2 else none
noncomputable def mLc (vs : List Nat) (I : Env → M (List D × Gd)) (G : D → Env → M Env) (T : Env → M Bool) (A : Env → M D) : Env → M D := fun env st => (I env st).bind fun r => (lcM r.2.length r.1.2 G T A (wipeE env vs) r.1.1 (r.2 ++ [.lst []])).map fun st' => (.ref r.2.length, st')
theorem lcM_holds {n : Nat} {g : Gd} {G : D → Env → M Env} {T : Env → M Bool} {A : Env → M D} {env : Env} {xs : List D} {st st' : Store} (h : lcM n g G T A env xs st = some st') : holds g st := by
  cases xs with
  | nil =>
    unfold lcM at h
    split at h
    · assumption
    · cases h
  | cons x xs =>
    unfold lcM at h
    split at h
    · assumption
    · cases h
theorem PTs.weak {X : Cx} {e : List Expr} {t t' : TT} (h : PTs X e t) (w : ∀ σ H Q, t' σ H Q → t σ H Q) : PTs X e t' := ⟨fun pins s σ H Q I q => h.run pins s σ H Q I (w _ _ _ q)⟩
abbrev XTs (X : Cx) (e : List Expr) (A : Env → M Bool) : Prop := PTs X e (cT X.K A)
def mYes : Env → M Bool := fun _ st => some (true, st)
theorem xts_nil : XTs X [] mYes := PTs.weak pts_nil fun σ H Q h => by
  obtain ⟨ρ, env, st, x, st', E, S, run, k⟩ := h
  cases run
  exact k H ρ .refl S
theorem xts_one {T : Env → M Bool} (h : XT X a T) : XTs X [a] T := pts_one h
theorem wipe_idem {j : Nat} : ∀ {vs : List Nat} {σ : L2.St}, j ∈ vs → (L2.wipe σ vs).set j none = L2.wipe σ vs
  | v :: vs, σ, h => by
    show ((L2.wipe σ vs).set v none).set j none = (L2.wipe σ vs).set v none
    by_cases e : j = v
    · subst e
      rw [List.set_set]
    · rw [List.set_comm _ _ (fun z => e z.symm), wipe_idem ((List.mem_cons.mp h).resolve_left e)]
theorem wipe_sub {vs : List Nat} {σ : L2.St} : ∀ {is : List Nat}, (∀ i ∈ is, i ∈ vs) → L2.wipe (L2.wipe σ vs) is = L2.wipe σ vs
  | [], _ => rfl
  | j :: is, hj => by
    show (L2.wipe (L2.wipe σ vs) is).set j none = L2.wipe σ vs
    rw [wipe_sub fun i h => hj i (List.mem_cons_of_mem _ h), wipe_idem (hj j List.mem_cons_self)]
theorem wipe_wipe {vs : List Nat} {σ : L2.St} : L2.wipe (L2.wipe σ vs) vs = L2.wipe σ vs := wipe_sub fun _ h => h
theorem lc_w {K : PySem.W.Frag} {vs : List Nat} {I : Env → M (List D × Gd)} {G : D → Env → M Env} {T : Env → M Bool} {A : Env → M D} {σ : L2.St} {H : Hp} {Q : VK} (h : cE K (mLc vs I G T A) σ H Q) : tLc (cI K I) (cG K (Ww vs) G) (cT K T) (cE K A) vs σ H Q := by
  obtain ⟨ρ0, env, st0, x, stE, R0, S0, run, k⟩ := h
  obtain ⟨⟨⟨xs, g⟩, s1⟩, h1, run⟩ := bindS run
  cases h2 : lcM s1.length g G T A (wipeE env vs) xs (s1 ++ [.lst []]) with
  | none =>
    simp only [h2] at run
    cases run
  | some s2 =>
    simp only [h2] at run
    cases run
    refine ⟨ρ0, env, st0, (xs, g), s1, R0, S0, h1, fun H1 ρ1 J e1 S1 w D0 hD => ?_⟩
    obtain ⟨GG, Y, wk, wg, wy⟩ := w.ex
    obtain ⟨S2, r2⟩ := push_lst (vs := []) (xs := []) S1 hD .nil
    have e2 := S1.ext_push (o := HO.lst []) hD
    have hat : (ρ1 ++ [D0])[s1.length]? = some D0 := by
      rw [← S1.len, List.getElem?_append_right (Nat.le_refl _), Nat.sub_self]
      rfl
    have RW := (R0.wipe vs).ext (e1.trans e2)
    refine lc_it wk (fun i H => ∃ ρ st, Ext (ρ1 ++ [D0]) (upd H1 D0 (.lst [])) ρ H ∧ SR K ρ H st ∧ lcM s1.length g G T A (wipeE env vs) (xs.drop i) st = some stE)
      ⟨_, _, .refl, S2, h2⟩ ?_ ?_ ?_
    · rintro i H _ ⟨ρ, st, e, S, r⟩
      exact wg ρ H st (e2.trans e) S (lcM_holds r)
    · rintro i v H H2 hi ⟨ρ, st, e, S, r⟩ y
      obtain ⟨x, hx, e3, S3, rx⟩ := wy i ρ H st v H2 (e2.trans e) S (lcM_holds r) hi y
      have hd : xs.drop i = x :: xs.drop (i + 1) := by
        rw [List.drop_eq_getElem_cons hi]
        congr 1
        rw [List.getElem?_eq_getElem hi] at hx
        exact Option.some.inj hx
      rw [hd] at r
      unfold lcM at r
      split at r
      case isFalse => cases r
      obtain ⟨⟨env1, st1⟩, g1, r⟩ := bindS r
      obtain ⟨⟨b, st2⟩, g2, r⟩ := bindS r
      refine ⟨ρ, wipeE env vs, st, x, env1, st1, RW.ext (e.trans e3), S3, rx, g1, fun σ4 H4 ρ4 w4 e4 S4 R4 => ⟨?_, ρ4, env1, st1, b, st2, R4, S4, g2, fun H5 ρ5 e5 S5 => ?_⟩⟩
      · exact w4.trans wipe_wipe
      · cases b with
        | false =>
          rw [if_neg Bool.false_ne_true] at r ⊢
          exact ⟨ρ5, st2, ((e.trans e3).trans e4).trans e5, S5, r⟩
        | true =>
          rw [if_pos rfl] at r ⊢
          obtain ⟨⟨y1, st3⟩, g3, r⟩ := bindS r
          obtain ⟨st4, g4, r⟩ := bindS r
          refine ⟨ρ5, env1, st2, y1, st3, R4.ext e5, S5, g3, fun v6 H6 ρ6 e6 S6 r6 => ?_⟩
          have e16 := (((e.trans e3).trans e4).trans e5).trans e6
          have at6 : ρ6[s1.length]? = some D0 := e16.get hat
          unfold appM at g4
          split at g4
          · rename_i acc q
            split at g4
            · rename_i hl
              cases g4
              obtain ⟨ws, q1, q2⟩ := S6.at at6 q
              have mD : D0 ∈ ρ6 := List.mem_of_getElem? at6
              refine ⟨ws, q1, by rw [Paired.length q2]; exact hl, ρ6, _, e16.trans (ext_set mD (nofrz_lst q1)), S6.set (c := .lst (acc ++ [y1])) at6 (nofrz_lst q1) ⟨ws ++ [v6], upd_same, ?_⟩, r⟩
              have go : ∀ {l : List V} {m : List D}, VXs K ρ6 (upd H6 D0 (.lst (ws ++ [v6]))) l m → VXs K ρ6 (upd H6 D0 (.lst (ws ++ [v6]))) (l ++ [v6]) (m ++ [y1]) := by
                intro l
                induction l with
                | nil =>
                  intro m h
                  cases h
                  exact .cons (r6.ext (ext_set mD (nofrz_lst q1))) .nil
                | cons a l ih =>
                  intro m h
                  cases h with
                  | cons r t => exact .cons r (ih t)
              exact go (VXs.ext (ext_set mD (nofrz_lst q1)) q2)
            · cases g4
          · cases g4
    · rintro H ⟨ρ, st, e, S, r⟩
      rw [List.drop_length] at r
      unfold lcM at r
      split at r
      case isFalse => cases r
      cases r
      exact k _ H ρ ((e1.trans e2).trans e) S (.ref (e.get hat))
end
end PM

set_option Elab.async false
set_option linter.all false
set_option maxRecDepth 100000
set_option autoImplicit false
/-! PM, part e: operations on values. -/
namespace PM
open PySem PySem.Spec PyProof.Rows L2
open Classical

section
variable {X : Cx}
theorem OpS.of {g : Value → Value → Sem Value} {f : D → D → M D} {r0 : R2} (h : OpR X g r0) (k : ∀ ρ st a b z st' x y H Q, SR X.K ρ H st → VX X.K ρ H x a → VX X.K ρ H y b → f a b st = some (z, st') → Cont X.K ρ H z st' Q → r0 x y H Q) : OpS X g f :=
  fun pins s σ H x y v u Q I rx ry ⟨ρ, st, a, b, z, st', S, ha, hb, run, c⟩ => h pins s σ H x y v u Q I rx ry (k ρ st a b z st' x y H Q S ha hb run c)
theorem IxS.of {f : D → D → M D} {r0 : R2} (h : IxR X r0) (k : ∀ ρ st a b z st' x y H Q, SR X.K ρ H st → VX X.K ρ H x a → VX X.K ρ H y b → f a b st = some (z, st') → Cont X.K ρ H z st' Q → r0 x y H Q) : IxS X f :=
  fun e1 e2 pins s σ H x y v u Q I rx ry ⟨ρ, st, a, b, z, st', S, ha, hb, run, c⟩ => h e1 e2 pins s σ H x y v u Q I rx ry (k ρ st a b z st' x y H Q S ha hb run c)
theorem CallS.of {g : Value} {f : List D → M D} {r0 : List V → Hp → VK → Prop} (h : CallR X g r0) (k : ∀ ρ st as z st' xs H Q, SR X.K ρ H st → VXs X.K ρ H xs as → f as st = some (z, st') → Cont X.K ρ H z st' Q → r0 xs H Q) : CallS X g f :=
  fun pins s σ H xs us Q I r ⟨ρ, st, as, z, st', S, ha, run, c⟩ => h pins s σ H xs us Q I r (k ρ st as z st' xs H Q S ha run c)
theorem MtS.of {id : String} {f : D → List D → M D} {r0 : V → List V → Hp → VK → Prop} (h : MtR X id r0) (k : ∀ ρ st a as z st' x xs H Q, SR X.K ρ H st → VX X.K ρ H x a → VXs X.K ρ H xs as → f a as st = some (z, st') → Cont X.K ρ H z st' Q → r0 x xs H Q) : MtS X id f :=
  fun pins s σ H x xs v us Q I rx r ⟨ρ, st, a, as, z, st', S, ha, hb, run, c⟩ => h pins s σ H x xs v us Q I rx r (k ρ st a as z st' x xs H Q S ha hb run c)
theorem SlS.of {f : D → Option Int → Option Int → M D} {r0 : V → Option Int → Option Int → Hp → VK → Prop} (h : SlR X r0) (k : ∀ ρ st a z st' x lo hi H Q, SR X.K ρ H st → VX X.K ρ H x a → f a lo hi st = some (z, st') → Cont X.K ρ H z st' Q → r0 x lo hi H Q) : SlS X f :=
  fun pins s σ H x v vl vu lo hi sl Q I rx a1 a2 a3 ⟨ρ, st, a, z, st', S, ha, run, c⟩ => h pins s σ H x v vl vu lo hi sl Q I rx a1 a2 a3 (k ρ st a z st' x lo hi H Q S ha run c)
theorem Cont.here {K : PySem.W.Frag} {ρ : List Addr} {H : Hp} {x : D} {st : Store} {Q : VK} {v : V} (k : Cont K ρ H x st Q) (S : SR K ρ H st) (h : VX K ρ H v x) : Q v H := k v H ρ .refl S h
theorem Cont.tup {K : PySem.W.Frag} {ρ : List Addr} {H : Hp} {st : Store} {Q : VK} {p : Addr} {vs : List V} {ds : List PyData} (k : Cont K ρ H (.d (.tuple ds)) st Q) (S : SR K ρ H st) (hp : H p = none) (h : DVs K ρ H vs ds) : Q (.ref p) (upd H p (.tup vs)) :=
  k _ _ ρ (ext_new hp) (S.data hp) (.d (tup_new S hp h))
theorem Cont.lst {K : PySem.W.Frag} {ρ : List Addr} {H : Hp} {st : Store} {Q : VK} {p : Addr} {vs : List V} {xs : List D} (k : Cont K ρ H (.ref st.length) (st ++ [.lst xs]) Q) (S : SR K ρ H st) (hp : H p = none) (h : VXs K ρ H vs xs) : Q (.ref p) (upd H p (.lst vs)) := by
  obtain ⟨a, b⟩ := push_lst S hp h
  exact k _ _ _ (S.ext_push hp) a b
/-! inversion of data -/
theorem vx_int {K : PySem.W.Frag} {ρ : List Addr} {H : Hp} {v : V} {i : Int} (h : VX K ρ H v (.d (.int i))) : v = .int i := by
  cases h with
  | d h => cases h; rfl
theorem vx_str {K : PySem.W.Frag} {ρ : List Addr} {H : Hp} {v : V} {i : Str} (h : VX K ρ H v (.d (.str i))) : v = .str i := by
  cases h with
  | d h => cases h; rfl
theorem vx_bool {K : PySem.W.Frag} {ρ : List Addr} {H : Hp} {v : V} {i : Bool} (h : VX K ρ H v (.d (.bool i))) : v = .bl i := by
  cases h with
  | d h => cases h; rfl
theorem vx_none {K : PySem.W.Frag} {ρ : List Addr} {H : Hp} {v : V} (h : VX K ρ H v (.d .none)) : v = .non := by
  cases h with
  | d h => cases h; rfl
theorem vx_tup {K : PySem.W.Frag} {ρ : List Addr} {H : Hp} {v : V} {ds : List PyData} (h : VX K ρ H v (.d (.tuple ds))) : ∃ p vs, v = .ref p ∧ TupAt K ρ H p vs ∧ DVs K ρ H vs ds := by
  cases h with
  | d h =>
    cases h with
    | tup h1 h2 => exact ⟨_, _, rfl, h1, h2⟩
/-- a list as it is read -/
def lstC : Option Cell → Option (List D)
  | some (.lst xs) => some xs
  | _ => none
def lstOf (st : Store) : D → Option (List D)
  | .d (.list ds) => some (ds.map D.d)
  | .ref n => lstC st[n]?
  | _ => none
theorem lstOf_sq {K : PySem.W.Frag} {ρ : List Addr} {H : Hp} {st : Store} {v : V} {a : D} {xs : List D} (S : SR K ρ H st) (h : VX K ρ H v a) (e : lstOf st a = some xs) : ∃ p vs, v = .ref p ∧ SqL K H p vs ∧ VXs K ρ H vs xs := by
  cases h with
  | d h =>
    cases h with
    | lst h1 h2 =>
      have e : some _ = some xs := e
      cases e
      exact ⟨_, _, rfl, h1.sq, vxs_map h2⟩
    | non => cases e
    | bl b => cases e
    | int i => cases e
    | str s => cases e
    | tup _ _ => cases e
  | ref h =>
    rename_i p n
    have e : lstC st[n]? = some xs := e
    unfold lstC at e
    split at e
    · rename_i ys q
      cases e
      obtain ⟨vs, q1, q2⟩ := S.at h q
      exact ⟨p, vs, rfl, .of q1, q2⟩
    · cases e
/-- a list or tuple as it is read -/
def seqOf (st : Store) : D → Option (List D)
  | .d (.tuple ds) => some (ds.map D.d)
  | a => lstOf st a
theorem seqOf_sq {K : PySem.W.Frag} {ρ : List Addr} {H : Hp} {st : Store} {v : V} {a : D} {xs : List D} (S : SR K ρ H st) (h : VX K ρ H v a) (e : seqOf st a = some xs) : ∃ p vs, v = .ref p ∧ (SqL K H p vs ∨ SqT K H p vs) ∧ VXs K ρ H vs xs := by
  unfold seqOf at e
  split at e
  · cases e
    obtain ⟨p, vs, rfl, h1, h2⟩ := vx_tup h
    exact ⟨p, vs, rfl, .inr h1.sq, vxs_map h2⟩
  · obtain ⟨p, vs, rfl, h1, h2⟩ := lstOf_sq S h e
    exact ⟨p, vs, rfl, .inl h1, h2⟩
/-! ### arithmetic -/
def iiF (f : Int → Int → Option PyData) : D → D → M D := fun a b st => match a, b with
  | .d (.int i), .d (.int j) => (f i j).map fun z => (.d z, st)
  | _, _ => none
theorem iiF_inv {f : Int → Int → Option PyData} {a b z : D} {st st' : Store} (h : iiF f a b st = some (z, st')) : ∃ i j w, a = .d (.int i) ∧ b = .d (.int j) ∧ f i j = some w ∧ z = .d w ∧ st' = st := by
  unfold iiF at h
  split at h
  · rename_i i j
    cases q : f i j with
    | none =>
      rw [q] at h
      cases h
    | some w =>
      rw [q] at h
      cases h
      exact ⟨i, j, w, rfl, rfl, q, rfl, rfl⟩
  · cases h
def addI : Int → Int → Option PyData := fun i j => some (.int (i + j))
def subF : D → D → M D := iiF fun i j => some (.int (i - j))
noncomputable def mulF : D → D → M D := iiF fun i j => if CMul i j then some (.int (i * j)) else none
def modF : D → D → M D := iiF fun i j => if 0 < j then some (.int (i % j)) else none
noncomputable def fdivF : D → D → M D := iiF fun i j => if CDiv i j then some (.int (i / j)) else none
noncomputable def powF : D → D → M D := iiF fun i j => if CPow i j then some (.int (i ^ j.toNat)) else none
theorem os_sub : OpS X (binaryOp .Sub) subF := OpS.of op_sub fun ρ st a b z st' x y H Q S ha hb run c => by
  obtain ⟨i, j, w, rfl, rfl, e, rfl, rfl⟩ := iiF_inv run
  cases e
  exact ⟨i, j, vx_int ha, vx_int hb, c.here S (.d (.int _))⟩
theorem os_mul : OpS X (binaryOp .Mult) mulF := OpS.of op_mul fun ρ st a b z st' x y H Q S ha hb run c => by
  obtain ⟨i, j, w, rfl, rfl, e, rfl, rfl⟩ := iiF_inv run
  split at e
  · rename_i hc
    cases e
    exact ⟨i, j, vx_int ha, vx_int hb, hc, c.here S (.d (.int _))⟩
  · cases e
theorem os_mod : OpS X (binaryOp .Mod) modF := OpS.of op_mod fun ρ st a b z st' x y H Q S ha hb run c => by
  obtain ⟨i, j, w, rfl, rfl, e, rfl, rfl⟩ := iiF_inv run
  split at e
  · rename_i hc
    cases e
    exact ⟨i, j, vx_int ha, vx_int hb, hc, c.here S (.d (.int _))⟩
  · cases e
theorem os_fdiv : OpS X (binaryOp .FloorDiv) fdivF := OpS.of op_fdiv fun ρ st a b z st' x y H Q S ha hb run c => by
  obtain ⟨i, j, w, rfl, rfl, e, rfl, rfl⟩ := iiF_inv run
  split at e
  · rename_i hc
    cases e
    exact ⟨i, j, vx_int ha, vx_int hb, hc, c.here S (.d (.int _))⟩
  · cases e
theorem os_pow : OpS X (binaryOp .Pow) powF := OpS.of op_pow fun ρ st a b z st' x y H Q S ha hb run c => by
  obtain ⟨i, j, w, rfl, rfl, e, rfl, rfl⟩ := iiF_inv run
  split at e
  · rename_i hc
    cases e
    exact ⟨i, j, vx_int ha, vx_int hb, hc, c.here S (.d (.int _))⟩
  · cases e
def negF : D → M D := fun a st => match a with
  | .d (.int i) => some (.d (.int (-i)), st)
  | _ => none
theorem us_neg : UnS X (unaryOp .USub) negF := fun pins s σ H x v Q I rx ⟨ρ, st, a, z, st', S, ha, run, c⟩ => un_neg pins s σ H x v Q I rx (by
  unfold negF at run
  split at run
  · rename_i i
    cases run
    exact ⟨i, vx_int ha, c.here S (.d (.int _))⟩
  · cases run)
def addF : D → D → M D := fun a b st => match a, b with
  | .d (.int i), .d (.int j) => some (.d (.int (i + j)), st)
  | .d (.str i), .d (.str j) => if fits (i.length + j.length) = true then some (.d (.str (i ++ j)), st) else none
  | .d (.tuple i), .d (.tuple j) => if fits (i.length + j.length) = true then some (.d (.tuple (i ++ j)), st) else none
  | .ref n, .ref m => match st[n]?, st[m]? with
    | some (.lst xs), some (.lst ys) => if fits (xs.length + ys.length) = true then some (.ref st.length, st ++ [.lst (xs ++ ys)]) else none
    | _, _ => none
  | _, _ => none
theorem DVs.app {K : PySem.W.Frag} {ρ : List Addr} {H : Hp} : ∀ {vs ws : List V} {ds es : List PyData}, DVs K ρ H vs ds → DVs K ρ H ws es → DVs K ρ H (vs ++ ws) (ds ++ es)
  | _, _, _, _, .nil, h => h
  | _, _, _, _, .cons r t, h => .cons r (DVs.app t h)
theorem VXs.app {K : PySem.W.Frag} {ρ : List Addr} {H : Hp} : ∀ {vs ws : List V} {ds es : List D}, VXs K ρ H vs ds → VXs K ρ H ws es → VXs K ρ H (vs ++ ws) (ds ++ es)
  | _, _, _, _, .nil, h => h
  | _, _, _, _, .cons r t, h => .cons r (VXs.app t h)
theorem os_add : OpS X (binaryOp .Add) addF := OpS.of (op_add.or (op_add_str.or (op_catA.or op_cat))) fun ρ st a b z st' x y H Q S ha hb run c => by
  unfold addF at run
  split at run
  · cases run
    exact .inl ⟨_, _, vx_int ha, vx_int hb, c.here S (.d (.int _))⟩
  · split at run
    · rename_i hf
      cases run
      exact .inr (.inl ⟨_, _, vx_str ha, vx_str hb, fits_of hf, c.here S (.d (.str _))⟩)
    · cases run
  · split at run
    · rename_i i j hf
      cases run
      obtain ⟨p, vs, rfl, h1, h2⟩ := vx_tup ha
      obtain ⟨q, ws, rfl, h3, h4⟩ := vx_tup hb
      refine .inr (.inr (.inl ⟨p, q, vs, ws, rfl, rfl, h1.sq, h3.sq, by rw [h2.len, h4.len]; exact fits_of hf, fun e => ?_, fun _ e => ?_, fun _ _ o ho => c.tup S ho (h2.app h4)⟩))
      · subst e
        cases h2
        exact c.here S (.d (.tup h3 h4))
      · subst e
        cases h4
        rw [List.append_nil] at c
        exact c.here S (.d (.tup h1 h2))
    · cases run
  · split at run
    · rename_i xs ys q1 q2
      split at run
      · rename_i hf
        cases run
        cases ha with
        | ref ha =>
          cases hb with
          | ref hb =>
            obtain ⟨vs, g1, g2⟩ := S.at ha q1
            obtain ⟨ws, g3, g4⟩ := S.at hb q2
            exact .inr (.inr (.inr ⟨_, _, vs, ws, rfl, rfl, g1, g3, by rw [Paired.length g2, Paired.length g4]; exact fits_of hf, fun p hp => c.lst S hp (g2.app g4)⟩))
      · cases run
    · cases run
  · cases run
theorem os_iadd : OpS X (inplaceOp .Add) (iiF addI) := OpS.of iop_add fun ρ st a b z st' x y H Q S ha hb run c => by
  obtain ⟨i, j, w, rfl, rfl, e, rfl, rfl⟩ := iiF_inv run
  cases e
  exact ⟨i, j, vx_int ha, vx_int hb, c.here S (.d (.int _))⟩
/-! ### comparisons -/
def ltF : D → D → M D := iiF fun i j => some (.bool (decide (i < j)))
def leF : D → D → M D := iiF fun i j => some (.bool (decide (i ≤ j)))
def gtF : D → D → M D := iiF fun i j => some (.bool (decide (j < i)))
theorem os_lt : OpS X (compareOp .Lt) ltF := OpS.of op_lt fun ρ st a b z st' x y H Q S ha hb run c => by
  obtain ⟨i, j, w, rfl, rfl, e, rfl, rfl⟩ := iiF_inv run
  cases e
  exact ⟨i, j, vx_int ha, vx_int hb, c.here S (.d (.bl _))⟩
theorem os_le : OpS X (compareOp .LtE) leF := OpS.of op_le fun ρ st a b z st' x y H Q S ha hb run c => by
  obtain ⟨i, j, w, rfl, rfl, e, rfl, rfl⟩ := iiF_inv run
  cases e
  exact ⟨i, j, vx_int ha, vx_int hb, c.here S (.d (.bl _))⟩
theorem os_gt : OpS X (compareOp .Gt) gtF := OpS.of op_gt fun ρ st a b z st' x y H Q S ha hb run c => by
  obtain ⟨i, j, w, rfl, rfl, e, rfl, rfl⟩ := iiF_inv run
  cases e
  exact ⟨i, j, vx_int ha, vx_int hb, c.here S (.d (.bl _))⟩
/-- data, lists of the store read -/
def pyOf (st : Store) : D → Option PyData
  | .d x => some x
  | .ref n => (lstC st[n]?).bind fun xs => (datas xs).map PyData.list
theorem pyOf_dp {K : PySem.W.Frag} {ρ : List Addr} {H : Hp} {st : Store} {v : V} {a : D} {x : PyData} (S : SR K ρ H st) (h : VX K ρ H v a) (e : pyOf st a = some x) : Dp K H v x := by
  cases h with
  | d h =>
    have e : some _ = some x := e
    cases e
    exact DV.dp _ _ h
  | ref h =>
    rename_i p n
    have e : (lstC st[n]?).bind (fun xs => (datas xs).map PyData.list) = some x := e
    obtain ⟨ys, h1, e⟩ := bindS e
    unfold lstC at h1
    split at h1
    · rename_i ys q
      cases h1
      obtain ⟨vs, q1, q2⟩ := S.at h q
      cases g : datas ys with
      | none =>
        rw [g] at e
        cases e
      | some ds =>
        rw [g] at e
        cases e
        exact .lst (.of q1) (DVs.dp _ _ (datas_vs q2 g))
    · cases h1
noncomputable def eqF : D → D → M D := fun a b st => match pyOf st a, pyOf st b with
  | some x, some y => if SeqAt.shaped x = true ∧ SeqAt.shaped y = true then some (.d (.bool (PyData.eqv x y)), st) else none
  | _, _ => none
noncomputable def neF : D → D → M D := fun a b st => match pyOf st a, pyOf st b with
  | some x, some y => if SeqAt.shaped x = true ∧ SeqAt.shaped y = true then some (.d (.bool (!PyData.eqv x y)), st) else none
  | _, _ => none
theorem os_eq (hu : X.A.units + 64 < cLine) : OpS X (compareOp .Eq) eqF := OpS.of (op_eqD hu) fun ρ st a b z st' x y H Q S ha hb run c => by
  unfold eqF at run
  split at run
  · rename_i d e q1 q2
    split at run
    · rename_i hs
      cases run
      exact ⟨d, e, pyOf_dp S ha q1, pyOf_dp S hb q2, hs.1, hs.2, c.here S (.d (.bl _))⟩
    · cases run
  · cases run
theorem os_ne (hu : X.A.units + 64 < cLine) : OpS X (compareOp .NotEq) neF := OpS.of (op_neD hu) fun ρ st a b z st' x y H Q S ha hb run c => by
  unfold neF at run
  split at run
  · rename_i d e q1 q2
    split at run
    · rename_i hs
      cases run
      exact ⟨d, e, pyOf_dp S ha q1, pyOf_dp S hb q2, hs.1, hs.2, c.here S (.d (.bl _))⟩
    · cases run
  · cases run
/-- x in a list; a sign in a text -/
noncomputable def inF (neg : Bool) : D → D → M D := fun a b st => match a, b with
  | .d (.str ⟨cs⟩), .d (.str z) => match cs.toList with
    | [c] => some (.d (.bool (if neg then !decide (c ∈ z.cps.toList) else decide (c ∈ z.cps.toList))), st)
    | _ => none
  | a, b => match pyOf st a, pyOf st b with
    | some x, some (.list ds) => if SeqAt.shaped x = true ∧ SeqAt.shaped (.list ds) = true then some (.d (.bool (if neg then !ds.any (fun z => PyData.eqv z x) else ds.any fun z => PyData.eqv z x)), st) else none
    | _, _ => none
theorem inF_inv {neg : Bool} {a b z : D} {st st' : Store} (h : inF neg a b st = some (z, st')) : st' = st ∧
    ((∃ c y, a = .d (.str ⟨#[c]⟩) ∧ b = .d (.str y) ∧ z = .d (.bool (if neg then !decide (c ∈ y.cps.toList) else decide (c ∈ y.cps.toList)))) ∨
     ∃ x ds, pyOf st a = some x ∧ pyOf st b = some (.list ds) ∧ SeqAt.shaped x = true ∧ SeqAt.shaped (.list ds) = true ∧ z = .d (.bool (if neg then !ds.any (fun z => PyData.eqv z x) else ds.any fun z => PyData.eqv z x))) := by
  unfold inF at h
  split at h
  · rename_i cs y
    split at h
    · rename_i c q
      cases h
      have e : cs = #[c] := by
        apply Array.toList_inj.mp
        rw [q]
      subst e
      exact ⟨rfl, .inl ⟨c, y, rfl, rfl, rfl⟩⟩
    · cases h
  · split at h
    · rename_i x ds q1 q2
      split at h
      · rename_i hs
        cases h
        exact ⟨rfl, .inr ⟨x, ds, q1, q2, hs.1, hs.2, rfl⟩⟩
      · cases h
    · cases h
theorem os_in (hu : X.A.units + 65 < cLine) : OpS X (compareOp .In) (inF false) := OpS.of (op_in_sign.or (op_inD hu)) fun ρ st a b z st' x y H Q S ha hb run c => by
  obtain ⟨rfl, ⟨k, w, rfl, rfl, rfl⟩ | ⟨d, ds, q1, q2, s1, s2, rfl⟩⟩ := inF_inv run
  · exact .inl ⟨k, w, vx_str ha, vx_str hb, c.here S (.d (.bl _))⟩
  · exact .inr ⟨d, ds, pyOf_dp S ha q1, pyOf_dp S hb q2, s1, s2, c.here S (.d (.bl _))⟩
theorem os_notIn (hu : X.A.units + 65 < cLine) : OpS X (compareOp .NotIn) (inF true) := OpS.of (op_notIn_sign.or (op_notInD hu)) fun ρ st a b z st' x y H Q S ha hb run c => by
  obtain ⟨rfl, ⟨k, w, rfl, rfl, rfl⟩ | ⟨d, ds, q1, q2, s1, s2, rfl⟩⟩ := inF_inv run
  · exact .inl ⟨k, w, vx_str ha, vx_str hb, c.here S (.d (.bl _))⟩
  · exact .inr ⟨d, ds, pyOf_dp S ha q1, pyOf_dp S hb q2, s1, s2, c.here S (.d (.bl _))⟩
/-- is None, is True -/
def isF (neg : Bool) : D → D → M D := fun a b st => match a, b with
  | .d (.bool i), .d (.bool j) => some (.d (.bool (if neg then !decide (i = j) else decide (i = j))), st)
  | .d .none, .d .none => some (.d (.bool (!neg)), st)
  | .d (.tuple _), .d .none => some (.d (.bool neg), st)
  | .d (.int _), .d .none => some (.d (.bool neg), st)
  | .d (.str _), .d .none => some (.d (.bool neg), st)
  | .d (.bool _), .d .none => some (.d (.bool neg), st)
  | _, _ => none
theorem os_is : OpS X (compareOp .Is) (isF false) := OpS.of (op_isBl.or op_isN) fun ρ st a b z st' x y H Q S ha hb run c => by
  unfold isF at run
  split at run
  · cases run
    exact .inl ⟨_, _, vx_bool ha, vx_bool hb, c.here S (.d (.bl _))⟩
  · cases run
    refine .inr ⟨vx_none hb, ?_⟩
    rw [vx_none ha]
    exact c.here S (.d (.bl _))
  · cases run
    refine .inr ⟨vx_none hb, ?_⟩
    obtain ⟨p, vs, rfl, _, _⟩ := vx_tup ha
    exact c.here S (.d (.bl _))
  · cases run
    refine .inr ⟨vx_none hb, ?_⟩
    rw [vx_int ha]
    exact c.here S (.d (.bl _))
  · cases run
    refine .inr ⟨vx_none hb, ?_⟩
    rw [vx_str ha]
    exact c.here S (.d (.bl _))
  · cases run
    refine .inr ⟨vx_none hb, ?_⟩
    rw [vx_bool ha]
    exact c.here S (.d (.bl _))
  · cases run
theorem os_isnot : OpS X (compareOp .IsNot) (isF true) := OpS.of (op_notBl.or op_notN) fun ρ st a b z st' x y H Q S ha hb run c => by
  unfold isF at run
  split at run
  · cases run
    exact .inl ⟨_, _, vx_bool ha, vx_bool hb, c.here S (.d (.bl _))⟩
  · cases run
    refine .inr ⟨vx_none hb, ?_⟩
    rw [vx_none ha]
    exact c.here S (.d (.bl _))
  · cases run
    refine .inr ⟨vx_none hb, ?_⟩
    obtain ⟨p, vs, rfl, _, _⟩ := vx_tup ha
    exact c.here S (.d (.bl _))
  · cases run
    refine .inr ⟨vx_none hb, ?_⟩
    rw [vx_int ha]
    exact c.here S (.d (.bl _))
  · cases run
    refine .inr ⟨vx_none hb, ?_⟩
    rw [vx_str ha]
    exact c.here S (.d (.bl _))
  · cases run
    refine .inr ⟨vx_none hb, ?_⟩
    rw [vx_bool ha]
    exact c.here S (.d (.bl _))
  · cases run
/-! ### items and slices -/
theorem vxs_get {K : PySem.W.Frag} {ρ : List Addr} {H : Hp} {vs : List V} {xs : List D} {i : Nat} {x : D} (h : VXs K ρ H vs xs) (e : xs[i]? = some x) : ∃ v, vs[i]? = some v ∧ VX K ρ H v x := paired_get h e
theorem atI_of {K : PySem.W.Frag} {ρ : List Addr} {H : Hp} {vs : List V} {xs : List D} {i : Int} {x : D} (h : VXs K ρ H vs xs) (e : atI xs i = some x) : ∃ v, atI vs i = some v ∧ VX K ρ H v x := by
  unfold atI at e ⊢
  rw [Paired.length h]
  cases q : ixN xs.length i with
  | none =>
    rw [q] at e
    cases e
  | some j =>
    rw [q] at e
    exact vxs_get h e
def ixF : D → D → M D := fun a b st => match b with
  | .d (.int i) => match a with
    | .d (.str z) => if fits z.length = true then (atI z.cps.toList i).map fun c => (.d (.str ⟨#[c]⟩), st) else none
    | a => (seqOf st a).bind fun xs => (atI xs i).map fun x => (x, st)
  | _ => none
theorem is_ix : IxS X ixF := IxS.of ix_seq fun ρ st a b z st' x y H Q S ha hb run c => by
  unfold ixF at run
  split at run
  · rename_i i
    split at run
    · rename_i w
      split at run
      · rename_i hf
        cases q : atI w.cps.toList i with
        | none =>
          rw [q] at run
          cases run
        | some k =>
          rw [q] at run
          cases run
          exact .inr (.inr ⟨w, i, k, vx_str ha, vx_int hb, fits_of hf, q, c.here S (.d (.str _))⟩)
      · cases run
    · obtain ⟨xs, h1, run⟩ := bindS run
      cases q : atI xs i with
      | none =>
        rw [q] at run
        cases run
      | some k =>
        rw [q] at run
        cases run
        obtain ⟨p, vs, rfl, sq, r⟩ := seqOf_sq S ha h1
        obtain ⟨v, e1, r1⟩ := atI_of r q
        rcases sq with sq | sq
        · exact .inl ⟨p, vs, i, v, rfl, vx_int hb, sq, e1, c.here S r1⟩
        · exact .inr (.inl ⟨p, vs, i, v, rfl, vx_int hb, sq, e1, c.here S r1⟩)
  · cases run
def cutD {α : Type} (xs : List α) (lo hi : Option Int) : List α := (xs.drop (HT.sIx xs.length 0 lo)).take (HT.sIx xs.length xs.length hi - HT.sIx xs.length 0 lo)
theorem vxs_drop {K : PySem.W.Frag} {ρ : List Addr} {H : Hp} : ∀ {vs : List V} {xs : List D} (n : Nat), VXs K ρ H vs xs → VXs K ρ H (vs.drop n) (xs.drop n)
  | _, _, 0, h => h
  | _, _, n + 1, .nil => .nil
  | _, _, n + 1, .cons _ t => vxs_drop n t
theorem vxs_take {K : PySem.W.Frag} {ρ : List Addr} {H : Hp} : ∀ {vs : List V} {xs : List D} (n : Nat), VXs K ρ H vs xs → VXs K ρ H (vs.take n) (xs.take n)
  | _, _, 0, h => .nil
  | _, _, n + 1, .nil => .nil
  | _, _, n + 1, .cons r t => .cons r (vxs_take n t)
theorem dvs_drop {K : PySem.W.Frag} {ρ : List Addr} {H : Hp} : ∀ {vs : List V} {xs : List PyData} (n : Nat), DVs K ρ H vs xs → DVs K ρ H (vs.drop n) (xs.drop n)
  | _, _, 0, h => h
  | _, _, n + 1, .nil => .nil
  | _, _, n + 1, .cons _ t => dvs_drop n t
theorem dvs_take {K : PySem.W.Frag} {ρ : List Addr} {H : Hp} : ∀ {vs : List V} {xs : List PyData} (n : Nat), DVs K ρ H vs xs → DVs K ρ H (vs.take n) (xs.take n)
  | _, _, 0, h => .nil
  | _, _, n + 1, .nil => .nil
  | _, _, n + 1, .cons r t => .cons r (dvs_take n t)
def slF : D → Option Int → Option Int → M D := fun a lo hi st => match a with
  | .d (.str z) => if fits z.length = true then some (.d (.str (cutS z lo hi)), st) else none
  | .d (.tuple ds) => some (.d (.tuple (cutD ds lo hi)), st)
  | a => (lstOf st a).map fun xs => (.ref st.length, st ++ [.lst (cutD xs lo hi)])
theorem ss_sl : SlS X slF := SlS.of (sl_str.or (sl_tupA.or sl_list)) fun ρ st a z st' x lo hi H Q S ha run c => by
  unfold slF at run
  split at run
  · rename_i w
    split at run
    · rename_i hf
      cases run
      exact .inl ⟨w, vx_str ha, fits_of hf, c.here S (.d (.str _))⟩
    · cases run
  · rename_i ds
    cases run
    obtain ⟨p, vs, rfl, h1, h2⟩ := vx_tup ha
    refine .inr (.inl ⟨p, vs, rfl, h1.sq, fun e => ?_, fun _ o ho => c.tup S ho ?_⟩)
    · have el := h2.len
      rw [el] at e
      have : cutD ds lo hi = ds := by
        unfold cutD
        rw [e.1, e.2]
        simp
      rw [this] at c
      exact c.here S (.d (.tup h1 h2))
    · unfold cutD cutV
      rw [h2.len]
      exact dvs_take _ (dvs_drop _ h2)
  · cases q : lstOf st a with
    | none =>
      rw [q] at run
      cases run
    | some xs =>
      rw [q] at run
      cases run
      obtain ⟨p, vs, rfl, sq, r⟩ := lstOf_sq S ha q
      refine .inr (.inr ⟨p, vs, rfl, sq, fun o ho => c.lst S ho ?_⟩)
      unfold cutD cutV
      rw [Paired.length r]
      exact vxs_take _ (vxs_drop _ r)
/-! ### built-in calls -/
def lenF : List D → M D := fun as st => match as with
  | [.d (.str z)] => if fits z.length = true then some (.d (.int z.length), st) else none
  | [a] => (seqOf st a).map fun xs => (.d (.int xs.length), st)
  | _ => none
theorem cs_len : CallS X (.builtin "len") lenF := CallS.of call_len fun ρ st as z st' xs H Q S ha run c => by
  unfold lenF at run
  split at run
  · rename_i w
    split at run
    · rename_i hf
      cases run
      cases ha with
      | cons r t =>
        cases t
        exact ⟨.str w, w.length, by rw [vx_str r], ⟨fits_of hf, rfl⟩, c.here S (.d (.int _))⟩
    · cases run
  · rename_i a _
    cases q : seqOf st a with
    | none =>
      rw [q] at run
      cases run
    | some ys =>
      rw [q] at run
      cases run
      cases ha with
      | cons r t =>
        cases t
        obtain ⟨p, vs, rfl, sq, r⟩ := seqOf_sq S r q
        refine ⟨_, vs.length, rfl, ?_, ?_⟩
        · rcases sq with sq | sq
          · exact .inl ⟨vs, sq, rfl⟩
          · exact .inr ⟨vs, sq, rfl⟩
        · rw [Paired.length r]
          exact c.here S (.d (.int _))
  · cases run
def intF : List D → M D := fun as st => match as with
  | [.d (.int i)] => some (.d (.int i), st)
  | [.d (.bool b)] => some (.d (.int (if b then 1 else 0)), st)
  | _ => none
theorem cs_int : CallS X (.type "int") intF := CallS.of call_int1 fun ρ st as z st' xs H Q S ha run c => by
  unfold intF at run
  split at run
  · cases run
    cases ha with
    | cons r t =>
      cases t
      exact .inl ⟨_, by rw [vx_int r], c.here S (.d (.int _))⟩
  · cases run
    cases ha with
    | cons r t =>
      cases t
      exact .inr ⟨_, by rw [vx_bool r], c.here S (.d (.int _))⟩
  · cases run
def listF : List D → M D := fun as st => match as with
  | [a] => (seqOf st a).map fun xs => (.ref st.length, st ++ [.lst xs])
  | _ => none
theorem cs_list : CallS X (.type "list") listF := CallS.of call_list_of fun ρ st as z st' xs H Q S ha run c => by
  unfold listF at run
  split at run
  · rename_i a
    cases q : seqOf st a with
    | none =>
      rw [q] at run
      cases run
    | some ys =>
      rw [q] at run
      cases run
      cases ha with
      | cons r t =>
        cases t
        obtain ⟨p, vs, rfl, sq, r⟩ := seqOf_sq S r q
        exact ⟨p, vs, rfl, sq, fun o ho => c.lst S ho r⟩
  · cases run
def tupleF : List D → M D := fun as st => match as with
  | [.d (.tuple ds)] => some (.d (.tuple ds), st)
  | [a] => (lstOf st a).bind fun xs => (datas xs).map fun ds => (.d (.tuple ds), st)
  | _ => none
theorem cs_tuple : CallS X (.type "tuple") tupleF := CallS.of call_tuple_of fun ρ st as z st' xs H Q S ha run c => by
  unfold tupleF at run
  split at run
  · cases run
    cases ha with
    | cons r t =>
      cases t
      obtain ⟨p, vs, rfl, h1, h2⟩ := vx_tup r
      exact ⟨p, vs, rfl, .inr ⟨h1.sq, c.here S (.d (.tup h1 h2))⟩⟩
  · rename_i a _
    obtain ⟨ys, h1, run⟩ := bindS run
    cases q : datas ys with
    | none =>
      rw [q] at run
      cases run
    | some ds =>
      rw [q] at run
      cases run
      cases ha with
      | cons r t =>
        cases t
        obtain ⟨p, vs, rfl, sq, r⟩ := lstOf_sq S r h1
        exact ⟨p, vs, rfl, .inl ⟨sq, fun o ho => c.tup S ho (datas_vs r q)⟩⟩
  · cases run
def intsOf : List D → Option (List Int)
  | [] => some []
  | .d (.int i) :: r => (intsOf r).map (i :: ·)
  | _ => none
theorem intsOf_vs {K : PySem.W.Frag} {ρ : List Addr} {H : Hp} : ∀ {xs : List D} {vs : List V} {ns : List Int}, VXs K ρ H vs xs → intsOf xs = some ns → vs = ns.map V.int
  | [], _, _, .nil, e => by cases e; rfl
  | .d (.int i) :: r, _, ns, .cons h t, e => by
    unfold intsOf at e
    cases q : intsOf r with
    | none =>
      rw [q] at e
      cases e
    | some l =>
      rw [q] at e
      cases e
      rw [vx_int h, intsOf_vs t q]
      rfl
def sumF : List D → M D := fun as st => match as with
  | [a] => (lstOf st a).bind fun xs => (intsOf xs).map fun ns => (.d (.int ns.sum), st)
  | _ => none
theorem cs_sum (hc : X.calm = true) : CallS X (.builtin "sum") sumF := CallS.of (cr_sum hc) fun ρ st as z st' xs H Q S ha run c => by
  unfold sumF at run
  split at run
  · obtain ⟨ys, h1, run⟩ := bindS run
    cases q : intsOf ys with
    | none =>
      rw [q] at run
      cases run
    | some ns =>
      rw [q] at run
      cases run
      cases ha with
      | cons r t =>
        cases t
        obtain ⟨p, vs, rfl, sq, r⟩ := lstOf_sq S r h1
        rw [intsOf_vs r q] at sq
        exact ⟨p, ns, rfl, sq, c.here S (.d (.int _))⟩
  · cases run
/-! ### truth -/
def truF (st : Store) : D → Option Bool
  | .d .none => some false
  | .d (.bool b) => some b
  | .d (.int i) => some (i != 0)
  | .d (.str z) => if fits z.length = true then some ((z.length : Int) != 0) else none
  | a => (seqOf st a).map fun xs => !xs.isEmpty
def mTru (A : Env → M D) : Env → M Bool := fun env st => (A env st).bind fun r => (truF r.2 r.1).map fun b => (b, r.2)
variable {a : Expr} {A : Env → M D}
theorem isEmpty_vx {K : PySem.W.Frag} {ρ : List Addr} {H : Hp} {vs : List V} {xs : List D} (h : VXs K ρ H vs xs) : vs.isEmpty = xs.isEmpty := by
  cases h <;> rfl
theorem xt_tru (ha : XE X a A) (he : ∀ whole, isTrue a X.env whole = (do let v ← whole; standAt a.pos; holding [v] (truthy v)) := by intro _; rfl) : XT X a (mTru A) := PT.weak (pt_truth ha he) fun σ H Q h => by
  obtain ⟨ρ, env, st, x, st', E, S, run, k⟩ := h
  obtain ⟨⟨x1, s1⟩, h1, run⟩ := bindS run
  cases q : truF s1 x1 with
  | none =>
    simp only [q] at run
    cases run
  | some b =>
    simp only [q] at run
    cases run
    refine ⟨ρ, env, st, x1, st', E, S, h1, fun v H1 ρ1 e1 S1 r1 => ⟨x, ?_, k H1 ρ1 e1 S1⟩⟩
    unfold truF at q
    split at q
    · cases q
      rw [vx_none r1]
      rfl
    · cases q
      rw [vx_bool r1]
      rfl
    · cases q
      rw [vx_int r1]
      rfl
    · split at q
      · rename_i hf
        cases q
        rw [vx_str r1]
        exact ⟨fits_of hf, rfl⟩
      · cases q
    · cases g : seqOf st' x1 with
      | none =>
        rw [g] at q
        cases q
      | some ys =>
        rw [g] at q
        cases q
        obtain ⟨p, vs, rfl, sq, r⟩ := seqOf_sq S1 r1 g
        rcases sq with sq | sq
        · exact .inl ⟨vs, sq, by rw [isEmpty_vx r]⟩
        · exact .inr (.inl ⟨vs, sq, by rw [isEmpty_vx r]⟩)
end
end PM

set_option Elab.async false
set_option linter.all false
set_option maxRecDepth 100000
set_option autoImplicit false
/-! PM, part f: sorting, classes, order of tuples, methods, dicts. -/
namespace PM
open PySem PySem.Spec PyProof.Rows L2
open Classical

/-! ### sorted -/
def alikeB (ds : List PyData) : Bool := ds.all fun d => ds.all fun e => PySem.W.alike d e
def tup1 : PyData → Bool
  | .tuple (_ :: _) => true
  | _ => false
def noTup : PyData → Bool
  | .none => false
  | .tuple _ => false
  | _ => true
def sortB (ds : List PyData) : Bool := alikeB ds && (ds.all tup1 || ds.all noTup) && ds.all (fun d => decide (d.depth ≤ 40)) && fits ds.length
theorem sortB_of {ds : List PyData} (h : sortB ds = true) : PySem.W.AllAlike ds ∧ PySem.W.Sortable ds ∧ (∀ d ∈ ds, d.depth ≤ 40) ∧ ds.length ≤ sizeLine := by
  unfold sortB at h
  simp only [Bool.and_eq_true, Bool.or_eq_true, List.all_eq_true, decide_eq_true_eq] at h
  obtain ⟨⟨⟨h1, h2⟩, h3⟩, h4⟩ := h
  refine ⟨fun d hd e he => ?_, ?_, h3, fits_of h4⟩
  · unfold alikeB at h1
    exact (List.all_eq_true.mp (List.all_eq_true.mp h1 d hd)) e he
  · rcases h2 with h2 | h2
    · refine .inl fun d hd => ?_
      have := h2 d hd
      unfold tup1 at this
      split at this
      · exact ⟨_, _, rfl⟩
      · cases this
    · refine .inr fun d hd => ?_
      have := h2 d hd
      unfold noTup at this
      split at this
      · cases this
      · cases this
      · rename_i a b
        exact ⟨a, fun xs e => b xs e⟩
def sortD (ds : List PyData) : List PyData := ds.mergeSort (PySem.W.dataLe false id)
def sortedF : List D → M D := fun as st => match as with
  | [a] => (lstOf st a).bind fun xs => (datas xs).bind fun ds => if sortB ds = true then some (.ref st.length, st ++ [.lst ((sortD ds).map D.d)]) else none
  | _ => none
section
variable {X : Cx} {pins : List (Addr × Obj)} {σ : L2.St} {H : Hp} {s : Shared}
theorem each_of {K : PySem.W.Frag} {ρ : List Addr} : ∀ {vs : List V} {us : List Value} {ds : List PyData}, Vals vs us → DVs K ρ H vs ds → PySem.W.EachIs (fun u d => ∃ v, RelV v u ∧ DV K ρ H v d) us ds
  | _, _, _, .nil, .nil => .nil
  | _, _, _, .cons r t, .cons h q => .cons ⟨_, r, h⟩ (each_of t q)
theorem of_each {K : PySem.W.Frag} {ρ : List Addr} : ∀ {us : List Value} {ds : List PyData}, PySem.W.EachIs (fun u d => ∃ v, RelV v u ∧ DV K ρ H v d) us ds → ∃ vs, Vals vs us ∧ DVs K ρ H vs ds
  | _, _, .nil => ⟨[], .nil, .nil⟩
  | _, _, .cons ⟨v, r, h⟩ t => by
    obtain ⟨vs, a, b⟩ := of_each t
    exact ⟨v :: vs, .cons r a, .cons h b⟩
theorem each_reads (I : Inv X pins σ H s) {ρ : List Addr} : ∀ {us : List Value} {ds : List PyData}, PySem.W.EachIs (fun u d => ∃ v, RelV v u ∧ DV X.K ρ H v d) us ds → PySem.W.EachIs (fun v b => ∃ as, Reads s.heap v (id b) as) us ds
  | _, _, .nil => .nil
  | _, _, .cons ⟨v, r, h⟩ t => .cons (Dp.reads I _ _ _ (DV.dp _ _ h) r) (each_reads I t)
theorem each_len {α β : Type} {R : α → β → Prop} : ∀ {us : List α} {ds : List β}, PySem.W.EachIs R us ds → us.length = ds.length
  | _, _, .nil => rfl
  | _, _, .cons _ t => by rw [List.length_cons, List.length_cons, each_len t]
theorem cs_sorted (hu : X.A.units + 64 < cLine) : CallS X (.builtin "sorted") sortedF := fun pins s σ H xs us Q I r ⟨ρ, st, as, z, st', S, ha, run, c⟩ => by
  unfold sortedF at run
  split at run
  case h_2 => cases run
  rename_i a
  obtain ⟨ys, h1, run⟩ := bindS run
  obtain ⟨ds, h2, run⟩ := bindS run
  split at run
  case isFalse => cases run
  rename_i hs
  cases run
  obtain ⟨al, so, de, sz⟩ := sortB_of hs
  cases ha with
  | cons ra ta =>
    cases ta
    obtain ⟨p, vs, rfl, sq, rv⟩ := lstOf_sq S ra h1
    obtain ⟨u, rfl, ru⟩ := vals1 r
    cases ru
    obtain ⟨its, rits, pl, _⟩ := I.list sq
    have dv := datas_vs rv h2
    have e := each_of rits dv
    refine PySem.W.sorted_data (enc := id) pl.isList e (each_reads I e) (by rw [List.map_id]; exact al) (by rw [List.map_id]; exact so) sz (fun b hb => by have := de b hb; show X.A.units + 2 + b.depth < cLine; omega) fun out hl he => ?_
    obtain ⟨k, hk⟩ := PyProof.Rows.sortedAll_at s.heap its out.toArray
    obtain ⟨ws, w1, w2⟩ := of_each he
    have hn : H (s.heap.objs.size + 1) = none := I.hok.fresh (Nat.le_succ _)
    have I1 : Inv X pins σ (upd H (s.heap.objs.size + 1) (.lst ws)) { s with heap := PyProof.Rows.sortedAll s.heap its out.toArray } :=
      I.laid (t' := s.toks) (fun b o q => PyProof.Rows.sortedAll_old q) (Nat.le_succ _) ⟨by rw [w1.length, hl]; exact sz, out, k, w1, hk⟩
    exact ⟨.ref _, _, I1, rfl, c.lst S hn (vxs_map w2)⟩
end
/-! ### isinstance -/
def tyN (st : Store) : D → Option String
  | .d .none => some "NoneType"
  | .d (.bool _) => some "bool"
  | .d (.int _) => some "int"
  | .d (.str _) => some "str"
  | .d (.tuple _) => some "tuple"
  | .d (.list _) => some "list"
  | .ref n => match st[n]? with
    | some (.lst _) => some "list"
    | some (.dK false _) => some "dict"
    | some (.dT false _) => some "dict"
    | _ => none
  | _ => none
def isiT (T : String) (a : String) : Bool := a == T || (a == "bool" && T == "int")
def mIsi (T : String) (A : Env → M D) : Env → M D := fun env st => (A env st).bind fun r => (tyN r.2 r.1).map fun a => (.d (.bool (isiT T a)), r.2)
theorem tyN_x {K : PySem.W.Frag} {ρ : List Addr} {H : Hp} {st : Store} {v : V} {a : D} {t : String} (S : SR K ρ H st) (h : VX K ρ H v a) (e : tyN st a = some t) : TyX K H v (.type t) ∧ t ∈ ["NoneType", "bool", "int", "str", "tuple", "list", "dict"] := by
  unfold tyN at e
  split at e
  · cases e
    rw [vx_none h]
    exact ⟨.base .non, by decide⟩
  · cases e
    rw [vx_bool h]
    exact ⟨.base (.bl _), by decide⟩
  · cases e
    rw [vx_int h]
    exact ⟨.base (.int _), by decide⟩
  · cases e
    rw [vx_str h]
    exact ⟨.base (.str _), by decide⟩
  · cases e
    obtain ⟨p, vs, rfl, h1, h2⟩ := vx_tup h
    exact ⟨.base (.tup h1.1), by decide⟩
  · cases e
    cases h with
    | d h =>
      cases h with
      | lst h1 h2 =>
        refine ⟨?_, by decide⟩
        rcases h1 with ⟨h1 | ⟨o, h1⟩, _⟩ | h1
        · exact .base (.lst h1)
        · exact .base (.frz h1)
        · rcases h1 with (h1 | ⟨o, h1⟩) | ⟨o, its, n, hk, hc, _⟩
          · cases h1
          · cases h1
          · exact .kList hk hc
  · split at e
    · rename_i q
      cases e
      cases h with
      | ref h =>
        obtain ⟨vs, g1, _⟩ := S.at h q
        exact ⟨.base (.lst g1), by decide⟩
    · rename_i q
      cases e
      cases h with
      | ref h =>
        obtain ⟨vs, g1, _⟩ := S.at h q
        exact ⟨.base (.dK g1), by decide⟩
    · rename_i q
      cases e
      cases h with
      | ref h =>
        obtain ⟨vs, g1, _⟩ := S.at h q
        exact ⟨.base (.dT g1), by decide⟩
    · cases e
  · cases e
def KitT (T : String) : Prop := ∀ a ∈ ["NoneType", "bool", "int", "str", "tuple", "list", "dict"], kitB a T = some (isiT T a)
theorem kit_int : KitT "int" := by unfold KitT; decide +kernel
theorem kit_bool : KitT "bool" := by unfold KitT; decide +kernel
theorem kit_str : KitT "str" := by unfold KitT; decide +kernel
theorem kit_tuple : KitT "tuple" := by unfold KitT; decide +kernel
theorem kit_list : KitT "list" := by unfold KitT; decide +kernel
section
variable {X : Cx} {a b : Expr} {A B : Env → M D} {p q pos : Pos}
theorem xe_isi {T : String} {x : Str} (kt : KitT T) (hg : Gl X "isinstance") (hm : X.mg "isinstance" = none) (hv : bootBuiltins "isinstance" = some (.builtin "isinstance")) (ha : XE X a A) (hg2 : Gl X x) (hm2 : X.mg x = none) (hv2 : bootBuiltins x = some (.type T))
    (hn2 : x ≠ "__name__" := by decide) (hd2 : (x == ("__debug__" : Str)) = false := by decide)
    (hs1 : starEach (a :: [.Name x q]) X.env = (false, eval a X.env) :: starEach [.Name x q] X.env := by rfl) (hs2 : starEach ([.Name x q] : List Expr) X.env = (false, eval (.Name x q) X.env) :: starEach [] X.env := by rfl)
    (hpl : (backTo pos (starEach [.Name x q] X.env)).any (·.1) = false := by rfl) : XE X (.Call (.Name "isinstance" p) [a, .Name x q] [] pos) (mIsi T A) :=
  PE.weak (pe_callB call_isi hg hm hv (pa_cons ha (pa_cons (pe_bltn (v := .ty T) hg2 hm2 hv2 rfl hn2 hd2) pa_nil hs2) hs1) (by decide) (by decide) hs1 hpl) fun σ H Q h => by
    obtain ⟨ρ, env, st, x, st', E, S, run, k⟩ := h
    obtain ⟨⟨x1, s1⟩, h1, run⟩ := bindS run
    cases g : tyN s1 x1 with
    | none =>
      simp only [g] at run
      cases run
    | some t =>
      simp only [g] at run
      cases run
      refine ⟨ρ, env, st, x1, st', E, S, h1, fun v H1 ρ1 e1 S1 r1 => ?_⟩
      obtain ⟨ty, ht⟩ := tyN_x S1 r1 g
      exact ⟨v, .ty T, _, _, _, rfl, .ty T, ty, kit_ty (kt t ht), k _ H1 ρ1 e1 S1 (.d (.bl _))⟩
end
/-! ### >= of numbers and of tuples of numbers and texts -/
def geA : PyData → PyData → Option Bool
  | .int i, .int j => some (decide (j ≤ i))
  | .str x, .str y => some (!decide (x.cps.toList < y.cps.toList))
  | _, _ => none
def geAt (xs ys : List PyData) (j : Nat) : Bool := (geA (xs.getD j .none) (ys.getD j .none)).getD false
def eqAtB (xs ys : List PyData) (j : Nat) : Bool := PyData.eqv (xs.getD j .none) (ys.getD j .none)
def geOk : List PyData → List PyData → Bool
  | [], [] => true
  | x :: xs, y :: ys => (geA x y).isSome && geOk xs ys
  | _, _ => false
def geT (xs ys : List PyData) : Bool := Ob.lexAt (eqAtB xs ys) (geAt xs ys) (decide (xs.length ≥ ys.length)) 0 (min xs.length ys.length)
def geF : D → D → M D := fun a b st => match a, b with
  | .d (.int i), .d (.int j) => some (.d (.bool (decide (j ≤ i))), st)
  | .d (.tuple xs), .d (.tuple ys) => if geOk xs ys = true then some (.d (.bool (geT xs ys)), st) else none
  | _, _ => none
section
variable {X : Cx}
theorem geOk_len : ∀ {xs ys : List PyData}, geOk xs ys = true → xs.length = ys.length
  | [], [], _ => rfl
  | x :: xs, y :: ys, h => by
    have := (Bool.and_eq_true_iff.mp h).2
    rw [List.length_cons, List.length_cons, geOk_len this]
  | [], _ :: _, h => by cases h
  | _ :: _, [], h => by cases h
theorem geOk_at : ∀ {xs ys : List PyData} (j : Nat), geOk xs ys = true → j < xs.length → (geA (xs.getD j .none) (ys.getD j .none)).isSome = true
  | [], [], j, _, hj => absurd hj (by simp)
  | x :: xs, y :: ys, 0, h, _ => (Bool.and_eq_true_iff.mp h).1
  | x :: xs, y :: ys, j + 1, h, hj => geOk_at (xs := xs) (ys := ys) j (Bool.and_eq_true_iff.mp h).2 (by simpa using hj)
  | [], _ :: _, _, h, _ => by cases h
  | _ :: _, [], _, h, _ => by cases h
theorem dvs_at {K : PySem.W.Frag} {ρ : List Addr} {H : Hp} : ∀ {vs : List V} {us : List Value} {ds : List PyData} (j : Nat), Vals vs us → DVs K ρ H vs ds → j < ds.length → ∃ v u, us[j]? = some u ∧ RelV v u ∧ DV K ρ H v (ds.getD j .none)
  | _, _, _, 0, .cons r t, .cons h q, _ => ⟨_, _, rfl, r, h⟩
  | _, _, _, j + 1, .cons r t, .cons h q, hj => by
    obtain ⟨v, u, a, b, c⟩ := dvs_at j t q (by simpa using hj)
    exact ⟨v, u, by simpa using a, b, by simpa using c⟩
  | _, _, _, _, .nil, .nil, hj => absurd hj (by simp)
theorem os_ge (hu : X.A.units + 64 < cLine) : OpS X (compareOp .GtE) geF := fun pins s σ H x y v u Q I rx ry ⟨ρ, st, a, b, z, st', S, ha, hb, run, c⟩ => by
  unfold geF at run
  split at run
  · rename_i i j
    cases run
    exact op_ge pins s σ H x y v u Q I rx ry ⟨_, _, vx_int ha, vx_int hb, c.here S (.d (.bl _))⟩
  · rename_i xs ys
    split at run
    case isFalse => cases run
    rename_i ok
    cases run
    obtain ⟨p, vs, rfl, h1, h2⟩ := vx_tup ha
    obtain ⟨q, ws, rfl, h3, h4⟩ := vx_tup hb
    cases rx
    cases ry
    obtain ⟨its, r1, p1, _⟩ := I.tuple h1.sq
    obtain ⟨its2, r2, p2, _⟩ := I.tuple h3.sq
    have e1 : its.toArray.size = xs.length := by rw [List.size_toArray, ← r1.length, h2.len]
    have e2 : its2.toArray.size = ys.length := by rw [List.size_toArray, ← r2.length, h4.len]
    have el := geOk_len ok
    have pair : ∀ j (k1 : j < its.toArray.size) (k2 : j < its2.toArray.size), ∃ x y, RelV x its.toArray[j] ∧ RelV y its2.toArray[j] ∧ DV X.K ρ H x (xs.getD j .none) ∧ DV X.K ρ H y (ys.getD j .none) := fun j k1 k2 => by
      obtain ⟨x, u, a1, a2, a3⟩ := dvs_at j r1 h2 (e1 ▸ k1)
      obtain ⟨y, w, b1, b2, b3⟩ := dvs_at j r2 h4 (e2 ▸ k2)
      have q1 : its.toArray[j] = u := by
        have : its[j]'(by simpa using k1) = u := by
          rw [List.getElem?_eq_getElem (by simpa using k1)] at a1
          exact Option.some.inj a1
        simpa using this
      have q2 : its2.toArray[j] = w := by
        have : its2[j]'(by simpa using k2) = w := by
          rw [List.getElem?_eq_getElem (by simpa using k2)] at b1
          exact Option.some.inj b1
        simpa using this
      exact ⟨x, y, by rw [q1]; exact a2, by rw [q2]; exact b2, a3, b3⟩
    have kind : ∀ j, j < xs.length → (∃ i k, xs.getD j .none = .int i ∧ ys.getD j .none = .int k) ∨ ∃ i k, xs.getD j .none = .str i ∧ ys.getD j .none = .str k := fun j hj => by
      have g := geOk_at j ok hj
      unfold geA at g
      split at g
      · exact .inl ⟨_, _, by assumption, by assumption⟩
      · exact .inr ⟨_, _, by assumption, by assumption⟩
      · cases g
    have R := Ob.RcOp.tuples_ge (A := X.A) (s := s) (e := eqAtB xs ys) (r := geAt xs ys) p1 p2 (by omega) (fun j k1 k2 => by
      obtain ⟨x, y, a1, a2, a3, a4⟩ := pair j k1 k2
      obtain ⟨as, g1⟩ := Dp.reads I _ _ _ (DV.dp _ _ a3) a1
      obtain ⟨bs, g2⟩ := Dp.reads I _ _ _ (DV.dp _ _ a4) a2
      refine PySem.W.eqAt_alike _ _ _ _ _ _ _ _ g1 g2 ?_ ?_
      · rcases kind j (e1 ▸ k1) with ⟨i, k, z1, z2⟩ | ⟨i, k, z1, z2⟩ <;> rw [z1, z2] <;> simp [PySem.W.alike]
      · rcases kind j (e1 ▸ k1) with ⟨i, k, z1, z2⟩ | ⟨i, k, z1, z2⟩ <;> rw [z1, z2] <;> simp [PyData.depth] <;> (show X.A.units + 1 < cLine) <;> omega) (fun j k1 k2 _ => by
      obtain ⟨x, y, a1, a2, a3, a4⟩ := pair j k1 k2
      rcases kind j (e1 ▸ k1) with ⟨i, k, z1, z2⟩ | ⟨i, k, z1, z2⟩
      · rw [z1] at a3
        rw [z2] at a4
        cases a3
        cases a4
        obtain ⟨t1, f1⟩ := a1
        obtain ⟨t2, f2⟩ := a2
        rw [f1, f2]
        unfold geAt
        rw [z1, z2]
        exact Ob.RcOp.ge_int _ _ _ _
      · rw [z1] at a3
        rw [z2] at a4
        cases a3
        cases a4
        obtain ⟨t1, f1⟩ := a1
        obtain ⟨t2, f2⟩ := a2
        rw [f1, f2]
        unfold geAt
        rw [z1, z2]
        exact fun _ _ _ _ h => PySem.P.ge_str (by simpa [geA] using h))
    rw [e1, e2] at R
    exact R X.prog X.w X.xe (EP X pins σ Q) ⟨.bl _, H, I, rfl, c.here S (.d (.bl _))⟩
  · cases run
/-! ### methods -/
def appendF : D → List D → M D := fun a as st => match a, as with
  | .ref n, [x] => match st[n]? with
    | some (.lst xs) => if xs.length < sizeLine then some (.d .none, st.set n (.lst (xs ++ [x]))) else none
    | _ => none
  | _, _ => none
theorem ms_append : MtS X "list.append" appendF := MtS.of mt_append fun ρ st a as z st' x xs H Q S ha hb run c => by
  unfold appendF at run
  split at run
  · rename_i n y
    split at run
    · rename_i ys q
      split at run
      · rename_i hl
        cases run
        cases ha with
        | ref ha =>
          rename_i p
          cases hb with
          | cons r t =>
            cases t
            obtain ⟨vs, g1, g2⟩ := S.at ha q
            have mp := List.mem_of_getElem? ha
            refine ⟨p, vs, _, rfl, rfl, g1, by rw [Paired.length g2]; exact hl, c _ _ ρ (ext_set mp (nofrz_lst g1)) (S.set (c := .lst (ys ++ [y])) ha (nofrz_lst g1) ⟨_, upd_same, ?_⟩) (.d .non)⟩
            exact (VXs.ext (ext_set mp (nofrz_lst g1)) g2).app (.cons (r.ext (ext_set mp (nofrz_lst g1))) .nil)
      · cases run
    · cases run
  · cases run
noncomputable def splitF : D → List D → M D := fun a as st => match a, as with
  | .d (.str x), [.d (.str y)] => if y.length ≠ 0 ∧ fits (x.length + 2) = true then some (.ref st.length, st ++ [.lst ((PySem.Txt.split x y).map fun z => .d (.str z))]) else none
  | _, _ => none
theorem ms_split : MtS X "str.split" splitF := MtS.of mt_split fun ρ st a as z st' x xs H Q S ha hb run c => by
  unfold splitF at run
  split at run
  · rename_i w y
    split at run
    · rename_i hl
      cases run
      cases hb with
      | cons r t =>
        cases t
        refine ⟨w, y, vx_str ha, by rw [vx_str r], by simpa using hl.1, fits_of hl.2, fun p hp => c.lst S hp ?_⟩
        have go : ∀ ys : List Str, VXs X.K ρ H (ys.map V.str) (ys.map fun z => .d (.str z)) := by
          intro ys
          induction ys with
          | nil => exact .nil
          | cons y ys ih => exact .cons (.d (.str y)) ih
        exact go _
    · cases run
  · cases run
end
end PM

set_option Elab.async false
set_option linter.all false
set_option maxRecDepth 100000
set_option autoImplicit false
/-! PM, part g: dicts. -/
namespace PM
open PySem PySem.Spec PyProof.Rows L2
open Classical

/-! ### keys -/
def keyA : PyData → Option L2.Key
  | .int i => some (.inl i)
  | .str s => some (.inr s)
  | _ => none
def keysA : List PyData → Option (List L2.Key)
  | [] => some []
  | x :: r => (keyA x).bind fun k => (keysA r).map (k :: ·)
def keyD : L2.Key → PyData
  | .inl i => .int i
  | .inr s => .str s
theorem keyA_v {K : PySem.W.Frag} {ρ : List Addr} {H : Hp} {v : V} {x : PyData} {k : L2.Key} (h : DV K ρ H v x) (e : keyA x = some k) : v = kV k := by
  unfold keyA at e
  split at e
  · cases e
    cases h
    rfl
  · cases e
    cases h
    rfl
  · cases e
theorem keysA_v {K : PySem.W.Frag} {ρ : List Addr} {H : Hp} : ∀ {xs : List PyData} {vs : List V} {ks : List L2.Key}, DVs K ρ H vs xs → keysA xs = some ks → vs = ks.map kV
  | [], _, _, .nil, e => by cases e; rfl
  | x :: r, _, ks, .cons h t, e => by
    unfold keysA at e
    obtain ⟨k, h1, e⟩ := bindS e
    cases q : keysA r with
    | none =>
      rw [q] at e
      cases e
    | some l =>
      rw [q] at e
      cases e
      rw [keyA_v h h1, keysA_v t q]
      rfl
theorem keyD_v {K : PySem.W.Frag} {ρ : List Addr} {H : Hp} : ∀ k : L2.Key, DV K ρ H (kV k) (keyD k)
  | .inl i => .int i
  | .inr s => .str s
theorem keysD_v {K : PySem.W.Frag} {ρ : List Addr} {H : Hp} : ∀ ks : List L2.Key, DVs K ρ H (ks.map kV) (ks.map keyD)
  | [] => .nil
  | k :: r => .cons (keyD_v k) (keysD_v r)
def tupK (ks : List L2.Key) : PyData := .tuple (ks.map keyD)
section
variable {κ : Type} [DecidableEq κ]
def look (kvs : List (κ × D)) (k : κ) : Option D := (kvs.find? fun kv => decide (kv.1 = k)).map (·.2)
def putD (kvs : List (κ × D)) (k : κ) (v : D) : List (κ × D) := if (kvs.any fun kv => decide (kv.1 = k)) = true then kvs.map (fun kv => if kv.1 = k then (kv.1, v) else kv) else kvs ++ [(k, v)]
variable {K : PySem.W.Frag} {ρ : List Addr} {H : Hp}
theorem look_v : ∀ {kws : List (κ × V)} {kvs : List (κ × D)} (k : κ), KVX K ρ H kws kvs → (valV kws k = none ∧ look kvs k = none) ∨ ∃ v x, valV kws k = some v ∧ look kvs k = some x ∧ VX K ρ H v x
  | _, _, k, .nil => .inl ⟨rfl, rfl⟩
  | (k1, v) :: kws, (k2, x) :: kvs, k, .cons ⟨e, r⟩ t => by
    have e : k1 = k2 := e
    subst e
    by_cases q : k1 = k
    · refine .inr ⟨v, x, valV_pos q, ?_, r⟩
      unfold look
      rw [List.find?_cons, decide_eq_true (show (k1, x).1 = k from q)]
      rfl
    · have h1 : valV ((k1, v) :: kws) k = valV kws k := valV_neg q
      have h2 : look ((k1, x) :: kvs) k = look kvs k := by
        unfold look
        rw [List.find?_cons, decide_eq_false (show ¬ (k1, x).1 = k from q)]
      rw [h1, h2]
      exact look_v k t
theorem any_v : ∀ {kws : List (κ × V)} {kvs : List (κ × D)} (k : κ), KVX K ρ H kws kvs → (kws.any fun kv => decide (kv.1 = k)) = (kvs.any fun kv => decide (kv.1 = k))
  | _, _, k, .nil => rfl
  | _ :: _, _ :: _, k, .cons ⟨e, r⟩ t => by rw [List.any_cons, List.any_cons, any_v k t, e]
theorem put_v {kws : List (κ × V)} {kvs : List (κ × D)} {v : V} {x : D} (k : κ) (h : KVX K ρ H kws kvs) (r : VX K ρ H v x) : KVX K ρ H (putK kws k v) (putD kvs k x) := by
  unfold putK putD
  rw [any_v k h]
  split
  · have go : ∀ {kws : List (κ × V)} {kvs : List (κ × D)}, KVX K ρ H kws kvs → KVX K ρ H (kws.map fun kv => if kv.1 = k then (kv.1, v) else kv) (kvs.map fun kv => if kv.1 = k then (kv.1, x) else kv) := by
      intro kws
      induction kws with
      | nil =>
        intro kvs h
        cases h
        exact .nil
      | cons p l ih =>
        intro kvs h
        cases h with
        | cons e t =>
          rename_i q m
          refine .cons ?_ (ih t)
          obtain ⟨e1, e2⟩ := e
          show (if p.1 = k then (p.1, v) else p).1 = (if q.1 = k then (q.1, x) else q).1 ∧ VX K ρ H (if p.1 = k then (p.1, v) else p).2 (if q.1 = k then (q.1, x) else q).2
          by_cases z : p.1 = k
          · rw [if_pos z, if_pos (e1 ▸ z)]
            exact ⟨e1, r⟩
          · rw [if_neg z, if_neg (e1 ▸ z)]
            exact ⟨e1, e2⟩
    exact go h
  · have go : ∀ {kws : List (κ × V)} {kvs : List (κ × D)}, KVX K ρ H kws kvs → KVX K ρ H (kws ++ [(k, v)]) (kvs ++ [(k, x)]) := by
      intro kws
      induction kws with
      | nil =>
        intro kvs h
        cases h
        exact .cons ⟨rfl, r⟩ .nil
      | cons p l ih =>
        intro kvs h
        cases h with
        | cons e t => exact .cons e (ih t)
    exact go h
end
/-! ### what a dict holds at a key -/
/-- none: not served; some none: no such key -/
def lookC : Option Cell → PyData → Option (Option D)
  | some (.dK _ kvs), x => (keyA x).map fun k => look kvs k
  | some (.dT _ kvs), .tuple ds => (keysA ds).map fun k => look kvs k
  | _, _ => none
def lookF (st : Store) : D → D → Option (Option D)
  | .ref n, .d x => lookC st[n]? x
  | _, _ => none
theorem cell_rd_K {K : PySem.W.Frag} {ρ : List Addr} {H : Hp} {a : Addr} {l : Bool} {kvs : List (L2.Key × D)} (h : CellOk K ρ H a (.dK l kvs)) : ∃ kws, Rd H a (.dK kws) ∧ KVX K ρ H kws kvs := by
  cases l with
  | false =>
    obtain ⟨kws, h1, h2⟩ := h
    exact ⟨kws, .inl h1, h2⟩
  | true =>
    obtain ⟨kws, o, h1, h2⟩ := h
    exact ⟨kws, .inr ⟨o, h1⟩, h2⟩
theorem cell_rd_T {K : PySem.W.Frag} {ρ : List Addr} {H : Hp} {a : Addr} {l : Bool} {kvs : List (List L2.Key × D)} (h : CellOk K ρ H a (.dT l kvs)) : ∃ kws, Rd H a (.dT kws) ∧ KVX K ρ H kws kvs := by
  cases l with
  | false =>
    obtain ⟨kws, h1, h2⟩ := h
    exact ⟨kws, .inl h1, h2⟩
  | true =>
    obtain ⟨kws, o, h1, h2⟩ := h
    exact ⟨kws, .inr ⟨o, h1⟩, h2⟩
theorem dget_T {K : PySem.W.Frag} {ρ : List Addr} {H : Hp} {st : Store} {p b : Addr} {n : Nat} {l : Bool} {kvs : List (List L2.Key × D)} {vs : List V} {ds : List PyData} {r : Option D} (S : SR K ρ H st) (ha : ρ[n]? = some p) (q : st[n]? = some (.dT l kvs)) (t1 : TupAt K ρ H b vs) (t2 : DVs K ρ H vs ds)
    (e : (keysA ds).map (fun k => look kvs k) = some r) : ∃ p', V.ref p = .ref p' ∧ IsD H p' ∧ ((DGet H p' (.ref b) none ∧ r = none) ∨ ∃ w x, DGet H p' (.ref b) (some w) ∧ r = some x ∧ VX K ρ H w x) := by
  cases g : keysA ds with
  | none =>
    rw [g] at e
    cases e
  | some k =>
    rw [g] at e
    cases e
    obtain ⟨kws, h1, h2⟩ := cell_rd_T (S.at ha q)
    have hk := keysA_v t2 g
    subst hk
    refine ⟨p, rfl, .inr ⟨kws, h1⟩, ?_⟩
    rcases look_v k h2 with ⟨z1, z2⟩ | ⟨w, y, z1, z2, z3⟩
    · exact .inl ⟨.inr ⟨kws, k, b, h1, rfl, t1.1, z1.symm⟩, z2⟩
    · exact .inr ⟨w, y, .inr ⟨kws, k, b, h1, rfl, t1.1, z1.symm⟩, z2, z3⟩
theorem dget_of {K : PySem.W.Frag} {ρ : List Addr} {H : Hp} {st : Store} {v u : V} {a b : D} {r : Option D} (S : SR K ρ H st) (ha : VX K ρ H v a) (hb : VX K ρ H u b) (e : lookF st a b = some r) :
    ∃ p, v = .ref p ∧ IsD H p ∧ ((DGet H p u none ∧ r = none) ∨ ∃ w x, DGet H p u (some w) ∧ r = some x ∧ VX K ρ H w x) := by
  cases ha with
  | d _ => cases e
  | ref ha =>
    rename_i p n
    cases hb with
    | ref _ => cases e
    | d hb =>
      rename_i x
      have e : lookC st[n]? x = some r := e
      cases q : st[n]? with
      | none =>
        rw [q] at e
        cases e
      | some c =>
        rw [q] at e
        cases c with
        | lst xs => cases e
        | dK l kvs =>
          have e : (keyA x).map (fun k => look kvs k) = some r := e
          cases g : keyA x with
          | none =>
            rw [g] at e
            cases e
          | some k =>
            rw [g] at e
            cases e
            obtain ⟨kws, h1, h2⟩ := cell_rd_K (S.at ha q)
            have hk := keyA_v hb g
            subst hk
            refine ⟨p, rfl, .inl ⟨kws, h1⟩, ?_⟩
            rcases look_v k h2 with ⟨z1, z2⟩ | ⟨w, y, z1, z2, z3⟩
            · exact .inl ⟨.inl ⟨kws, k, h1, rfl, z1.symm⟩, z2⟩
            · exact .inr ⟨w, y, .inl ⟨kws, k, h1, rfl, z1.symm⟩, z2, z3⟩
        | dT l kvs =>
          cases hb with
          | non => cases e
          | bl _ => cases e
          | int _ => cases e
          | str _ => cases e
          | lst _ _ => cases e
          | tup t1 t2 => exact dget_T S ha q t1 t2 e
def isDict (st : Store) : D → Bool
  | .ref n => match st[n]? with
    | some (.dK _ _) => true
    | some (.dT _ _) => true
    | _ => false
  | _ => false
theorem PE.or {X : Cx} {e : Expr} {t t' : TE} (h : PE X e t) (h' : PE X e t') : PE X e (fun σ H Q => t σ H Q ∨ t' σ H Q) := ⟨fun pins s σ H Q I q => q.elim (h.run pins s σ H Q I) (h'.run pins s σ H Q I)⟩
theorem PT.or {X : Cx} {e : Expr} {t t' : TT} (h : PT X e t) (h' : PT X e t') : PT X e (fun σ H Q => t σ H Q ∨ t' σ H Q) := ⟨fun pins s σ H Q I q => q.elim (h.run pins s σ H Q I) (h'.run pins s σ H Q I)⟩
/-- a[b]: of a dict, or of a list, a tuple, a text -/
def getF : D → D → M D := fun a b st => if isDict st a = true then (lookF st a b).bind fun r => r.map fun x => (x, st) else ixF a b st
def hasF (neg : Bool) : D → D → M D := fun a b st => (lookF st b a).map fun r => (.d (.bool (if neg then !r.isSome else r.isSome)), st)
noncomputable def inAF (neg : Bool) : D → D → M D := fun a b st => if isDict st b = true then hasF neg a b st else inF neg a b st
section
variable {X : Cx} {a b c : Expr} {pos : Pos} {A B C : Env → M D}
theorem xe_sub (hu : X.A.units + 1 < cLine) (ha : XE X a A) (hb : XE X b B) (hs : PlainIx b) : XE X (.Subscript a b pos) (mOp getF A B) :=
  PE.weak (PE.or (pe_dget hu ha hb hs) (xe_ix is_ix ha hb hs)) fun σ H Q h => by
    obtain ⟨ρ, env, st, x, st', E, S, run, k⟩ := h
    obtain ⟨⟨x1, s1⟩, h1, run⟩ := bindS run
    obtain ⟨⟨x2, s2⟩, h2, run⟩ := bindS run
    have run : getF x1 x2 s2 = some (x, st') := run
    unfold getF at run
    split at run
    · obtain ⟨r, h3, run⟩ := bindS run
      cases r with
      | none => cases run
      | some y =>
        cases run
        refine .inl ⟨ρ, env, st, x1, s1, E, S, h1, fun v1 H1 ρ1 e1 S1 r1 => ⟨ρ1, env, s1, x2, _, E.ext e1, S1, h2, fun v2 H2 ρ2 e2 S2 r2 => ?_⟩⟩
        obtain ⟨p, e3, _, h⟩ := dget_of S2 (r1.ext e2) r2 h3
        rcases h with ⟨_, z⟩ | ⟨w, y', g, z, rz⟩
        · cases z
        · cases z
          exact ⟨p, w, e3, g, k _ _ _ (e1.trans e2) S2 rz⟩
    · refine .inr ⟨ρ, env, st, x, st', E, S, ?_, k⟩
      show (A env st).bind _ = _
      rw [h1]
      show (B env s1).bind _ = _
      rw [h2]
      exact run
theorem has_w {K : PySem.W.Frag} {neg : Bool} {x1 x2 x : D} {s2 st' : Store} (run : hasF neg x1 x2 s2 = some (x, st')) {ρ : List Addr} {H : Hp} {v u : V} (S : SR K ρ H s2) (r1 : VX K ρ H v x1) (r2 : VX K ρ H u x2) :
    st' = s2 ∧ ∃ p o, u = .ref p ∧ DGet H p v o ∧ x = .d (.bool (if neg then !o.isSome else o.isSome)) := by
  unfold hasF at run
  cases h3 : lookF s2 x2 x1 with
  | none =>
    rw [h3] at run
    cases run
  | some r =>
    rw [h3] at run
    cases run
    obtain ⟨p, e3, _, h⟩ := dget_of S r2 r1 h3
    rcases h with ⟨g, z⟩ | ⟨w, y', g, z, rz⟩
    · subst z
      exact ⟨rfl, p, none, e3, g, rfl⟩
    · subst z
      exact ⟨rfl, p, some w, e3, g, rfl⟩
theorem xe_in (hu : X.A.units + 65 < cLine) (ha : XE X a A) (hb : XE X b B) (hm : behindInMarks .In b = false := by rfl) : XE X (.Compare a [.In] [b] pos) (mOp (inAF false) A B) :=
  PE.weak (PE.or (pe_cmp (pc_din (by omega) ha hb) hm) (xe_cmp (os_in hu) ha hb hm)) fun σ H Q h => by
    obtain ⟨ρ, env, st, x, st', E, S, run, k⟩ := h
    obtain ⟨⟨x1, s1⟩, h1, run⟩ := bindS run
    obtain ⟨⟨x2, s2⟩, h2, run⟩ := bindS run
    have run : inAF false x1 x2 s2 = some (x, st') := run
    unfold inAF at run
    split at run
    · refine .inl ⟨ρ, env, st, x1, s1, E, S, h1, fun v1 H1 ρ1 e1 S1 r1 => ⟨ρ1, env, s1, x2, s2, E.ext e1, S1, h2, fun v2 H2 ρ2 e2 S2 r2 => ?_⟩⟩
      obtain ⟨rfl, p, o, rfl, g, rfl⟩ := has_w run S2 (r1.ext e2) r2
      exact ⟨p, o, rfl, g, k _ _ _ (e1.trans e2) S2 (.d (.bl _))⟩
    · refine .inr ⟨ρ, env, st, x, st', E, S, ?_, k⟩
      show (A env st).bind _ = _
      rw [h1]
      show (B env s1).bind _ = _
      rw [h2]
      exact run
theorem xe_notIn (hu : X.A.units + 65 < cLine) (ha : XE X a A) (hb : XE X b B) (hm : behindInMarks .NotIn b = false := by rfl) : XE X (.Compare a [.NotIn] [b] pos) (mOp (inAF true) A B) :=
  PE.weak (PE.or (pe_cmp (pc_dnotin (by omega) ha hb) hm) (xe_cmp (os_notIn hu) ha hb hm)) fun σ H Q h => by
    obtain ⟨ρ, env, st, x, st', E, S, run, k⟩ := h
    obtain ⟨⟨x1, s1⟩, h1, run⟩ := bindS run
    obtain ⟨⟨x2, s2⟩, h2, run⟩ := bindS run
    have run : inAF true x1 x2 s2 = some (x, st') := run
    unfold inAF at run
    split at run
    · refine .inl ⟨ρ, env, st, x1, s1, E, S, h1, fun v1 H1 ρ1 e1 S1 r1 => ⟨ρ1, env, s1, x2, s2, E.ext e1, S1, h2, fun v2 H2 ρ2 e2 S2 r2 => ?_⟩⟩
      obtain ⟨rfl, p, o, rfl, g, rfl⟩ := has_w run S2 (r1.ext e2) r2
      exact ⟨p, o, rfl, g, k _ _ _ (e1.trans e2) S2 (.d (.bl _))⟩
    · refine .inr ⟨ρ, env, st, x, st', E, S, ?_, k⟩
      show (A env st).bind _ = _
      rw [h1]
      show (B env s1).bind _ = _
      rw [h2]
      exact run
theorem xt_of_cmp {op : CmpOp} {f : D → D → M D} {t : TE} (h : PC X op a b t) (hm : behindInMarks op b = false) (w : ∀ σ H Q, cE X.K (mOp f A B) σ H Q → t σ H Q) : XT X (.Compare a [op] [b] pos) (mTest (mOp f A B)) :=
  PT.weak (pt_cmp h hm) fun σ H Q h => by
    obtain ⟨ρ, env, st, x, st', E, S, run, k⟩ := h
    obtain ⟨⟨x1, s1⟩, h1, run⟩ := bindS run
    refine w _ _ _ ⟨ρ, env, st, x1, s1, E, S, h1, fun v H' ρ' e S' r => ?_⟩
    split at run
    · rename_i b' e'
      have e' : x1 = .d (.bool b') := e'
      subst e'
      cases run
      cases r with
      | d r =>
        cases r
        exact ⟨_, rfl, k H' ρ' e S'⟩
    · cases run
theorem PC.or {op : CmpOp} {t t' : TE} (h : PC X op a b t) (h' : PC X op a b t') : PC X op a b (fun σ H Q => t σ H Q ∨ t' σ H Q) := ⟨fun pins s σ H Q I q => q.elim (h.run pins s σ H Q I) (h'.run pins s σ H Q I)⟩
theorem pc_op {op : CmpOp} {r : R2} (ho : OpR X (compareOp op) r) {ta tb : TE} (ha : PE X a ta) (hb : PE X b tb) : PC X op a b (tOp r ta tb) := ⟨fun pins s σ H Q I h => bin ha hb I h fun v u s2 x y H2 I2 rx ry q => ho pins s2 σ H2 x y v u Q I2 rx ry q⟩
theorem xt_in (hu : X.A.units + 65 < cLine) (ha : XE X a A) (hb : XE X b B) (hm : behindInMarks .In b = false := by rfl) : XT X (.Compare a [.In] [b] pos) (mTest (mOp (inAF false) A B)) :=
  xt_of_cmp (PC.or (pc_din (by omega) ha hb) (pc_op (os_in hu) ha hb)) hm fun σ H Q h => by
    obtain ⟨ρ, env, st, x, st', E, S, run, k⟩ := h
    obtain ⟨⟨x1, s1⟩, h1, run⟩ := bindS run
    obtain ⟨⟨x2, s2⟩, h2, run⟩ := bindS run
    have run : inAF false x1 x2 s2 = some (x, st') := run
    unfold inAF at run
    split at run
    · refine .inl ⟨ρ, env, st, x1, s1, E, S, h1, fun v1 H1 ρ1 e1 S1 r1 => ⟨ρ1, env, s1, x2, s2, E.ext e1, S1, h2, fun v2 H2 ρ2 e2 S2 r2 => ?_⟩⟩
      obtain ⟨rfl, p, o, rfl, g, rfl⟩ := has_w run S2 (r1.ext e2) r2
      exact ⟨p, o, rfl, g, k _ _ _ (e1.trans e2) S2 (.d (.bl _))⟩
    · refine .inr (op_w ⟨ρ, env, st, x, st', E, S, ?_, k⟩)
      show (A env st).bind _ = _
      rw [h1]
      show (B env s1).bind _ = _
      rw [h2]
      exact run
theorem xt_notIn (hu : X.A.units + 65 < cLine) (ha : XE X a A) (hb : XE X b B) (hm : behindInMarks .NotIn b = false := by rfl) : XT X (.Compare a [.NotIn] [b] pos) (mTest (mOp (inAF true) A B)) :=
  xt_of_cmp (PC.or (pc_dnotin (by omega) ha hb) (pc_op (os_notIn hu) ha hb)) hm fun σ H Q h => by
    obtain ⟨ρ, env, st, x, st', E, S, run, k⟩ := h
    obtain ⟨⟨x1, s1⟩, h1, run⟩ := bindS run
    obtain ⟨⟨x2, s2⟩, h2, run⟩ := bindS run
    have run : inAF true x1 x2 s2 = some (x, st') := run
    unfold inAF at run
    split at run
    · refine .inl ⟨ρ, env, st, x1, s1, E, S, h1, fun v1 H1 ρ1 e1 S1 r1 => ⟨ρ1, env, s1, x2, s2, E.ext e1, S1, h2, fun v2 H2 ρ2 e2 S2 r2 => ?_⟩⟩
      obtain ⟨rfl, p, o, rfl, g, rfl⟩ := has_w run S2 (r1.ext e2) r2
      exact ⟨p, o, rfl, g, k _ _ _ (e1.trans e2) S2 (.d (.bl _))⟩
    · refine .inr (op_w ⟨ρ, env, st, x, st', E, S, ?_, k⟩)
      show (A env st).bind _ = _
      rw [h1]
      show (B env s1).bind _ = _
      rw [h2]
      exact run
/-- d.get(k), d.get(k, x) -/
def mGet1 (A B : Env → M D) : Env → M D := fun env st => (A env st).bind fun r => if isDict r.2 r.1 = true then (B env r.2).bind fun q => (lookF q.2 r.1 q.1).map fun o => (o.getD (.d .none), q.2) else none
def mGet2 (A B C : Env → M D) : Env → M D := fun env st => (A env st).bind fun r => if isDict r.2 r.1 = true then (B env r.2).bind fun q => (C env q.2).bind fun w => (lookF w.2 r.1 q.1).map fun o => (o.getD w.1, w.2) else none
theorem isD_of {K : PySem.W.Frag} {ρ : List Addr} {H : Hp} {st : Store} {v : V} {x : D} (S : SR K ρ H st) (h : VX K ρ H v x) (e : isDict st x = true) : ∃ p, v = .ref p ∧ IsD H p := by
  unfold isDict at e
  split at e
  · cases h with
    | ref h =>
      split at e
      · rename_i q
        obtain ⟨kws, h1, h2⟩ := cell_rd_K (S.at h q)
        exact ⟨_, rfl, .inl ⟨kws, h1⟩⟩
      · rename_i q
        obtain ⟨kws, h1, h2⟩ := cell_rd_T (S.at h q)
        exact ⟨_, rfl, .inr ⟨kws, h1⟩⟩
      · cases e
  · cases e
theorem xe_get1 {apos : Pos} (hu : X.A.units + 1 < cLine) (ha : XE X a A) (hb : XE X b B) (m : M1 X a "get" apos b pos) : XE X (.Call (.Attribute a "get" apos) [b] [] pos) (mGet1 A B) := PE.weak (pe_dget1 hu ha hb m) fun σ H Q h => by
  obtain ⟨ρ, env, st, x, st', E, S, run, k⟩ := h
  obtain ⟨⟨x1, s1⟩, h1, run⟩ := bindS run
  split at run
  case isFalse => cases run
  rename_i hd
  obtain ⟨⟨x2, s2⟩, h2, run⟩ := bindS run
  cases h3 : lookF s2 x1 x2 with
  | none =>
    simp only [h3] at run
    cases run
  | some r =>
    simp only [h3] at run
    cases run
    refine ⟨ρ, env, st, x1, s1, E, S, h1, fun v1 H1 ρ1 e1 S1 r1 => ?_⟩
    obtain ⟨p, ep, hp⟩ := isD_of S1 r1 hd
    refine ⟨p, ep, hp, ρ1, env, s1, x2, st', E.ext e1, S1, h2, fun v2 H2 ρ2 e2 S2 r2 => ?_⟩
    obtain ⟨p', e3, _, h⟩ := dget_of S2 (r1.ext e2) r2 h3
    rw [ep] at e3
    cases e3
    rcases h with ⟨g, z⟩ | ⟨w, y', g, z, rz⟩
    · subst z
      exact ⟨none, g, k _ _ _ (e1.trans e2) S2 (.d .non)⟩
    · subst z
      exact ⟨some w, g, k _ _ _ (e1.trans e2) S2 rz⟩
theorem xe_get2 {apos : Pos} (hu : X.A.units + 1 < cLine) (ha : XE X a A) (hb : XE X b B) (hc : XE X c C) (m : M2 X a "get" apos b c pos) : XE X (.Call (.Attribute a "get" apos) [b, c] [] pos) (mGet2 A B C) := PE.weak (pe_dget2 hu ha hb hc m) fun σ H Q h => by
  obtain ⟨ρ, env, st, x, st', E, S, run, k⟩ := h
  obtain ⟨⟨x1, s1⟩, h1, run⟩ := bindS run
  split at run
  case isFalse => cases run
  rename_i hd
  obtain ⟨⟨x2, s2⟩, h2, run⟩ := bindS run
  obtain ⟨⟨x3, s3⟩, h4, run⟩ := bindS run
  cases h3 : lookF s3 x1 x2 with
  | none =>
    simp only [h3] at run
    cases run
  | some r =>
    simp only [h3] at run
    cases run
    refine ⟨ρ, env, st, x1, s1, E, S, h1, fun v1 H1 ρ1 e1 S1 r1 => ?_⟩
    obtain ⟨p, ep, hp⟩ := isD_of S1 r1 hd
    refine ⟨p, ep, hp, ρ1, env, s1, x2, s2, E.ext e1, S1, h2, fun v2 H2 ρ2 e2 S2 r2 => ⟨ρ2, env, s2, x3, st', E.ext (e1.trans e2), S2, h4, fun v3 H3 ρ3 e3 S3 r3 => ?_⟩⟩
    obtain ⟨p', e4, _, h⟩ := dget_of S3 (r1.ext (e2.trans e3)) (r2.ext e3) h3
    rw [ep] at e4
    cases e4
    rcases h with ⟨g, z⟩ | ⟨w, y', g, z, rz⟩
    · subst z
      exact ⟨none, g, k _ _ _ ((e1.trans e2).trans e3) S3 r3⟩
    · subst z
      exact ⟨some w, g, k _ _ _ ((e1.trans e2).trans e3) S3 rz⟩
/-! ### stores -/
def setLF : D → D → D → Store → Option Store
  | .ref n, .d (.int k), v, st => match st[n]? with
    | some (.lst xs) => (ixN xs.length k).map fun j => st.set n (.lst (xs.set j v))
    | _ => none
  | _, _, _, _ => none
def setDC (n : Nat) (v : D) (st : Store) : Option Cell → PyData → Option Store
  | some (.dK false kvs), x => (keyA x).bind fun k => if kvs.length < sizeLine then some (st.set n (.dK false (putD kvs k v))) else none
  | some (.dT false kvs), .tuple ds => (keysA ds).bind fun k => if kvs.length < sizeLine then some (st.set n (.dT false (putD kvs k v))) else none
  | _, _ => none
def setDF : D → D → D → Store → Option Store
  | .ref n, .d x, v, st => setDC n v st st[n]? x
  | _, _, _, _ => none
/-- a[b] = v -/
def setF : D → D → D → Store → Option Store := fun a b v st => if isDict st a = true then setDF a b v st else setLF a b v st
theorem vxs_set {K : PySem.W.Frag} {ρ : List Addr} {H : Hp} {v : V} {x : D} (r : VX K ρ H v x) : ∀ {vs : List V} {xs : List D} (j : Nat), VXs K ρ H vs xs → VXs K ρ H (vs.set j v) (xs.set j x)
  | _, _, _, .nil => .nil
  | _, _, 0, .cons _ t => .cons r t
  | _, _, j + 1, .cons q t => .cons q (vxs_set r j t)
theorem ps_of_dict (hu : X.A.units + 1 < cLine) : PSet X (fun o i v H Q => ∃ a H', o = .ref a ∧ DPut H a i v H' ∧ Q H') := fun pins s σ H o i v ov iv u Q I ro ri rv ⟨a, H', eo, g, q⟩ => by
  subst eo
  cases ro
  exact d_setItem hu I g ri rv fun s' I' => ⟨H', I', q⟩
theorem setLF_inv {x y v : D} {st st' : Store} (h : setLF x y v st = some st') : ∃ n k xs j, x = .ref n ∧ y = .d (.int k) ∧ st[n]? = some (.lst xs) ∧ ixN xs.length k = some j ∧ st' = st.set n (.lst (xs.set j v)) := by
  unfold setLF at h
  split at h
  · split at h
    · rename_i q
      obtain ⟨j, g, e⟩ := Option.map_eq_some_iff.mp h
      exact ⟨_, _, _, j, rfl, rfl, q, g, e.symm⟩
    · cases h
  · cases h
theorem setDC_inv {n : Nat} {v : D} {st st' : Store} {c : Option Cell} {w : PyData} (h : setDC n v st c w = some st') :
    (∃ kvs k, c = some (.dK false kvs) ∧ keyA w = some k ∧ kvs.length < sizeLine ∧ st' = st.set n (.dK false (putD kvs k v))) ∨
    ∃ kvs ds k, c = some (.dT false kvs) ∧ w = .tuple ds ∧ keysA ds = some k ∧ kvs.length < sizeLine ∧ st' = st.set n (.dT false (putD kvs k v)) := by
  unfold setDC at h
  split at h
  · obtain ⟨k, g, h⟩ := bindS h
    split at h
    · rename_i hl
      cases h
      exact .inl ⟨_, k, rfl, g, hl, rfl⟩
    · cases h
  · obtain ⟨k, g, h⟩ := bindS h
    split at h
    · rename_i hl
      cases h
      exact .inr ⟨_, _, k, rfl, rfl, g, hl, rfl⟩
    · cases h
  · cases h
theorem setDF_inv {x y v : D} {st st' : Store} (h : setDF x y v st = some st') : ∃ n w, x = .ref n ∧ y = .d w ∧ setDC n v st st[n]? w = some st' := by
  unfold setDF at h
  split at h
  · exact ⟨_, _, rfl, rfl, h⟩
  · cases h
theorem ss_set (hu : X.A.units + 1 < cLine) : SetS X setF := fun pins s σ H o i v ov iv u Q I ro ri rv ⟨ρ, st, x, y, z, st', S, hx, hy, hz, run, k⟩ => by
  unfold setF at run
  split at run
  · refine ps_of_dict hu pins s σ H o i v ov iv u Q I ro ri rv ?_
    obtain ⟨n, w, rfl, rfl, run⟩ := setDF_inv run
    cases hx with
    | ref hx =>
      rename_i p
      have mp := List.mem_of_getElem? hx
      cases hy with
      | d hy =>
        rcases setDC_inv run with ⟨kvs, kk, q, g, hl, rfl⟩ | ⟨kvs, ds, kk, q, rfl, g, hl, rfl⟩
        · obtain ⟨kws, h1, h2⟩ := S.at hx q
          have hk := keyA_v hy g
          subst hk
          have el : kws.length < sizeLine := by rw [Paired.length h2]; exact hl
          refine ⟨_, _, rfl, DPut.k h1 el, k _ ρ (ext_set mp (nofrz_dK h1)) (S.set (c := .dK false (putD kvs kk z)) hx (nofrz_dK h1) ⟨_, upd_same, ?_⟩)⟩
          exact put_v kk (KVX.ext (ext_set mp (nofrz_dK h1)) h2) (hz.ext (ext_set mp (nofrz_dK h1)))
        · obtain ⟨kws, h1, h2⟩ := S.at hx q
          have el : kws.length < sizeLine := by rw [Paired.length h2]; exact hl
          cases hy with
          | tup t1 t2 =>
            have hk := keysA_v t2 g
            subst hk
            refine ⟨_, _, rfl, DPut.t h1 t1.1 el, k _ ρ (ext_set mp (nofrz_dT h1)) (S.set (c := .dT false (putD kvs kk z)) hx (nofrz_dT h1) ⟨_, upd_same, ?_⟩)⟩
            exact put_v kk (KVX.ext (ext_set mp (nofrz_dT h1)) h2) (hz.ext (ext_set mp (nofrz_dT h1)))
  · refine set_list pins s σ H o i v ov iv u Q I ro ri rv ?_
    obtain ⟨n, kk, xs, j, rfl, rfl, q, g, rfl⟩ := setLF_inv run
    cases hx with
    | ref hx =>
      rename_i p
      have mp := List.mem_of_getElem? hx
      obtain ⟨vs, h1, h2⟩ := S.at hx q
      refine ⟨_, vs, kk, j, rfl, vx_int hy, h1, by rw [Paired.length h2]; exact g, k _ ρ (ext_set mp (nofrz_lst h1)) (S.set (c := .lst (xs.set j z)) hx (nofrz_lst h1) ⟨_, upd_same, ?_⟩)⟩
      exact vxs_set (hz.ext (ext_set mp (nofrz_lst h1))) j (VXs.ext (ext_set mp (nofrz_lst h1)) h2)
/-! ### new dicts -/
def mNewT : Env → M D := fun _ st => some (.ref st.length, st ++ [.dT false []])
def mNewK : Env → M D := fun _ st => some (.ref st.length, st ++ [.dK false []])
theorem push_cell {K : PySem.W.Frag} {ρ : List Addr} {H : Hp} {st : Store} {p : Addr} {o : HO} {c : Cell} (S : SR K ρ H st) (hp : H p = none) (h : CellOk K (ρ ++ [p]) (upd H p o) p c) :
    SR K (ρ ++ [p]) (upd H p o) (st ++ [c]) ∧ VX K (ρ ++ [p]) (upd H p o) (.ref p) (.ref st.length) :=
  ⟨S.push hp h, .ref (by rw [← S.len, List.getElem?_append_right (Nat.le_refl _), Nat.sub_self]; rfl)⟩
theorem xe_newT : XE X (.Dict [] [] pos) mNewT := PE.weak pe_dnewT fun σ H Q h => by
  obtain ⟨ρ, env, st, x, st', E, S, run, k⟩ := h
  cases run
  intro p hp
  obtain ⟨a, b⟩ := push_cell (c := .dT false []) S hp ⟨[], upd_same, .nil⟩
  exact k _ _ _ (S.ext_push hp) a b
theorem xe_newK : XE X (.Dict [] [] pos) mNewK := PE.weak pe_dnewK fun σ H Q h => by
  obtain ⟨ρ, env, st, x, st', E, S, run, k⟩ := h
  cases run
  intro p hp
  obtain ⟨a, b⟩ := push_cell (c := .dK false []) S hp ⟨[], upd_same, .nil⟩
  exact k _ _ _ (S.ext_push hp) a b
/-! ### list(d) -/
def listAF : List D → M D := fun as st => match as with
  | [.ref n] => match st[n]? with
    | some (.dT _ kvs) => some (.ref st.length, st ++ [.lst (kvs.map fun kv => .d (tupK kv.1))])
    | _ => listF [.ref n] st
  | as => listF as st
theorem keys_vx {K : PySem.W.Frag} {ρ : List Addr} {H : Hp} {st : Store} (S : SR K ρ H st) : ∀ {kws : List (List L2.Key × V)} {kvs : List (List L2.Key × D)} {bs : List Addr}, KVX K ρ H kws kvs → IsKeys H kws bs → VXs K ρ H (bs.map V.ref) (kvs.map fun kv => .d (tupK kv.1))
  | _, _, _, .nil, .nil => .nil
  | _, _, _, .cons ⟨e, _⟩ t, .cons h q => by
    refine .cons (.d ?_) (keys_vx S t q)
    unfold tupK
    rw [← e]
    exact .tup ⟨h, S.notup h⟩ (keysD_v _)
theorem cs_listA (hc : X.calm = true) : CallS X (.type "list") listAF := fun pins s σ H xs us Q I r ⟨ρ, st, as, z, st', S, ha, run, c⟩ => by
  unfold listAF at run
  split at run
  · rename_i n
    split at run
    · rename_i l kvs q
      cases run
      cases ha with
      | cons ra ta =>
        cases ta
        cases ra with
        | ref ra =>
          obtain ⟨kws, h1, h2⟩ := cell_rd_T (S.at ra q)
          exact call_list_dT hc pins s σ H _ us Q I r ⟨_, kws, rfl, h1, fun p bs hp hk => c.lst S hp (keys_vx S h2 hk)⟩
    · exact cs_list pins s σ H xs us Q I r ⟨ρ, st, _, z, st', S, ha, run, c⟩
  · exact cs_list pins s σ H xs us Q I r ⟨ρ, st, _, z, st', S, ha, run, c⟩
/-! ### a dict locked, and walked by its keys -/
def lockC : Option Cell → Option (Cell × Cell)
  | some (.dK false kvs) => some (.dK true kvs, .dK false kvs)
  | some (.dT false kvs) => some (.dT true kvs, .dT false kvs)
  | _ => none
noncomputable def mLock {α : Type} (sel : Env → Store → Option Nat) (A : Env → M α) : Env → M α := fun env st => (sel env st).bind fun n => (lockC st[n]?).bind fun cc => (A env (st.set n cc.1)).bind fun r => if r.2[n]? = some cc.1 then some (r.1, r.2.set n cc.2) else none
theorem ext_lock {ρ ρ' : List Addr} {H H' : Hp} {d : Addr} {od : Obj} {u : HO} (hd : H d = some u) (hm : ∀ o v, u ≠ .frz o v) (md : d ∈ ρ) (e : Ext ρ (upd H d (.frz od u)) ρ' H') : H' d = some (.frz od u) ∧ Ext ρ H ρ' (upd H' d u) := by
  refine ⟨e.frz d od u upd_same, e.pre, fun a m n => ?_, fun a o h n => ?_, fun a o v h => ?_⟩
  · have := e.new a m n
    rw [upd_ne (show a ≠ d from fun z => n (by rw [z]; exact md))] at this
    exact this
  · have hne : a ≠ d := fun z => n (by rw [z]; exact md)
    rw [upd_ne hne]
    exact e.keep a o (by rw [upd_ne hne]; exact h) n
  · have hne : a ≠ d := fun z => by
      subst z
      rw [hd] at h
      cases h
      exact hm _ _ rfl
    rw [upd_ne hne]
    exact e.frz a o v (by rw [upd_ne hne]; exact h)
theorem TupAt.at_st {K : PySem.W.Frag} {ρ : List Addr} {H : Hp} {d p : Addr} {u : HO} {vs : List V} (md : d ∈ ρ) (t : TupAt K ρ H p vs) : TupAt K ρ (upd H d u) p vs :=
  ⟨by rw [upd_ne (show p ≠ d from fun z => t.2 (by rw [z]; exact md))]; exact t.1, t.2⟩
theorem LstAt.at_st {K : PySem.W.Frag} {ρ : List Addr} {H : Hp} {d p : Addr} {u : HO} {vs : List V} (md : d ∈ ρ) (t : LstAt K ρ H p vs) : LstAt K ρ (upd H d u) p vs := by
  rcases t with ⟨t, n⟩ | t
  · have hne : p ≠ d := fun z => n (by rw [z]; exact md)
    refine .inl ⟨?_, n⟩
    rcases t with t | ⟨o, t⟩
    · exact .inl (by rw [upd_ne hne]; exact t)
    · exact .inr ⟨o, by rw [upd_ne hne]; exact t⟩
  · exact .inr t
mutual
theorem DV.at_st {K : PySem.W.Frag} {ρ : List Addr} {H : Hp} {d : Addr} {u : HO} (md : d ∈ ρ) : ∀ (x : PyData) (v : V), DV K ρ H v x → DV K ρ (upd H d u) v x
  | .none, _, h => by cases h; exact .non
  | .bool b, _, h => by cases h; exact .bl b
  | .int i, _, h => by cases h; exact .int i
  | .str s, _, h => by cases h; exact .str s
  | .tuple ds, _, h => by
    cases h with
    | tup h1 h2 => exact .tup (h1.at_st md) (DVs.at_st md ds _ h2)
  | .list ds, _, h => by
    cases h with
    | lst h1 h2 => exact .lst (h1.at_st md) (DVs.at_st md ds _ h2)
  | .dict _, _, h => by cases h
theorem DVs.at_st {K : PySem.W.Frag} {ρ : List Addr} {H : Hp} {d : Addr} {u : HO} (md : d ∈ ρ) : ∀ (xs : List PyData) (vs : List V), DVs K ρ H vs xs → DVs K ρ (upd H d u) vs xs
  | [], _, h => by cases h; exact .nil
  | d :: ds, _, h => by
    cases h with
    | cons h1 h2 => exact .cons (DV.at_st md d _ h1) (DVs.at_st md ds _ h2)
end
theorem VX.at_st {K : PySem.W.Frag} {ρ : List Addr} {H : Hp} {d : Addr} {u : HO} {v : V} {x : D} (h : VX K ρ H v x) (md : d ∈ ρ) : VX K ρ (upd H d u) v x := by
  cases h with
  | d h => exact .d (DV.at_st md _ _ h)
  | ref h => exact .ref h
theorem lock_in {K : PySem.W.Frag} {ρ : List Addr} {H : Hp} {st : Store} {n : Nat} {d : Addr} {c1 c2 : Cell} (S : SR K ρ H st) (hn : ρ[n]? = some d) (h : lockC st[n]? = some (c1, c2)) :
    ∃ u, H d = some u ∧ Mut (some u) ∧ (∀ o v, u ≠ .frz o v) ∧ ∀ od, SR K ρ (upd H d (.frz od u)) (st.set n c1) ∧
      ∀ ρ' H' st', Ext ρ (upd H d (.frz od u)) ρ' H' → SR K ρ' H' st' → SR K ρ' (upd H' d u) (st'.set n c2) := by
  have md := List.mem_of_getElem? hn
  have go : ∀ (u : HO), (∀ o v, H d ≠ some (.frz o v)) → (∀ od, CellOk K ρ (upd H d (.frz od u)) d c1) → (∀ od ρ' H', Ext ρ (upd H d (.frz od u)) ρ' H' → Ext ρ H ρ' (upd H' d u) → CellOk K ρ' (upd H' d u) d c2) → H d = some u → (∀ o v, u ≠ .frz o v) → ∀ od, SR K ρ (upd H d (.frz od u)) (st.set n c1) ∧
      ∀ ρ' H' st', Ext ρ (upd H d (.frz od u)) ρ' H' → SR K ρ' H' st' → SR K ρ' (upd H' d u) (st'.set n c2) := by
    intro u nf k1 k2 hu nu od
    refine ⟨S.set hn nf (k1 od), fun ρ' H' st' e S' => ?_⟩
    have hn' := e.get hn
    have hz := ext_lock hu nu md e
    have md' := List.mem_of_getElem? hn'
    refine ⟨S'.nd, by simp [S'.len], fun i a c h1 h2 => ?_⟩
    by_cases ei : i = n
    · subst ei
      rw [hn'] at h1
      cases h1
      rw [List.getElem?_set_self (by rw [← S'.len]; exact (List.getElem?_eq_some_iff.mp hn').1)] at h2
      cases h2
      exact k2 od ρ' H' e hz.2
    · rw [List.getElem?_set_ne (Ne.symm ei)] at h2
      have hne : a ≠ d := fun z => by
        subst z
        obtain ⟨l1, e1⟩ := List.getElem?_eq_some_iff.mp h1
        obtain ⟨l2, e2⟩ := List.getElem?_eq_some_iff.mp hn'
        exact ei ((List.getElem_inj S'.nd).mp (e1.trans e2.symm))
      have ok := S'.ok i a c h1 h2
      -- the same relation, the heap at d apart
      have keep : ∀ {v : V} {x : D}, VX K ρ' H' v x → VX K ρ' (upd H' d u) v x := fun {v x} r => r.at_st md'
      have hs : (upd H' d u) a = H' a := upd_ne hne
      cases c with
      | lst xs =>
        obtain ⟨vs, q1, q2⟩ := ok
        exact ⟨vs, hs.trans q1, L2.Paired.mapP q2 fun _ _ => keep⟩
      | dK l kvs =>
        cases l with
        | false =>
          obtain ⟨vs, q1, q2⟩ := ok
          exact ⟨vs, hs.trans q1, L2.Paired.mapP q2 fun _ _ z => ⟨z.1, keep z.2⟩⟩
        | true =>
          obtain ⟨vs, o, q1, q2⟩ := ok
          exact ⟨vs, o, hs.trans q1, L2.Paired.mapP q2 fun _ _ z => ⟨z.1, keep z.2⟩⟩
      | dT l kvs =>
        cases l with
        | false =>
          obtain ⟨vs, q1, q2⟩ := ok
          exact ⟨vs, hs.trans q1, L2.Paired.mapP q2 fun _ _ z => ⟨z.1, keep z.2⟩⟩
        | true =>
          obtain ⟨vs, o, q1, q2⟩ := ok
          exact ⟨vs, o, hs.trans q1, L2.Paired.mapP q2 fun _ _ z => ⟨z.1, keep z.2⟩⟩
  unfold lockC at h
  split at h
  · rename_i kvs q
    cases h
    obtain ⟨kws, h1, h2⟩ := S.at hn q
    have nf := nofrz_dK h1
    exact ⟨_, h1, trivial, (fun _ _ z => nomatch z), go _ nf (fun od => ⟨kws, od, upd_same, KVX.ext (ext_set md nf) h2⟩) (fun od ρ' H' _ e => ⟨kws, upd_same, KVX.ext e h2⟩) h1 (fun _ _ z => nomatch z)⟩
  · rename_i kvs q
    cases h
    obtain ⟨kws, h1, h2⟩ := S.at hn q
    have nf := nofrz_dT h1
    exact ⟨_, h1, trivial, (fun _ _ z => nomatch z), go _ nf (fun od => ⟨kws, od, upd_same, KVX.ext (ext_set md nf) h2⟩) (fun od ρ' H' _ e => ⟨kws, upd_same, KVX.ext e h2⟩) h1 (fun _ _ z => nomatch z)⟩
  · cases h
theorem lock_ix {K : PySem.W.Frag} {ρ : List Addr} {H : Hp} {st : Store} {n : Nat} {cc : Cell × Cell} (S : SR K ρ H st) (h : lockC st[n]? = some cc) : ∃ d, ρ[n]? = some d := by
  have : n < st.length := by
    cases q : st[n]? with
    | none =>
      rw [q] at h
      cases h
    | some c => exact (List.getElem?_eq_some_iff.mp q).1
  exact ⟨ρ[n]'(S.len ▸ this), List.getElem?_eq_getElem _⟩
theorem xe_lock {sel : Env → Store → Option Nat} (ha : XE X a A) : XE X a (mLock sel A) := PE.weak (pe_lock ha) fun σ H Q h => by
  obtain ⟨ρ, env, st, x, st', E, S, run, k⟩ := h
  obtain ⟨n, h1, run⟩ := bindS run
  obtain ⟨⟨c1, c2⟩, h2, run⟩ := bindS run
  obtain ⟨⟨y, s1⟩, h3, run⟩ := bindS run
  split at run
  case isFalse => cases run
  cases run
  obtain ⟨d, hn⟩ := lock_ix S h2
  have md := List.mem_of_getElem? hn
  obtain ⟨u, hu, mu, nu, hz⟩ := lock_in S hn h2
  refine ⟨d, u, hu, mu, fun od => ?_⟩
  obtain ⟨S1, out⟩ := hz od
  have e0 : Ext ρ H ρ (upd H d (.frz od u)) := ext_set md fun o v z => by
    rw [hu] at z
    cases z
    exact nu _ _ rfl
  refine ⟨ρ, env, st.set n c1, y, s1, E.ext e0, S1, h3, fun v H' ρ' e S' r => ?_⟩
  obtain ⟨g1, g2⟩ := ext_lock hu nu md e
  exact ⟨g1, k v _ ρ' g2 (out ρ' H' s1 e S') (r.at_st (e.sub md))⟩
end
end PM

set_option Elab.async false
set_option linter.all false
set_option maxRecDepth 100000
set_option autoImplicit false
/-! PM, part h: walks over dicts, dicts of pairs. -/
namespace PM
open PySem PySem.Spec PyProof.Rows L2
open Classical

section
variable {X : Cx} {a b c tg : Expr} {pos apos : Pos} {A B C : Env → M D}
/-! ### for k in d -/
def mKeys (A : Env → M D) : Env → M (List D × Gd) := fun env st => (A env st).bind fun r => match r.1 with
  | .ref n => match r.2[n]? with
    | some (.dT true kvs) => some ((kvs.map fun kv => .d (tupK kv.1), some (n, .dT true kvs)), r.2)
    | some (.dK true kvs) => some ((kvs.map fun kv => .d (keyD kv.1), some (n, .dK true kvs)), r.2)
    | _ => none
  | _ => none
theorem frz_keep {ρ ρ' : List Addr} {H H' : Hp} {d : Addr} {o : Obj} {u : HO} (e : Ext ρ H ρ' H') (h : H d = some (.frz o u)) : H' d = some (.frz o u) := e.frz d o u h
theorem wlk_keysT {K : PySem.W.Frag} {ρ : List Addr} {H : Hp} {d : Addr} {n : Nat} {o : Obj} {kws : List (List L2.Key × V)} {kvs : List (List L2.Key × D)} (hd : H d = some (.frz o (.dT kws))) (h2 : KVX K ρ H kws kvs) :
    Wlk K ρ H (Itkt d o kws) (kvs.map fun kv => .d (tupK kv.1)) (some (n, .dT true kvs)) := by
  have l : kws.length = (kvs.map fun kv => D.d (tupK kv.1)).length := by rw [List.length_map, Paired.length h2]
  refine ⟨fun H => H d = some (.frz o (.dT kws)), _, l ▸ walk_keysT, fun ρ' H' st e S _ => e.frz d o _ hd, fun i ρ' H' st v H2 e S _ hi y => ?_⟩
  obtain ⟨rfl, k, w, q, h1, rfl, h3⟩ := y
  have go : ∀ {kws : List (List L2.Key × V)} {kvs : List (List L2.Key × D)} {i : Nat}, KVX K ρ H kws kvs → kws[i]? = some (k, w) → (kvs.map fun kv => D.d (tupK kv.1))[i]? = some (.d (tupK k)) := by
    intro kws
    induction kws with
    | nil => intro kvs i _ h; simp at h
    | cons p t ih =>
      intro kvs i hp h
      cases hp with
      | cons e r =>
        cases i with
        | zero =>
          simp at h
          subst h
          simp [← e.1]
        | succ i =>
          simpa using ih r (by simpa using h)
  exact ⟨_, go h2 h1, .refl, S, .d (.tup ⟨h3, S.notup h3⟩ (keysD_v _))⟩
theorem wlk_keysK {K : PySem.W.Frag} {ρ : List Addr} {H : Hp} {d : Addr} {n : Nat} {o : Obj} {kws : List (L2.Key × V)} {kvs : List (L2.Key × D)} (hd : H d = some (.frz o (.dK kws))) (h2 : KVX K ρ H kws kvs) :
    Wlk K ρ H (Itk d o kws) (kvs.map fun kv => .d (keyD kv.1)) (some (n, .dK true kvs)) := by
  have l : kws.length = (kvs.map fun kv => D.d (keyD kv.1)).length := by rw [List.length_map, Paired.length h2]
  refine ⟨fun H => H d = some (.frz o (.dK kws)), _, l ▸ walk_keys, fun ρ' H' st e S _ => e.frz d o _ hd, fun i ρ' H' st v H2 e S _ hi y => ?_⟩
  obtain ⟨rfl, k, w, h1, rfl⟩ := y
  have go : ∀ {kws : List (L2.Key × V)} {kvs : List (L2.Key × D)} {i : Nat}, KVX K ρ H kws kvs → kws[i]? = some (k, w) → (kvs.map fun kv => D.d (keyD kv.1))[i]? = some (.d (keyD k)) := by
    intro kws
    induction kws with
    | nil => intro kvs i _ h; simp at h
    | cons p t ih =>
      intro kvs i hp h
      cases hp with
      | cons e r =>
        cases i with
        | zero =>
          simp at h
          subst h
          simp [← e.1]
        | succ i =>
          simpa using ih r (by simpa using h)
  exact ⟨_, go h2 h1, .refl, S, .d (keyD_v _)⟩
theorem xi_keys (ha : XE X a A) : XI X tg a (mKeys A) := PI.weak (pi_keys ha) fun σ H R h => by
  obtain ⟨ρ, env, st, r, st', E, S, run, k⟩ := h
  obtain ⟨⟨x1, s1⟩, h1, run⟩ := bindS run
  refine ⟨ρ, env, st, x1, s1, E, S, h1, fun v H1 ρ1 e1 S1 r1 => ?_⟩
  split at run
  · rename_i n e'
    have e' : x1 = .ref n := e'
    subst e'
    cases r1 with
    | ref r1 =>
      split at run
      · rename_i kvs q
        cases run
        obtain ⟨kws, o, g1, g2⟩ := S1.at r1 q
        exact ⟨_, o, rfl, .inr ⟨kws, g1, k H1 ρ1 _ e1 S1 (wlk_keysT g1 g2)⟩⟩
      · rename_i kvs q
        cases run
        obtain ⟨kws, o, g1, g2⟩ := S1.at r1 q
        exact ⟨_, o, rfl, .inl ⟨kws, g1, k H1 ρ1 _ e1 S1 (wlk_keysK g1 g2)⟩⟩
      · cases run
  · cases run
/-! ### for k, v in d.items(), the keys tuples -/
def Itit (d : Addr) (o : Obj) (kws : List (List L2.Key × V)) : It :=
  ⟨fun i H => H d = some (.frz o (.dT kws)) ∧ i < kws.length, fun i H x H' => ∃ T k v q, kws[i]? = some (k, v) ∧ x = .ref T ∧ H T = none ∧ H q = some (.tup (k.map kV)) ∧ H' = upd H T (.tup [.ref q, v]), fun i H => H d = some (.frz o (.dT kws)) ∧ kws.length ≤ i⟩
theorem walk_itemsT {d : Addr} {o : Obj} {kws : List (List L2.Key × V)} : Walk (Itit d o kws) kws.length (fun H => H d = some (.frz o (.dT kws))) (fun i H x H' => ∃ T k v q, kws[i]? = some (k, v) ∧ x = .ref T ∧ H T = none ∧ H q = some (.tup (k.map kV)) ∧ H' = upd H T (.tup [.ref q, v])) :=
  ⟨fun _ _ hi q => ⟨q, hi⟩, fun _ q => ⟨q, Nat.le_refl _⟩, fun _ _ _ _ _ _ y => y⟩
theorem frzT_all {pins : List (Addr × Obj)} {σ : L2.St} {H : Hp} {s : Shared} {d : Addr} {o : Obj} {kws : List (List L2.Key × V)} (I : Inv X pins σ H s) (h : H d = some (.frz o (.dT kws))) :
    (d == sysModules) = false ∧ ∃ (es : Array DictEntry) (ep : Nat), s.heap.DictRaw d es ep ∧ o.data = .dict es ep ∧ es.size = kws.length ∧
      ∀ (i : Nat) (hi : i < es.size) (k : List L2.Key) (v : V), kws[i]? = some (k, v) → ∃ (q : Addr), es[i].key = .ref q ∧ H q = some (.tup (k.map kV)) ∧ RelV v es[i].val := by
  obtain ⟨hd, z, hs, xs, pr, o', es, ep, ho, hx, hdt, he, _⟩ := I.hok d _ h
  rw [hd] at ho
  cases ho
  have l1 : es.size = xs.length := size_of_entries he
  have l2 : kws.length = xs.length := Paired.length pr
  refine ⟨hs, es, ep, ⟨o, hd, hx, hdt⟩, hdt, by omega, fun i hi k v e => ?_⟩
  have go : ∀ {l : List (List L2.Key × V)} {m : List (List L2.Key × Addr × Value)} {i : Nat}, Paired (fun (p : List L2.Key × V) (q : List L2.Key × Addr × Value) => p.1 = q.1 ∧ H q.2.1 = some (.tup (p.1.map kV)) ∧ RelV p.2 q.2.2) l m → l[i]? = some (k, v) → ∃ y, m[i]? = some y ∧ H y.2.1 = some (.tup (k.map kV)) ∧ RelV v y.2.2 := by
    intro l
    induction l with
    | nil => intro m i _ h; simp at h
    | cons p t ih =>
      intro m i hp h
      cases hp with
      | cons e r =>
        cases i with
        | zero =>
          simp at h
          subst h
          exact ⟨_, rfl, e.2.1, e.2.2⟩
        | succ i =>
          obtain ⟨y, a, b⟩ := ih r (by simpa using h)
          exact ⟨y, by simpa using a, b⟩
  obtain ⟨y, y1, y2, y3⟩ := go pr e
  have q := entry_at he i
  rw [y1, Array.getElem?_eq_getElem hi] at q
  have q : es[i] = entryOfKey _ y := Option.some.inj q
  refine ⟨y.2.1, ?_, y2, ?_⟩
  · rw [q]
    rfl
  · rw [q]
    exact y3
theorem turn_itemsT {P : Program} {w : World} {K : PySem.W.Frag} {o : Obj} {d : Addr} {es : Array DictEntry} {ep : Nat} {kws : List (List L2.Key × V)} {elts : List Expr} {kk : Nat} {tpos : Pos} (it : Addr) (hod : o.data = .dict es ep) :
    Turn P w K (.Tuple elts kk tpos) (Itit d o kws) [it] it (fun i h => ∃ ok ov, IsItemIter h it d i kws.length ep ok ov) where
  mem := by simp
  obj := fun i h st b hb => by
    have e : b = it := by simpa using hb
    subst e
    obtain ⟨ok, ov, e⟩ := st
    exact ⟨_, e, fun v z => nomatch z⟩
  keep := fun i h h' st k => let ⟨ok, ov, e⟩ := st; ⟨ok, ov, k it (by simp) _ e⟩
  item := by
    intro X hP hw hK hc i pins s σ H E I hf st hg
    subst hP hw hK
    obtain ⟨hd, hi⟩ := hg
    obtain ⟨hs, es', ep', raw, hdt, hsz, hat⟩ := frzT_all I hd
    obtain ⟨rfl, rfl⟩ := dict_ep hod hdt
    obtain ⟨⟨k, v⟩, hkv⟩ : ∃ p, kws[i]? = some p := ⟨kws[i], List.getElem?_eq_getElem hi⟩
    have hi' : i < es'.size := by omega
    obtain ⟨q, hkey, hq, rv⟩ := hat i hi' k v hkv
    obtain ⟨ok, ov, he⟩ := st
    rw [← hsz] at he
    have hlt : it < s.heap.objs.size := Heap.lt_size he
    refine wpAny_pyNext_items_item_raw he raw hi' fun h' ho hT hz hk => ?_
    refine ⟨_, rfl, wpAny_letOwnedTupleGo_items (s := { s with heap := h' }) ho fun h'' he' sb => ?_⟩
    have hT2 := (sb.2 _ (Nat.ne_of_gt hlt)).trans hT
    have rk : RelV (.ref q) es'[i].key := hkey
    have new : ObjOk X.prog X.w (upd H s.heap.objs.size (.tup [.ref q, v])) h'' s.heap.objs.size (.tup [.ref q, v]) :=
      ⟨by show 2 ≤ sizeLine; decide, [es'[i].key, es'[i].val], .cons rk (.cons rv .nil), ⟨_, hT2, rfl, _, rfl⟩⟩
    have I1 : Inv X pins σ (upd H s.heap.objs.size (.tup [.ref q, v])) { s with heap := h'' } :=
      I.turnedNew (t' := s.toks) (ch := [it]) (fun b ob hb e => (sb.2 b (by simpa using hb)).trans (hk b ob (by simpa using hb) e)) hf (Nat.le_refl _) new
    refine ⟨.ref s.heap.objs.size, _, I1, rfl, ⟨_, k, v, q, hkv, rfl, I.hok.fresh (Nat.le_refl _), hq, rfl⟩, ⟨es'[i].key, es'[i].val, ?_⟩, fun b hb => ?_⟩
    · rw [← hsz]
      exact he'
    · have e : b = it := by simpa using hb
      rw [e, upd_ne (Nat.ne_of_lt hlt)]
      exact (hf it (by simp)).1
  done := by
    intro X hP hw hK hc i pins s σ H E I hf st hg
    subst hP hw hK
    obtain ⟨hd, hi⟩ := hg
    obtain ⟨f0, f1, f2, f3, f4, f5⟩ := hf it (by simp)
    obtain ⟨hs, es', ep', raw, hdt, hsz, hat⟩ := frzT_all I hd
    obtain ⟨rfl, rfl⟩ := dict_ep hod hdt
    obtain ⟨ok, ov, he⟩ := st
    rw [← hsz] at he hi
    exact wpAny_pyNext_items_end_raw (I.ok.hd hc) he raw hi fun h' eb => ⟨rfl, I.turned (t' := s.toks) (fun b ob hb e => eb b ob hb e) f0 f1 f3 f4 f5⟩
  self := fun A i s Q E st h => let ⟨_, _, e⟩ := st; PySem.W.kcp_self e h
def iItemsT (td : TE) : TI := fun σ H R => td σ H fun x H1 => ∃ d o kws, x = .ref d ∧ H1 d = some (.frz o (.dT kws)) ∧ R (Itit d o kws) H1
theorem pi_itemsT {e : Expr} {td : TE} {elts : List Expr} {kk : Nat} {tpos cpos : Pos} (he : PE X e td) (hbase : attributeBase e "items" X.env (eval e X.env) = eval e X.env := by rfl) (hline : (apos.endLine == cpos.line) = true := by rfl) :
    PI X (.Tuple elts kk tpos) (.Call (.Attribute e "items" apos) [] [] cpos) (iItemsT td) := by
  refine ⟨fun pins s σ H R I h => ?_⟩
  refine wpAny_Call_method (T := "dict") (id := "dict.items") hbase rfl hline F.plainAttrs_dict F.slot_dict_items F.type_dict_items (thn (he.run pins s σ H _ I h) fun u s1 ⟨x, H1, I1, rx, d, o, kws, ex, hd, q⟩ => ?_)
  subst ex
  obtain rfl : u = Value.ref d := rx
  obtain ⟨hs, es, ep, raw, hdt, hsz, hat⟩ := frzT_all I1 hd
  refine ⟨raw.typeIs, fun b hb => ?_, ?_⟩
  · cases hb
    obtain ⟨ob, h1, h2, _⟩ := raw
    exact ⟨ob, h1, h2.2.1⟩
  have I2 : Inv X pins σ H1 { s1 with heap := s1.heap.push { cls := .type "dict_items", data := .fields #[.ref d] } } := I1.kept (t' := s1.toks) fun b ob q => Heap.get?_push_of_some _ q
  have fin : wpAny (model X.prog X.w) X.A (pyIter (.ref s1.heap.objs.size)) (PIE X pins σ (.Tuple elts kk tpos) R) X.xe { s1 with heap := s1.heap.push { cls := .type "dict_items", data := .fields #[.ref d] } } := by
    refine wpAny_pyIter_items_raw (d := d) (es := es) (ep := ep) ⟨_, Heap.get?_push_size _ rfl, rfl, rfl⟩ (raw.at fun _ e => Heap.get?_push_of_some _ e) (pi_one (tk := s1.toks) I2 _ (turn_itemsT _ hdt) ⟨.none, .none, ?_⟩ q)
    rw [← hsz]
    exact Heap.get?_push_size _ rfl
  show wpAny _ _ (callWith cpos (.builtin "dict.items") [.ref d] [] []) _ X.xe s1
  exact method_meetsIn F.slot_dict_items F.entry_dict_items rfl (PySem.evalArgs_none ⟨rfl, raw.typeIs, F.args_dict_items_1 _, _, meets_dict_items_raw d hs, ⟨es, ep, raw⟩, fin⟩)
def pairsD : List (List L2.Key × D) → Option (List PyData)
  | [] => some []
  | (k, .d x) :: r => (pairsD r).map (.tuple [tupK k, x] :: ·)
  | (_, .ref _) :: _ => none
theorem pairsD_at : ∀ {kvs : List (List L2.Key × D)} {ds : List PyData}, pairsD kvs = some ds → ds.length = kvs.length ∧ ∀ (i : Nat) (k : List L2.Key) (y : D), kvs[i]? = some (k, y) → ∃ x : PyData, y = D.d x ∧ ds[i]? = some (PyData.tuple [tupK k, x])
  | [], _, e => by
    cases e
    exact ⟨rfl, fun i k y h => by simp at h⟩
  | (k, .d x) :: r, ds, e => by
    unfold pairsD at e
    obtain ⟨l, q, e⟩ := Option.map_eq_some_iff.mp e
    subst e
    obtain ⟨h1, h2⟩ := pairsD_at q
    refine ⟨by simp [h1], fun i k' y h => ?_⟩
    cases i with
    | zero =>
      simp at h
      obtain ⟨rfl, rfl⟩ := h
      exact ⟨x, rfl, rfl⟩
    | succ i =>
      obtain ⟨z, a, b⟩ := h2 i k' y (by simpa using h)
      exact ⟨z, a, by simpa using b⟩
  | (_, .ref _) :: _, _, e => by cases e
def mItems (A : Env → M D) : Env → M (List D × Gd) := fun env st => (A env st).bind fun r => match r.1 with
  | .ref n => match r.2[n]? with
    | some (.dT true kvs) => (pairsD kvs).map fun ds => ((ds.map D.d, some (n, .dT true kvs)), r.2)
    | _ => none
  | _ => none
theorem xi_items {e : Expr} {elts : List Expr} {kk : Nat} {tpos cpos : Pos} (ha : XE X e A) (hbase : attributeBase e "items" X.env (eval e X.env) = eval e X.env := by rfl) (hline : (apos.endLine == cpos.line) = true := by rfl) :
    XI X (.Tuple elts kk tpos) (.Call (.Attribute e "items" apos) [] [] cpos) (mItems A) := PI.weak (pi_itemsT ha hbase hline) fun σ H R h => by
  obtain ⟨ρ, env, st, r, st', E, S, run, k⟩ := h
  obtain ⟨⟨x1, s1⟩, h1, run⟩ := bindS run
  refine ⟨ρ, env, st, x1, s1, E, S, h1, fun v H1 ρ1 e1 S1 r1 => ?_⟩
  split at run
  · rename_i n e'
    have e' : x1 = .ref n := e'
    subst e'
    cases r1 with
    | ref r1 =>
      rename_i d
      split at run
      · rename_i kvs q
        obtain ⟨ds, hp, run⟩ := Option.map_eq_some_iff.mp run
        cases run
        obtain ⟨kws, o, g1, g2⟩ := S1.at r1 q
        obtain ⟨p1, p2⟩ := pairsD_at hp
        have l : kws.length = (ds.map D.d).length := by rw [List.length_map, p1, Paired.length g2]
        have wk := walk_itemsT (d := d) (o := o) (kws := kws)
        rw [l] at wk
        refine ⟨d, o, kws, rfl, g1, k H1 ρ1 _ e1 S1 ⟨_, _, wk, fun ρ' H' st e S _ => e.frz d o _ g1, fun i ρ' H' st v H2 e S g hi y => ?_⟩⟩
        obtain ⟨T, kk, w, qq, y1, rfl, y3, y4, rfl⟩ := y
        have go : ∀ {kws : List (List L2.Key × V)} {kvs : List (List L2.Key × D)} {i : Nat}, KVX X.K ρ1 H1 kws kvs → kws[i]? = some (kk, w) → ∃ y, kvs[i]? = some (kk, y) ∧ VX X.K ρ1 H1 w y := by
          intro kws
          induction kws with
          | nil => intro kvs i _ h; simp at h
          | cons p t ih =>
            intro kvs i hp h
            cases hp with
            | cons e r =>
              rename_i z zs
              cases i with
              | zero =>
                simp at h
                subst h
                obtain ⟨z1, z2⟩ := z
                obtain ⟨e1, e2⟩ := e
                have e1 : kk = z1 := e1
                subst e1
                exact ⟨z2, rfl, e2⟩
              | succ i =>
                obtain ⟨y, a, b⟩ := ih r (by simpa using h)
                exact ⟨y, by simpa using a, b⟩
        obtain ⟨z, z1, z2⟩ := go g2 y1
        obtain ⟨x, rfl, z3⟩ := p2 i kk z z1
        refine ⟨.d (.tuple [tupK kk, x]), by rw [List.getElem?_map, z3]; rfl, ext_new y3, S.data y3, .d (tup_new S y3 (.cons (.tup ⟨y4, S.notup y4⟩ (keysD_v _)) (.cons ?_ .nil)))⟩
        cases z2 with
        | d z2 => exact DV.ext e _ _ z2
      · cases run
  · cases run
end
end PM

set_option Elab.async false
set_option linter.all false
set_option maxRecDepth 100000
set_option autoImplicit false
/-! PM, part i: sets of texts, sorted at once. -/
namespace PM
open PySem PySem.Spec PyProof.Rows L2

def keyS (e : Int × Value) : Str := match e.2 with
  | .str x _ => x
  | _ => Str.empty
def GoodS (w : World) (e : Int × Value) : Prop := ∃ x tk, e.2 = Value.str x tk ∧ e.1 = hashStr w x
/-- the set at a holds the texts xs; its table can be walked -/
def StrSet (w : World) (h : Heap) (a : Addr) (xs : List Str) : Prop :=
  ∃ o es ep t, h.get? a = some o ∧ o.ExactSet ∧ o.data = .set es ep t ∧ (∀ e ∈ es.toList, GoodS w e) ∧ (es.toList.map keyS).Nodup ∧ (∀ k, k ∈ xs ↔ k ∈ es.toList.map keyS) ∧
    es.size ≤ xs.length ∧ t.fits es.size = true ∧ Ris t.place.toList ∧ (w.params.followText "set-order" = true ∨ t.led = true)
section
variable {P : Program} {w : World} {h h' : Heap} {a : Addr} {xs : List Str}
theorem StrSet.at (R : StrSet w h a xs) (k : ∀ o, h.get? a = some o → h'.get? a = some o) : StrSet w h' a xs := by
  obtain ⟨o, es, ep, t, ho, r⟩ := R
  exact ⟨o, es, ep, t, k o ho, r⟩
theorem goodS_elems {l : List (Int × Value)} (g : ∀ e ∈ l, GoodS w e) : ElemsOf (PySem.strKind P w) l := fun e he => by
  obtain ⟨k, tk, h1, h2⟩ := g e he
  exact ⟨⟨k, by rw [h1]; exact strKind_is P w k tk, h2⟩, by rw [h1] <;> rfl⟩
theorem goodS_is {e : Int × Value} (g : GoodS w e) (k : Str) : (PySem.strKind P w).is k e.2 = true ↔ keyS e = k := by
  obtain ⟨k0, tk, h1, _⟩ := g
  unfold keyS
  rw [h1]
  show Value.isStrOf k (.str k0 tk) = true ↔ k0 = k
  unfold Value.isStrOf
  exact beq_iff_eq
theorem goodS_mem {l : List (Int × Value)} (g : ∀ e ∈ l, GoodS w e) (k : Str) : k ∈ l.map keyS ↔ ∃ e ∈ l, (PySem.strKind P w).is k e.2 = true := by
  rw [List.mem_map]
  constructor
  · rintro ⟨e, he, q⟩
    exact ⟨e, he, (goodS_is (g e he) k).2 q⟩
  · rintro ⟨e, he, q⟩
    exact ⟨e, he, (goodS_is (g e he) k).1 q⟩
theorem setS_fresh {h : Heap} (w : World) (led : Bool) (hl : w.params.followText "set-order" = true ∨ led = true) : StrSet w (h.push { cls := .type "set", dict := none, data := .set #[] 0 (.fresh 0 0 led) }) h.objs.size [] :=
  ⟨_, #[], 0, _, Heap.get?_push_size _ rfl, ⟨rfl, rfl, rfl⟩, rfl, (fun e he => by simp at he), (by simp), (fun k => by simp), (by simp), (by rfl), List.Pairwise.nil, hl⟩
end
section
variable {P : Program} {w : World} {A : Around} {E : Value → Shared → Prop} {s : Shared} {a : Addr} {xs : List Str}
/-- the entries es1 are stored, the table laid anew where it is too full -/
theorem setS_store {g : Bool → Sem Unit} (hg : ∀ (b : Bool) (s₁ : Shared) (Q' : Unit → Shared → Prop), Q' () s₁ → wpAny (model P w) A (g b) Q' E s₁)
    {o : Obj} {es : Array (Int × Value)} {ep : Nat} {t : SetTable} (ho : s.heap.get? a = some o) (hex : o.ExactSet) (hd : o.data = .set es ep t)
    {es1 : Array (Int × Value)} {t2 : SetTable} {ys : List Str} (g1 : ∀ e ∈ es1.toList, GoodS w e) (nd1 : (es1.toList.map keyS).Nodup) (m1 : ∀ k, k ∈ ys ↔ k ∈ es1.toList.map keyS)
    (hb1 : es1.size ≤ ys.length) (hys : ys.length < scanBound) (hf2 : t2.fits es1.size = true) (hr : Ris t2.place.toList) (hl : w.params.followText "set-order" = true ∨ t2.led = true) {wasDummy : Bool} {R : Option Bool → Shared → Prop}
    (hR : ∀ h', Heap.SameBut a s.heap h' → StrSet w h' a ys → R (some true) { s with heap := h' }) :
    wpAny (model P w) A (do
        storeSet a es1 t2
        if (!wasDummy && t2.tooFull) = true then do
            g (relayAll t2 es1 (SetTable.grown es1.size)).2.2
            storeSet a (relayAll t2 es1 (SetTable.grown es1.size)).1 (relayAll t2 es1 (SetTable.grown es1.size)).2.1
            pure (some true)
          else pure (some true)) R E s := by
  have hb1' : es1.size < scanBound := Nat.lt_of_le_of_lt hb1 hys
  refine wpAny_bind (wpAny_storeSet_of ho hd ?_ (fits_of_scanBound hb1'))
  have ho1 := store_at (es' := es1) (t' := t2) ho hd
  have sb1 := Heap.SameBut.update s.heap a (Obj.putSet es1 t2)
  split
  · have pm := relayAll_perm t2 es1 (SetTable.grown es1.size)
    have hf3 := relayAll_fits t2 es1 (SetTable.grown es1.size)
    have hr3 := relayAll_ris t2 es1 (SetTable.grown es1.size)
    have hl3 := relayAll_led t2 es1 (SetTable.grown es1.size)
    generalize relayAll t2 es1 (SetTable.grown es1.size) = Z at pm hf3 hr3 hl3 ⊢
    obtain ⟨es2, t3, gave⟩ := Z
    dsimp only at pm hf3 hr3 hl3 ⊢
    have hsz : es2.size = es1.size := by rw [← Array.length_toList, pm.length_eq, Array.length_toList]
    have hb2 : es2.size < scanBound := by rw [hsz]; exact hb1'
    refine wpAny_bind (hg _ _ _ ?_)
    refine wpAny_bind (wpAny_storeSet_of ho1 rfl ?_ (fits_of_scanBound hb2))
    have ho2 := store_at (es' := es2) (t' := t3) ho1 rfl
    refine wpAny_pure (hR _ (sb1.trans (Heap.SameBut.update _ a _)) ?_)
    exact ⟨_, es2, _, t3, ho2, hex, rfl, fun e he => g1 e (pm.mem_iff.mp he), (pm.map keyS).nodup_iff.mpr nd1, fun k => (m1 k).trans (pm.map keyS).mem_iff.symm, by rw [hsz]; exact hb1, hf3, hr3,
      hl.imp id fun z => by rw [hl3]; exact z⟩
  · exact wpAny_pure (hR _ sb1 ⟨_, es1, _, t2, ho1, hex, rfl, g1, nd1, m1, hb1, hf2, hr, hl⟩)
theorem setS_add {k : Str} {tk : Tok} {Q : Bool → Shared → Prop} (R : StrSet w s.heap a xs) (room : xs.length + 1 < scanBound)
    (hQ : ∀ h' b, Heap.SameBut a s.heap h' → StrSet w h' a (xs ++ [k]) → Q b { s with heap := h' }) :
    wpAny (model P w) A (setAddHashed a (.str k tk) ((PySem.strKind P w).hash k)) Q E s := by
  obtain ⟨o, es, ep, t, ho, hex, hd, g, nd, hm, hb, hf, hr, hl⟩ := R
  have hkey : (PySem.strKind P w).is k (.str k tk) = true := strKind_is P w k tk
  have hsc : (Value.str k tk).scannable = true := rfl
  have hel : ElemsOf (PySem.strKind P w) es.toList := goodS_elems g
  have hbs : es.size < scanBound := by omega
  unfold setAddHashed setAddHashedIn
  refine wpAny_holding (wpAny_bind (wpAny_setState_of ho hd hf ?_))
  dsimp only
  rw [byScan_of hsc hbs hel]
  simp only [↓reduceIte]
  unfold setAddByScan
  refine wpAny_bind ?_
  refine wpAny_bind (wpAny_rule ?_)
  refine wpAny_bind (wpAny_setScan_of hkey ho hd hf hel ?_)
  cases hfi : List.findIdx? (fun e => (PySem.strKind P w).is k e.2) es.toList with
  | some j =>
    dsimp only
    obtain ⟨hj, pj, _⟩ := List.findIdx?_eq_some_iff_getElem.mp hfi
    have hSk : k ∈ xs := (hm k).2 ((goodS_mem (P := P) (w := w) g k).2 ⟨es.toList[j], List.getElem_mem hj, pj⟩)
    refine wpAny_pure (wpAny_pure ?_)
    exact hQ s.heap _ (Heap.SameBut.refl a s.heap) ⟨o, es, ep, t, ho, hex, hd, g, nd, fun i => by
      rw [List.mem_append, List.mem_singleton, ← hm i]
      exact ⟨fun z => z.elim id (fun e => e ▸ hSk), .inl⟩, by rw [List.length_append]; omega, hf, hr, hl⟩
  | none =>
    dsimp only
    have hnk : k ∉ es.toList.map keyS := fun z => by
      obtain ⟨e, he, q⟩ := (goodS_mem (P := P) (w := w) g k).1 z
      have c := List.findIdx?_eq_none_iff.mp hfi e he
      rw [q] at c
      cases c
    have hgw : ∀ (b : Bool) {s₁ : Shared} {Q' : Unit → Shared → Prop}, Q' () s₁ → wpAny (model P w) A (match b with | true => rule "set.scan.the-table-gave-way" | false => pure ()) Q' E s₁ :=
      fun b s₁ Q' q => by cases b <;> first | exact wpAny_pure q | exact wpAny_rule q
    have pm := layNew_perm t es ((PySem.strKind P w).hash k) (.str k tk)
    have hf1 := layNew_fits t es ((PySem.strKind P w).hash k) (.str k tk)
    have hr1 := layNew_ris t es ((PySem.strKind P w).hash k) (.str k tk) hr
    have hl1 := layNew_led t es ((PySem.strKind P w).hash k) (.str k tk)
    generalize layNew t es ((PySem.strKind P w).hash k) (.str k tk) = Z at pm hf1 hr1 hl1 ⊢
    obtain ⟨es1, t1, wasDummy, gave⟩ := Z
    dsimp only at pm hf1 hr1 hl1 ⊢
    rw [Array.toList_push] at pm
    have pc : es1.toList.Perm (((PySem.strKind P w).hash k, Value.str k tk) :: es.toList) := pm.trans (List.perm_append_singleton _ _)
    have pk : (es1.toList.map keyS).Perm (k :: es.toList.map keyS) := pc.map keyS
    have g1 : ∀ e ∈ es1.toList, GoodS w e := fun e he => by
      rcases List.mem_cons.mp (pc.mem_iff.mp he) with z | z
      · rw [z]; exact ⟨k, tk, rfl, rfl⟩
      · exact g e z
    have nd1 : (es1.toList.map keyS).Nodup := pk.nodup_iff.mpr (List.nodup_cons.mpr ⟨hnk, nd⟩)
    have m1 : ∀ i, i ∈ xs ++ [k] ↔ i ∈ es1.toList.map keyS := fun i => by
      rw [List.mem_append, List.mem_singleton, hm i, pk.mem_iff, List.mem_cons]
      exact Or.comm
    have hsz : es1.size = es.size + 1 := by rw [← Array.length_toList, pc.length_eq, List.length_cons, Array.length_toList]
    have hb1 : es1.size ≤ (xs ++ [k]).length := by rw [hsz, List.length_append]; simpa using hb
    have hys : (xs ++ [k]).length < scanBound := by rw [List.length_append]; simpa using room
    have hled : w.params.followText "set-order" = true ∨ t1.led = true := hl.imp id fun z => by rw [hl1]; exact z
    refine wpAny_bind (hgw _ ?_)
    split
    · refine wpAny_bind ?_
      rw [hashByValue_scannable 8 hsc]
      refine wpAny_pure ?_
      refine setS_store ?_ ho hex hd g1 nd1 m1 hb1 hys ?_ ?_ ?_ ?_
      · intro b s₁ Q' q; cases b <;> first | exact wpAny_pure q | exact wpAny_rule q
      · first | (split <;> first | exact hf1 | exact SetTable.fits_plain_off hf1) | exact hf1
      · first | (split <;> exact hr1) | exact hr1
      · first | (split <;> exact hled) | exact hled
      · intro h' sb r; dsimp only; exact wpAny_pure (hQ h' _ sb r)
    · refine wpAny_bind (wpAny_pure ?_)
      simp only [↓reduceIte]
      refine setS_store ?_ ho hex hd g1 nd1 m1 hb1 hys hf1 hr1 hled ?_
      · intro b s₁ Q' q; cases b <;> first | exact wpAny_pure q | exact wpAny_rule q
      · intro h' sb r; dsimp only; exact wpAny_pure (hQ h' _ sb r)
end
section
variable {prog : Program} {w : World} {A : Around} {R : Result → Shared → Prop} {I : Addr} {fp wr : List Addr} {G : Array GenState → Array GenState → Prop} {n : Nat} {P : Nat → Value → Prop} {St : Nat → Shared → Prop}
theorem loopS (W : WalksS prog w A.in1 I fp wr G n P St) (S : Addr) (hSf : S ∉ fp) (xs : List Str) (hsz : xs.length = n) (hn1 : n + 1 < scanBound)
    (hval : ∀ i v, P i v → ∃ t, v = .str (xs.getD i Str.empty) t) :
    ∀ (k i : Nat) (s : Shared), n - i = k → i ≤ n → St i s → StrSet w s.heap S (xs.take i) →
      (∀ s', Moved (S :: wr) G s s' → StrSet w s'.heap S xs → R (.ok (.ret .none)) s') →
      codeAny (model prog w) A (.builtin "set.update.loop" ⟨[.ref S, .ref I], []⟩) R s := by
  have hSw : S ∉ wr := fun h => hSf (W.sub _ h)
  have hsub : ∀ b ∈ wr, b ∈ S :: wr := fun b hb => List.mem_cons_of_mem _ hb
  intro k
  induction k with
  | zero =>
    intro i s hk hi hst hS hR
    have hin : i = n := by omega
    subst hin
    refine codeAny_builtin PyProof.Rows.F.entry_set_update_loop ?_
    rw [Around.under_plainId PyProof.Rows.F.plain_set_update_loop _]
    show wpAny _ A.in1 (pyNext (.ref I) >>= _) _ _ s
    refine wpAny_bind (W.done s _ _ hst fun s' hm => ?_)
    show wpAny _ A.in1 (ret Value.none) _ _ s'
    rw [List.take_of_length_le (Nat.le_of_eq hsz)] at hS
    exact wpAny_pure (hR s' (hm.mono hsub) (hS.at fun o e => hm.heap S _ hSw e))
  | succ k ih =>
    intro i s hk hi hst hS hR
    have hlt : i < n := by omega
    refine codeAny_builtin PyProof.Rows.F.entry_set_update_loop ?_
    rw [Around.under_plainId PyProof.Rows.F.plain_set_update_loop _]
    show wpAny _ A.in1 (pyNext (.ref I) >>= _) _ _ s
    refine wpAny_bind (W.item i s _ _ hlt hst fun v s' hP hst' hm => ?_)
    obtain ⟨t, rfl⟩ := hval i v hP
    have hS' : StrSet w s'.heap S (xs.take i) := hS.at fun o e => hm.heap S _ hSw e
    show wpAny _ A.in1 (holding [Value.str (xs.getD i Str.empty) t] (setAdd S (.str (xs.getD i Str.empty) t)) >>= _) _ _ s'
    refine wpAny_bind (wpAny_holding ?_)
    unfold setAdd
    refine wpAny_holding ?_
    refine wpAny_bind ((PySem.strKind prog w).pyHash (k := xs.getD i Str.empty) (strKind_is _ _ _ _) ?_)
    refine setS_add (s := { s' with toks := s'.toks + 1 }) hS' (by rw [List.length_take]; omega) fun h' b hsb hS2 => ?_
    have hSi : StrSet w h' S (xs.take (i + 1)) := by
      have e : xs.take (i + 1) = xs.take i ++ [xs.getD i Str.empty] := by
        have hx : i < xs.length := by omega
        rw [List.take_add_one, List.getD_eq_getElem?_getD, List.getElem?_eq_getElem hx]
        rfl
      rw [e]
      exact hS2
    refine wpAny_pure ⟨plainId_quiet PyProof.Rows.F.plain_set_update_loop _, ih (i + 1) _ (by omega) hlt (W.frame _ s' _ _ hst' (Nat.le_succ _) fun b hb o e => ?_) hSi fun s'' hm'' hS'' => ?_⟩
    · rw [hsb.2 b (fun h : b = S => hSf (by rw [← h]; exact hb))]; exact e
    · refine hR s'' (Moved.trans W.gtrans ((hm.mono hsub).then_heap (Nat.le_succ _) fun b o hb e => ?_) hm'') hS''
      rw [hsb.2 b (fun h : b = S => hb (by rw [h]; exact List.mem_cons_self))]; exact e
end
section
variable {prog : Program} {w : World} {A : Around} {E : Value → Shared → Prop} {s : Shared}
theorem code_setS_new (a : Value) {Q₁ : Value → Shared → Prop}
    (h : Q₁ (.ref s.heap.objs.size) { s with heap := s.heap.push { cls := .type "set", dict := none, data := .set #[] 0 (.fresh 0 0 (!w.params.followText "set-order")) } }) :
    codeAny (model prog w) A (.call (.builtin "set.__new__") ⟨[.type "set", a], []⟩) (wants Q₁ E) s := by
  refine codeAny_of_tree ?_
  show wpAny _ A.in1 (do checkBuiltinCall "set.__new__" ⟨[.type "set", a], []⟩; again (.builtin "set.__new__" ⟨[.type "set", a], []⟩)) _ _ s
  refine wpAny_bind (wpAny_of_eq (PySem.F.newCall_set_1 a) (wpAny_pure ⟨plainId_quiet F.plain_set_new _, codeAny_builtin F.entry_set_new ?_⟩))
  rw [Around.under_plainId F.plain_set_new _]
  unfold Builtin.«set.__new__» Builtin.Frozenset.newClass
  have hsub := sub_set_self
  obtain ⟨hp, g, d, tk, os⟩ := s
  dsimp only
  wp_walk
  refine wpAny_askSetting (wpAny_pure ?_)
  dsimp only
  simp only [newObj]
  refine wpAny_bind (wpAny_alloc (wpAny_pure ?_))
  exact wpAny_pure h
set_option maxHeartbeats 3200000 in
theorem call_set_strs {l : Addr} {items : Array Value} {xs : List Str} {Q : Value → Shared → Prop}
    (hh : A.handled = none) (hl : s.heap.IsList l items) (hi : PyProof.Rows.StrsAre items.toList xs) (hn1 : xs.length + 1 < scanBound)
    (h : ∀ (h' : Heap) (tk : Nat), StrSet w h' s.heap.objs.size xs →
      (∀ b o, b < s.heap.objs.size → s.heap.get? b = some o → h'.get? b = some o) → Q (.ref s.heap.objs.size) { s with heap := h', toks := tk }) :
    wpAny (model prog w) A (call (.type "set") [.ref l]) Q E s := by
  obtain ⟨c, tl, hmro⟩ := PySem.F.called_set.mro
  have hmade := PySem.F.called_set.made
  have hsub := PySem.F.called_set.sub
  refine wpAny_call (codeAny_of_tree ?_)
  show wpAny _ _ (callAny (.type "set") _) _ _ _
  refine wpAny_pure ⟨Code.quiet_builtin _ (by decide +kernel), codeAny_builtin PySem.F.entry_type_call ?_⟩
  rw [Around.under_plain (weight_type_call_type "set" [.ref l] []) rfl]
  have h1 := PySem.F.called_set.notType
  have h2 := PySem.F.called_set.canCreate
  have hct := PySem.F.typeCall_set_1 (.ref l)
  repeat (any_goals (first | assumption | wp_step))
  refine codeAny_mono (code_setS_new (.ref l) (E := E) (Q₁ := fun obj s₁ => ∃ led : Bool, (w.params.followText "set-order" = true ∨ led = true) ∧ obj = .ref s.heap.objs.size ∧ s₁ = { s with heap := s.heap.push { cls := .type "set", dict := none, data := .set #[] 0 (.fresh 0 0 led) } }) ⟨_, by cases w.params.followText "set-order" <;> simp, rfl, rfl⟩) fun r s₁ hr => ?_
  cases r with
  | error e => exact hr
  | ok fl =>
    cases fl with
    | ret obj =>
      obtain ⟨led, hled, rfl, rfl⟩ := hr
      have hS : (s.heap.push { cls := .type "set", dict := none, data := .set #[] 0 (.fresh 0 0 led) }).get? s.heap.objs.size = some { cls := .type "set", dict := none, data := .set #[] 0 (.fresh 0 0 led) } := Heap.get?_push_size _ rfl
      have hT : Shared.TypeIs { s with heap := s.heap.push { cls := .type "set", dict := none, data := .set #[] 0 (.fresh 0 0 led) } } (.ref s.heap.objs.size) "set" := ⟨_, hS, rfl⟩
      have hli := PySem.F.called_set.init.lookup
      have hbi := PySem.F.called_set.init.bind (.ref s.heap.objs.size)
      repeat (any_goals (first | assumption | wp_step))
      refine codeAny_mono (codeAny_call_builtin (R := wants (fun r s₂ => r = .none ∧ ∃ h' tk, s₂ = { s with heap := h', toks := tk } ∧ StrSet w h' s.heap.objs.size xs ∧
          (∀ b o, b < s.heap.objs.size → s.heap.get? b = some o → h'.get? b = some o)) E) PySem.F.called_set.init.plain PySem.F.entry_set_init (check_set_init_1 hT ?_)) fun r₂ s₂ hr₂ => ?_
      · obtain ⟨ol, hol, hcl, nl, hdl⟩ := hl
        obtain ⟨ocls, odict, odata, oslots⟩ := ol
        simp only at hcl hdl
        subst hcl; subst hdl
        have hol' : (s.heap.push { cls := .type "set", dict := none, data := .set #[] 0 (.fresh 0 0 led) }).get? l = some { cls := .type "list", dict := odict, data := .seq items nl, slots := oslots } := Heap.get?_push_of_some _ hol
        have hsls := PySem.F.sub_list_set
        have hslf := PySem.F.sub_list_frozenset
        have hne : (Value.type "list" == Value.type "dict") = false := by decide
        have hl1 : (s.heap.push { cls := .type "set", dict := none, data := .set #[] 0 (.fresh 0 0 led) }).IsList l items := ⟨_, hol', rfl, nl, rfl⟩
        unfold Builtin.«set.__init__» noKeywords Builtin.Frozenset.updateFrom
        generalize hPI : pyIter = PI
        wp_walk
        subst hPI
        refine wpAny_pyIter_list hl1 ?_
        refine wpAny_bind (wpAny_runValue ?_)
        have hlS : l < s.heap.objs.size := Heap.lt_size hol
        have hh3 : A.in1.in1.in1.handled = none := by simp [hh]
        have hneI : l ≠ (s.heap.push { cls := .type "set", dict := none, data := .set #[] 0 (.fresh 0 0 led) }).objs.size := by
          rw [Heap.size_push]; exact Nat.ne_of_lt (Nat.lt_succ_of_lt hlS)
        have hSf : s.heap.objs.size ∉ [(s.heap.push { cls := .type "set", dict := none, data := .set #[] 0 (.fresh 0 0 led) }).objs.size, l] := by
          rw [Heap.size_push]; simp only [List.mem_cons, List.mem_singleton, List.not_mem_nil, or_false, not_or]
          exact ⟨Nat.ne_of_lt (Nat.lt_succ_self _), Nat.ne_of_gt hlS⟩
        have hz : xs.length = items.size := by
          have := hi.length
          rw [Array.length_toList] at this
          exact this.symm
        have hval : ∀ (i : Nat) (v : Value), items[i]? = some v → ∃ t, v = .str (xs.getD i Str.empty) t := fun i v hv =>
          SS.strs_at hi i v (by rw [Array.getElem?_toList]; exact hv)
        refine loopS ((Walks.list hh3 _ l hneI items).toS) s.heap.objs.size
          hSf xs hz (by omega) hval (items.size - 0) 0 _ (by omega) (Nat.zero_le _)
          ⟨⟨_, Heap.get?_push_size _ rfl, rfl, rfl⟩, (hl1.push _)⟩ ?hS0 ?hR
        case hS0 =>
          rw [List.take_zero]
          exact (setS_fresh (h := s.heap) w led hled).at fun o e => Heap.get?_push_of_some _ e
        case hR =>
          intro s' hm hS'
          obtain ⟨h', g', d', tk', os'⟩ := s'
          have eg : g' = s.gens := hm.gens
          have ed : d' = s.drawn := hm.drawn
          have eo : os' = s.os := hm.os
          subst eg; subst ed; subst eo
          show wpAny _ _ _ _ _ _
          refine wpAny_pure ?_
          show wpAny _ _ (ret Value.none) _ _ _
          refine wpAny_pure ⟨rfl, h', tk', rfl, hS', fun b o hb e => ?_⟩
          have hb1 : b ≠ s.heap.objs.size := Nat.ne_of_lt hb
          have hb2 : b ≠ (s.heap.push { cls := .type "set", dict := none, data := .set #[] 0 (.fresh 0 0 led) }).objs.size := by
            rw [Heap.size_push]; exact Nat.ne_of_lt (Nat.lt_succ_of_lt hb)
          exact hm.heap b o (by simp only [List.mem_cons, List.mem_singleton, List.not_mem_nil, or_false, not_or]; exact ⟨hb1, hb2⟩) (Heap.get?_push_of_some _ (Heap.get?_push_of_some _ e))
      · cases r₂ with
        | error e => exact hr₂
        | ok fl₂ =>
          cases fl₂ with
          | ret r =>
            obtain ⟨rfl, h', tk, rfl, hS', hk'⟩ := hr₂
            repeat (any_goals (first | assumption | wp_step))
            exact h _ _ hS' hk'
          | _ => exact hr₂.elim
    | _ => exact hr.elim
end
end PM

set_option Elab.async false
set_option linter.all false
set_option maxRecDepth 100000
set_option autoImplicit false
/-! PM, part j: sorted(set(..)), dict(pairs), comprehensions, dict displays. -/
namespace PM
open PySem PySem.Spec PyProof.Rows L2
open Classical

/-! ### orders -/
theorem merge_perm {α : Type} {le : α → α → Bool} (h : PySem.W.TotalLe le) {l m : List α} (p : l.Perm m) (anti : ∀ a ∈ l, ∀ b ∈ l, le a b = true → le b a = true → a = b) : l.mergeSort le = m.mergeSort le := by
  refine PySem.W.sort_unique h (PySem.W.sort_pairwise h l) fun c => ?_
  rw [PySem.W.sort_stable h l c]
  have pf := p.filter (PySem.W.sameRank le c)
  cases q : l.filter (PySem.W.sameRank le c) with
  | nil =>
    rw [q] at pf
    exact pf.nil_eq
  | cons x t =>
    have hin : ∀ a ∈ x :: t, a ∈ l ∧ PySem.W.sameRank le c a = true := fun a ha => by
      rw [← q] at ha
      exact List.mem_filter.mp ha
    have all : ∀ a ∈ x :: t, a = x := fun a ha => by
      obtain ⟨a1, a2⟩ := hin a ha
      obtain ⟨b1, b2⟩ := hin x List.mem_cons_self
      unfold PySem.W.sameRank at a2 b2
      rw [Bool.and_eq_true] at a2 b2
      exact anti a a1 x b1 (h.trans _ _ _ a2.2 b2.1) (h.trans _ _ _ b2.2 a2.1)
    have e : x :: t = List.replicate (x :: t).length x := List.eq_replicate_iff.mpr ⟨rfl, all⟩
    rw [q, e] at pf
    rw [e]
    exact (List.perm_replicate.mp pf.symm).symm
theorem dle_total : PySem.W.TotalLe (PySem.W.dataLe (β := PyData) false id) := PySem.W.sortLe_total _ _ _
theorem dle_toks {a b : PyData} (h1 : PySem.W.dataLe false id a b = true) (h2 : PySem.W.dataLe false id b a = true) : PySem.W.keyToks a = PySem.W.keyToks b := by
  unfold PySem.W.dataLe PySem.W.sortLe at h1 h2
  have h1 : (!(listOrd itemOrd).blt (PySem.W.keyToks b) (PySem.W.keyToks a)) = true := h1
  have h2 : (!(listOrd itemOrd).blt (PySem.W.keyToks a) (PySem.W.keyToks b)) = true := h2
  rw [Bool.not_eq_true'] at h1 h2
  exact (listOrd itemOrd).total _ _ h2 h1
theorem sortD_perm {l m : List PyData} (p : l.Perm m) (anti : ∀ a ∈ l, ∀ b ∈ l, PySem.W.keyToks a = PySem.W.keyToks b → a = b) : sortD l = sortD m :=
  merge_perm dle_total p fun a ha b hb h1 h2 => anti a ha b hb (dle_toks h1 h2)
/-! ### sorted(set(xs)), texts -/
def strsOf : List D → Option (List Str)
  | [] => some []
  | .d (.str z) :: r => (strsOf r).map (z :: ·)
  | _ => none
noncomputable def dedup (xs : List Str) : List Str := xs.foldr (fun x acc => if x ∈ acc then acc else x :: acc) []
theorem mem_dedup (k : Str) : ∀ xs : List Str, k ∈ dedup xs ↔ k ∈ xs
  | [] => Iff.rfl
  | x :: xs => by
    have ih := mem_dedup k xs
    show k ∈ (if x ∈ dedup xs then dedup xs else x :: dedup xs) ↔ _
    split
    · rename_i h
      rw [ih, List.mem_cons]
      exact ⟨.inr, fun z => z.elim (fun e => by subst e; exact (mem_dedup k xs).mp h) id⟩
    · rw [List.mem_cons, List.mem_cons, ih]
theorem nodup_dedup : ∀ xs : List Str, (dedup xs).Nodup
  | [] => List.Pairwise.nil
  | x :: xs => by
    show (if x ∈ dedup xs then dedup xs else x :: dedup xs).Nodup
    split
    · exact nodup_dedup xs
    · rename_i h
      exact List.nodup_cons.mpr ⟨h, nodup_dedup xs⟩
noncomputable def sset (xs : List Str) : List PyData := sortD ((dedup xs).map PyData.str)
theorem str_anti {l : List Str} : ∀ a ∈ l.map PyData.str, ∀ b ∈ l.map PyData.str, PySem.W.keyToks a = PySem.W.keyToks b → a = b := fun a ha b hb h => by
  obtain ⟨x, _, rfl⟩ := List.mem_map.mp ha
  obtain ⟨y, _, rfl⟩ := List.mem_map.mp hb
  unfold PySem.W.keyToks at h
  have h : x.cps.toList = y.cps.toList := by
    injection h with h
    injection h
  rw [PySem.W.str_of_cps h]
theorem sset_of {xs ys : List Str} (nd : ys.Nodup) (h : ∀ k, k ∈ xs ↔ k ∈ ys) : sortD (ys.map PyData.str) = sset xs := by
  refine sortD_perm ?_ str_anti
  refine List.Perm.map _ ?_
  refine (List.perm_ext_iff_of_nodup nd (nodup_dedup xs)).mpr fun k => ?_
  rw [mem_dedup, h]
theorem sset_congr {xs ys : List Str} (h : ∀ k, k ∈ xs ↔ k ∈ ys) : sset xs = sset ys := by
  unfold sset
  exact sset_of (nodup_dedup xs) fun k => by rw [mem_dedup, h]
noncomputable def mSset (A : Env → M D) : Env → M D := fun env st => (A env st).bind fun r => (lstOf r.2 r.1).bind fun xs => (strsOf xs).bind fun zs => if zs.length + 1 < scanBound then some (.ref r.2.length, r.2 ++ [.lst ((sset zs).map D.d)]) else none
theorem strsOf_vs {K : PySem.W.Frag} {ρ : List Addr} {H : Hp} : ∀ {xs : List D} {vs : List V} {zs : List Str} {us : List Value}, VXs K ρ H vs xs → strsOf xs = some zs → Vals vs us → StrsAre us zs
  | [], _, _, _, .nil, e, .nil => by cases e; exact .nil
  | .d (.str z) :: r, _, zs, _, .cons h t, e, .cons rv tv => by
    unfold strsOf at e
    obtain ⟨l, q, e⟩ := Option.map_eq_some_iff.mp e
    subst e
    rw [vx_str h] at rv
    obtain ⟨tk, rfl⟩ := rv
    exact .cons z tk (strsOf_vs t q tv)
section
variable {X : Cx} {pins : List (Addr × Obj)} {σ : L2.St} {H : Hp} {s : Shared}
/-- the texts of a set, as values -/
theorem each_strs {us : List Value} (h : ∀ v ∈ us, ∃ x tk, v = Value.str x tk) : ∃ ys : List Str, PySem.W.EachIs (fun u (d : PyData) => ∃ z tk, d = .str z ∧ u = Value.str z tk) us (ys.map PyData.str) ∧ us.map (fun v => keyS (0, v)) = ys := by
  induction us with
  | nil => exact ⟨[], .nil, rfl⟩
  | cons v us ih =>
    obtain ⟨x, tk, rfl⟩ := h v List.mem_cons_self
    obtain ⟨ys, e1, e2⟩ := ih fun w hw => h w (List.mem_cons_of_mem _ hw)
    exact ⟨x :: ys, .cons ⟨x, tk, rfl, rfl⟩ e1, by rw [List.map_cons, e2]; rfl⟩
theorem sorted_strset {w : World} {P : Program} {A : Around} {E : Value → Shared → Prop} {a : Addr} {xs : List Str} {Q : Value → Shared → Prop} (R : StrSet w s.heap a xs) (hh : A.handled = none) (hz : xs.length < scanBound) (hu : A.units + 8 < cLine)
    (hQ : ∀ s' p (out : List Value) (c : Nat), (∀ b o, s.heap.get? b = some o → s'.heap.get? b = some o) → s'.gens = s.gens → s'.os = s.os → s.heap.objs.size ≤ p →
      s'.heap.get? p = some (seqObj "list" out.toArray c) → PySem.W.EachIs (fun u (d : PyData) => ∃ z tk, d = .str z ∧ u = Value.str z tk) out (sset xs) → out.length ≤ xs.length → Q (.ref p) s') :
    wpAny (model P w) A (call (.builtin "sorted") [.ref a]) Q E s := by
  obtain ⟨o, es, ep, t, ho, hex, hd, g, nd, hm, hb, hf, hr, hl⟩ := R
  have hbs : es.size < scanBound := by omega
  refine Calls.call_function_entry kind_sorted plain_sorted entry_sorted (args_sorted1 _) ?_
  unfold Builtin.«sorted»
  refine wpAny_bind (m := checkCount "sorted" 1 1 _) (wpAny_pure ?_)
  refine wpAny_bind (collect_set (A := A.in1) hh ⟨o, ho, hex.1, hd⟩ hf hbs hr hl fun s1 vs k1 hz g1 o1 pm => ?_)
  have hvl : vs.length = es.size := by rw [pm.length_eq, List.length_map, Array.length_toList]
  obtain ⟨ys, e1, e2⟩ := each_strs (us := vs) fun v hv => by
    obtain ⟨e, he, q⟩ := List.mem_map.mp (pm.mem_iff.mp hv)
    obtain ⟨k, tk, h1, _⟩ := g e he
    exact ⟨k, tk, by rw [← q]; exact h1⟩
  have pk : ys.Perm (es.toList.map keyS) := by
    have q := pm.map (fun v => keyS (0, v))
    rw [List.map_map, e2] at q
    exact q
  have hss : sortD (ys.map PyData.str) = sset xs := sset_of (pk.nodup_iff.mpr nd) fun k => by rw [hm k, pk.mem_iff]
  have hyl : ys.length = vs.length := by rw [← e2, List.length_map]
  refine wpAny_bind (wpAny_newList ?_ (by rw [hvl]; exact fits_of_scanBound hbs))
  have hoL : (s1.heap.push (seqObj "list" vs.toArray 0)).get? s1.heap.objs.size = some (seqObj "list" vs.toArray 0) := Heap.get?_push_size _ rfl
  refine wpAny_bind (wpAny_holding (PySem.W.list_sort_data (s := { s1 with heap := s1.heap.push (seqObj "list" vs.toArray 0) }) (enc := id) hoL e1 ?_ (by
      rw [List.map_id]
      intro d hd e he
      obtain ⟨x, _, rfl⟩ := List.mem_map.mp hd
      obtain ⟨y, _, rfl⟩ := List.mem_map.mp he
      rfl) (by
      rw [List.map_id]
      refine .inr fun d hd => ?_
      obtain ⟨x, _, rfl⟩ := List.mem_map.mp hd
      exact ⟨(fun z => nomatch z), fun xs z => nomatch z⟩) (by rw [List.length_map, hyl, hvl]; exact fits_of_scanBound hbs) (fun d hd => by
      obtain ⟨x, _, rfl⟩ := List.mem_map.mp hd
      show A.in1.units + 1 + 0 < cLine
      have : A.in1.units ≤ A.units + 1 := Nat.le_refl _
      omega) fun out ol oe => ?_))
  · have go : ∀ {us : List Value} {ds : List PyData}, PySem.W.EachIs (fun u (d : PyData) => ∃ z tk, d = .str z ∧ u = Value.str z tk) us ds → PySem.W.EachIs (fun v b => ∃ as, Reads (s1.heap.push (seqObj "list" vs.toArray 0)) v (id b) as ∧ s1.heap.objs.size ∉ as) us ds := by
      intro us ds h
      induction h with
      | nil => exact .nil
      | cons h t ih =>
        obtain ⟨z, tk, rfl, rfl⟩ := h
        exact .cons ⟨[], .str z tk, by simp⟩ ih
    exact go e1
  · obtain ⟨c, hc⟩ := sortedHeap_at (vs := vs) (out := out.toArray) hoL
    refine wpAny_pure ⟨_, rfl, hQ _ s1.heap.objs.size out c (fun b u e => ?_) g1 o1 hz hc ?_ (by rw [ol, List.length_map, hyl, hvl]; exact hb)⟩
    · have q := k1 b u e
      have hlt := Heap.lt_size q
      show (sortedHeap (s1.heap.push (seqObj "list" vs.toArray 0)) s1.heap.objs.size vs out.toArray).get? b = some u
      rw [sortedHeap_old (Nat.ne_of_lt hlt) (by rw [size_push']; exact Nat.lt_succ_of_lt hlt)]
      exact Heap.get?_push_of_some _ q
    · rw [← hss]
      exact oe
variable {a : Expr} {A : Env → M D} {p p2 q pos : Pos}
theorem xe_sset (hc : X.calm = true) (hu : X.A.units + 8 < cLine) (hg : Gl X "sorted") (hm : X.mg "sorted" = none) (hg2 : Gl X "set") (hm2 : X.mg "set" = none) (hv : bootBuiltins "sorted" = some (.builtin "sorted")) (ha : XE X a A)
    (na : starEach [a] X.env = (false, eval a X.env) :: starEach [] X.env := by rfl) : XE X (.Call (.Name "sorted" p) [.Call (.Name "set" p2) [a] [] q] [] pos) (mSset A) := by
  refine ⟨fun pins s σ H Q I h => ?_⟩
  obtain ⟨ρ, env, st, x, st', E, S, run, k⟩ := h
  obtain ⟨⟨x1, s1⟩, h1, run⟩ := bindS run
  obtain ⟨xs, h2, run⟩ := bindS run
  obtain ⟨zs, h3, run⟩ := bindS run
  split at run
  case isFalse => cases run
  rename_i hl
  cases run
  refine Call_ (ld_blt I hg hm hv ?_)
  refine PyProof.Rows.callWith_builtin1 (PyProof.Rows.args_cons ?_ rfl) rfl rfl
  refine Call_ (ld_blt I hg2 hm2 boot_set ?_)
  refine PyProof.Rows.callWith_type1 (PyProof.Rows.args_cons (thn (ha.run pins s σ H (fun v H1 => ∃ ρ1, Ext ρ H ρ1 H1 ∧ SR X.K ρ1 H1 s1 ∧ VX X.K ρ1 H1 v x1) I ⟨ρ, env, st, x1, s1, E, S, h1, fun v H1 ρ1 e1 S1 r1 => ⟨ρ1, e1, S1, r1⟩⟩) fun v s2 ⟨y, H1, I1, r1, ρ1, e1, S1, rx⟩ => PyProof.Rows.args_nil ?_) na) na rfl
  obtain ⟨p, vs, rfl, sq, rv⟩ := lstOf_sq S1 rx h2
  cases r1
  obtain ⟨its, ri, pl, _⟩ := I1.list sq
  have sa := strsOf_vs rv h3 ri
  refine call_set_strs (I1.ok.hd hc) pl.isList (by simpa using sa) hl fun h' tk hS hk => ?_
  refine PyProof.Rows.args_nil ?_
  refine sorted_strset (s := { s2 with heap := h', toks := tk }) hS (I1.ok.hd hc) (by omega) hu fun s' p' out c kk gg oo hp hat ee hlen => ?_
  have hn : H1 p' = none := by
    cases q : H1 p' with
    | none => rfl
    | some u =>
      obtain ⟨o, _, _, _, hso, _⟩ := hS
      exact absurd (Nat.lt_trans (I1.hok.lt q) (Heap.lt_size hso)) (Nat.not_lt_of_le hp)
  obtain ⟨ws, w1, w2⟩ := of_each (K := X.K) (ρ := ρ1) (H := H1) (us := out) (ds := sset zs) (by
    have go : ∀ {us : List Value} {ds : List PyData}, PySem.W.EachIs (fun u (d : PyData) => ∃ z tk, d = .str z ∧ u = Value.str z tk) us ds → PySem.W.EachIs (fun u d => ∃ v, RelV v u ∧ DV X.K ρ1 H1 v d) us ds := by
      intro us ds h
      induction h with
      | nil => exact .nil
      | cons h t ih =>
        obtain ⟨z, tk, rfl, rfl⟩ := h
        exact .cons ⟨.str z, ⟨tk, rfl⟩, .str z⟩ ih
    exact go ee)
  have kall : ∀ b u, s2.heap.get? b = some u → s'.heap.get? b = some u := fun b u e => kk b u (hk b u (Heap.lt_size e) e)
  have hpz : s2.heap.objs.size ≤ p' := by
    obtain ⟨o, _, _, _, hso, _⟩ := hS
    exact Nat.le_trans (Nat.le_of_lt (Heap.lt_size hso)) hp
  have hsz : ws.length ≤ sizeLine := by
    rw [w1.length]
    exact fits_of_scanBound (by omega)
  have J : Inv X pins σ (upd H1 p' (.lst ws)) { s2 with heap := s'.heap, gens := s'.gens, drawn := s'.drawn, toks := s'.toks } :=
    I1.call (ch := []) (Un.laid kall hpz hn) (I1.hok.laid kall hpz ⟨hsz, out, c, w1, hat⟩) (by rw [gg]; exact I1.bare) (fun _ z => nomatch z)
  have e : s' = { s2 with heap := s'.heap, gens := s'.gens, drawn := s'.drawn, toks := s'.toks } := by
    cases s'
    cases s2
    cases oo
    rfl
  rw [e]
  refine ⟨.ref p', _, J, rfl, ?_⟩
  exact (k.ext e1).lst S1 hn (vxs_map w2)
end
end PM

set_option Elab.async false
set_option linter.all false
set_option maxRecDepth 100000
set_option autoImplicit false
/-! PM, part k: dict(pairs), comprehensions, dict displays, threefold assignment. -/
namespace PM
open PySem PySem.Spec PyProof.Rows L2
open Classical

/-! ### dict(pairs), the keys tuples -/
def pairsOf : List PyData → Option (List (List L2.Key × D))
  | [] => some []
  | .tuple [.tuple ks, x] :: r => (keysA ks).bind fun k => (pairsOf r).map ((k, .d x) :: ·)
  | _ => none
def putAll (kvs : List (List L2.Key × D)) (ps : List (List L2.Key × D)) : List (List L2.Key × D) := ps.foldl (fun acc p => putD acc p.1 p.2) kvs
def dictF : List D → M D := fun as st => match as with
  | [a] => (lstOf st a).bind fun xs => (datas xs).bind fun ds => (pairsOf ds).bind fun kvs => if fits ds.length = true then some (.ref st.length, st ++ [.dT false (putAll [] kvs)]) else none
  | _ => none
/-- a pair as it is laid: its tuple, its key, the key's tuple, its value -/
structure Row where
  T : Addr
  k : List L2.Key
  b : Addr
  u : Value
  y : V
section
variable {X : Cx} {pins : List (Addr × Obj)} {σ : L2.St} {H : Hp} {s : Shared}
theorem tup2 {h : Heap} {T : Addr} {u v : Value} {its : List Value} (p : IsTup h T its.toArray) (e : its = [u, v]) : h.IsTuple T #[u, v] := by
  subst e
  exact p
theorem dvs2 {K : PySem.W.Frag} {ρ : List Addr} {vs : List V} {d e : PyData} (h : DVs K ρ H vs [d, e]) : ∃ v w, vs = [v, w] ∧ DV K ρ H v d ∧ DV K ρ H w e := by
  cases h with
  | cons a h =>
    cases h with
    | cons b h =>
      cases h
      exact ⟨_, _, rfl, a, b⟩
theorem rows_lay (I : Inv X pins σ H s) {ρ : List Addr} : ∀ {ds : List PyData} {vs : List V} {its : List Value} {kvs : List (List L2.Key × D)}, DVs X.K ρ H vs ds → Vals vs its → pairsOf ds = some kvs →
    ∃ rows : List Row, its = rows.map (fun r => Value.ref r.T) ∧ Paired (fun (r : Row) (kv : List L2.Key × D) => r.k = kv.1 ∧ PairAt s.heap r.T (.ref r.b) r.u ∧ H r.b = some (.tup (r.k.map kV)) ∧ RelV r.y r.u ∧ VX X.K ρ H r.y kv.2) rows kvs
  | [], _, _, _, .nil, .nil, e => by
    cases e
    exact ⟨[], rfl, .nil⟩
  | x :: ds, _, _, kvs, .cons hx t, .cons rx rt, e => by
    unfold pairsOf at e
    split at e
    · rename_i h
      cases h
    · rename_i ks y r h
      cases h
      obtain ⟨k, hk, e⟩ := bindS e
      obtain ⟨l, hl, e⟩ := Option.map_eq_some_iff.mp e
      subst e
      obtain ⟨rows, r1, r2⟩ := rows_lay I t rt hl
      cases hx with
      | tup h1 h2 =>
        obtain ⟨v, w, rfl, d1, d2⟩ := dvs2 h2
        cases d1 with
        | tup t1 t2 =>
          have hk := keysA_v t2 hk
          subst hk
          cases rx
          rename_i T b
          obtain ⟨its, q1, q2, _⟩ := I.tuple h1.sq
          cases q1 with
          | cons ra q1 =>
            cases q1 with
            | cons rb q1 =>
              cases q1
              cases ra
              exact ⟨⟨T, k, b, _, w⟩ :: rows, by rw [List.map_cons, ← r1], .cons ⟨rfl, .inl q2, t1.1, rb, .d d2⟩ r2⟩
    · cases e
theorem fold_v {K : PySem.W.Frag} {ρ : List Addr} : ∀ {rows : List Row} {kvs : List (List L2.Key × D)} {kws : List (List L2.Key × V)} {kds : List (List L2.Key × D)} {ms : List (List L2.Key × Addr × Value)},
    Paired (fun (r : Row) (kv : List L2.Key × D) => r.k = kv.1 ∧ PairAt s.heap r.T (.ref r.b) r.u ∧ H r.b = some (.tup (r.k.map kV)) ∧ RelV r.y r.u ∧ VX K ρ H r.y kv.2) rows kvs →
    KVX K ρ H kws kds → KT H kws ms → ∃ kws', KVX K ρ H kws' (putAll kds kvs) ∧ KT H kws' (storedAllH ms (rows.map fun r => (r.k, r.b, r.u)))
  | [], _, kws, _, _, .nil, h1, h2 => ⟨kws, h1, h2⟩
  | r :: rows, kv :: kvs, kws, kds, ms, .cons ⟨e1, _, e3, e4, e5⟩ t, h1, h2 => by
    obtain ⟨kws', a, b⟩ := fold_v (kws := putK kws r.k r.y) (kds := putD kds kv.1 kv.2) (ms := storedH ms r.k r.b r.u) t (by rw [← e1]; exact put_v r.k h1 e5) (KT.put h2 r.k e3 e4)
    exact ⟨kws', a, b⟩
theorem plainL_seq {h : Heap} {a : Addr} {its : Array Value} (p : PlainL h a its) : PlainSeq "list" h a its := by
  obtain ⟨o, n, h1, h2, h3, h4⟩ := p
  exact ⟨o, n, h1, h2, by first | exact h3 | exact h4, by first | exact h4 | exact h3⟩
theorem cs_dict (hc : X.calm = true) (hu : X.A.units + 2 < cLine) : CallS X (.type "dict") dictF := fun pins s σ H xs us Q I r ⟨ρ, st, as, z, st', S, ha, run, c⟩ => by
  unfold dictF at run
  split at run
  case h_2 => cases run
  rename_i a
  obtain ⟨ys, h1, run⟩ := bindS run
  obtain ⟨ds, h2, run⟩ := bindS run
  obtain ⟨kvs, h3, run⟩ := bindS run
  split at run
  case isFalse => cases run
  rename_i hf
  cases run
  cases ha with
  | cons ra ta =>
    cases ta
    obtain ⟨p, vs, rfl, sq, rv⟩ := lstOf_sq S ra h1
    obtain ⟨u, rfl, ru⟩ := vals1 r
    cases ru
    obtain ⟨its, rits, pl, hz⟩ := I.list sq
    have dv := datas_vs rv h2
    obtain ⟨rows, e1, e2⟩ := rows_lay I dv rits h3
    have hlen : rows.length = ds.length := by
      have := rits.length
      rw [e1, List.length_map] at this
      rw [← this, dv.len]
    let Ts : Nat → Addr := fun j => (rows[j]?.map Row.T).getD 0
    let ps : List (Value × Value) := rows.map fun r => (.ref r.b, r.u)
    have hpl : ps.length = rows.length := List.length_map _
    have at' : ∀ (j : Nat) (r : Row), rows[j]? = some r → PairAt s.heap r.T (.ref r.b) r.u ∧ H r.b = some (.tup (r.k.map kV)) := fun j r hj => by
      have go : ∀ {rows : List Row} {kvs : List (List L2.Key × D)} {j : Nat}, Paired (fun (r : Row) (kv : List L2.Key × D) => r.k = kv.1 ∧ PairAt s.heap r.T (.ref r.b) r.u ∧ H r.b = some (.tup (r.k.map kV)) ∧ RelV r.y r.u ∧ VX X.K ρ H r.y kv.2) rows kvs → rows[j]? = some r → PairAt s.heap r.T (.ref r.b) r.u ∧ H r.b = some (.tup (r.k.map kV)) := by
        intro rows
        induction rows with
        | nil => intro kvs j _ h; simp at h
        | cons a l ih =>
          intro kvs j hp h
          cases hp with
          | cons e t =>
            cases j with
            | zero =>
              simp at h
              subst h
              exact ⟨e.2.1, e.2.2.1⟩
            | succ j => exact ih t (by simpa using h)
      exact go e2 hj
    have ok : PlainSeq "list" s.heap p its.toArray ∧ PairItems s.heap its.toArray Ts ps := by
      refine ⟨plainL_seq pl, by rw [List.size_toArray, e1, List.length_map, hpl], fun j k v hj => ?_⟩
      have hj : (rows.map fun r => (Value.ref r.b, r.u))[j]? = some (k, v) := hj
      rw [List.getElem?_map] at hj
      obtain ⟨r, hr, hj⟩ := Option.map_eq_some_iff.mp hj
      cases hj
      have et : Ts j = r.T := by
        show (rows[j]?.map Row.T).getD 0 = r.T
        rw [hr]
        rfl
      refine ⟨?_, ?_⟩
      · rw [et, e1, List.getElem?_toArray, List.getElem?_map, hr]
        rfl
      · rw [et]
        exact (at' j r hr).1
    obtain ⟨kws, k1, k2⟩ := fold_v (kws := []) (kds := []) (ms := []) e2 .nil .nil
    have dsz : ds.length ≤ sizeLine := fits_of hf
    refine call_dict_pairsH (knd := tupleKind (mixKind X.prog X.w)) (ps := rows.map fun r => (r.k, r.b, r.u)) (PairArg.list p its.toArray Ts ps) (I.ok.hd hc) (show X.A.units + 2 < cLine from hu) ok ⟨by rw [List.length_map, hpl], fun i key v hi => ?_⟩ (fun h' hk x hx => ?_) (by rw [hpl, hlen]; exact dsz) fun h' tk hd hk => ?_
    · have hi : (rows.map fun r => (Value.ref r.b, r.u))[i]? = some (key, v) := hi
      rw [List.getElem?_map] at hi
      obtain ⟨r, hr, hi⟩ := Option.map_eq_some_iff.mp hi
      cases hi
      exact ⟨r.k, r.b, by rw [List.getElem?_map, hr]; rfl, rfl⟩
    · obtain ⟨r, hr, rfl⟩ := List.mem_map.mp hx
      obtain ⟨j, hj⟩ := List.mem_iff_getElem?.mp hr
      obtain ⟨o, its2, n2, q1, q2, q3, q4⟩ := key_of I.hok (at' j r hj).2
      exact ⟨o, its2, n2, hk _ _ (Nat.ne_of_lt (Heap.lt_size q1)) (fun z => nomatch z) q1, q2, q3, q4⟩
    · have hn : H s.heap.objs.size = none := I.hok.fresh (Nat.le_refl _)
      obtain ⟨o, es, ep, g1, g2, g3, g4, g5, g6⟩ := hd
      have lk : kws.length = (storedAllH [] (rows.map fun r => (r.k, r.b, r.u))).length := Paired.length k2
      have lz : kws.length ≤ sizeLine := by
        have := storedAllH_length (rows.map fun r => (r.k, r.b, r.u)) []
        rw [List.length_map, hlen] at this
        rw [lk]
        simp only [List.length_nil, Nat.zero_add] at this
        omega
      have ns : (s.heap.objs.size == sysModules) = false := beq_eq_false_iff_ne.mpr (Nat.ne_of_gt I.big)
      have J : Inv X pins σ (upd H s.heap.objs.size (.dT kws)) { s with heap := h', toks := tk } :=
        I.laid (fun b u e => hk b u (fun z => nomatch z) e) (Nat.le_refl _) ⟨lz, ns, _, KT.keeps k2 (fun b ys e => by rw [upd_ne (ne_of_none e hn)]; exact e), o, es, ep, g1, g2, g3, g4, g6⟩
      obtain ⟨a1, a2⟩ := push_cell (c := .dT false (putAll [] kvs)) S hn ⟨kws, upd_same, KVX.ext (S.ext_push hn) k1⟩
      exact ⟨.ref s.heap.objs.size, _, J, rfl, c _ _ _ (S.ext_push hn) a1 a2⟩
end
/-! ### comprehensions -/
section
variable {X : Cx} {a b c d tg iter elt e : Expr} {ifs : List Expr} {scope : Scope} {own : List (Str × Nat)} {pos spos : Pos} {I : Env → M (List D × Gd)} {G : D → Env → M Env} {T : Env → M Bool} {A B C : Env → M D} {As : Env → M (List D)}
theorem xe_lc (own : List (Str × Nat)) (vs : List Nat) (hv : own.map (·.2) = vs) (hc : X.calm = true) (hN : X.N.Nodup) (hi : XI X tg iter I) (ok : BlkOk X.N X.env.scope scope own)
    (hg : ∀ (s : Shared) (H : Hp) (C : Addr) (cl : List (Str × Addr)) (fp : List Addr), XG (X.blk s H scope (compEnvC scope cl C X.env) fp) (Ww vs) tg G) (ht : ∀ (s : Shared) (H : Hp) (C : Addr) (cl : List (Str × Addr)) (fp : List Addr), XTs (X.blk s H scope (compEnvC scope cl C X.env) fp) ifs T)
    (he : ∀ (s : Shared) (H : Hp) (C : Addr) (cl : List (Str × Addr)) (fp : List Addr), XE (X.blk s H scope (compEnvC scope cl C X.env) fp) elt A) (hs : ∀ x, foldedSetIterable iter X.env x = pure x := by intro _; rfl) :
    XE X (.ListComp elt [⟨tg, iter, ifs, 0⟩] scope pos) (mLc vs I G T A) := by
  subst hv
  exact PE.weak (pe_lc hc hN hi ok hg ht he hs) fun _ _ _ h => lc_w h
theorem xs_setLc (own : List (Str × Nat)) (vs : List Nat) (hv : own.map (·.2) = vs) (i : Nat) {y : Str} {py : Pos} (hc : X.calm = true) (hN : X.N.Nodup) (hy : X.N[i]? = some y) (hyl : X.env.scope.names.lookup y = some .local)
    (hsw : swapsWith (.ListComp elt [⟨tg, iter, ifs, 0⟩] scope pos) (some (.Name y py)) spos.line X.env = pure true) (hi : XI X tg iter I) (ok : BlkOk X.N X.env.scope scope own)
    (hg : ∀ (s : Shared) (H : Hp) (C : Addr) (cl : List (Str × Addr)) (fp : List Addr), XG (X.blk s H scope (compEnvC scope cl C X.env) fp) (Ww vs) tg G) (ht : ∀ (s : Shared) (H : Hp) (C : Addr) (cl : List (Str × Addr)) (fp : List Addr), XTs (X.blk s H scope (compEnvC scope cl C X.env) fp) ifs T)
    (he : ∀ (s : Shared) (H : Hp) (C : Addr) (cl : List (Str × Addr)) (fp : List Addr), XE (X.blk s H scope (compEnvC scope cl C X.env) fp) elt A) (hs : ∀ x, foldedSetIterable iter X.env x = pure x := by intro _; rfl) :
    XS X (.Assign [.Name y py] (.ListComp elt [⟨tg, iter, ifs, 0⟩] scope pos) spos) (sAsg (mLc vs I G T A) (gN i)) := by
  subst hv
  refine PS.weak (t := tAsg (tLc (cI X.K I) (cG X.K (Ww (own.map (·.2))) G) (cT X.K T) (cE X.K A) (own.map (·.2))) (gName i)) (ps_setLc hc hN hy hyl hsw hi ok hg ht he hs) fun E σ H h => ?_
  obtain ⟨ρ, env, st, f, st', R, S, run, k⟩ := h
  obtain ⟨⟨x1, s1⟩, h1, run⟩ := bindS run
  cases run
  show tLc _ _ _ _ _ σ H (fun x H1 => gName i x σ H1 E.nx)
  exact lc_w ⟨ρ, env, st, x1, s1, R, S, h1, fun v H' ρ' e S' r => k _ H' ρ' e S' ((R.ext e).set r)⟩
/-! ### a, b, c = x, y, z -/
def sPar3 (i j l : Nat) (As : Env → M (List D)) : Env → M Fl := fun env st => (As env st).bind fun r => match r.1 with
  | [x, y, z] => some (.nx (((env.set i (some x)).set j (some y)).set l (some z)), r.2)
  | _ => none
theorem xs_par3 {i j l : Nat} {x y z : Str} {px py pz pt : Pos} {kt k2 : Nat} {pt2 : Pos} (hc : X.calm = true) (hN : X.N.Nodup) (hi : X.N[i]? = some x) (hj : X.N[j]? = some y) (hl : X.N[l]? = some z) (hij : i ≠ j) (hil : i ≠ l) (hjl : j ≠ l)
    (hx : X.env.scope.names.lookup x = some .local) (hy : X.env.scope.names.lookup y = some .local) (hz : X.env.scope.names.lookup z = some .local) (ha : XA X [a, b, c] As)
    (hw : swappedStores [.Tuple [.Name x px, .Name y py, .Name z pz] kt pt] (.Tuple [a, b, c] k2 pt2) X.env = pure (some [x, y, z]))
    (hs : swapsWithSole [.Tuple [.Name x px, .Name y py, .Name z pz] kt pt] (.Tuple [a, b, c] k2 pt2) pos.line X.env = pure false := by rfl) :
    XS X (.Assign [.Tuple [.Name x px, .Name y py, .Name z pz] kt pt] (.Tuple [a, b, c] k2 pt2) pos) (sPar3 i j l As) := PS.weak (ps_par3 hc hN hi hj hl hij hil hjl hx hy hz ha hw hs) fun E σ H h => by
  obtain ⟨ρ, env, st, f, st', R, S, run, k⟩ := h
  obtain ⟨⟨x1, s1⟩, h1, run⟩ := bindS run
  split at run
  · rename_i u v w e'
    have e' : x1 = [u, v, w] := e'
    subst e'
    cases run
    refine ⟨ρ, env, st, _, s1, R, S, h1, fun vs H' ρ' e S' r => ?_⟩
    cases r with
    | cons r1 r =>
      cases r with
      | cons r2 r =>
        cases r with
        | cons r3 r =>
          cases r
          exact ⟨_, _, _, rfl, k _ H' ρ' e S' ((((R.ext e).set r1).set r2).set r3)⟩
  · cases run
/-! ### o[i], o a list, under an augmented assignment -/
def getLF : D → D → M D := fun a b st => match a, b with
  | .ref n, .d (.int i) => if 0 ≤ i then (lstC st[n]?).bind fun xs => xs[i.toNat]?.map fun x => (x, st) else none
  | _, _ => none
theorem pg_list : PGet X (cO X.K getLF) := fun pins s σ H x y v u Q I rx ry ⟨ρ, st, a, b, z, st', S, ha, hb, run, k⟩ => by
  unfold getLF at run
  split at run
  case h_2 => cases run
  rename_i n i
  split at run
  case isFalse => cases run
  rename_i h0
  obtain ⟨xs, h1, run⟩ := bindS run
  obtain ⟨w, h2, run⟩ := Option.map_eq_some_iff.mp run
  cases run
  obtain ⟨p, vs, rfl, sq, r⟩ := lstOf_sq S ha h1
  obtain ⟨wv, e1, r1⟩ := vxs_get r h2
  rw [vx_int hb] at ry
  obtain ⟨tk, rfl⟩ := ry
  cases rx
  obtain ⟨its, ri, pl, hz⟩ := I.list sq
  obtain ⟨u, e2, r2⟩ := ri.get e1
  have hl : i.toNat < vs.length := (List.getElem?_eq_some_iff.mp e1).1
  have hn := line63
  refine wpAny_getItem_list pl.isList h0 (by omega) (by rw [List.getElem?_toArray]; exact e2) ?_
  exact ⟨wv, H, I, r2, k.here S r1⟩
/-! ### {'a': x, ..} -/
def dispPs : List (Str × (Env → M D)) → Env → M (List (L2.Key × D))
  | [] => fun _ st => some ([], st)
  | (k, A) :: r => fun env st => (A env st).bind fun x => (dispPs r env x.2).bind fun q => some ((.inr k, x.1) :: q.1, q.2)
/-- a display, the keys texts: the dict is laid first -/
noncomputable def mDisp (ps : List (Str × (Env → M D))) : Env → M D := fun env st => (dispPs ps env (st ++ [.dK false []])).bind fun q => if q.2[st.length]? = some (.dK false []) ∧ q.1.length ≤ 15 then some (.ref st.length, q.2.set st.length (.dK false (q.1.foldl (fun acc kv => putD acc kv.1 kv.2) []))) else none
def prTr (K : PySem.W.Frag) (ps : List (Str × (Env → M D))) : List (TE × TE) := ps.map fun p => (tC (V.str p.1), cE K p.2)
abbrev XPs (X : Cx) (pos : Pos) (keys : List (Option Expr)) (values : List Expr) (ps : List (Str × (Env → M D))) : Prop := PPs X pos keys values (prTr X.K ps)
theorem xps_nil : XPs X pos [] [] [] := pps_nil
theorem xps_cons {k : Str} {j} {kp : Pos} {v : Expr} {ks : List (Option Expr)} {vs : List Expr} {A : Env → M D} {ps : List (Str × (Env → M D))} (hv : XE X v A) (hr : XPs X pos ks vs ps) : XPs X pos (some (.Constant (.str k) j kp) :: ks) (v :: vs) ((k, A) :: ps) :=
  pps_cons pe_str hv hr
theorem disp_w {K : PySem.W.Frag} : ∀ {ps : List (Str × (Env → M D))} {σ : L2.St} {H : Hp} {Q : List (V × V) → Hp → Prop} {ρ : List Addr} {env : Env} {st : Store} {xs : List (L2.Key × D)} {st' : Store},
    ER K ρ H env σ → SR K ρ H st → dispPs ps env st = some (xs, st') → (∀ vs H' ρ', Ext ρ H ρ' H' → SR K ρ' H' st' → KVX K ρ' H' vs xs → Q (vs.map fun kv => (kV kv.1, kv.2)) H') → tPairs (prTr K ps) σ H Q
  | [], σ, H, Q, ρ, env, st, xs, st', E, S, run, k => by
    cases run
    exact k [] H ρ .refl S .nil
  | (z, A) :: ps, σ, H, Q, ρ, env, st, xs, st', E, S, run, k => by
    obtain ⟨⟨x1, s1⟩, h1, run⟩ := bindS run
    obtain ⟨⟨q1, s2⟩, h2, run⟩ := bindS run
    cases run
    show tPairs ((tC (V.str z), cE K A) :: prTr K ps) σ H Q
    exact ⟨ρ, env, st, x1, s1, E, S, h1, fun v H1 ρ1 e1 S1 r1 => disp_w (E.ext e1) S1 h2 fun vs H2 ρ2 e2 S2 r2 => k ((.inr z, v) :: vs) H2 ρ2 (e1.trans e2) S2 (.cons ⟨rfl, r1.ext e2⟩ r2)⟩
theorem merge_v {K : PySem.W.Frag} {ρ : List Addr} {H : Hp} : ∀ {kws : List (L2.Key × V)} {kvs : List (L2.Key × D)} {a1 : List (L2.Key × V)} {a2 : List (L2.Key × D)}, KVX K ρ H kws kvs → KVX K ρ H a1 a2 → KVX K ρ H (mergeK a1 kws) (kvs.foldl (fun acc kv => putD acc kv.1 kv.2) a2)
  | [], _, _, _, .nil, h => h
  | (k1, v) :: kws, (k2, x) :: kvs, a1, a2, .cons ⟨e, r⟩ t, h => by
    have e : k1 = k2 := e
    subst e
    show KVX K ρ H (mergeK (putK a1 k1 v) kws) (kvs.foldl (fun acc kv => putD acc kv.1 kv.2) (putD a2 k1 x))
    exact merge_v (kws := kws) (kvs := kvs) t (put_v k1 h r)
theorem xe_disp {keys : List (Option Expr)} {values : List Expr} {ps : List (Str × (Env → M D))} (h : XPs X pos keys values ps) (hall : keys.all (·.isSome) = true) (hl : keys.length = values.length) (h0 : keys ≠ []) (h15 : keys.length ≤ 15) : XE X (.Dict keys values pos) (mDisp ps) :=
  PE.weak (pe_disp h hall hl h0 h15) fun σ H Q h => by
    obtain ⟨ρ, env, st, x, st', E, S, run, k⟩ := h
    obtain ⟨⟨xs, s1⟩, h1, run⟩ := bindS run
    split at run
    case isFalse => cases run
    rename_i hc
    cases run
    intro p hp
    obtain ⟨S1, r1⟩ := push_cell (c := .dK false []) S hp ⟨[], upd_same, .nil⟩
    have e1 := S.ext_push (o := HO.dK []) hp
    refine disp_w (E.ext e1) S1 h1 fun vs H2 ρ2 e2 S2 r2 => ?_
    have hat : ρ2[st.length]? = some p := by
      refine e2.get ?_
      rw [← S.len, List.getElem?_append_right (Nat.le_refl _), Nat.sub_self]
      rfl
    obtain ⟨kws, g1, g2⟩ := S2.at hat hc.1
    cases g2
    have mp := List.mem_of_getElem? hat
    refine ⟨g1, vs, rfl, by rw [Paired.length r2]; exact hc.2, ?_⟩
    refine k _ _ ρ2 ((e1.trans e2).trans (ext_set mp (nofrz_dK g1))) (S2.set (c := .dK false _) hat (nofrz_dK g1) ⟨_, upd_same, ?_⟩) (.ref hat)
    exact merge_v (KVX.ext (ext_set mp (nofrz_dK g1)) r2) .nil
end
end PM

set_option Elab.async false
set_option linter.all false
set_option maxRecDepth 100000
set_option autoImplicit false
/-! PM, part l: locks of statements, any walk, what the printed walks name. -/
namespace PM
open PySem PySem.Spec PyProof.Rows L2
open Classical

section
variable {X : Cx} {a tg : Expr} {A : Env → M D} {s : Stmt} {S : Env → M Fl}
theorem xs_lock {sel : Env → Store → Option Nat} (hs : XS X s S) : XS X s (mLock sel S) := PS.weak (ps_lock hs) fun E σ H h => by
  obtain ⟨ρ, env, st, f, st', R, S, run, k⟩ := h
  obtain ⟨n, h1, run⟩ := bindS run
  obtain ⟨⟨c1, c2⟩, h2, run⟩ := bindS run
  obtain ⟨⟨g, s1⟩, h3, run⟩ := bindS run
  split at run
  case isFalse => cases run
  cases run
  obtain ⟨d, hn⟩ := lock_ix S h2
  have md := List.mem_of_getElem? hn
  obtain ⟨u, hu, mu, nu, hz⟩ := lock_in S hn h2
  refine ⟨d, u, hu, mu, fun od => ?_⟩
  obtain ⟨S1, out⟩ := hz od
  have e0 : Ext ρ H ρ (upd H d (.frz od u)) := ext_set md fun o v z => by
    rw [hu] at z
    cases z
    exact nu _ _ rfl
  have er : ∀ {ρ' : List Addr} {H' : Hp} {env' : Env} {σ' : L2.St}, ER X.K ρ' H' env' σ' → d ∈ ρ' → ER X.K ρ' (upd H' d u) env' σ' := fun R' m' =>
    ⟨R'.len, fun i x q => let ⟨v, a, b⟩ := R'.get i x q; ⟨v, a, b.at_st m'⟩⟩
  refine ⟨ρ, env, st.set n c1, g, s1, R.ext e0, S1, h3, ?_⟩
  cases g with
  | nx env1 => exact fun σ' H' ρ' e S' R' => ⟨(ext_lock hu nu md e).1, k σ' _ ρ' (ext_lock hu nu md e).2 (out ρ' H' s1 e S') (er R' (e.sub md))⟩
  | bk env1 => exact fun σ' H' ρ' e S' R' => ⟨(ext_lock hu nu md e).1, k σ' _ ρ' (ext_lock hu nu md e).2 (out ρ' H' s1 e S') (er R' (e.sub md))⟩
  | ct env1 => exact fun σ' H' ρ' e S' R' => ⟨(ext_lock hu nu md e).1, k σ' _ ρ' (ext_lock hu nu md e).2 (out ρ' H' s1 e S') (er R' (e.sub md))⟩
  | rt x => exact fun v H' ρ' e S' r => ⟨(ext_lock hu nu md e).1, k v _ ρ' (ext_lock hu nu md e).2 (out ρ' H' s1 e S') (r.at_st (e.sub md))⟩
/-- where the locked dict stands -/
def selM (A : Env → M D) : Env → Store → Option Nat := fun env st => (A env st).bind fun r => match r.1 with
  | .ref n => some n
  | _ => none
theorem PI.or {iter : Expr} {t t' : TI} (h : PI X tg iter t) (h' : PI X tg iter t') : PI X tg iter (fun σ H R => t σ H R ∨ t' σ H R) := ⟨fun pins s σ H R I q => q.elim (h.run pins s σ H R I) (h'.run pins s σ H R I)⟩
/-- a list, a tuple, a text, a locked dict -/
def mAny (A : Env → M D) : Env → M (List D × Gd) := fun env st => (A env st).bind fun r => match r.1 with
  | .d (.tuple ds) => some ((ds.map D.d, none), r.2)
  | .d (.list ds) => some ((ds.map D.d, none), r.2)
  | .d (.str z) => some ((signs z, none), r.2)
  | .ref n => match r.2[n]? with
    | some (.lst xs) => some ((xs, some (n, .lst xs)), r.2)
    | some (.dT true kvs) => some ((kvs.map fun kv => .d (tupK kv.1), some (n, .dT true kvs)), r.2)
    | some (.dK true kvs) => some ((kvs.map fun kv => .d (keyD kv.1), some (n, .dK true kvs)), r.2)
    | _ => none
  | _ => none
theorem any_split {A : Env → M D} {env : Env} {st : Store} {r : (List D × Gd) × Store} (h : mAny A env st = some r) : mSeq A env st = some r ∨ mTupI A env st = some r ∨ mStrI A env st = some r ∨ mKeys A env st = some r := by
  obtain ⟨⟨x1, s1⟩, h1, run⟩ := bindS h
  unfold mSeq mTupI mStrI mKeys
  rw [h1]
  cases x1 with
  | d x =>
    cases x with
    | none => cases run
    | bool b => cases run
    | int i => cases run
    | str z => exact .inr (.inr (.inl run))
    | tuple ds => exact .inr (.inl run)
    | list ds => exact .inl run
    | dict ds => cases run
  | ref n =>
    have run : (match s1[n]? with
      | some (.lst xs) => some ((xs, some (n, Cell.lst xs)), s1)
      | some (.dT true kvs) => some ((kvs.map fun kv => D.d (tupK kv.1), some (n, Cell.dT true kvs)), s1)
      | some (.dK true kvs) => some ((kvs.map fun kv => D.d (keyD kv.1), some (n, Cell.dK true kvs)), s1)
      | _ => none) = some r := run
    cases q : s1[n]? with
    | none =>
      rw [q] at run
      cases run
    | some c =>
      rw [q] at run
      cases c with
      | lst xs =>
        refine .inl ?_
        show (match s1[n]? with
          | some (.lst xs) => some ((xs, some (n, Cell.lst xs)), s1)
          | _ => none) = some r
        rw [q]
        exact run
      | dK l kvs =>
        cases l with
        | false => cases run
        | true =>
          refine .inr (.inr (.inr ?_))
          show (match s1[n]? with
            | some (.dT true kvs) => some ((kvs.map fun kv => D.d (tupK kv.1), some (n, Cell.dT true kvs)), s1)
            | some (.dK true kvs) => some ((kvs.map fun kv => D.d (keyD kv.1), some (n, Cell.dK true kvs)), s1)
            | _ => none) = some r
          rw [q]
          exact run
      | dT l kvs =>
        cases l with
        | false => cases run
        | true =>
          refine .inr (.inr (.inr ?_))
          show (match s1[n]? with
            | some (.dT true kvs) => some ((kvs.map fun kv => D.d (tupK kv.1), some (n, Cell.dT true kvs)), s1)
            | some (.dK true kvs) => some ((kvs.map fun kv => D.d (keyD kv.1), some (n, Cell.dK true kvs)), s1)
            | _ => none) = some r
          rw [q]
          exact run
theorem xi_any (ha : XE X a A) : XI X tg a (mAny A) := PI.weak (PI.or (xi_seq ha) (PI.or (xi_tup ha) (PI.or (xi_str ha) (xi_keys ha)))) fun σ H R h => by
  obtain ⟨ρ, env, st, r, st', E, S, run, k⟩ := h
  rcases any_split run with q | q | q | q
  · exact .inl ⟨ρ, env, st, r, st', E, S, q, k⟩
  · exact .inr (.inl ⟨ρ, env, st, r, st', E, S, q, k⟩)
  · exact .inr (.inr (.inl ⟨ρ, env, st, r, st', E, S, q, k⟩))
  · exact .inr (.inr (.inr ⟨ρ, env, st, r, st', E, S, q, k⟩))
theorem xss_never {b : List Stmt} : XSs X b (fun _ _ => none) := ⟨fun pins s σ H E I h => by
  obtain ⟨ρ, env, st, f, st', R, S, run, k⟩ := h
  cases run⟩
theorem hu65 {k : Nat} {A : Around} (r : Room k A) : A.units + 65 < cLine := by have := r.un; omega
theorem hu64 {k : Nat} {A : Around} (r : Room k A) : A.units + 64 < cLine := by have := r.un; omega
theorem hu8 {k : Nat} {A : Around} (r : Room k A) : A.units + 8 < cLine := by have := r.un; omega
theorem hu2 {k : Nat} {A : Around} (r : Room k A) : A.units + 2 < cLine := by have := r.un; omega
theorem hu1 {k : Nat} {A : Around} (r : Room k A) : A.units + 1 < cLine := by have := r.un; omega
end
theorem bb_len : bootBuiltins "len" = some (.builtin "len") := PySem.boot_len
theorem bb_sum : bootBuiltins "sum" = some (.builtin "sum") := by first | exact PyProof.Rows.boot_sum | exact PySem.boot_sum | decide +kernel
theorem bb_sorted : bootBuiltins "sorted" = some (.builtin "sorted") := by first | exact PyProof.Rows.boot_sorted | exact PySem.boot_sorted | decide +kernel
theorem bb_isinstance : bootBuiltins "isinstance" = some (.builtin "isinstance") := by first | exact PyProof.Rows.boot_isinstance | exact PySem.boot_isinstance | decide +kernel
theorem bb_int : bootBuiltins "int" = some (.type "int") := by first | exact PyProof.Rows.boot_int | exact PySem.boot_int | decide +kernel
theorem bb_bool : bootBuiltins "bool" = some (.type "bool") := by first | exact PyProof.Rows.boot_bool | exact PySem.boot_bool | decide +kernel
theorem bb_str : bootBuiltins "str" = some (.type "str") := by first | exact PyProof.Rows.boot_str | exact PySem.boot_str | decide +kernel
theorem bb_tuple : bootBuiltins "tuple" = some (.type "tuple") := by first | exact PyProof.Rows.boot_tuple | exact PySem.boot_tuple | decide +kernel
theorem bb_list : bootBuiltins "list" = some (.type "list") := by first | exact PyProof.Rows.boot_list | exact PySem.boot_list | decide +kernel
theorem bb_dict : bootBuiltins "dict" = some (.type "dict") := by first | exact PyProof.Rows.boot_dict | exact PySem.boot_dict | decide +kernel
end PM

set_option Elab.async false
set_option linter.all false
set_option maxRecDepth 100000
set_option autoImplicit false
/-! PM, part n: how the evaluators are read. -/
namespace PM
open PySem PySem.Spec PyProof.Rows L2
open Classical

def wp {α : Type} (o : Option (α × Store)) (Q : α → Store → Prop) : Prop := ∃ r, o = some r ∧ Q r.1 r.2
section
variable {α β : Type}
theorem wp_some {a : α} {s : Store} {Q : α → Store → Prop} : wp (some (a, s)) Q ↔ Q a s := ⟨fun ⟨r, e, q⟩ => by cases e; exact q, fun q => ⟨_, rfl, q⟩⟩
theorem wp_none {Q : α → Store → Prop} : wp none Q ↔ False := ⟨fun ⟨r, e, q⟩ => (nomatch e), fun h => h.elim⟩
theorem wp_bind {o : Option (α × Store)} {f : α × Store → Option (β × Store)} {Q : β → Store → Prop} : wp (o.bind f) Q ↔ wp o fun a s => wp (f (a, s)) Q := by
  constructor
  · rintro ⟨r, e, q⟩
    obtain ⟨⟨a, s⟩, h1, h2⟩ := bindS e
    exact ⟨(a, s), h1, r, h2, q⟩
  · rintro ⟨⟨a, s⟩, e, r, h, q⟩
    exact ⟨r, by rw [e]; exact h, q⟩
theorem wp_mono {o : Option (α × Store)} {Q R : α → Store → Prop} (h : wp o Q) (k : ∀ a s, Q a s → R a s) : wp o R := by
  obtain ⟨r, e, q⟩ := h
  exact ⟨r, e, k _ _ q⟩
theorem wp_of {o : Option (α × Store)} {a : α} {s : Store} {Q : α → Store → Prop} (e : o = some (a, s)) (q : Q a s) : wp o Q := ⟨_, e, q⟩
theorem wp_obind {γ : Type} {o : Option γ} {f : γ → Option (β × Store)} {Q : β → Store → Prop} {x : γ} (e : o = some x) : wp (o.bind f) Q ↔ wp (f x) Q := by rw [e]; rfl
end
theorem pre_get {s s' : Store} {i : Nat} {c : Cell} (h : s <+: s') (e : s[i]? = some c) : s'[i]? = some c := by
  obtain ⟨t, rfl⟩ := h
  rw [List.getElem?_append_left (List.getElem?_eq_some_iff.mp e).1]
  exact e
theorem pre_app {s t : Store} : s <+: s ++ t := ⟨t, rfl⟩
theorem pre_holds {g : Gd} {s s' : Store} (h : s <+: s') (e : holds g s) : holds g s' := fun n c q => pre_get h (e n c q)
theorem set_mid {α : Type} (s t : List α) (x y : α) : (s ++ x :: t).set s.length y = s ++ y :: t := by
  rw [List.set_append_right _ _ (Nat.le_refl _), Nat.sub_self]
  rfl
theorem get_mid {α : Type} (s t : List α) (x : α) : (s ++ x :: t)[s.length]? = some x := by
  rw [List.getElem?_append_right (Nat.le_refl _), Nat.sub_self]
  rfl
theorem lc_go {α : Type} {g : Gd} {G : D → Env → M Env} {T : Env → M Bool} {A : Env → M D} {env : Env} {k : α → D} {h : α → Option D} {st0 : Store} (hg : holds g st0) : ∀ (xs : List α) (acc : List D) (t : Store), acc.length + xs.length ≤ sizeLine →
    (∀ s, st0 <+: s → ∀ x ∈ xs, wp (G (k x) env s) fun e s1 => wp (T e s1) fun b s2 => if b = true then wp (A e s2) fun y s3 => s <+: s3 ∧ h x = some y else s <+: s2 ∧ h x = none) →
    ∃ t', lcM st0.length g G T A env (xs.map k) (st0 ++ .lst acc :: t) = some (st0 ++ .lst (acc ++ xs.filterMap h) :: t')
  | [], acc, t, _, _ => by
    rw [List.map_nil]
    unfold lcM
    rw [if_pos (pre_holds pre_app hg), List.filterMap_nil, List.append_nil]
    exact ⟨t, rfl⟩
  | x :: xs, acc, t, hz, hh => by
    rw [List.map_cons]
    unfold lcM
    rw [if_pos (pre_holds pre_app hg)]
    rw [List.length_cons] at hz
    obtain ⟨⟨e, s1⟩, h1, ⟨b, s2⟩, h2, h3⟩ := hh (st0 ++ .lst acc :: t) pre_app x List.mem_cons_self
    have hr : ∀ s, st0 <+: s → ∀ x ∈ xs, wp (G (k x) env s) fun e s1 => wp (T e s1) fun b s2 => if b = true then wp (A e s2) fun y s3 => s <+: s3 ∧ h x = some y else s <+: s2 ∧ h x = none := fun s hs y hy => hh s hs y (List.mem_cons_of_mem _ hy)
    rw [h1]
    dsimp only [Option.bind_some]
    rw [h2]
    dsimp only [Option.bind_some]
    cases b with
    | true =>
      rw [if_pos rfl] at h3 ⊢
      obtain ⟨⟨y, s3⟩, h4, h5, h6⟩ := h3
      obtain ⟨u, rfl⟩ := h5
      dsimp only at h4
      rw [h4]
      have e1 : st0 ++ Cell.lst acc :: t ++ u = st0 ++ .lst acc :: (t ++ u) := by simp
      have ea : appM st0.length y (st0 ++ .lst acc :: (t ++ u)) = some (st0 ++ .lst (acc ++ [y]) :: (t ++ u)) := by
        unfold appM
        rw [get_mid]
        dsimp only
        rw [if_pos (by omega), set_mid]
      dsimp only [Option.bind_some]
      rw [e1, ea]
      dsimp only [Option.bind_some]
      obtain ⟨t', ih⟩ := lc_go hg xs (acc ++ [y]) (t ++ u) (by rw [List.length_append]; simp only [List.length_cons, List.length_nil]; omega) hr
      have h6 : h x = some y := h6
      rw [ih, List.filterMap_cons_some h6, List.append_assoc]
      exact ⟨t', rfl⟩
    | false =>
      rw [if_neg Bool.false_ne_true] at h3 ⊢
      obtain ⟨h5, h6⟩ := h3
      obtain ⟨u, rfl⟩ := h5
      have e1 : st0 ++ Cell.lst acc :: t ++ u = st0 ++ .lst acc :: (t ++ u) := by simp
      rw [e1]
      obtain ⟨t', ih⟩ := lc_go hg xs acc (t ++ u) (by omega) hr
      have h6 : h x = none := h6
      rw [ih, List.filterMap_cons_none h6]
      exact ⟨t', rfl⟩
/-- a comprehension that only reads -/
theorem wp_lc {α : Type} {vs : List Nat} {I : Env → M (List D × Gd)} {G : D → Env → M Env} {T : Env → M Bool} {A : Env → M D} {env : Env} {st s0 : Store} (k : α → D) (h : α → Option D) (xs : List α) {g : Gd} {Q : D → Store → Prop} (hI : I env st = some ((xs.map k, g), s0)) (hg : holds g s0) (hz : xs.length ≤ sizeLine)
    (hh : ∀ s, s0 <+: s → ∀ x ∈ xs, wp (G (k x) (wipeE env vs) s) fun e s1 => wp (T e s1) fun b s2 => if b = true then wp (A e s2) fun y s3 => s <+: s3 ∧ h x = some y else s <+: s2 ∧ h x = none)
    (kk : ∀ t, Q (.ref s0.length) (s0 ++ .lst (xs.filterMap h) :: t)) : wp (mLc vs I G T A env st) Q := by
  obtain ⟨t, e⟩ := lc_go hg xs [] [] (by simpa using hz) hh
  refine wp_of ?_ (kk t)
  unfold mLc
  rw [hI]
  dsimp only [Option.bind_some]
  rw [e]
  rfl
theorem filterMap_all {α β : Type} (f : α → β) : ∀ xs : List α, xs.filterMap (fun a => some (f a)) = xs.map f
  | [] => rfl
  | x :: xs => by
    rw [List.map_cons, ← filterMap_all f xs]
    rfl
theorem filterMap_if {α β : Type} (p : α → Bool) (f : α → β) : ∀ xs : List α, xs.filterMap (fun a => if p a = true then some (f a) else none) = (xs.filter p).map f
  | [] => rfl
  | x :: xs => by
    cases h : p x with
    | true => rw [List.filterMap_cons_some (by rw [h]; rfl), List.filter_cons_of_pos h, List.map_cons, filterMap_if p f xs]
    | false => rw [List.filterMap_cons_none (by rw [h]; rfl), List.filter_cons_of_neg (by rw [h]; exact Bool.false_ne_true), filterMap_if p f xs]
/-- [f(x) for x in xs] -/
theorem wp_map {α : Type} {vs : List Nat} {I : Env → M (List D × Gd)} {G : D → Env → M Env} {T : Env → M Bool} {A : Env → M D} {env : Env} {st s0 : Store} (k : α → D) (f : α → D) (xs : List α) {g : Gd} {Q : D → Store → Prop} (hI : I env st = some ((xs.map k, g), s0)) (hg : holds g s0) (hz : xs.length ≤ sizeLine)
    (hh : ∀ s, s0 <+: s → ∀ x ∈ xs, wp (G (k x) (wipeE env vs) s) fun e s1 => wp (T e s1) fun b s2 => if b = true then wp (A e s2) fun y s3 => s <+: s3 ∧ y = f x else False)
    (kk : ∀ t, Q (.ref s0.length) (s0 ++ .lst (xs.map f) :: t)) : wp (mLc vs I G T A env st) Q := by
  refine wp_lc k (fun a => some (f a)) xs hI hg hz (fun s hs x hx => wp_mono (hh s hs x hx) fun e s1 h => wp_mono h fun b s2 h => ?_) fun t => ?_
  · cases b with
    | true =>
      rw [if_pos rfl] at h ⊢
      exact wp_mono h fun y s3 q => ⟨q.1, by rw [q.2]⟩
    | false =>
      rw [if_neg Bool.false_ne_true] at h
      exact h.elim
  · rw [filterMap_all]
    exact kk t
/-- [f(x) for x in xs if p(x)] -/
theorem wp_filter {α : Type} {vs : List Nat} {I : Env → M (List D × Gd)} {G : D → Env → M Env} {T : Env → M Bool} {A : Env → M D} {env : Env} {st s0 : Store} (k : α → D) (p : α → Bool) (f : α → D) (xs : List α) {g : Gd} {Q : D → Store → Prop} (hI : I env st = some ((xs.map k, g), s0)) (hg : holds g s0) (hz : xs.length ≤ sizeLine)
    (hh : ∀ s, s0 <+: s → ∀ x ∈ xs, wp (G (k x) (wipeE env vs) s) fun e s1 => wp (T e s1) fun b s2 => b = p x ∧ if b = true then wp (A e s2) fun y s3 => s <+: s3 ∧ y = f x else s <+: s2)
    (kk : ∀ t, Q (.ref s0.length) (s0 ++ .lst ((xs.filter p).map f) :: t)) : wp (mLc vs I G T A env st) Q := by
  refine wp_lc k (fun a => if p a = true then some (f a) else none) xs hI hg hz (fun s hs x hx => wp_mono (hh s hs x hx) fun e s1 h => wp_mono h fun b s2 h => ?_) fun t => ?_
  · obtain ⟨e1, h⟩ := h
    cases b with
    | true =>
      rw [if_pos rfl] at h ⊢
      exact wp_mono h fun y s3 q => ⟨q.1, by rw [← e1, if_pos rfl, q.2]⟩
    | false =>
      rw [if_neg Bool.false_ne_true] at h ⊢
      exact ⟨h, by rw [← e1, if_neg Bool.false_ne_true]⟩
  · rw [filterMap_if]
    exact kk t
theorem wp_for {g : Gd} {G : D → Env → M Env} {B : Env → M Fl} {Q : Fl → Store → Prop} (Inv : List D → Env → Store → Prop) (fin : ∀ env st, Inv [] env st → holds g st ∧ Q (.nx env) st)
    (step : ∀ x xs env st, Inv (x :: xs) env st → holds g st ∧ wp (G x env st) fun e s1 => wp (B e s1) fun f s2 => match f with
      | .nx e' => Inv xs e' s2
      | .ct e' => Inv xs e' s2
      | .bk e' => Q (.nx e') s2
      | .rt v => Q (.rt v) s2) : ∀ (xs : List D) (env : Env) (st : Store), Inv xs env st → wp (forM g G B xs env st) Q
  | [], env, st, h => by
    obtain ⟨h1, h2⟩ := fin env st h
    unfold forM
    rw [if_pos h1]
    exact wp_some.mpr h2
  | x :: xs, env, st, h => by
    obtain ⟨h1, h2⟩ := step x xs env st h
    unfold forM
    rw [if_pos h1]
    refine wp_bind.mpr (wp_mono h2 fun e s1 h3 => wp_bind.mpr (wp_mono h3 fun f s2 h4 => ?_))
    cases f with
    | nx e' => exact wp_for Inv fin step xs e' s2 h4
    | ct e' => exact wp_for Inv fin step xs e' s2 h4
    | bk e' => exact wp_some.mpr h4
    | rt v => exact wp_some.mpr h4
theorem wp_sFor {I : Env → M (List D × Gd)} {G : D → Env → M Env} {B : Env → M Fl} {env : Env} {st : Store} {Q : Fl → Store → Prop} : wp (sFor I G B env st) Q ↔ wp (I env st) fun r s => wp (forM r.2 G B r.1 env s) Q := by
  unfold sFor
  exact wp_bind
/-- a dict locked while the rest only reads -/
theorem wp_lock {α : Type} {sel : Env → Store → Option Nat} {A : Env → M α} {env : Env} {st : Store} {n : Nat} {c1 c2 : Cell} {Q : α → Store → Prop} (h1 : sel env st = some n) (h2 : lockC st[n]? = some (c1, c2)) (h3 : st[n]? = some c2)
    (h : wp (A env (st.set n c1)) fun a s => ∃ t, s = st.set n c1 ++ t ∧ Q a (st ++ t)) : wp (mLock sel A env st) Q := by
  obtain ⟨⟨a, s⟩, e, t, rfl, q⟩ := h
  have hl : n < st.length := (List.getElem?_eq_some_iff.mp h3).1
  refine wp_of (a := a) (s := st ++ t) ?_ q
  unfold mLock
  rw [h1]
  dsimp only [Option.bind_some]
  rw [h2]
  dsimp only [Option.bind_some]
  rw [e]
  dsimp only [Option.bind_some]
  have hg : (st.set n c1 ++ t)[n]? = some c1 := by
    rw [List.getElem?_append_left (by simpa using hl), List.getElem?_set_self hl]
  rw [if_pos hg]
  congr 2
  rw [List.set_append_left _ _ (by simpa using hl), List.set_set]
  congr 1
  obtain ⟨_, e3⟩ := List.getElem?_eq_some_iff.mp h3
  rw [← e3, List.set_getElem_self]
end PM

set_option Elab.async false
set_option linter.all false
set_option maxRecDepth 100000
set_option autoImplicit false
/-! The walks of the defs, printed by wip/gen.py. -/
namespace K34
open PySem PySem.Spec PyProof.Rows L2 PM
def topS (i : Nat) : Stmt := PySem.Challenge.pw_sumsheld_k34_books_that_change.main.body.getD i (.Pass ⟨0, 0, 0, 0⟩)
abbrev st_is_whole : Stmt := topS 5
def n_is_whole : List Str := ["value"]
theorem sc_is_whole : FnScope n_is_whole ["value"] (defScope st_is_whole) := ⟨rfl, rfl, rfl, by decide +kernel, rfl, by decide +kernel, by decide +kernel⟩
abbrev st_is_told : Stmt := topS 6
def n_is_told : List Str := ["value", "word", "count"]
theorem sc_is_told : FnScope n_is_told ["value", "word", "count"] (defScope st_is_told) := ⟨rfl, rfl, rfl, by decide +kernel, rfl, by decide +kernel, by decide +kernel⟩
abbrev st_is_name : Stmt := topS 7
def n_is_name : List Str := ["value", "sign"]
theorem sc_is_name : FnScope n_is_name ["value"] (defScope st_is_name) := ⟨rfl, rfl, rfl, by decide +kernel, rfl, by decide +kernel, by decide +kernel⟩
abbrev st_is_key : Stmt := topS 8
def n_is_key : List Str := ["value", "part"]
theorem sc_is_key : FnScope n_is_key ["value"] (defScope st_is_key) := ⟨rfl, rfl, rfl, by decide +kernel, rfl, by decide +kernel, by decide +kernel⟩
abbrev st_is_house : Stmt := topS 9
def n_is_house : List Str := ["value"]
theorem sc_is_house : FnScope n_is_house ["value"] (defScope st_is_house) := ⟨rfl, rfl, rfl, by decide +kernel, rfl, by decide +kernel, by decide +kernel⟩
abbrev st_is_amount : Stmt := topS 10
def n_is_amount : List Str := ["value"]
theorem sc_is_amount : FnScope n_is_amount ["value"] (defScope st_is_amount) := ⟨rfl, rfl, rfl, by decide +kernel, rfl, by decide +kernel, by decide +kernel⟩
abbrev st_is_number : Stmt := topS 11
def n_is_number : List Str := ["value"]
theorem sc_is_number : FnScope n_is_number ["value"] (defScope st_is_number) := ⟨rfl, rfl, rfl, by decide +kernel, rfl, by decide +kernel, by decide +kernel⟩
abbrev st_is_part : Stmt := topS 12
def n_is_part : List Str := ["part"]
theorem sc_is_part : FnScope n_is_part ["part"] (defScope st_is_part) := ⟨rfl, rfl, rfl, by decide +kernel, rfl, by decide +kernel, by decide +kernel⟩
abbrev st_is_cell : Stmt := topS 13
def n_is_cell : List Str := ["cell"]
theorem sc_is_cell : FnScope n_is_cell ["cell"] (defScope st_is_cell) := ⟨rfl, rfl, rfl, by decide +kernel, rfl, by decide +kernel, by decide +kernel⟩
abbrev st_rise : Stmt := topS 14
def n_rise : List Str := ["entries", "at"]
theorem sc_rise : FnScope n_rise ["entries"] (defScope st_rise) := ⟨rfl, rfl, rfl, by decide +kernel, rfl, by decide +kernel, by decide +kernel⟩
abbrev st_is_book : Stmt := topS 15
def n_is_book : List Str := ["value", "part", "cell"]
theorem sc_is_book : FnScope n_is_book ["value"] (defScope st_is_book) := ⟨rfl, rfl, rfl, by decide +kernel, rfl, by decide +kernel, by decide +kernel⟩
abbrev st_told_of : Stmt := topS 16
def n_told_of : List Str := ["entries", "key", "entry"]
theorem sc_told_of : FnScope n_told_of ["entries", "key"] (defScope st_told_of) := ⟨rfl, rfl, rfl, by decide +kernel, rfl, by decide +kernel, by decide +kernel⟩
abbrev st_part_of : Stmt := topS 17
def n_part_of : List Str := ["book", "account", "unit", "house"]
theorem sc_part_of : FnScope n_part_of ["book", "account", "unit", "house"] (defScope st_part_of) := ⟨rfl, rfl, rfl, by decide +kernel, rfl, by decide +kernel, by decide +kernel⟩
abbrev st_cell_of : Stmt := topS 18
def n_cell_of : List Str := ["book", "house", "contract", "key"]
theorem sc_cell_of : FnScope n_cell_of ["book", "house", "contract", "key"] (defScope st_cell_of) := ⟨rfl, rfl, rfl, by decide +kernel, rfl, by decide +kernel, by decide +kernel⟩
abbrev st_amount_of : Stmt := topS 19
def n_amount_of : List Str := ["book", "account", "unit", "part"]
theorem sc_amount_of : FnScope n_amount_of ["book", "account", "unit"] (defScope st_amount_of) := ⟨rfl, rfl, rfl, by decide +kernel, rfl, by decide +kernel, by decide +kernel⟩
abbrev st_supply : Stmt := topS 20
def n_supply : List Str := ["book", "unit", "part"]
theorem sc_supply : FnScope n_supply ["book", "unit"] (defScope st_supply) := ⟨rfl, rfl, rfl, by decide +kernel, rfl, by decide +kernel, by decide +kernel⟩
abbrev st_accounts : Stmt := topS 21
def n_accounts : List Str := ["book", "part"]
theorem sc_accounts : FnScope n_accounts ["book"] (defScope st_accounts) := ⟨rfl, rfl, rfl, by decide +kernel, rfl, by decide +kernel, by decide +kernel⟩
abbrev st_units : Stmt := topS 22
def n_units : List Str := ["book", "part"]
theorem sc_units : FnScope n_units ["book"] (defScope st_units) := ⟨rfl, rfl, rfl, by decide +kernel, rfl, by decide +kernel, by decide +kernel⟩
abbrev st_supplies : Stmt := topS 23
def n_supplies : List Str := ["book", "unit"]
theorem sc_supplies : FnScope n_supplies ["book"] (defScope st_supplies) := ⟨rfl, rfl, rfl, by decide +kernel, rfl, by decide +kernel, by decide +kernel⟩
abbrev st_set_entry : Stmt := topS 24
def n_set_entry : List Str := ["entries", "key", "number", "others", "entry"]
theorem sc_set_entry : FnScope n_set_entry ["entries", "key", "number"] (defScope st_set_entry) := ⟨rfl, rfl, rfl, by decide +kernel, rfl, by decide +kernel, by decide +kernel⟩
abbrev st_moved : Stmt := topS 25
def n_moved : List Str := ["book", "account", "unit", "house", "number", "now"]
theorem sc_moved : FnScope n_moved ["book", "account", "unit", "house", "number"] (defScope st_moved) := ⟨rfl, rfl, rfl, by decide +kernel, rfl, by decide +kernel, by decide +kernel⟩
abbrev st_with_cell : Stmt := topS 26
def n_with_cell : List Str := ["book", "house", "contract", "key", "number"]
theorem sc_with_cell : FnScope n_with_cell ["book", "house", "contract", "key", "number"] (defScope st_with_cell) := ⟨rfl, rfl, rfl, by decide +kernel, rfl, by decide +kernel, by decide +kernel⟩
abbrev st__law_next : Stmt := topS 28
def n__law_next : List Str := ["state", "limit", "cell", "value"]
theorem sc__law_next : FnScope n__law_next ["state", "limit"] (defScope st__law_next) := ⟨rfl, rfl, rfl, by decide +kernel, rfl, by decide +kernel, by decide +kernel⟩
abbrev st__law_same : Stmt := topS 29
def n__law_same : List Str := ["actual", "expected", "k"]
theorem sc__law_same : FnScope n__law_same ["actual", "expected"] (defScope st__law_same) := ⟨rfl, rfl, rfl, by decide +kernel, rfl, by decide +kernel, by decide +kernel⟩
abbrev st__law_book : Stmt := topS 30
def n__law_book : List Str := ["world", "parts", "key", "number"]
theorem sc__law_book : FnScope n__law_book ["world"] (defScope st__law_book) := ⟨rfl, rfl, rfl, by decide +kernel, rfl, by decide +kernel, by decide +kernel⟩
abbrev st__law_plain_book : Stmt := topS 31
def n__law_plain_book : List Str := ["state", "parts", "cells", "account", "unit", "house", "k", "contract", "key"]
theorem sc__law_plain_book : FnScope n__law_plain_book ["state"] (defScope st__law_plain_book) := ⟨rfl, rfl, rfl, by decide +kernel, rfl, by decide +kernel, by decide +kernel⟩
abbrev st__law_tells : Stmt := topS 32
def n__law_tells : List Str := ["book", "parts", "cells", "keys", "told", "unit", "account", "key"]
theorem sc__law_tells : FnScope n__law_tells ["book", "parts", "cells"] (defScope st__law_tells) := ⟨rfl, rfl, rfl, by decide +kernel, rfl, by decide +kernel, by decide +kernel⟩
abbrev st_law : Stmt := topS 33
def n_law : List Str := ["script", "state", "turn", "book", "parts", "cells", "k", "key", "number", "later", "cell", "part", "wrong", "thing"]
theorem sc_law : FnScope n_law ["script"] (defScope st_law) := ⟨rfl, rfl, rfl, by decide +kernel, rfl, by decide +kernel, by decide +kernel⟩
structure Blt (mg : Str → Option Value) : Prop where
  bool : mg "bool" = none
  dict : mg "dict" = none
  int : mg "int" = none
  isinstance : mg "isinstance" = none
  len : mg "len" = none
  list : mg "list" = none
  range : mg "range" = none
  set : mg "set" = none
  sorted : mg "sorted" = none
  str : mg "str" = none
  sum : mg "sum" = none
  tuple : mg "tuple" = none
  c_FIRST_SIGNS : ∃ t : Tok, mg "FIRST_SIGNS" = some (.str ("abcdefghijklmnopqrstuvwxyz" : Str) t)
  c_MOST_HOUSE : ∃ t : Tok, mg "MOST_HOUSE" = some (.int 7 t)
  c_MOST_NUMBER : ∃ t : Tok, mg "MOST_NUMBER" = some (.int 1000000000000 t)
  c_SIGNS : ∃ t : Tok, mg "SIGNS" = some (.str ("abcdefghijklmnopqrstuvwxyz0123456789_" : Str) t)
noncomputable def s_is_whole : PM.Env → M Fl := (sSeq (sRet (mAndV (mIsi "int" (mVar 0)) (mNotV (mIsi "bool" (mVar 0)))))
  sNil)
noncomputable def f_is_whole : List PM.D → M PM.D := bodyM 1 1 s_is_whole
noncomputable def s_is_told : PM.Env → M Fl := (sSeq (sRet (mAndV (mIsi "tuple" (mVar 0)) (mAndV (mOp eqF (mCall lenF (mCons (mVar 0) mNil)) (mVar 2)) (mAndV (mIsi "str" (mOp getF (mVar 0) (mC (.int 0)))) (mOp eqF (mOp getF (mVar 0) (mC (.int 0))) (mVar 1))))))
  sNil)
noncomputable def f_is_told : List PM.D → M PM.D := bodyM 3 3 s_is_told
noncomputable def s_is_name : PM.Env → M Fl := (sSeq (sIf (mOr (mNot (mTru (mIsi "str" (mVar 0)))) (mOr (mNot (mTru (mVar 0))) (mTest (mOp (inAF true) (mOp getF (mVar 0) (mC (.int 0))) (mC (.str ("abcdefghijklmnopqrstuvwxyz" : Str))))))) (sSeq (sRet (mC (.bool false)))
  sNil) sNil)
  (sSeq (sRet (mOp (inAF true) (mC (.bool true)) (mLc [1] (mAny (mVar 0)) (gN 1) mYes (mOp (inAF true) (mVar 1) (mC (.str ("abcdefghijklmnopqrstuvwxyz0123456789_" : Str)))))))
  sNil))
noncomputable def f_is_name : List PM.D → M PM.D := bodyM 1 2 s_is_name
noncomputable def s_is_key : PM.Env → M Fl := (sSeq (sRet (mAndV (mIsi "str" (mVar 0)) (mOp (inAF true) (mC (.bool false)) (mLc [1] (mAny (mMeth "str" splitF (mVar 0) (mCons (mC (.str ("." : Str))) mNil))) (gN 1) mYes (mCall f_is_name (mCons (mVar 1) mNil))))))
  sNil)
noncomputable def f_is_key : List PM.D → M PM.D := bodyM 1 2 s_is_key
noncomputable def s_is_house : PM.Env → M Fl := (sSeq (sRet (mAndV (mCall f_is_whole (mCons (mVar 0) mNil)) (mChain leF leF (mC (.int 0)) (mVar 0) (mC (.int 7)))))
  sNil)
noncomputable def f_is_house : List PM.D → M PM.D := bodyM 1 1 s_is_house
noncomputable def s_is_amount : PM.Env → M Fl := (sSeq (sRet (mAndV (mCall f_is_whole (mCons (mVar 0) mNil)) (mOp geF (mVar 0) (mC (.int 0)))))
  sNil)
noncomputable def f_is_amount : List PM.D → M PM.D := bodyM 1 1 s_is_amount
noncomputable def s_is_number : PM.Env → M Fl := (sSeq (sRet (mAndV (mCall f_is_whole (mCons (mVar 0) mNil)) (mChain leF leF (mUn negF (mC (.int 1000000000000))) (mVar 0) (mC (.int 1000000000000)))))
  sNil)
noncomputable def f_is_number : List PM.D → M PM.D := bodyM 1 1 s_is_number
noncomputable def s_is_part : PM.Env → M Fl := (sSeq (sIf (mOr (mNot (mTru (mIsi "tuple" (mVar 0)))) (mTest (mOp neF (mCall lenF (mCons (mVar 0) mNil)) (mC (.int 4))))) (sSeq (sRet (mC (.bool false)))
  sNil) sNil)
  (sSeq (sRet (mAndV (mCall f_is_name (mCons (mOp getF (mVar 0) (mC (.int 0))) mNil)) (mAndV (mCall f_is_name (mCons (mOp getF (mVar 0) (mC (.int 1))) mNil)) (mAndV (mCall f_is_house (mCons (mOp getF (mVar 0) (mC (.int 2))) mNil)) (mAndV (mCall f_is_amount (mCons (mOp getF (mVar 0) (mC (.int 3))) mNil)) (mOp gtF (mOp getF (mVar 0) (mC (.int 3))) (mC (.int 0))))))))
  sNil))
noncomputable def f_is_part : List PM.D → M PM.D := bodyM 1 1 s_is_part
noncomputable def s_is_cell : PM.Env → M Fl := (sSeq (sIf (mOr (mNot (mTru (mIsi "tuple" (mVar 0)))) (mTest (mOp neF (mCall lenF (mCons (mVar 0) mNil)) (mC (.int 4))))) (sSeq (sRet (mC (.bool false)))
  sNil) sNil)
  (sSeq (sRet (mAndV (mCall f_is_house (mCons (mOp getF (mVar 0) (mC (.int 0))) mNil)) (mAndV (mCall f_is_name (mCons (mOp getF (mVar 0) (mC (.int 1))) mNil)) (mAndV (mCall f_is_key (mCons (mOp getF (mVar 0) (mC (.int 2))) mNil)) (mAndV (mCall f_is_number (mCons (mOp getF (mVar 0) (mC (.int 3))) mNil)) (mOp neF (mOp getF (mVar 0) (mC (.int 3))) (mC (.int 0))))))))
  sNil))
noncomputable def f_is_cell : List PM.D → M PM.D := bodyM 1 1 s_is_cell
noncomputable def s_rise : PM.Env → M Fl := (sSeq (sRet (mOp (inAF true) (mC (.bool true)) (mLc [1] (mRange (mCons (mOp subF (mCall lenF (mCons (mVar 0) mNil)) (mC (.int 1))) mNil)) (gN 1) mYes (mOp geF (mSl slF (mOp getF (mVar 0) (mVar 1)) (mPart none) (mPart (some (mC (.int 3))))) (mSl slF (mOp getF (mVar 0) (mOp addF (mVar 1) (mC (.int 1)))) (mPart none) (mPart (some (mC (.int 3)))))))))
  sNil)
noncomputable def f_rise : List PM.D → M PM.D := bodyM 1 2 s_rise
noncomputable def s_is_book : PM.Env → M Fl := (sSeq (sIf (mOr (mNot (mTru (mCall f_is_told (mCons (mVar 0) (mCons (mC (.str ("book" : Str))) (mCons (mC (.int 3)) mNil)))))) (mOr (mNot (mTru (mIsi "tuple" (mOp getF (mVar 0) (mC (.int 1)))))) (mNot (mTru (mIsi "tuple" (mOp getF (mVar 0) (mC (.int 2)))))))) (sSeq (sRet (mC (.bool false)))
  sNil) sNil)
  (sSeq (sIf (mOr (mTest (mOp (inAF false) (mC (.bool false)) (mLc [1] (mAny (mOp getF (mVar 0) (mC (.int 1)))) (gN 1) mYes (mCall f_is_part (mCons (mVar 1) mNil))))) (mTest (mOp (inAF false) (mC (.bool false)) (mLc [2] (mAny (mOp getF (mVar 0) (mC (.int 2)))) (gN 2) mYes (mCall f_is_cell (mCons (mVar 2) mNil)))))) (sSeq (sRet (mC (.bool false)))
  sNil) sNil)
  (sSeq (sRet (mAndV (mCall f_rise (mCons (mOp getF (mVar 0) (mC (.int 1))) mNil)) (mCall f_rise (mCons (mOp getF (mVar 0) (mC (.int 2))) mNil))))
  sNil)))
noncomputable def f_is_book : List PM.D → M PM.D := bodyM 1 3 s_is_book
noncomputable def b_told_of_1 : PM.Env → M Fl := (sSeq (sIf (mTest (mOp eqF (mSl slF (mVar 2) (mPart none) (mPart (some (mC (.int 3))))) (mVar 1))) (sSeq (sRet (mOp getF (mVar 2) (mC (.int 3))))
  sNil) sNil)
  sNil)
noncomputable def s_told_of : PM.Env → M Fl := (sSeq (sFor (mAny (mVar 0)) (gN 2) b_told_of_1)
  (sSeq (sRet (mC (.int 0)))
  sNil))
noncomputable def f_told_of : List PM.D → M PM.D := bodyM 2 3 s_told_of
noncomputable def s_part_of : PM.Env → M Fl := (sSeq (sRet (mCall f_told_of (mCons (mOp getF (mVar 0) (mC (.int 1))) (mCons (mTup (mCons (mVar 1) (mCons (mVar 2) (mCons (mVar 3) mNil)))) mNil))))
  sNil)
noncomputable def f_part_of : List PM.D → M PM.D := bodyM 4 4 s_part_of
noncomputable def s_cell_of : PM.Env → M Fl := (sSeq (sRet (mCall f_told_of (mCons (mOp getF (mVar 0) (mC (.int 2))) (mCons (mTup (mCons (mVar 1) (mCons (mVar 2) (mCons (mVar 3) mNil)))) mNil))))
  sNil)
noncomputable def f_cell_of : List PM.D → M PM.D := bodyM 4 4 s_cell_of
noncomputable def s_amount_of : PM.Env → M Fl := (sSeq (sRet (mCall sumF (mCons (mLc [3] (mAny (mOp getF (mVar 0) (mC (.int 1)))) (gN 3) (mTest (mOp eqF (mSl slF (mVar 3) (mPart none) (mPart (some (mC (.int 2))))) (mTup (mCons (mVar 1) (mCons (mVar 2) mNil))))) (mOp getF (mVar 3) (mC (.int 3)))) mNil)))
  sNil)
noncomputable def f_amount_of : List PM.D → M PM.D := bodyM 3 4 s_amount_of
noncomputable def s_supply : PM.Env → M Fl := (sSeq (sRet (mCall sumF (mCons (mLc [2] (mAny (mOp getF (mVar 0) (mC (.int 1)))) (gN 2) (mTest (mOp eqF (mOp getF (mVar 2) (mC (.int 1))) (mVar 1))) (mOp getF (mVar 2) (mC (.int 3)))) mNil)))
  sNil)
noncomputable def f_supply : List PM.D → M PM.D := bodyM 2 3 s_supply
noncomputable def s_accounts : PM.Env → M Fl := (sSeq (sRet (mCall tupleF (mCons (mSset (mLc [1] (mAny (mOp getF (mVar 0) (mC (.int 1)))) (gN 1) mYes (mOp getF (mVar 1) (mC (.int 0))))) mNil)))
  sNil)
noncomputable def f_accounts : List PM.D → M PM.D := bodyM 1 2 s_accounts
noncomputable def s_units : PM.Env → M Fl := (sSeq (sRet (mCall tupleF (mCons (mSset (mLc [1] (mAny (mOp getF (mVar 0) (mC (.int 1)))) (gN 1) mYes (mOp getF (mVar 1) (mC (.int 1))))) mNil)))
  sNil)
noncomputable def f_units : List PM.D → M PM.D := bodyM 1 2 s_units
noncomputable def s_supplies : PM.Env → M Fl := (sSeq (sRet (mCall tupleF (mCons (mLc [1] (mAny (mCall f_units (mCons (mVar 0) mNil))) (gN 1) mYes (mTup (mCons (mVar 1) (mCons (mCall f_supply (mCons (mVar 0) (mCons (mVar 1) mNil))) mNil)))) mNil)))
  sNil)
noncomputable def f_supplies : List PM.D → M PM.D := bodyM 1 2 s_supplies
noncomputable def s_set_entry : PM.Env → M Fl := (sSeq (sAsg (mLc [4] (mAny (mVar 0)) (gN 4) (mTest (mOp neF (mSl slF (mVar 4) (mPart none) (mPart (some (mC (.int 3))))) (mVar 1))) (mVar 4)) (gN 3))
  (sSeq (sIf (mTest (mOp neF (mVar 2) (mC (.int 0)))) (sSeq (sExpr (mMeth "list" appendF (mVar 3) (mCons (mOp addF (mVar 1) (mTup (mCons (mVar 2) mNil))) mNil)))
  sNil) sNil)
  (sSeq (sRet (mCall tupleF (mCons (mCall sortedF (mCons (mVar 3) mNil)) mNil)))
  sNil)))
noncomputable def f_set_entry : List PM.D → M PM.D := bodyM 3 5 s_set_entry
noncomputable def s_moved : PM.Env → M Fl := (sSeq (sAsg (mOp addF (mCall f_part_of (mCons (mVar 0) (mCons (mVar 1) (mCons (mVar 2) (mCons (mVar 3) mNil))))) (mVar 4)) (gN 5))
  (sSeq (sIf (mTest (mOp ltF (mVar 5) (mC (.int 0)))) (sSeq (sRet (mC .none))
  sNil) sNil)
  (sSeq (sRet (mTup (mCons (mC (.str ("book" : Str))) (mCons (mCall f_set_entry (mCons (mOp getF (mVar 0) (mC (.int 1))) (mCons (mTup (mCons (mVar 1) (mCons (mVar 2) (mCons (mVar 3) mNil)))) (mCons (mVar 5) mNil)))) (mCons (mOp getF (mVar 0) (mC (.int 2))) mNil)))))
  sNil)))
noncomputable def f_moved : List PM.D → M PM.D := bodyM 5 6 s_moved
noncomputable def s_with_cell : PM.Env → M Fl := (sSeq (sRet (mTup (mCons (mC (.str ("book" : Str))) (mCons (mOp getF (mVar 0) (mC (.int 1))) (mCons (mCall f_set_entry (mCons (mOp getF (mVar 0) (mC (.int 2))) (mCons (mTup (mCons (mVar 1) (mCons (mVar 2) (mCons (mVar 3) mNil)))) (mCons (mVar 4) mNil)))) mNil)))))
  sNil)
noncomputable def f_with_cell : List PM.D → M PM.D := bodyM 5 5 s_with_cell
noncomputable def s__law_next : PM.Env → M Fl := (sSeq (sIf (mAnd (mTest (mOp eqF (mOp getF (mVar 0) (mC (.int 2))) (mC (.int 0)))) (mTest (mOp ltF (mOp getF (mVar 0) (mC (.int 1))) (mCall lenF (mCons (mOp getF (mVar 0) (mC (.int 0))) mNil))))) (sSeq (sAsg (mOp getF (mOp getF (mVar 0) (mC (.int 0))) (mOp getF (mVar 0) (mC (.int 1)))) (gN 2))
  (sSeq (sAugIx getLF (iiF addI) setF (mVar 0) (mC (.int 1)) (mC (.int 1)))
  (sSeq (sIf (mTest (mOp geF (mVar 2) (mOp powF (mC (.int 10)) (mC (.int 18))))) (sSeq (sAsg (mVar 2) (gIx (mVar 0) (mC (.int 2)) setF))
  sNil) (sSeq (sAsg (mOp modF (mCall intF (mCons (mOp addF (mOp addF (mOp mulF (mOp getF (mVar 0) (mC (.int 3))) (mC (.int 48271))) (mOp modF (mCall intF (mCons (mVar 2) mNil)) (mC (.int 2147483647)))) (mC (.int 7))) mNil)) (mC (.int 2147483647))) (gIx (mVar 0) (mC (.int 3)) setF))
  sNil))
  sNil))) sNil)
  (sSeq (sIf (mTest (mOp gtF (mOp getF (mVar 0) (mC (.int 2))) (mC (.int 0)))) (sSeq (sAsg (mOp modF (mCall intF (mCons (mOp getF (mVar 0) (mC (.int 2))) mNil)) (mVar 1)) (gN 3))
  (sSeq (sAsg (mOp fdivF (mOp getF (mVar 0) (mC (.int 2))) (mVar 1)) (gIx (mVar 0) (mC (.int 2)) setF))
  (sSeq (sRet (mVar 3))
  sNil))) sNil)
  (sSeq (sAsg (mOp modF (mCall intF (mCons (mOp addF (mOp mulF (mOp getF (mVar 0) (mC (.int 3))) (mC (.int 69621))) (mC (.int 12345))) mNil)) (mC (.int 2147483647))) (gIx (mVar 0) (mC (.int 3)) setF))
  (sSeq (sRet (mOp modF (mCall intF (mCons (mOp fdivF (mOp getF (mVar 0) (mC (.int 3))) (mC (.int 7))) mNil)) (mVar 1)))
  sNil))))
noncomputable def f__law_next : List PM.D → M PM.D := bodyM 2 4 s__law_next
noncomputable def b__law_same_1 (R : List PM.D → M PM.D) : PM.Env → M Fl := (sSeq (sIf (mNot (mTru (mCall R (mCons (mOp getF (mVar 0) (mVar 2)) (mCons (mOp getF (mVar 1) (mVar 2)) mNil))))) (sSeq (sRet (mC (.bool false)))
  sNil) sNil)
  sNil)
noncomputable def s__law_same (R : List PM.D → M PM.D) : PM.Env → M Fl := (sSeq (sIf (mTest (mOp (isF false) (mVar 1) (mC .none))) (sSeq (sRet (mOp (isF false) (mVar 0) (mC .none)))
  sNil) sNil)
  (sSeq (sIf (mTru (mIsi "bool" (mVar 1))) (sSeq (sRet (mAndV (mIsi "bool" (mVar 0)) (mOp eqF (mVar 0) (mVar 1))))
  sNil) sNil)
  (sSeq (sIf (mTru (mIsi "int" (mVar 1))) (sSeq (sRet (mAndV (mIsi "int" (mVar 0)) (mAndV (mNotV (mIsi "bool" (mVar 0))) (mOp eqF (mVar 0) (mVar 1)))))
  sNil) sNil)
  (sSeq (sIf (mTru (mIsi "str" (mVar 1))) (sSeq (sRet (mAndV (mIsi "str" (mVar 0)) (mOp eqF (mVar 0) (mVar 1))))
  sNil) sNil)
  (sSeq (sIf (mAnd (mTru (mIsi "tuple" (mVar 1))) (mNot (mTru (mIsi "tuple" (mVar 0))))) (sSeq (sRet (mC (.bool false)))
  sNil) sNil)
  (sSeq (sIf (mAnd (mTru (mIsi "list" (mVar 1))) (mNot (mTru (mIsi "list" (mVar 0))))) (sSeq (sRet (mC (.bool false)))
  sNil) sNil)
  (sSeq (sIf (mTest (mOp neF (mCall lenF (mCons (mVar 0) mNil)) (mCall lenF (mCons (mVar 1) mNil)))) (sSeq (sRet (mC (.bool false)))
  sNil) sNil)
  (sSeq (sFor (mRange (mCons (mCall lenF (mCons (mVar 1) mNil)) mNil)) (gN 2) (b__law_same_1 R))
  (sSeq (sRet (mC (.bool true)))
  sNil)))))))))
noncomputable def f__law_same : Nat → List PM.D → M PM.D
  | 0 => fun _ _ => none
  | d + 1 => bodyM 2 3 (s__law_same (f__law_same d))
noncomputable def s__law_book : PM.Env → M Fl := (sSeq (sAsg (mCall tupleF (mCons (mCall sortedF (mCons (mLock (selM (mOp getF (mVar 0) (mC (.str ("parts" : Str))))) (mLc [2, 3] (mItems (mOp getF (mVar 0) (mC (.str ("parts" : Str))))) (gT (gsCons (gN 2) (gsCons (gN 3) gsNil)) 2) (mTest (mOp neF (mVar 3) (mC (.int 0)))) (mOp addF (mVar 2) (mTup (mCons (mVar 3) mNil))))) mNil)) mNil)) (gN 1))
  (sSeq (sRet (mTup (mCons (mC (.str ("book" : Str))) (mCons (mVar 1) (mCons (mCall tupleF (mCons (mCall sortedF (mCons (mLock (selM (mOp getF (mVar 0) (mC (.str ("cells" : Str))))) (mLc [2, 3] (mItems (mOp getF (mVar 0) (mC (.str ("cells" : Str))))) (gT (gsCons (gN 2) (gsCons (gN 3) gsNil)) 2) (mTest (mOp neF (mVar 3) (mC (.int 0)))) (mOp addF (mVar 2) (mTup (mCons (mVar 3) mNil))))) mNil)) mNil)) mNil)))))
  sNil))
noncomputable def f__law_book : List PM.D → M PM.D := bodyM 1 4 s__law_book
noncomputable def b__law_plain_book_1 : PM.Env → M Fl := (sSeq (sAsg (mC (.int 1)) (gIx (mVar 2) (mTup (mCons (mVar 5) (mCons (mC (.str ("hold" : Str))) (mCons (mOp addF (mOp addF (mOp addF (mC (.str ("one." : Str))) (mVar 3)) (mC (.str ("." : Str)))) (mVar 4)) mNil)))) setF))
  sNil)
noncomputable def b__law_plain_book_2 : PM.Env → M Fl := (sSeq (sPar3 5 7 8 (mCons (mCall f__law_next (mCons (mVar 0) (mCons (mC (.int 3)) mNil))) (mCons (mOp getF (mLst (mCons (mC (.str ("pay" : Str))) (mCons (mC (.str ("drawnp" : Str))) (mCons (mC (.str ("forge" : Str))) mNil)))) (mCall f__law_next (mCons (mVar 0) (mCons (mC (.int 3)) mNil)))) (mCons (mOp getF (mLst (mCons (mC (.str ("k" : Str))) (mCons (mC (.str ("m" : Str))) (mCons (mC (.str ("seen" : Str))) mNil)))) (mCall f__law_next (mCons (mVar 0) (mCons (mC (.int 3)) mNil)))) mNil))))
  (sSeq (sAsg (mOp getF (mLst (mCons (mOp addF (mC (.int 1)) (mCall f__law_next (mCons (mVar 0) (mCons (mC (.int 50)) mNil)))) (mCons (mOp subF (mOp subF (mC (.int 0)) (mC (.int 1))) (mCall f__law_next (mCons (mVar 0) (mCons (mC (.int 50)) mNil)))) mNil))) (mCall f__law_next (mCons (mVar 0) (mCons (mC (.int 2)) mNil)))) (gIx (mVar 2) (mTup (mCons (mVar 5) (mCons (mVar 7) (mCons (mVar 8) mNil)))) setF))
  sNil))
noncomputable def b__law_plain_book_3 : PM.Env → M Fl := (sSeq (sIf (mTest (mOp eqF (mCall f__law_next (mCons (mVar 0) (mCons (mC (.int 2)) mNil))) (mC (.int 0)))) (sSeq (sAsg (mOp getF (mLst (mCons (mOp addF (mC (.int 1)) (mCall f__law_next (mCons (mVar 0) (mCons (mC (.int 90)) mNil)))) (mCons (mOp addF (mOp powF (mC (.int 10)) (mC (.int 13))) (mCall f__law_next (mCons (mVar 0) (mCons (mC (.int 99)) mNil)))) mNil))) (mCall intF (mCons (mOp eqF (mCall f__law_next (mCons (mVar 0) (mCons (mC (.int 9)) mNil))) (mC (.int 0))) mNil))) (gIx (mVar 1) (mTup (mCons (mVar 3) (mCons (mVar 4) (mCons (mVar 5) mNil)))) setF))
  sNil) sNil)
  sNil)
noncomputable def b__law_plain_book_4 : PM.Env → M Fl := (sSeq (sFor (mRange (mCons (mC (.int 4)) mNil)) (gN 5) b__law_plain_book_3)
  sNil)
noncomputable def b__law_plain_book_5 : PM.Env → M Fl := (sSeq (sFor (mAny (mSl slF (mLst (mCons (mC (.str ("gold" : Str))) (mCons (mC (.str ("gem" : Str))) (mCons (mC (.str ("tin" : Str))) mNil)))) (mPart none) (mPart (some (mOp addF (mC (.int 1)) (mCall f__law_next (mCons (mVar 0) (mCons (mC (.int 3)) mNil)))))))) (gN 4) b__law_plain_book_4)
  sNil)
noncomputable def s__law_plain_book : PM.Env → M Fl := (sSeq (sPar 1 2 (mCons mNewT (mCons mNewT mNil)))
  (sSeq (sFor (mAny (mSl slF (mLst (mCons (mC (.str ("till" : Str))) (mCons (mC (.str ("kate" : Str))) (mCons (mC (.str ("omar" : Str))) (mCons (mC (.str ("zoe" : Str))) mNil))))) (mPart none) (mPart (some (mOp addF (mC (.int 1)) (mCall f__law_next (mCons (mVar 0) (mCons (mC (.int 4)) mNil)))))))) (gN 3) b__law_plain_book_5)
  (sSeq (sFor (mRange (mCons (mCall f__law_next (mCons (mVar 0) (mCons (mC (.int 9)) mNil))) mNil)) (gN 6) b__law_plain_book_2)
  (sSeq (sFor (mAny (mSl slF (mCall sortedF (mCons (mCall listAF (mCons (mVar 1) mNil)) mNil)) (mPart none) (mPart (some (mC (.int 2)))))) (gT (gsCons (gN 3) (gsCons (gN 4) (gsCons (gN 5) gsNil))) 3) b__law_plain_book_1)
  (sSeq (sRet (mCall f__law_book (mCons (mDisp (("parts", (mVar 1)) :: (("cells", (mVar 2)) :: []))) mNil)))
  sNil)))))
noncomputable def f__law_plain_book : List PM.D → M PM.D := bodyM 1 9 s__law_plain_book
noncomputable def b__law_tells_1 : PM.Env → M Fl := (sSeq (sIf (mNot (mTru (mCall (f__law_same 6) (mCons (mCall f_amount_of (mCons (mVar 0) (mCons (mVar 6) (mCons (mC (.str ("gold" : Str))) mNil)))) (mCons (mCall sumF (mCons (mLc [7] (mAny (mVar 3)) (gN 7) (mTest (mOp eqF (mSl slF (mVar 7) (mPart none) (mPart (some (mC (.int 2))))) (mTup (mCons (mVar 6) (mCons (mC (.str ("gold" : Str))) mNil))))) (mOp getF (mVar 1) (mVar 7))) mNil)) mNil))))) (sSeq (sRet (mC (.bool false)))
  sNil) sNil)
  sNil)
noncomputable def b__law_tells_2 : PM.Env → M Fl := (sSeq (sExpr (mMeth "list" appendF (mVar 4) (mCons (mTup (mCons (mVar 5) (mCons (mCall sumF (mCons (mLc [7] (mAny (mVar 3)) (gN 7) (mTest (mOp eqF (mOp getF (mVar 7) (mC (.int 1))) (mVar 5))) (mOp getF (mVar 1) (mVar 7))) mNil)) mNil))) mNil)))
  (sSeq (sIf (mNot (mTru (mCall (f__law_same 6) (mCons (mCall f_supply (mCons (mVar 0) (mCons (mVar 5) mNil))) (mCons (mOp getF (mOp getF (mVar 4) (mUn negF (mC (.int 1)))) (mC (.int 1))) mNil))))) (sSeq (sRet (mC (.bool false)))
  sNil) sNil)
  sNil))
noncomputable def s__law_tells : PM.Env → M Fl := (sSeq (mLock (selM (mVar 1)) (sAsg (mLc [7] (mAny (mVar 1)) (gN 7) (mTest (mOp neF (mOp getF (mVar 1) (mVar 7)) (mC (.int 0)))) (mVar 7)) (gN 3)))
  (sSeq (sIf (mOr (mNot (mTru (mCall (f__law_same 6) (mCons (mVar 0) (mCons (mCall f__law_book (mCons (mDisp (("parts", (mVar 1)) :: (("cells", (mVar 2)) :: []))) mNil)) mNil))))) (mTest (mOp (isF true) (mCall f_is_book (mCons (mVar 0) mNil)) (mC (.bool true))))) (sSeq (sRet (mC (.bool false)))
  sNil) sNil)
  (sSeq (sIf (mOr (mNot (mTru (mCall (f__law_same 6) (mCons (mCall f_accounts (mCons (mVar 0) mNil)) (mCons (mCall tupleF (mCons (mSset (mLc [7] (mAny (mVar 3)) (gN 7) mYes (mOp getF (mVar 7) (mC (.int 0))))) mNil)) mNil))))) (mNot (mTru (mCall (f__law_same 6) (mCons (mCall f_units (mCons (mVar 0) mNil)) (mCons (mCall tupleF (mCons (mSset (mLc [7] (mAny (mVar 3)) (gN 7) mYes (mOp getF (mVar 7) (mC (.int 1))))) mNil)) mNil)))))) (sSeq (sRet (mC (.bool false)))
  sNil) sNil)
  (sSeq (sAsg (mLst mNil) (gN 4))
  (sSeq (sFor (mAny (mSset (mLc [7] (mAny (mVar 3)) (gN 7) mYes (mOp getF (mVar 7) (mC (.int 1)))))) (gN 5) b__law_tells_2)
  (sSeq (sFor (mAny (mLst (mCons (mC (.str ("till" : Str))) (mCons (mC (.str ("kate" : Str))) (mCons (mC (.str ("none" : Str))) mNil))))) (gN 6) b__law_tells_1)
  (sSeq (sRet (mAndV (mCall (f__law_same 6) (mCons (mCall f_supplies (mCons (mVar 0) mNil)) (mCons (mCall tupleF (mCons (mVar 4) mNil)) mNil))) (mCall (f__law_same 6) (mCons (mCall f_supply (mCons (mVar 0) (mCons (mC (.str ("none" : Str))) mNil))) (mCons (mC (.int 0)) mNil)))))
  sNil)))))))
noncomputable def f__law_tells : List PM.D → M PM.D := bodyM 3 8 s__law_tells
noncomputable def b_law_1 : PM.Env → M Fl := (sSeq (sAsg (mTup (mCons (mOp getF (mLst (mCons (mC (.str ("till" : Str))) (mCons (mC (.str ("kate" : Str))) (mCons (mC (.str ("zed" : Str))) mNil)))) (mCall f__law_next (mCons (mVar 1) (mCons (mC (.int 3)) mNil)))) (mCons (mOp getF (mLst (mCons (mC (.str ("gold" : Str))) (mCons (mC (.str ("gem" : Str))) mNil))) (mCall f__law_next (mCons (mVar 1) (mCons (mC (.int 2)) mNil)))) (mCons (mCall f__law_next (mCons (mVar 1) (mCons (mC (.int 4)) mNil))) mNil)))) (gN 7))
  (sSeq (sAsg (mOp subF (mCall f__law_next (mCons (mVar 1) (mCons (mC (.int 120)) mNil))) (mC (.int 60))) (gN 8))
  (sSeq (sAsg (mCall f_moved (mCons (mVar 3) (mCons (mOp getF (mVar 7) (mC (.int 0))) (mCons (mOp getF (mVar 7) (mC (.int 1))) (mCons (mOp getF (mVar 7) (mC (.int 2))) (mCons (mVar 8) mNil)))))) (gN 9))
  (sSeq (sIf (mOr (mTest (mOp neF (mOp (isF false) (mVar 9) (mC .none)) (mOp ltF (mOp addF (mGet2 (mVar 4) (mVar 7) (mC (.int 0))) (mVar 8)) (mC (.int 0))))) (mNot (mTru (mCall (f__law_same 6) (mCons (mCall f_part_of (mCons (mVar 3) (mCons (mOp getF (mVar 7) (mC (.int 0))) (mCons (mOp getF (mVar 7) (mC (.int 1))) (mCons (mOp getF (mVar 7) (mC (.int 2))) mNil))))) (mCons (mGet2 (mVar 4) (mVar 7) (mC (.int 0))) mNil)))))) (sSeq (sRet (mC (.bool false)))
  sNil) sNil)
  (sSeq (sIf (mTest (mOp (isF true) (mVar 9) (mC .none))) (sSeq (sAsg (mTup (mCons (mVar 9) (mCons (mOp addF (mGet2 (mVar 4) (mVar 7) (mC (.int 0))) (mVar 8)) mNil))) (gT (gsCons (gN 3) (gsCons (gIx (mVar 4) (mVar 7) setF) gsNil)) 2))
  sNil) sNil)
  (sSeq (sAsg (mTup (mCons (mCall f__law_next (mCons (mVar 1) (mCons (mC (.int 3)) mNil))) (mCons (mOp getF (mLst (mCons (mC (.str ("pay" : Str))) (mCons (mC (.str ("hold" : Str))) mNil))) (mCall f__law_next (mCons (mVar 1) (mCons (mC (.int 2)) mNil)))) (mCons (mOp getF (mLst (mCons (mC (.str ("k" : Str))) (mCons (mC (.str ("one.till.gold" : Str))) mNil))) (mCall f__law_next (mCons (mVar 1) (mCons (mC (.int 2)) mNil)))) mNil)))) (gN 10))
  (sSeq (sAsg (mOp subF (mCall f__law_next (mCons (mVar 1) (mCons (mC (.int 5)) mNil))) (mC (.int 2))) (gN 8))
  (sSeq (sIf (mNot (mTru (mCall (f__law_same 6) (mCons (mCall f_cell_of (mCons (mVar 3) (mCons (mOp getF (mVar 10) (mC (.int 0))) (mCons (mOp getF (mVar 10) (mC (.int 1))) (mCons (mOp getF (mVar 10) (mC (.int 2))) mNil))))) (mCons (mGet2 (mVar 5) (mVar 10) (mC (.int 0))) mNil))))) (sSeq (sRet (mC (.bool false)))
  sNil) sNil)
  (sSeq (sAsg (mTup (mCons (mCall f_with_cell (mCons (mVar 3) (mCons (mOp getF (mVar 10) (mC (.int 0))) (mCons (mOp getF (mVar 10) (mC (.int 1))) (mCons (mOp getF (mVar 10) (mC (.int 2))) (mCons (mVar 8) mNil)))))) (mCons (mVar 8) mNil))) (gT (gsCons (gN 3) (gsCons (gIx (mVar 5) (mVar 10) setF) gsNil)) 2))
  (sSeq (sIf (mNot (mTru (mCall f__law_tells (mCons (mVar 3) (mCons (mVar 4) (mCons (mVar 5) mNil)))))) (sSeq (sRet (mC (.bool false)))
  sNil) sNil)
  sNil))))))))))
noncomputable def b_law_2 : PM.Env → M Fl := (sSeq (sAsg (mCall f__law_plain_book (mCons (mVar 1) mNil)) (gN 3))
  (sSeq (sPar 4 5 (mCons (mCall dictF (mCons (mLc [11] (mAny (mOp getF (mVar 3) (mC (.int 1)))) (gN 11) mYes (mTup (mCons (mSl slF (mVar 11) (mPart none) (mPart (some (mC (.int 3))))) (mCons (mOp getF (mVar 11) (mC (.int 3))) mNil)))) mNil)) (mCons (mCall dictF (mCons (mLc [10] (mAny (mOp getF (mVar 3) (mC (.int 2)))) (gN 10) mYes (mTup (mCons (mSl slF (mVar 10) (mPart none) (mPart (some (mC (.int 3))))) (mCons (mOp getF (mVar 10) (mC (.int 3))) mNil)))) mNil)) mNil)))
  (sSeq (sIf (mNot (mTru (mCall f__law_tells (mCons (mVar 3) (mCons (mVar 4) (mCons (mVar 5) mNil)))))) (sSeq (sRet (mC (.bool false)))
  sNil) sNil)
  (sSeq (sFor (mRange (mCons (mC (.int 12)) mNil)) (gN 6) b_law_1)
  (sSeq (sAsg (mTup (mCons (mTup (mCons (mC (.str ("till" : Str))) (mCons (mC (.str ("gold" : Str))) (mCons (mC (.int 0)) (mCons (mC (.int 5)) mNil))))) (mCons (mTup (mCons (mC (.int 0)) (mCons (mC (.str ("pay" : Str))) (mCons (mC (.str ("k" : Str))) (mCons (mC (.int 5)) mNil))))) mNil))) (gT (gsCons (gN 11) (gsCons (gN 10) gsNil)) 2))
  (sSeq (sAsg (mLst (mCons (mC .none) (mCons (mTup mNil) (mCons (mLstD (mCons (mC (.str ("book" : Str))) (mCons (mTup mNil) (mCons (mTup mNil) mNil)))) (mCons (mTup (mCons (mC (.str ("book" : Str))) (mCons (mTup mNil) mNil))) (mCons (mTup (mCons (mC (.str ("book" : Str))) (mCons (mLstD mNil) (mCons (mTup mNil) mNil)))) (mCons (mTup (mCons (mC (.str ("book" : Str))) (mCons (mTup (mCons (mVar 11) (mCons (mVar 11) mNil))) (mCons (mTup mNil) mNil)))) (mCons (mTup (mCons (mC (.str ("book" : Str))) (mCons (mTup mNil) (mCons (mTup (mCons (mVar 10) (mCons (mVar 10) mNil))) mNil)))) (mCons (mTup (mCons (mC (.str ("book" : Str))) (mCons (mTup (mCons (mOp addF (mSl slF (mVar 11) (mPart none) (mPart (some (mC (.int 3))))) (mTup (mCons (mC (.int 0)) mNil))) mNil)) (mCons (mTup mNil) mNil)))) mNil))))))))) (gN 12))
  (sSeq (sAsg (mOp addF (mVar 12) (mLst (mCons (mTup (mCons (mC (.str ("book" : Str))) (mCons (mTup (mCons (mOp addF (mSl slF (mVar 11) (mPart none) (mPart (some (mC (.int 3))))) (mTup (mCons (mUn negF (mC (.int 1))) mNil))) mNil)) (mCons (mTup mNil) mNil)))) (mCons (mTup (mCons (mC (.str ("book" : Str))) (mCons (mTup (mCons (mOp addF (mTup (mCons (mC (.str ("Till" : Str))) mNil)) (mSl slF (mVar 11) (mPart (some (mC (.int 1)))) (mPart none))) mNil)) (mCons (mTup mNil) mNil)))) (mCons (mTup (mCons (mC (.str ("book" : Str))) (mCons (mTup (mCons (mOp addF (mSl slF (mVar 11) (mPart none) (mPart (some (mC (.int 2))))) (mTup (mCons (mC (.int 8)) (mCons (mC (.int 5)) mNil)))) mNil)) (mCons (mTup mNil) mNil)))) (mCons (mTup (mCons (mC (.str ("book" : Str))) (mCons (mTup (mCons (mOp addF (mSl slF (mVar 11) (mPart none) (mPart (some (mC (.int 3))))) (mTup (mCons (mC (.bool true)) mNil))) mNil)) (mCons (mTup mNil) mNil)))) mNil)))))) (gN 12))
  (sSeq (sAsg (mOp addF (mVar 12) (mLst (mCons (mTup (mCons (mC (.str ("book" : Str))) (mCons (mTup mNil) (mCons (mTup (mCons (mOp addF (mSl slF (mVar 10) (mPart none) (mPart (some (mC (.int 3))))) (mTup (mCons (mC (.int 0)) mNil))) mNil)) mNil)))) (mCons (mTup (mCons (mC (.str ("book" : Str))) (mCons (mTup mNil) (mCons (mTup (mCons (mOp addF (mSl slF (mVar 10) (mPart none) (mPart (some (mC (.int 2))))) (mTup (mCons (mC (.str ("k." : Str))) (mCons (mC (.int 5)) mNil)))) mNil)) mNil)))) (mCons (mTup (mCons (mC (.str ("book" : Str))) (mCons (mTup mNil) (mCons (mTup (mCons (mOp addF (mSl slF (mVar 10) (mPart none) (mPart (some (mC (.int 3))))) (mTup (mCons (mOp addF (mOp powF (mC (.int 10)) (mC (.int 12))) (mC (.int 1))) mNil))) mNil)) mNil)))) (mCons (mTup (mCons (mC (.str ("book" : Str))) (mCons (mTup mNil) (mCons (mTup (mCons (mOp addF (mTup (mCons (mC (.int 8)) mNil)) (mSl slF (mVar 10) (mPart (some (mC (.int 1)))) (mPart none))) mNil)) mNil)))) mNil)))))) (gN 12))
  (sSeq (sIf (mTest (mOp neF (mLc [13] (mAny (mOp addF (mVar 12) (mLst (mCons (mTup (mCons (mC (.str ("book" : Str))) (mCons (mTup (mCons (mVar 11) (mCons (mTup (mCons (mC (.str ("kate" : Str))) (mCons (mC (.str ("gold" : Str))) (mCons (mC (.int 0)) (mCons (mC (.int 5)) mNil))))) mNil))) (mCons (mTup mNil) mNil)))) mNil)))) (gN 13) (mTest (mOp (isF true) (mCall f_is_book (mCons (mVar 13) mNil)) (mC (.bool false)))) (mVar 13)) (mLst mNil))) (sSeq (sRet (mC (.bool false)))
  sNil) sNil)
  (sSeq (sIf (mTest (mOp neF (mLc [13] (mAny (mLst (mCons (mTup (mCons (mC (.str ("book" : Str))) (mCons (mTup (mCons (mVar 11) mNil)) (mCons (mTup (mCons (mVar 10) mNil)) mNil)))) (mCons (mTup (mCons (mC (.str ("book" : Str))) (mCons (mTup (mCons (mOp addF (mSl slF (mVar 11) (mPart none) (mPart (some (mC (.int 3))))) (mTup (mCons (mOp powF (mC (.int 10)) (mC (.int 20))) mNil))) mNil)) (mCons (mTup (mCons (mOp addF (mSl slF (mVar 10) (mPart none) (mPart (some (mC (.int 3))))) (mTup (mCons (mUn negF (mC (.int 1))) mNil))) mNil)) mNil)))) (mCons (mTup (mCons (mC (.str ("book" : Str))) (mCons (mTup mNil) (mCons (mTup mNil) mNil)))) mNil))))) (gN 13) (mTest (mOp (isF true) (mCall f_is_book (mCons (mVar 13) mNil)) (mC (.bool true)))) (mVar 13)) (mLst mNil))) (sSeq (sRet (mC (.bool false)))
  sNil) sNil)
  sNil))))))))))
noncomputable def s_law : PM.Env → M Fl := (sSeq (sAsg (mLst (mCons (mCall listAF (mCons (mVar 0) mNil)) (mCons (mC (.int 0)) (mCons (mC (.int 0)) (mCons (mC (.int 1)) mNil))))) (gN 1))
  (sSeq (sFor (mRange (mCons (mC (.int 3)) mNil)) (gN 2) b_law_2)
  (sSeq (sRet (mC (.bool true)))
  sNil)))
noncomputable def f_law : List PM.D → M PM.D := bodyM 1 14 s_law
section
variable {P : Program} {w : World} {K : PySem.W.Frag} {mg : Str → Option Value} {base : Heap}
theorem ok_is_whole {f : Addr} {fd : FuncData} (F : Fun K "is_whole" "is_whole" st_is_whole f fd) (B : Blt mg)  : FnOk P w K mg base CX0 1 f fd ["value"] (spM K f_is_whole) :=
  ok_of F sc_is_whole (by decide) fun cdv A outer s H E hr => (xss_cons (xs_ret (xe_and (xe_isi kit_int (by rfl) B.isinstance bb_isinstance (xv 0) (by rfl) B.int bb_int) (xe_one (xe_not (xe_isi kit_bool (by rfl) B.isinstance bb_isinstance (xv 0) (by rfl) B.bool bb_bool)))))
  xss_nil)
theorem fn_is_whole {f : Addr} {fd : FuncData} (F : Fun K "is_whole" "is_whole" st_is_whole f fd) (hm : mg "is_whole" = some (.ref f)) (B : Blt mg)  : Fn P w K mg base "is_whole" 1 f_is_whole := ⟨f, fd, ["value"], ok_is_whole F B , hm, F.kp, (F.binds (ps := ["value"]) fun _ _ _ _ _ _ us hl => match us, hl with | [_], _ => rfl)⟩
theorem ok_is_told {f : Addr} {fd : FuncData} (F : Fun K "is_told" "is_told" st_is_told f fd) (B : Blt mg)  : FnOk P w K mg base CX0 1 f fd ["value", "word", "count"] (spM K f_is_told) :=
  ok_of F sc_is_told (by decide) fun cdv A outer s H E hr => (xss_cons (xs_ret (xe_and (xe_isi kit_tuple (by rfl) B.isinstance bb_isinstance (xv 0) (by rfl) B.tuple bb_tuple) (xe_and (xe_cmp (os_eq (hu64 hr)) (xe_callB cs_len (by rfl) B.len bb_len (xa_cons (xv 0) xa_nil)) (xv 2) (by rfl)) (xe_and (xe_isi kit_str (by rfl) B.isinstance bb_isinstance (xe_sub (hu1 hr) (xv 0) xe_int (fun _ _ => rfl)) (by rfl) B.str bb_str) (xe_one (xe_cmp (os_eq (hu64 hr)) (xe_sub (hu1 hr) (xv 0) xe_int (fun _ _ => rfl)) (xv 1) (by rfl)))))))
  xss_nil)
theorem fn_is_told {f : Addr} {fd : FuncData} (F : Fun K "is_told" "is_told" st_is_told f fd) (hm : mg "is_told" = some (.ref f)) (B : Blt mg)  : Fn P w K mg base "is_told" 1 f_is_told := ⟨f, fd, ["value", "word", "count"], ok_is_told F B , hm, F.kp, (F.binds (ps := ["value", "word", "count"]) fun _ _ _ _ _ _ us hl => match us, hl with | [_, _, _], _ => rfl)⟩
theorem ok_is_name {f : Addr} {fd : FuncData} (F : Fun K "is_name" "is_name" st_is_name f fd) (B : Blt mg)  : FnOk P w K mg base CX0 1 f fd ["value"] (spM K f_is_name) :=
  ok_of F sc_is_name (by decide) fun cdv A outer s H E hr => (xss_cons (xs_if (xt_w (xw_or (xt_not (xt_tru (xe_isi kit_str (by rfl) B.isinstance bb_isinstance (xv 0) (by rfl) B.str bb_str))) (xw_or (xt_not (xt_tru (xv 0))) (xw_or1 (xt_notIn (hu65 hr) (xe_sub (hu1 hr) (xv 0) xe_int (fun _ _ => rfl)) (xe_globS (by rfl) B.c_FIRST_SIGNS.choose_spec)))))) (xss_cons (xs_ret xe_bl)
  xss_nil) xss_nil)
  (xss_cons (xs_ret (xe_notIn (hu65 hr) xe_bl (xe_lc [("sign", 1)] [1] rfl rfl sc_is_name.nd (xi_any (xv 0)) (blkOk_by (N := n_is_name) (sc := defScope st_is_name) (by decide +kernel)) (fun _ _ _ _ _ => (xg_name 1 (ww (is := [1])) (by decide) sc_is_name.nd rfl (by first | exact .inl rfl | exact .inr rfl))) (fun _ _ _ _ _ => xts_nil) (fun _ _ _ _ _ => (xe_notIn (hu65 hr) (xv 1) (xe_globS (by rfl) B.c_SIGNS.choose_spec))))))
  xss_nil))
theorem fn_is_name {f : Addr} {fd : FuncData} (F : Fun K "is_name" "is_name" st_is_name f fd) (hm : mg "is_name" = some (.ref f)) (B : Blt mg)  : Fn P w K mg base "is_name" 1 f_is_name := ⟨f, fd, ["value"], ok_is_name F B , hm, F.kp, (F.binds (ps := ["value"]) fun _ _ _ _ _ _ us hl => match us, hl with | [_], _ => rfl)⟩
theorem ok_is_key {f : Addr} {fd : FuncData} (F : Fun K "is_key" "is_key" st_is_key f fd) (B : Blt mg) (G_is_name : Fn P w K mg base "is_name" 1 f_is_name) : FnOk P w K mg base CX0 2 f fd ["value"] (spM K f_is_key) :=
  ok_of F sc_is_key (by decide) fun cdv A outer s H E hr => (xss_cons (xs_ret (xe_and (xe_isi kit_str (by rfl) B.isinstance bb_isinstance (xv 0) (by rfl) B.str bb_str) (xe_one (xe_notIn (hu65 hr) xe_bl (xe_lc [("part", 1)] [1] rfl rfl sc_is_key.nd (xi_any (xe_bm PySem.F.plainAttrs_str PySem.F.slot_str_split PySem.F.type_str_split ms_split (xv 0) (xa_cons xe_str xa_nil))) (blkOk_by (N := n_is_key) (sc := defScope st_is_key) (by decide +kernel)) (fun _ _ _ _ _ => (xg_name 1 (ww (is := [1])) (by decide) sc_is_key.nd rfl (by first | exact .inl rfl | exact .inr rfl))) (fun _ _ _ _ _ => xts_nil) (fun _ _ _ _ _ => (xe_call G_is_name (hr.mono (by decide)) (by rfl) (xa_cons (xv 1) xa_nil))))))))
  xss_nil)
theorem fn_is_key {f : Addr} {fd : FuncData} (F : Fun K "is_key" "is_key" st_is_key f fd) (hm : mg "is_key" = some (.ref f)) (B : Blt mg) (G_is_name : Fn P w K mg base "is_name" 1 f_is_name) : Fn P w K mg base "is_key" 2 f_is_key := ⟨f, fd, ["value"], ok_is_key F B G_is_name, hm, F.kp, (F.binds (ps := ["value"]) fun _ _ _ _ _ _ us hl => match us, hl with | [_], _ => rfl)⟩
theorem ok_is_house {f : Addr} {fd : FuncData} (F : Fun K "is_house" "is_house" st_is_house f fd) (B : Blt mg) (G_is_whole : Fn P w K mg base "is_whole" 1 f_is_whole) : FnOk P w K mg base CX0 2 f fd ["value"] (spM K f_is_house) :=
  ok_of F sc_is_house (by decide) fun cdv A outer s H E hr => (xss_cons (xs_ret (xe_and (xe_call G_is_whole (hr.mono (by decide)) (by rfl) (xa_cons (xv 0) xa_nil)) (xe_one (xe_chain os_le os_le xe_int (xv 0) (xe_globI (by rfl) B.c_MOST_HOUSE.choose_spec)))))
  xss_nil)
theorem fn_is_house {f : Addr} {fd : FuncData} (F : Fun K "is_house" "is_house" st_is_house f fd) (hm : mg "is_house" = some (.ref f)) (B : Blt mg) (G_is_whole : Fn P w K mg base "is_whole" 1 f_is_whole) : Fn P w K mg base "is_house" 2 f_is_house := ⟨f, fd, ["value"], ok_is_house F B G_is_whole, hm, F.kp, (F.binds (ps := ["value"]) fun _ _ _ _ _ _ us hl => match us, hl with | [_], _ => rfl)⟩
theorem ok_is_amount {f : Addr} {fd : FuncData} (F : Fun K "is_amount" "is_amount" st_is_amount f fd) (B : Blt mg) (G_is_whole : Fn P w K mg base "is_whole" 1 f_is_whole) : FnOk P w K mg base CX0 2 f fd ["value"] (spM K f_is_amount) :=
  ok_of F sc_is_amount (by decide) fun cdv A outer s H E hr => (xss_cons (xs_ret (xe_and (xe_call G_is_whole (hr.mono (by decide)) (by rfl) (xa_cons (xv 0) xa_nil)) (xe_one (xe_cmp (os_ge (hu64 hr)) (xv 0) xe_int (by rfl)))))
  xss_nil)
theorem fn_is_amount {f : Addr} {fd : FuncData} (F : Fun K "is_amount" "is_amount" st_is_amount f fd) (hm : mg "is_amount" = some (.ref f)) (B : Blt mg) (G_is_whole : Fn P w K mg base "is_whole" 1 f_is_whole) : Fn P w K mg base "is_amount" 2 f_is_amount := ⟨f, fd, ["value"], ok_is_amount F B G_is_whole, hm, F.kp, (F.binds (ps := ["value"]) fun _ _ _ _ _ _ us hl => match us, hl with | [_], _ => rfl)⟩
theorem ok_is_number {f : Addr} {fd : FuncData} (F : Fun K "is_number" "is_number" st_is_number f fd) (B : Blt mg) (G_is_whole : Fn P w K mg base "is_whole" 1 f_is_whole) : FnOk P w K mg base CX0 2 f fd ["value"] (spM K f_is_number) :=
  ok_of F sc_is_number (by decide) fun cdv A outer s H E hr => (xss_cons (xs_ret (xe_and (xe_call G_is_whole (hr.mono (by decide)) (by rfl) (xa_cons (xv 0) xa_nil)) (xe_one (xe_chain os_le os_le (xe_un us_neg (xe_globI (by rfl) B.c_MOST_NUMBER.choose_spec)) (xv 0) (xe_globI (by rfl) B.c_MOST_NUMBER.choose_spec)))))
  xss_nil)
theorem fn_is_number {f : Addr} {fd : FuncData} (F : Fun K "is_number" "is_number" st_is_number f fd) (hm : mg "is_number" = some (.ref f)) (B : Blt mg) (G_is_whole : Fn P w K mg base "is_whole" 1 f_is_whole) : Fn P w K mg base "is_number" 2 f_is_number := ⟨f, fd, ["value"], ok_is_number F B G_is_whole, hm, F.kp, (F.binds (ps := ["value"]) fun _ _ _ _ _ _ us hl => match us, hl with | [_], _ => rfl)⟩
theorem ok_is_part {f : Addr} {fd : FuncData} (F : Fun K "is_part" "is_part" st_is_part f fd) (B : Blt mg) (G_is_name : Fn P w K mg base "is_name" 1 f_is_name) (G_is_house : Fn P w K mg base "is_house" 2 f_is_house) (G_is_amount : Fn P w K mg base "is_amount" 2 f_is_amount) : FnOk P w K mg base CX0 3 f fd ["part"] (spM K f_is_part) :=
  ok_of F sc_is_part (by decide) fun cdv A outer s H E hr => (xss_cons (xs_if (xt_w (xw_or (xt_not (xt_tru (xe_isi kit_tuple (by rfl) B.isinstance bb_isinstance (xv 0) (by rfl) B.tuple bb_tuple))) (xw_or1 (xt_cmp (os_ne (hu64 hr)) (xe_callB cs_len (by rfl) B.len bb_len (xa_cons (xv 0) xa_nil)) xe_int (by rfl))))) (xss_cons (xs_ret xe_bl)
  xss_nil) xss_nil)
  (xss_cons (xs_ret (xe_and (xe_call G_is_name (hr.mono (by decide)) (by rfl) (xa_cons (xe_sub (hu1 hr) (xv 0) xe_int (fun _ _ => rfl)) xa_nil)) (xe_and (xe_call G_is_name (hr.mono (by decide)) (by rfl) (xa_cons (xe_sub (hu1 hr) (xv 0) xe_int (fun _ _ => rfl)) xa_nil)) (xe_and (xe_call G_is_house (hr.mono (by decide)) (by rfl) (xa_cons (xe_sub (hu1 hr) (xv 0) xe_int (fun _ _ => rfl)) xa_nil)) (xe_and (xe_call G_is_amount (hr.mono (by decide)) (by rfl) (xa_cons (xe_sub (hu1 hr) (xv 0) xe_int (fun _ _ => rfl)) xa_nil)) (xe_one (xe_cmp os_gt (xe_sub (hu1 hr) (xv 0) xe_int (fun _ _ => rfl)) xe_int (by rfl))))))))
  xss_nil))
theorem fn_is_part {f : Addr} {fd : FuncData} (F : Fun K "is_part" "is_part" st_is_part f fd) (hm : mg "is_part" = some (.ref f)) (B : Blt mg) (G_is_name : Fn P w K mg base "is_name" 1 f_is_name) (G_is_house : Fn P w K mg base "is_house" 2 f_is_house) (G_is_amount : Fn P w K mg base "is_amount" 2 f_is_amount) : Fn P w K mg base "is_part" 3 f_is_part := ⟨f, fd, ["part"], ok_is_part F B G_is_name G_is_house G_is_amount, hm, F.kp, (F.binds (ps := ["part"]) fun _ _ _ _ _ _ us hl => match us, hl with | [_], _ => rfl)⟩
theorem ok_is_cell {f : Addr} {fd : FuncData} (F : Fun K "is_cell" "is_cell" st_is_cell f fd) (B : Blt mg) (G_is_house : Fn P w K mg base "is_house" 2 f_is_house) (G_is_name : Fn P w K mg base "is_name" 1 f_is_name) (G_is_key : Fn P w K mg base "is_key" 2 f_is_key) (G_is_number : Fn P w K mg base "is_number" 2 f_is_number) : FnOk P w K mg base CX0 3 f fd ["cell"] (spM K f_is_cell) :=
  ok_of F sc_is_cell (by decide) fun cdv A outer s H E hr => (xss_cons (xs_if (xt_w (xw_or (xt_not (xt_tru (xe_isi kit_tuple (by rfl) B.isinstance bb_isinstance (xv 0) (by rfl) B.tuple bb_tuple))) (xw_or1 (xt_cmp (os_ne (hu64 hr)) (xe_callB cs_len (by rfl) B.len bb_len (xa_cons (xv 0) xa_nil)) xe_int (by rfl))))) (xss_cons (xs_ret xe_bl)
  xss_nil) xss_nil)
  (xss_cons (xs_ret (xe_and (xe_call G_is_house (hr.mono (by decide)) (by rfl) (xa_cons (xe_sub (hu1 hr) (xv 0) xe_int (fun _ _ => rfl)) xa_nil)) (xe_and (xe_call G_is_name (hr.mono (by decide)) (by rfl) (xa_cons (xe_sub (hu1 hr) (xv 0) xe_int (fun _ _ => rfl)) xa_nil)) (xe_and (xe_call G_is_key (hr.mono (by decide)) (by rfl) (xa_cons (xe_sub (hu1 hr) (xv 0) xe_int (fun _ _ => rfl)) xa_nil)) (xe_and (xe_call G_is_number (hr.mono (by decide)) (by rfl) (xa_cons (xe_sub (hu1 hr) (xv 0) xe_int (fun _ _ => rfl)) xa_nil)) (xe_one (xe_cmp (os_ne (hu64 hr)) (xe_sub (hu1 hr) (xv 0) xe_int (fun _ _ => rfl)) xe_int (by rfl))))))))
  xss_nil))
theorem fn_is_cell {f : Addr} {fd : FuncData} (F : Fun K "is_cell" "is_cell" st_is_cell f fd) (hm : mg "is_cell" = some (.ref f)) (B : Blt mg) (G_is_house : Fn P w K mg base "is_house" 2 f_is_house) (G_is_name : Fn P w K mg base "is_name" 1 f_is_name) (G_is_key : Fn P w K mg base "is_key" 2 f_is_key) (G_is_number : Fn P w K mg base "is_number" 2 f_is_number) : Fn P w K mg base "is_cell" 3 f_is_cell := ⟨f, fd, ["cell"], ok_is_cell F B G_is_house G_is_name G_is_key G_is_number, hm, F.kp, (F.binds (ps := ["cell"]) fun _ _ _ _ _ _ us hl => match us, hl with | [_], _ => rfl)⟩
theorem ok_rise {f : Addr} {fd : FuncData} (F : Fun K "rise" "rise" st_rise f fd) (B : Blt mg)  : FnOk P w K mg base CX0 1 f fd ["entries"] (spM K f_rise) :=
  ok_of F sc_rise (by decide) fun cdv A outer s H E hr => (xss_cons (xs_ret (xe_notIn (hu65 hr) xe_bl (xe_lc [("at", 1)] [1] rfl rfl sc_rise.nd (xi_range1 (by rfl) B.range (xa_cons (xe_op os_sub (xe_callB cs_len (by rfl) B.len bb_len (xa_cons (xv 0) xa_nil)) xe_int) xa_nil)) (blkOk_by (N := n_rise) (sc := defScope st_rise) (by decide +kernel)) (fun _ _ _ _ _ => (xg_name 1 (ww (is := [1])) (by decide) sc_rise.nd rfl (by first | exact .inl rfl | exact .inr rfl))) (fun _ _ _ _ _ => xts_nil) (fun _ _ _ _ _ => (xe_cmp (os_ge (hu64 hr)) (xe_slice ss_sl (xe_sub (hu1 hr) (xv 0) (xv 1) (fun _ _ => rfl)) xp_none (xp_some xe_int)) (xe_slice ss_sl (xe_sub (hu1 hr) (xv 0) (xe_op os_add (xv 1) xe_int) (fun _ _ => rfl)) xp_none (xp_some xe_int)) (by rfl))))))
  xss_nil)
theorem fn_rise {f : Addr} {fd : FuncData} (F : Fun K "rise" "rise" st_rise f fd) (hm : mg "rise" = some (.ref f)) (B : Blt mg)  : Fn P w K mg base "rise" 1 f_rise := ⟨f, fd, ["entries"], ok_rise F B , hm, F.kp, (F.binds (ps := ["entries"]) fun _ _ _ _ _ _ us hl => match us, hl with | [_], _ => rfl)⟩
theorem ok_is_book {f : Addr} {fd : FuncData} (F : Fun K "is_book" "is_book" st_is_book f fd) (B : Blt mg) (G_rise : Fn P w K mg base "rise" 1 f_rise) (G_is_told : Fn P w K mg base "is_told" 1 f_is_told) (G_is_part : Fn P w K mg base "is_part" 3 f_is_part) (G_is_cell : Fn P w K mg base "is_cell" 3 f_is_cell) : FnOk P w K mg base CX0 4 f fd ["value"] (spM K f_is_book) :=
  ok_of F sc_is_book (by decide) fun cdv A outer s H E hr => (xss_cons (xs_if (xt_w (xw_or (xt_not (xt_tru (xe_call G_is_told (hr.mono (by decide)) (by rfl) (xa_cons (xv 0) (xa_cons xe_str (xa_cons xe_int xa_nil)))))) (xw_or (xt_not (xt_tru (xe_isi kit_tuple (by rfl) B.isinstance bb_isinstance (xe_sub (hu1 hr) (xv 0) xe_int (fun _ _ => rfl)) (by rfl) B.tuple bb_tuple))) (xw_or1 (xt_not (xt_tru (xe_isi kit_tuple (by rfl) B.isinstance bb_isinstance (xe_sub (hu1 hr) (xv 0) xe_int (fun _ _ => rfl)) (by rfl) B.tuple bb_tuple))))))) (xss_cons (xs_ret xe_bl)
  xss_nil) xss_nil)
  (xss_cons (xs_if (xt_w (xw_or (xt_in (hu65 hr) xe_bl (xe_lc [("part", 1)] [1] rfl rfl sc_is_book.nd (xi_any (xe_sub (hu1 hr) (xv 0) xe_int (fun _ _ => rfl))) (blkOk_by (N := n_is_book) (sc := defScope st_is_book) (by decide +kernel)) (fun _ _ _ _ _ => (xg_name 1 (ww (is := [1])) (by decide) sc_is_book.nd rfl (by first | exact .inl rfl | exact .inr rfl))) (fun _ _ _ _ _ => xts_nil) (fun _ _ _ _ _ => (xe_call G_is_part (hr.mono (by decide)) (by rfl) (xa_cons (xv 1) xa_nil))))) (xw_or1 (xt_in (hu65 hr) xe_bl (xe_lc [("cell", 2)] [2] rfl rfl sc_is_book.nd (xi_any (xe_sub (hu1 hr) (xv 0) xe_int (fun _ _ => rfl))) (blkOk_by (N := n_is_book) (sc := defScope st_is_book) (by decide +kernel)) (fun _ _ _ _ _ => (xg_name 2 (ww (is := [2])) (by decide) sc_is_book.nd rfl (by first | exact .inl rfl | exact .inr rfl))) (fun _ _ _ _ _ => xts_nil) (fun _ _ _ _ _ => (xe_call G_is_cell (hr.mono (by decide)) (by rfl) (xa_cons (xv 2) xa_nil)))))))) (xss_cons (xs_ret xe_bl)
  xss_nil) xss_nil)
  (xss_cons (xs_ret (xe_and (xe_call G_rise (hr.mono (by decide)) (by rfl) (xa_cons (xe_sub (hu1 hr) (xv 0) xe_int (fun _ _ => rfl)) xa_nil)) (xe_one (xe_call G_rise (hr.mono (by decide)) (by rfl) (xa_cons (xe_sub (hu1 hr) (xv 0) xe_int (fun _ _ => rfl)) xa_nil)))))
  xss_nil)))
theorem fn_is_book {f : Addr} {fd : FuncData} (F : Fun K "is_book" "is_book" st_is_book f fd) (hm : mg "is_book" = some (.ref f)) (B : Blt mg) (G_rise : Fn P w K mg base "rise" 1 f_rise) (G_is_told : Fn P w K mg base "is_told" 1 f_is_told) (G_is_part : Fn P w K mg base "is_part" 3 f_is_part) (G_is_cell : Fn P w K mg base "is_cell" 3 f_is_cell) : Fn P w K mg base "is_book" 4 f_is_book := ⟨f, fd, ["value"], ok_is_book F B G_rise G_is_told G_is_part G_is_cell, hm, F.kp, (F.binds (ps := ["value"]) fun _ _ _ _ _ _ us hl => match us, hl with | [_], _ => rfl)⟩
theorem ok_told_of {f : Addr} {fd : FuncData} (F : Fun K "told_of" "told_of" st_told_of f fd) (B : Blt mg)  : FnOk P w K mg base CX0 1 f fd ["entries", "key"] (spM K f_told_of) :=
  ok_of F sc_told_of (by decide) fun cdv A outer s H E hr => (xss_cons (xs_for PassesOwn.never rfl (xi_any (xv 0)) (xg_name 2 (w0 (is := [2])) (by decide) sc_told_of.nd rfl (by first | exact .inl rfl | exact .inr rfl)) (xss_cons (xs_if (xt_cmp (os_eq (hu64 hr)) (xe_slice ss_sl (xv 2) xp_none (xp_some xe_int)) (xv 1) (by rfl)) (xss_cons (xs_ret (xe_sub (hu1 hr) (xv 2) xe_int (fun _ _ => rfl)))
  xss_nil) xss_nil)
  xss_nil))
  (xss_cons (xs_ret xe_int)
  xss_nil))
theorem fn_told_of {f : Addr} {fd : FuncData} (F : Fun K "told_of" "told_of" st_told_of f fd) (hm : mg "told_of" = some (.ref f)) (B : Blt mg)  : Fn P w K mg base "told_of" 1 f_told_of := ⟨f, fd, ["entries", "key"], ok_told_of F B , hm, F.kp, (F.binds (ps := ["entries", "key"]) fun _ _ _ _ _ _ us hl => match us, hl with | [_, _], _ => rfl)⟩
theorem ok_part_of {f : Addr} {fd : FuncData} (F : Fun K "part_of" "part_of" st_part_of f fd) (B : Blt mg) (G_told_of : Fn P w K mg base "told_of" 1 f_told_of) : FnOk P w K mg base CX0 2 f fd ["book", "account", "unit", "house"] (spM K f_part_of) :=
  ok_of F sc_part_of (by decide) fun cdv A outer s H E hr => (xss_cons (xs_ret (xe_call G_told_of (hr.mono (by decide)) (by rfl) (xa_cons (xe_sub (hu1 hr) (xv 0) xe_int (fun _ _ => rfl)) (xa_cons (xe_tup (xa_cons (xv 1) (xa_cons (xv 2) (xa_cons (xv 3) xa_nil)))) xa_nil))))
  xss_nil)
theorem fn_part_of {f : Addr} {fd : FuncData} (F : Fun K "part_of" "part_of" st_part_of f fd) (hm : mg "part_of" = some (.ref f)) (B : Blt mg) (G_told_of : Fn P w K mg base "told_of" 1 f_told_of) : Fn P w K mg base "part_of" 2 f_part_of := ⟨f, fd, ["book", "account", "unit", "house"], ok_part_of F B G_told_of, hm, F.kp, (F.binds (ps := ["book", "account", "unit", "house"]) fun _ _ _ _ _ _ us hl => match us, hl with | [_, _, _, _], _ => rfl)⟩
theorem ok_cell_of {f : Addr} {fd : FuncData} (F : Fun K "cell_of" "cell_of" st_cell_of f fd) (B : Blt mg) (G_told_of : Fn P w K mg base "told_of" 1 f_told_of) : FnOk P w K mg base CX0 2 f fd ["book", "house", "contract", "key"] (spM K f_cell_of) :=
  ok_of F sc_cell_of (by decide) fun cdv A outer s H E hr => (xss_cons (xs_ret (xe_call G_told_of (hr.mono (by decide)) (by rfl) (xa_cons (xe_sub (hu1 hr) (xv 0) xe_int (fun _ _ => rfl)) (xa_cons (xe_tup (xa_cons (xv 1) (xa_cons (xv 2) (xa_cons (xv 3) xa_nil)))) xa_nil))))
  xss_nil)
theorem fn_cell_of {f : Addr} {fd : FuncData} (F : Fun K "cell_of" "cell_of" st_cell_of f fd) (hm : mg "cell_of" = some (.ref f)) (B : Blt mg) (G_told_of : Fn P w K mg base "told_of" 1 f_told_of) : Fn P w K mg base "cell_of" 2 f_cell_of := ⟨f, fd, ["book", "house", "contract", "key"], ok_cell_of F B G_told_of, hm, F.kp, (F.binds (ps := ["book", "house", "contract", "key"]) fun _ _ _ _ _ _ us hl => match us, hl with | [_, _, _, _], _ => rfl)⟩
theorem ok_amount_of {f : Addr} {fd : FuncData} (F : Fun K "amount_of" "amount_of" st_amount_of f fd) (B : Blt mg)  : FnOk P w K mg base CX0 1 f fd ["book", "account", "unit"] (spM K f_amount_of) :=
  ok_of F sc_amount_of (by decide) fun cdv A outer s H E hr => (xss_cons (xs_ret (xe_callB (cs_sum rfl) (by rfl) B.sum bb_sum (xa_cons (xe_lc [("part", 3)] [3] rfl rfl sc_amount_of.nd (xi_any (xe_sub (hu1 hr) (xv 0) xe_int (fun _ _ => rfl))) (blkOk_by (N := n_amount_of) (sc := defScope st_amount_of) (by decide +kernel)) (fun _ _ _ _ _ => (xg_name 3 (ww (is := [3])) (by decide) sc_amount_of.nd rfl (by first | exact .inl rfl | exact .inr rfl))) (fun _ _ _ _ _ => (xts_one (xt_cmp (os_eq (hu64 hr)) (xe_slice ss_sl (xv 3) xp_none (xp_some xe_int)) (xe_tup (xa_cons (xv 1) (xa_cons (xv 2) xa_nil))) (by rfl)))) (fun _ _ _ _ _ => (xe_sub (hu1 hr) (xv 3) xe_int (fun _ _ => rfl)))) xa_nil)))
  xss_nil)
theorem fn_amount_of {f : Addr} {fd : FuncData} (F : Fun K "amount_of" "amount_of" st_amount_of f fd) (hm : mg "amount_of" = some (.ref f)) (B : Blt mg)  : Fn P w K mg base "amount_of" 1 f_amount_of := ⟨f, fd, ["book", "account", "unit"], ok_amount_of F B , hm, F.kp, (F.binds (ps := ["book", "account", "unit"]) fun _ _ _ _ _ _ us hl => match us, hl with | [_, _, _], _ => rfl)⟩
theorem ok_supply {f : Addr} {fd : FuncData} (F : Fun K "supply" "supply" st_supply f fd) (B : Blt mg)  : FnOk P w K mg base CX0 1 f fd ["book", "unit"] (spM K f_supply) :=
  ok_of F sc_supply (by decide) fun cdv A outer s H E hr => (xss_cons (xs_ret (xe_callB (cs_sum rfl) (by rfl) B.sum bb_sum (xa_cons (xe_lc [("part", 2)] [2] rfl rfl sc_supply.nd (xi_any (xe_sub (hu1 hr) (xv 0) xe_int (fun _ _ => rfl))) (blkOk_by (N := n_supply) (sc := defScope st_supply) (by decide +kernel)) (fun _ _ _ _ _ => (xg_name 2 (ww (is := [2])) (by decide) sc_supply.nd rfl (by first | exact .inl rfl | exact .inr rfl))) (fun _ _ _ _ _ => (xts_one (xt_cmp (os_eq (hu64 hr)) (xe_sub (hu1 hr) (xv 2) xe_int (fun _ _ => rfl)) (xv 1) (by rfl)))) (fun _ _ _ _ _ => (xe_sub (hu1 hr) (xv 2) xe_int (fun _ _ => rfl)))) xa_nil)))
  xss_nil)
theorem fn_supply {f : Addr} {fd : FuncData} (F : Fun K "supply" "supply" st_supply f fd) (hm : mg "supply" = some (.ref f)) (B : Blt mg)  : Fn P w K mg base "supply" 1 f_supply := ⟨f, fd, ["book", "unit"], ok_supply F B , hm, F.kp, (F.binds (ps := ["book", "unit"]) fun _ _ _ _ _ _ us hl => match us, hl with | [_, _], _ => rfl)⟩
theorem ok_accounts {f : Addr} {fd : FuncData} (F : Fun K "accounts" "accounts" st_accounts f fd) (B : Blt mg)  : FnOk P w K mg base CX0 1 f fd ["book"] (spM K f_accounts) :=
  ok_of F sc_accounts (by decide) fun cdv A outer s H E hr => (xss_cons (xs_ret (xe_callTy cs_tuple (by rfl) B.tuple bb_tuple (xa_cons (xe_sset rfl (hu8 hr) (by rfl) B.sorted (by rfl) B.set bb_sorted (xe_lc [("part", 1)] [1] rfl rfl sc_accounts.nd (xi_any (xe_sub (hu1 hr) (xv 0) xe_int (fun _ _ => rfl))) (blkOk_by (N := n_accounts) (sc := defScope st_accounts) (by decide +kernel)) (fun _ _ _ _ _ => (xg_name 1 (ww (is := [1])) (by decide) sc_accounts.nd rfl (by first | exact .inl rfl | exact .inr rfl))) (fun _ _ _ _ _ => xts_nil) (fun _ _ _ _ _ => (xe_sub (hu1 hr) (xv 1) xe_int (fun _ _ => rfl))))) xa_nil)))
  xss_nil)
theorem fn_accounts {f : Addr} {fd : FuncData} (F : Fun K "accounts" "accounts" st_accounts f fd) (hm : mg "accounts" = some (.ref f)) (B : Blt mg)  : Fn P w K mg base "accounts" 1 f_accounts := ⟨f, fd, ["book"], ok_accounts F B , hm, F.kp, (F.binds (ps := ["book"]) fun _ _ _ _ _ _ us hl => match us, hl with | [_], _ => rfl)⟩
theorem ok_units {f : Addr} {fd : FuncData} (F : Fun K "units" "units" st_units f fd) (B : Blt mg)  : FnOk P w K mg base CX0 1 f fd ["book"] (spM K f_units) :=
  ok_of F sc_units (by decide) fun cdv A outer s H E hr => (xss_cons (xs_ret (xe_callTy cs_tuple (by rfl) B.tuple bb_tuple (xa_cons (xe_sset rfl (hu8 hr) (by rfl) B.sorted (by rfl) B.set bb_sorted (xe_lc [("part", 1)] [1] rfl rfl sc_units.nd (xi_any (xe_sub (hu1 hr) (xv 0) xe_int (fun _ _ => rfl))) (blkOk_by (N := n_units) (sc := defScope st_units) (by decide +kernel)) (fun _ _ _ _ _ => (xg_name 1 (ww (is := [1])) (by decide) sc_units.nd rfl (by first | exact .inl rfl | exact .inr rfl))) (fun _ _ _ _ _ => xts_nil) (fun _ _ _ _ _ => (xe_sub (hu1 hr) (xv 1) xe_int (fun _ _ => rfl))))) xa_nil)))
  xss_nil)
theorem fn_units {f : Addr} {fd : FuncData} (F : Fun K "units" "units" st_units f fd) (hm : mg "units" = some (.ref f)) (B : Blt mg)  : Fn P w K mg base "units" 1 f_units := ⟨f, fd, ["book"], ok_units F B , hm, F.kp, (F.binds (ps := ["book"]) fun _ _ _ _ _ _ us hl => match us, hl with | [_], _ => rfl)⟩
theorem ok_supplies {f : Addr} {fd : FuncData} (F : Fun K "supplies" "supplies" st_supplies f fd) (B : Blt mg) (G_supply : Fn P w K mg base "supply" 1 f_supply) (G_units : Fn P w K mg base "units" 1 f_units) : FnOk P w K mg base CX0 2 f fd ["book"] (spM K f_supplies) :=
  ok_of F sc_supplies (by decide) fun cdv A outer s H E hr => (xss_cons (xs_ret (xe_callTy cs_tuple (by rfl) B.tuple bb_tuple (xa_cons (xe_lc [("unit", 1)] [1] rfl rfl sc_supplies.nd (xi_any (xe_call G_units (hr.mono (by decide)) (by rfl) (xa_cons (xv 0) xa_nil))) (blkOk_by (N := n_supplies) (sc := defScope st_supplies) (by decide +kernel)) (fun _ _ _ _ _ => (xg_name 1 (ww (is := [1])) (by decide) sc_supplies.nd rfl (by first | exact .inl rfl | exact .inr rfl))) (fun _ _ _ _ _ => xts_nil) (fun _ _ _ _ _ => (xe_tup (xa_cons (xv 1) (xa_cons (xe_call G_supply (hr.mono (by decide)) (by rfl) (xa_cons (xv 0) (xa_cons (xv 1) xa_nil))) xa_nil))))) xa_nil)))
  xss_nil)
theorem fn_supplies {f : Addr} {fd : FuncData} (F : Fun K "supplies" "supplies" st_supplies f fd) (hm : mg "supplies" = some (.ref f)) (B : Blt mg) (G_supply : Fn P w K mg base "supply" 1 f_supply) (G_units : Fn P w K mg base "units" 1 f_units) : Fn P w K mg base "supplies" 2 f_supplies := ⟨f, fd, ["book"], ok_supplies F B G_supply G_units, hm, F.kp, (F.binds (ps := ["book"]) fun _ _ _ _ _ _ us hl => match us, hl with | [_], _ => rfl)⟩
theorem ok_set_entry {f : Addr} {fd : FuncData} (F : Fun K "set_entry" "set_entry" st_set_entry f fd) (B : Blt mg)  : FnOk P w K mg base CX0 1 f fd ["entries", "key", "number"] (spM K f_set_entry) :=
  ok_of F sc_set_entry (by decide) fun cdv A outer s H E hr => (xss_cons (xs_setLc [("entry", 4)] [4] rfl 3 rfl sc_set_entry.nd rfl (by rfl) (sw_true rfl rfl rfl (by rfl)) (xi_any (xv 0)) (blkOk_by (N := n_set_entry) (sc := defScope st_set_entry) (by decide +kernel)) (fun _ _ _ _ _ => (xg_name 4 (ww (is := [4])) (by decide) sc_set_entry.nd rfl (by first | exact .inl rfl | exact .inr rfl))) (fun _ _ _ _ _ => (xts_one (xt_cmp (os_ne (hu64 hr)) (xe_slice ss_sl (xv 4) xp_none (xp_some xe_int)) (xv 1) (by rfl)))) (fun _ _ _ _ _ => (xv 4)))
  (xss_cons (xs_if (xt_cmp (os_ne (hu64 hr)) (xv 2) xe_int (by rfl)) (xss_cons (xs_expr (xe_bm PySem.F.plainAttrs_list PySem.F.slot_list_append PySem.F.type_list_append ms_append (xv 3) (xa_cons (xe_op os_add (xv 1) (xe_tup (xa_cons (xv 2) xa_nil))) xa_nil)))
  xss_nil) xss_nil)
  (xss_cons (xs_ret (xe_callTy cs_tuple (by rfl) B.tuple bb_tuple (xa_cons (xe_callB (cs_sorted (hu64 hr)) (by rfl) B.sorted bb_sorted (xa_cons (xv 3) xa_nil)) xa_nil)))
  xss_nil)))
theorem fn_set_entry {f : Addr} {fd : FuncData} (F : Fun K "set_entry" "set_entry" st_set_entry f fd) (hm : mg "set_entry" = some (.ref f)) (B : Blt mg)  : Fn P w K mg base "set_entry" 1 f_set_entry := ⟨f, fd, ["entries", "key", "number"], ok_set_entry F B , hm, F.kp, (F.binds (ps := ["entries", "key", "number"]) fun _ _ _ _ _ _ us hl => match us, hl with | [_, _, _], _ => rfl)⟩
theorem ok_moved {f : Addr} {fd : FuncData} (F : Fun K "moved" "moved" st_moved f fd) (B : Blt mg) (G_part_of : Fn P w K mg base "part_of" 2 f_part_of) (G_set_entry : Fn P w K mg base "set_entry" 1 f_set_entry) : FnOk P w K mg base CX0 3 f fd ["book", "account", "unit", "house", "number"] (spM K f_moved) :=
  ok_of F sc_moved (by decide) fun cdv A outer s H E hr => (xss_cons (xs_set 5 sc_moved.nd rfl (by first | exact .inl rfl | exact .inr rfl) (xe_op os_add (xe_call G_part_of (hr.mono (by decide)) (by rfl) (xa_cons (xv 0) (xa_cons (xv 1) (xa_cons (xv 2) (xa_cons (xv 3) xa_nil))))) (xv 4)))
  (xss_cons (xs_if (xt_cmp os_lt (xv 5) xe_int (by rfl)) (xss_cons (xs_ret xe_non)
  xss_nil) xss_nil)
  (xss_cons (xs_ret (xe_tup (xa_cons xe_str (xa_cons (xe_call G_set_entry (hr.mono (by decide)) (by rfl) (xa_cons (xe_sub (hu1 hr) (xv 0) xe_int (fun _ _ => rfl)) (xa_cons (xe_tup (xa_cons (xv 1) (xa_cons (xv 2) (xa_cons (xv 3) xa_nil)))) (xa_cons (xv 5) xa_nil)))) (xa_cons (xe_sub (hu1 hr) (xv 0) xe_int (fun _ _ => rfl)) xa_nil)))))
  xss_nil)))
theorem fn_moved {f : Addr} {fd : FuncData} (F : Fun K "moved" "moved" st_moved f fd) (hm : mg "moved" = some (.ref f)) (B : Blt mg) (G_part_of : Fn P w K mg base "part_of" 2 f_part_of) (G_set_entry : Fn P w K mg base "set_entry" 1 f_set_entry) : Fn P w K mg base "moved" 3 f_moved := ⟨f, fd, ["book", "account", "unit", "house", "number"], ok_moved F B G_part_of G_set_entry, hm, F.kp, (F.binds (ps := ["book", "account", "unit", "house", "number"]) fun _ _ _ _ _ _ us hl => match us, hl with | [_, _, _, _, _], _ => rfl)⟩
theorem ok_with_cell {f : Addr} {fd : FuncData} (F : Fun K "with_cell" "with_cell" st_with_cell f fd) (B : Blt mg) (G_set_entry : Fn P w K mg base "set_entry" 1 f_set_entry) : FnOk P w K mg base CX0 2 f fd ["book", "house", "contract", "key", "number"] (spM K f_with_cell) :=
  ok_of F sc_with_cell (by decide) fun cdv A outer s H E hr => (xss_cons (xs_ret (xe_tup (xa_cons xe_str (xa_cons (xe_sub (hu1 hr) (xv 0) xe_int (fun _ _ => rfl)) (xa_cons (xe_call G_set_entry (hr.mono (by decide)) (by rfl) (xa_cons (xe_sub (hu1 hr) (xv 0) xe_int (fun _ _ => rfl)) (xa_cons (xe_tup (xa_cons (xv 1) (xa_cons (xv 2) (xa_cons (xv 3) xa_nil)))) (xa_cons (xv 4) xa_nil)))) xa_nil)))))
  xss_nil)
theorem fn_with_cell {f : Addr} {fd : FuncData} (F : Fun K "with_cell" "with_cell" st_with_cell f fd) (hm : mg "with_cell" = some (.ref f)) (B : Blt mg) (G_set_entry : Fn P w K mg base "set_entry" 1 f_set_entry) : Fn P w K mg base "with_cell" 2 f_with_cell := ⟨f, fd, ["book", "house", "contract", "key", "number"], ok_with_cell F B G_set_entry, hm, F.kp, (F.binds (ps := ["book", "house", "contract", "key", "number"]) fun _ _ _ _ _ _ us hl => match us, hl with | [_, _, _, _, _], _ => rfl)⟩
theorem ok__law_next {f : Addr} {fd : FuncData} (F : Fun K "_law_next" "_law_next" st__law_next f fd) (B : Blt mg)  : FnOk P w K mg base CX0 1 f fd ["state", "limit"] (spM K f__law_next) :=
  ok_of F sc__law_next (by decide) fun cdv A outer s H E hr => (xss_cons (xs_if (xt_w (xw_and (xt_cmp (os_eq (hu64 hr)) (xe_sub (hu1 hr) (xv 0) xe_int (fun _ _ => rfl)) xe_int (by rfl)) (xw_and1 (xt_cmp os_lt (xe_sub (hu1 hr) (xv 0) xe_int (fun _ _ => rfl)) (xe_callB cs_len (by rfl) B.len bb_len (xa_cons (xe_sub (hu1 hr) (xv 0) xe_int (fun _ _ => rfl)) xa_nil)) (by rfl))))) (xss_cons (xs_set 2 sc__law_next.nd rfl (by first | exact .inl rfl | exact .inr rfl) (xe_sub (hu1 hr) (xe_sub (hu1 hr) (xv 0) xe_int (fun _ _ => rfl)) (xe_sub (hu1 hr) (xv 0) xe_int (fun _ _ => rfl)) (fun _ _ => rfl)))
  (xss_cons (xs_augIx (xv 0) xe_int pg_list xe_int os_iadd (ss_set (hu1 hr)))
  (xss_cons (xs_if (xt_cmp (os_ge (hu64 hr)) (xv 2) (xe_op os_pow xe_int xe_int) (by rfl)) (xss_cons (xs_asg (xv 2) (xg_sub (w0 (is := [])) (xv 0) xe_int (ss_set (hu1 hr))))
  xss_nil) (xss_cons (xs_asg (xe_op os_mod (xe_callTy cs_int (by rfl) B.int bb_int (xa_cons (xe_op os_add (xe_op os_add (xe_op os_mul (xe_sub (hu1 hr) (xv 0) xe_int (fun _ _ => rfl)) xe_int) (xe_op os_mod (xe_callTy cs_int (by rfl) B.int bb_int (xa_cons (xv 2) xa_nil)) xe_int)) xe_int) xa_nil)) xe_int) (xg_sub (w0 (is := [])) (xv 0) xe_int (ss_set (hu1 hr))))
  xss_nil))
  xss_nil))) xss_nil)
  (xss_cons (xs_if (xt_cmp os_gt (xe_sub (hu1 hr) (xv 0) xe_int (fun _ _ => rfl)) xe_int (by rfl)) (xss_cons (xs_set 3 sc__law_next.nd rfl (by first | exact .inl rfl | exact .inr rfl) (xe_op os_mod (xe_callTy cs_int (by rfl) B.int bb_int (xa_cons (xe_sub (hu1 hr) (xv 0) xe_int (fun _ _ => rfl)) xa_nil)) (xv 1)))
  (xss_cons (xs_asg (xe_op os_fdiv (xe_sub (hu1 hr) (xv 0) xe_int (fun _ _ => rfl)) (xv 1)) (xg_sub (w0 (is := [])) (xv 0) xe_int (ss_set (hu1 hr))))
  (xss_cons (xs_ret (xv 3))
  xss_nil))) xss_nil)
  (xss_cons (xs_asg (xe_op os_mod (xe_callTy cs_int (by rfl) B.int bb_int (xa_cons (xe_op os_add (xe_op os_mul (xe_sub (hu1 hr) (xv 0) xe_int (fun _ _ => rfl)) xe_int) xe_int) xa_nil)) xe_int) (xg_sub (w0 (is := [])) (xv 0) xe_int (ss_set (hu1 hr))))
  (xss_cons (xs_ret (xe_op os_mod (xe_callTy cs_int (by rfl) B.int bb_int (xa_cons (xe_op os_fdiv (xe_sub (hu1 hr) (xv 0) xe_int (fun _ _ => rfl)) xe_int) xa_nil)) (xv 1)))
  xss_nil))))
theorem fn__law_next {f : Addr} {fd : FuncData} (F : Fun K "_law_next" "_law_next" st__law_next f fd) (hm : mg "_law_next" = some (.ref f)) (B : Blt mg)  : Fn P w K mg base "_law_next" 1 f__law_next := ⟨f, fd, ["state", "limit"], ok__law_next F B , hm, F.kp, (F.binds (ps := ["state", "limit"]) fun _ _ _ _ _ _ us hl => match us, hl with | [_, _], _ => rfl)⟩
theorem fn__law_same {f : Addr} {fd : FuncData} (F : Fun K "_law_same" "_law_same" st__law_same f fd) (hm : mg "_law_same" = some (.ref f)) (B : Blt mg)  : ∀ d : Nat, Fn P w K mg base "_law_same" (d + 1) (f__law_same d)
  | 0 => ⟨f, fd, ["actual", "expected"], F.ok sc__law_same (fun vs H Q E h => by
      obtain ⟨ρ, st, xs, y, st', hv, hs, run, k⟩ := h
      cases run) (fun cdv A outer s H vs Q E hr h => by
      obtain ⟨ρ, st, xs, y, st', hv, hs, run, k⟩ := h
      cases run), hm, F.kp, (F.binds (ps := ["actual", "expected"]) fun _ _ _ _ _ _ us hl => match us, hl with | [_, _], _ => rfl)⟩
  | d + 1 => have G_rec := fn__law_same F hm B  d
    ⟨f, fd, ["actual", "expected"],
  ok_of (k := d + 1) F sc__law_same (by decide) fun cdv A outer s H E hr => (xss_cons (xs_if (xt_cmp os_is (xv 1) xe_non (by rfl)) (xss_cons (xs_ret (xe_cmp os_is (xv 0) xe_non (by rfl)))
  xss_nil) xss_nil)
  (xss_cons (xs_if (xt_tru (xe_isi kit_bool (by rfl) B.isinstance bb_isinstance (xv 1) (by rfl) B.bool bb_bool)) (xss_cons (xs_ret (xe_and (xe_isi kit_bool (by rfl) B.isinstance bb_isinstance (xv 0) (by rfl) B.bool bb_bool) (xe_one (xe_cmp (os_eq (hu64 hr)) (xv 0) (xv 1) (by rfl)))))
  xss_nil) xss_nil)
  (xss_cons (xs_if (xt_tru (xe_isi kit_int (by rfl) B.isinstance bb_isinstance (xv 1) (by rfl) B.int bb_int)) (xss_cons (xs_ret (xe_and (xe_isi kit_int (by rfl) B.isinstance bb_isinstance (xv 0) (by rfl) B.int bb_int) (xe_and (xe_not (xe_isi kit_bool (by rfl) B.isinstance bb_isinstance (xv 0) (by rfl) B.bool bb_bool)) (xe_one (xe_cmp (os_eq (hu64 hr)) (xv 0) (xv 1) (by rfl))))))
  xss_nil) xss_nil)
  (xss_cons (xs_if (xt_tru (xe_isi kit_str (by rfl) B.isinstance bb_isinstance (xv 1) (by rfl) B.str bb_str)) (xss_cons (xs_ret (xe_and (xe_isi kit_str (by rfl) B.isinstance bb_isinstance (xv 0) (by rfl) B.str bb_str) (xe_one (xe_cmp (os_eq (hu64 hr)) (xv 0) (xv 1) (by rfl)))))
  xss_nil) xss_nil)
  (xss_cons (xs_if (xt_w (xw_and (xt_tru (xe_isi kit_tuple (by rfl) B.isinstance bb_isinstance (xv 1) (by rfl) B.tuple bb_tuple)) (xw_and1 (xt_not (xt_tru (xe_isi kit_tuple (by rfl) B.isinstance bb_isinstance (xv 0) (by rfl) B.tuple bb_tuple)))))) (xss_cons (xs_ret xe_bl)
  xss_nil) xss_nil)
  (xss_cons (xs_if (xt_w (xw_and (xt_tru (xe_isi kit_list (by rfl) B.isinstance bb_isinstance (xv 1) (by rfl) B.list bb_list)) (xw_and1 (xt_not (xt_tru (xe_isi kit_list (by rfl) B.isinstance bb_isinstance (xv 0) (by rfl) B.list bb_list)))))) (xss_cons (xs_ret xe_bl)
  xss_nil) xss_nil)
  (xss_cons (xs_if (xt_cmp (os_ne (hu64 hr)) (xe_callB cs_len (by rfl) B.len bb_len (xa_cons (xv 0) xa_nil)) (xe_callB cs_len (by rfl) B.len bb_len (xa_cons (xv 1) xa_nil)) (by rfl)) (xss_cons (xs_ret xe_bl)
  xss_nil) xss_nil)
  (xss_cons (xs_for PassesOwn.never rfl (xi_range1 (by rfl) B.range (xa_cons (xe_callB cs_len (by rfl) B.len bb_len (xa_cons (xv 1) xa_nil)) xa_nil)) (xg_name 2 (w0 (is := [2])) (by decide) sc__law_same.nd rfl (by first | exact .inl rfl | exact .inr rfl)) (xss_cons (xs_if (xt_not (xt_tru (xe_call G_rec (hr.mono (by omega)) (by rfl) (xa_cons (xe_sub (hu1 hr) (xv 0) (xv 2) (fun _ _ => rfl)) (xa_cons (xe_sub (hu1 hr) (xv 1) (xv 2) (fun _ _ => rfl)) xa_nil))))) (xss_cons (xs_ret xe_bl)
  xss_nil) xss_nil)
  xss_nil))
  (xss_cons (xs_ret xe_bl)
  xss_nil))))))))),
  hm, F.kp, (F.binds (ps := ["actual", "expected"]) fun _ _ _ _ _ _ us hl => match us, hl with | [_, _], _ => rfl)⟩
theorem ok__law_book {f : Addr} {fd : FuncData} (F : Fun K "_law_book" "_law_book" st__law_book f fd) (B : Blt mg)  : FnOk P w K mg base CX0 1 f fd ["world"] (spM K f__law_book) :=
  ok_of F sc__law_book (by decide) fun cdv A outer s H E hr => (xss_cons (xs_set 1 sc__law_book.nd rfl (by first | exact .inl rfl | exact .inr rfl) (xe_callTy cs_tuple (by rfl) B.tuple bb_tuple (xa_cons (xe_callB (cs_sorted (hu64 hr)) (by rfl) B.sorted bb_sorted (xa_cons (xe_lock (sel := selM (mOp getF (mVar 0) (mC (.str ("parts" : Str))))) (xe_lc [("key", 2), ("number", 3)] [2, 3] rfl rfl sc__law_book.nd (xi_items (xe_sub (hu1 hr) (xv 0) xe_str (fun _ _ => rfl))) (blkOk_by (N := n__law_book) (sc := defScope st__law_book) (by decide +kernel)) (fun _ _ _ _ _ => (xg_tup rfl (xgs_cons (ww (is := [2, 3])) (xg_name 2 (ww (is := [2, 3])) (by decide) sc__law_book.nd rfl (by first | exact .inl rfl | exact .inr rfl)) (xgs_cons (ww (is := [2, 3])) (xg_name 3 (ww (is := [2, 3])) (by decide) sc__law_book.nd rfl (by first | exact .inl rfl | exact .inr rfl)) (xgs_nil (ww (is := [2, 3]))))))) (fun _ _ _ _ _ => (xts_one (xt_cmp (os_ne (hu64 hr)) (xv 3) xe_int (by rfl)))) (fun _ _ _ _ _ => (xe_op os_add (xv 2) (xe_tup (xa_cons (xv 3) xa_nil)))))) xa_nil)) xa_nil)))
  (xss_cons (xs_ret (xe_tup (xa_cons xe_str (xa_cons (xv 1) (xa_cons (xe_callTy cs_tuple (by rfl) B.tuple bb_tuple (xa_cons (xe_callB (cs_sorted (hu64 hr)) (by rfl) B.sorted bb_sorted (xa_cons (xe_lock (sel := selM (mOp getF (mVar 0) (mC (.str ("cells" : Str))))) (xe_lc [("key", 2), ("number", 3)] [2, 3] rfl rfl sc__law_book.nd (xi_items (xe_sub (hu1 hr) (xv 0) xe_str (fun _ _ => rfl))) (blkOk_by (N := n__law_book) (sc := defScope st__law_book) (by decide +kernel)) (fun _ _ _ _ _ => (xg_tup rfl (xgs_cons (ww (is := [2, 3])) (xg_name 2 (ww (is := [2, 3])) (by decide) sc__law_book.nd rfl (by first | exact .inl rfl | exact .inr rfl)) (xgs_cons (ww (is := [2, 3])) (xg_name 3 (ww (is := [2, 3])) (by decide) sc__law_book.nd rfl (by first | exact .inl rfl | exact .inr rfl)) (xgs_nil (ww (is := [2, 3]))))))) (fun _ _ _ _ _ => (xts_one (xt_cmp (os_ne (hu64 hr)) (xv 3) xe_int (by rfl)))) (fun _ _ _ _ _ => (xe_op os_add (xv 2) (xe_tup (xa_cons (xv 3) xa_nil)))))) xa_nil)) xa_nil)) xa_nil)))))
  xss_nil))
theorem fn__law_book {f : Addr} {fd : FuncData} (F : Fun K "_law_book" "_law_book" st__law_book f fd) (hm : mg "_law_book" = some (.ref f)) (B : Blt mg)  : Fn P w K mg base "_law_book" 1 f__law_book := ⟨f, fd, ["world"], ok__law_book F B , hm, F.kp, (F.binds (ps := ["world"]) fun _ _ _ _ _ _ us hl => match us, hl with | [_], _ => rfl)⟩
theorem ok__law_plain_book {f : Addr} {fd : FuncData} (F : Fun K "_law_plain_book" "_law_plain_book" st__law_plain_book f fd) (B : Blt mg) (G__law_book : Fn P w K mg base "_law_book" 1 f__law_book) (G__law_next : Fn P w K mg base "_law_next" 1 f__law_next) : FnOk P w K mg base CX0 2 f fd ["state"] (spM K f__law_plain_book) :=
  ok_of F sc__law_plain_book (by decide) fun cdv A outer s H E hr => (xss_cons (xs_par (i := 1) (j := 2) rfl sc__law_plain_book.nd rfl rfl (by decide) (by rfl) (by rfl) (xa_cons xe_newT (xa_cons xe_newT xa_nil)) (by rfl))
  (xss_cons (xs_for PassesOwn.never rfl (xi_any (xe_slice ss_sl (xe_lst (xa_cons xe_str (xa_cons xe_str (xa_cons xe_str (xa_cons xe_str xa_nil))))) xp_none (xp_some (xe_op os_add xe_int (xe_call G__law_next (hr.mono (by decide)) (by rfl) (xa_cons (xv 0) (xa_cons xe_int xa_nil))))))) (xg_name 3 (w0 (is := [3])) (by decide) sc__law_plain_book.nd rfl (by first | exact .inl rfl | exact .inr rfl)) (xss_cons (xs_for PassesOwn.never rfl (xi_any (xe_slice ss_sl (xe_lst (xa_cons xe_str (xa_cons xe_str (xa_cons xe_str xa_nil)))) xp_none (xp_some (xe_op os_add xe_int (xe_call G__law_next (hr.mono (by decide)) (by rfl) (xa_cons (xv 0) (xa_cons xe_int xa_nil))))))) (xg_name 4 (w0 (is := [4])) (by decide) sc__law_plain_book.nd rfl (by first | exact .inl rfl | exact .inr rfl)) (xss_cons (xs_for PassesOwn.never rfl (xi_range1 (by rfl) B.range (xa_cons xe_int xa_nil)) (xg_name 5 (w0 (is := [5])) (by decide) sc__law_plain_book.nd rfl (by first | exact .inl rfl | exact .inr rfl)) (xss_cons (xs_if (xt_cmp (os_eq (hu64 hr)) (xe_call G__law_next (hr.mono (by decide)) (by rfl) (xa_cons (xv 0) (xa_cons xe_int xa_nil))) xe_int (by rfl)) (xss_cons (xs_asg (xe_sub (hu1 hr) (xe_lst (xa_cons (xe_op os_add xe_int (xe_call G__law_next (hr.mono (by decide)) (by rfl) (xa_cons (xv 0) (xa_cons xe_int xa_nil)))) (xa_cons (xe_op os_add (xe_op os_pow xe_int xe_int) (xe_call G__law_next (hr.mono (by decide)) (by rfl) (xa_cons (xv 0) (xa_cons xe_int xa_nil)))) xa_nil))) (xe_callTy cs_int (by rfl) B.int bb_int (xa_cons (xe_cmp (os_eq (hu64 hr)) (xe_call G__law_next (hr.mono (by decide)) (by rfl) (xa_cons (xv 0) (xa_cons xe_int xa_nil))) xe_int (by rfl)) xa_nil)) (fun _ _ => rfl)) (xg_sub (w0 (is := [])) (xv 1) (xe_tup (xa_cons (xv 3) (xa_cons (xv 4) (xa_cons (xv 5) xa_nil)))) (ss_set (hu1 hr))))
  xss_nil) xss_nil)
  xss_nil))
  xss_nil))
  xss_nil))
  (xss_cons (xs_for PassesOwn.never rfl (xi_range1 (by rfl) B.range (xa_cons (xe_call G__law_next (hr.mono (by decide)) (by rfl) (xa_cons (xv 0) (xa_cons xe_int xa_nil))) xa_nil)) (xg_name 6 (w0 (is := [6])) (by decide) sc__law_plain_book.nd rfl (by first | exact .inl rfl | exact .inr rfl)) (xss_cons (xs_par3 (i := 5) (j := 7) (l := 8) rfl sc__law_plain_book.nd rfl rfl rfl (by decide) (by decide) (by decide) (by rfl) (by rfl) (by rfl) (xa_cons (xe_call G__law_next (hr.mono (by decide)) (by rfl) (xa_cons (xv 0) (xa_cons xe_int xa_nil))) (xa_cons (xe_sub (hu1 hr) (xe_lst (xa_cons xe_str (xa_cons xe_str (xa_cons xe_str xa_nil)))) (xe_call G__law_next (hr.mono (by decide)) (by rfl) (xa_cons (xv 0) (xa_cons xe_int xa_nil))) (fun _ _ => rfl)) (xa_cons (xe_sub (hu1 hr) (xe_lst (xa_cons xe_str (xa_cons xe_str (xa_cons xe_str xa_nil)))) (xe_call G__law_next (hr.mono (by decide)) (by rfl) (xa_cons (xv 0) (xa_cons xe_int xa_nil))) (fun _ _ => rfl)) xa_nil))) (by rfl))
  (xss_cons (xs_asg (xe_sub (hu1 hr) (xe_lst (xa_cons (xe_op os_add xe_int (xe_call G__law_next (hr.mono (by decide)) (by rfl) (xa_cons (xv 0) (xa_cons xe_int xa_nil)))) (xa_cons (xe_op os_sub (xe_op os_sub xe_int xe_int) (xe_call G__law_next (hr.mono (by decide)) (by rfl) (xa_cons (xv 0) (xa_cons xe_int xa_nil)))) xa_nil))) (xe_call G__law_next (hr.mono (by decide)) (by rfl) (xa_cons (xv 0) (xa_cons xe_int xa_nil))) (fun _ _ => rfl)) (xg_sub (w0 (is := [])) (xv 2) (xe_tup (xa_cons (xv 5) (xa_cons (xv 7) (xa_cons (xv 8) xa_nil)))) (ss_set (hu1 hr))))
  xss_nil)))
  (xss_cons (xs_for PassesOwn.never rfl (xi_any (xe_slice ss_sl (xe_callB (cs_sorted (hu64 hr)) (by rfl) B.sorted bb_sorted (xa_cons (xe_callTy (cs_listA rfl) (by rfl) B.list bb_list (xa_cons (xv 1) xa_nil)) xa_nil)) xp_none (xp_some xe_int))) (xg_tup rfl (xgs_cons (w0 (is := [])) (xg_name 3 (w0 (is := [3])) (by decide) sc__law_plain_book.nd rfl (by first | exact .inl rfl | exact .inr rfl)) (xgs_cons (w0 (is := [])) (xg_name 4 (w0 (is := [4])) (by decide) sc__law_plain_book.nd rfl (by first | exact .inl rfl | exact .inr rfl)) (xgs_cons (w0 (is := [])) (xg_name 5 (w0 (is := [5])) (by decide) sc__law_plain_book.nd rfl (by first | exact .inl rfl | exact .inr rfl)) (xgs_nil (w0 (is := []))))))) (xss_cons (xs_asg xe_int (xg_sub (w0 (is := [])) (xv 2) (xe_tup (xa_cons (xv 5) (xa_cons xe_str (xa_cons (xe_op os_add (xe_op os_add (xe_op os_add xe_str (xv 3)) xe_str) (xv 4)) xa_nil)))) (ss_set (hu1 hr))))
  xss_nil))
  (xss_cons (xs_ret (xe_call G__law_book (hr.mono (by decide)) (by rfl) (xa_cons (xe_disp (xps_cons (xv 1) (xps_cons (xv 2) xps_nil)) rfl rfl (by simp) (by decide)) xa_nil)))
  xss_nil)))))
theorem fn__law_plain_book {f : Addr} {fd : FuncData} (F : Fun K "_law_plain_book" "_law_plain_book" st__law_plain_book f fd) (hm : mg "_law_plain_book" = some (.ref f)) (B : Blt mg) (G__law_book : Fn P w K mg base "_law_book" 1 f__law_book) (G__law_next : Fn P w K mg base "_law_next" 1 f__law_next) : Fn P w K mg base "_law_plain_book" 2 f__law_plain_book := ⟨f, fd, ["state"], ok__law_plain_book F B G__law_book G__law_next, hm, F.kp, (F.binds (ps := ["state"]) fun _ _ _ _ _ _ us hl => match us, hl with | [_], _ => rfl)⟩
theorem ok__law_tells {f : Addr} {fd : FuncData} (F : Fun K "_law_tells" "_law_tells" st__law_tells f fd) (B : Blt mg) (G__law_same : Fn P w K mg base "_law_same" 7 (f__law_same 6)) (G_is_book : Fn P w K mg base "is_book" 4 f_is_book) (G_supplies : Fn P w K mg base "supplies" 2 f_supplies) (G_supply : Fn P w K mg base "supply" 1 f_supply) (G__law_book : Fn P w K mg base "_law_book" 1 f__law_book) (G_accounts : Fn P w K mg base "accounts" 1 f_accounts) (G_units : Fn P w K mg base "units" 1 f_units) (G_amount_of : Fn P w K mg base "amount_of" 1 f_amount_of) : FnOk P w K mg base CX0 8 f fd ["book", "parts", "cells"] (spM K f__law_tells) :=
  ok_of F sc__law_tells (by decide) fun cdv A outer s H E hr => (xss_cons (xs_lock (sel := selM (mVar 1)) (xs_setLc [("key", 7)] [7] rfl 3 rfl sc__law_tells.nd rfl (by rfl) (sw_true rfl rfl rfl (by rfl)) (xi_any (xv 1)) (blkOk_by (N := n__law_tells) (sc := defScope st__law_tells) (by decide +kernel)) (fun _ _ _ _ _ => (xg_name 7 (ww (is := [7])) (by decide) sc__law_tells.nd rfl (by first | exact .inl rfl | exact .inr rfl))) (fun _ _ _ _ _ => (xts_one (xt_cmp (os_ne (hu64 hr)) (xe_sub (hu1 hr) (xv 1) (xv 7) (fun _ _ => rfl)) xe_int (by rfl)))) (fun _ _ _ _ _ => (xv 7))))
  (xss_cons (xs_if (xt_w (xw_or (xt_not (xt_tru (xe_call G__law_same (hr.mono (by decide)) (by rfl) (xa_cons (xv 0) (xa_cons (xe_call G__law_book (hr.mono (by decide)) (by rfl) (xa_cons (xe_disp (xps_cons (xv 1) (xps_cons (xv 2) xps_nil)) rfl rfl (by simp) (by decide)) xa_nil)) xa_nil))))) (xw_or1 (xt_cmp os_isnot (xe_call G_is_book (hr.mono (by decide)) (by rfl) (xa_cons (xv 0) xa_nil)) xe_bl (by rfl))))) (xss_cons (xs_ret xe_bl)
  xss_nil) xss_nil)
  (xss_cons (xs_if (xt_w (xw_or (xt_not (xt_tru (xe_call G__law_same (hr.mono (by decide)) (by rfl) (xa_cons (xe_call G_accounts (hr.mono (by decide)) (by rfl) (xa_cons (xv 0) xa_nil)) (xa_cons (xe_callTy cs_tuple (by rfl) B.tuple bb_tuple (xa_cons (xe_sset rfl (hu8 hr) (by rfl) B.sorted (by rfl) B.set bb_sorted (xe_lc [("key", 7)] [7] rfl rfl sc__law_tells.nd (xi_any (xv 3)) (blkOk_by (N := n__law_tells) (sc := defScope st__law_tells) (by decide +kernel)) (fun _ _ _ _ _ => (xg_name 7 (ww (is := [7])) (by decide) sc__law_tells.nd rfl (by first | exact .inl rfl | exact .inr rfl))) (fun _ _ _ _ _ => xts_nil) (fun _ _ _ _ _ => (xe_sub (hu1 hr) (xv 7) xe_int (fun _ _ => rfl))))) xa_nil)) xa_nil))))) (xw_or1 (xt_not (xt_tru (xe_call G__law_same (hr.mono (by decide)) (by rfl) (xa_cons (xe_call G_units (hr.mono (by decide)) (by rfl) (xa_cons (xv 0) xa_nil)) (xa_cons (xe_callTy cs_tuple (by rfl) B.tuple bb_tuple (xa_cons (xe_sset rfl (hu8 hr) (by rfl) B.sorted (by rfl) B.set bb_sorted (xe_lc [("key", 7)] [7] rfl rfl sc__law_tells.nd (xi_any (xv 3)) (blkOk_by (N := n__law_tells) (sc := defScope st__law_tells) (by decide +kernel)) (fun _ _ _ _ _ => (xg_name 7 (ww (is := [7])) (by decide) sc__law_tells.nd rfl (by first | exact .inl rfl | exact .inr rfl))) (fun _ _ _ _ _ => xts_nil) (fun _ _ _ _ _ => (xe_sub (hu1 hr) (xv 7) xe_int (fun _ _ => rfl))))) xa_nil)) xa_nil)))))))) (xss_cons (xs_ret xe_bl)
  xss_nil) xss_nil)
  (xss_cons (xs_set 4 sc__law_tells.nd rfl (by first | exact .inl rfl | exact .inr rfl) (xe_lst xa_nil))
  (xss_cons (xs_for PassesOwn.never rfl (xi_any (xe_sset rfl (hu8 hr) (by rfl) B.sorted (by rfl) B.set bb_sorted (xe_lc [("key", 7)] [7] rfl rfl sc__law_tells.nd (xi_any (xv 3)) (blkOk_by (N := n__law_tells) (sc := defScope st__law_tells) (by decide +kernel)) (fun _ _ _ _ _ => (xg_name 7 (ww (is := [7])) (by decide) sc__law_tells.nd rfl (by first | exact .inl rfl | exact .inr rfl))) (fun _ _ _ _ _ => xts_nil) (fun _ _ _ _ _ => (xe_sub (hu1 hr) (xv 7) xe_int (fun _ _ => rfl)))))) (xg_name 5 (w0 (is := [5])) (by decide) sc__law_tells.nd rfl (by first | exact .inl rfl | exact .inr rfl)) (xss_cons (xs_expr (xe_bm PySem.F.plainAttrs_list PySem.F.slot_list_append PySem.F.type_list_append ms_append (xv 4) (xa_cons (xe_tup (xa_cons (xv 5) (xa_cons (xe_callB (cs_sum rfl) (by rfl) B.sum bb_sum (xa_cons (xe_lc [("key", 7)] [7] rfl rfl sc__law_tells.nd (xi_any (xv 3)) (blkOk_by (N := n__law_tells) (sc := defScope st__law_tells) (by decide +kernel)) (fun _ _ _ _ _ => (xg_name 7 (ww (is := [7])) (by decide) sc__law_tells.nd rfl (by first | exact .inl rfl | exact .inr rfl))) (fun _ _ _ _ _ => (xts_one (xt_cmp (os_eq (hu64 hr)) (xe_sub (hu1 hr) (xv 7) xe_int (fun _ _ => rfl)) (xv 5) (by rfl)))) (fun _ _ _ _ _ => (xe_sub (hu1 hr) (xv 1) (xv 7) (fun _ _ => rfl)))) xa_nil)) xa_nil))) xa_nil)))
  (xss_cons (xs_if (xt_not (xt_tru (xe_call G__law_same (hr.mono (by decide)) (by rfl) (xa_cons (xe_call G_supply (hr.mono (by decide)) (by rfl) (xa_cons (xv 0) (xa_cons (xv 5) xa_nil))) (xa_cons (xe_sub (hu1 hr) (xe_sub (hu1 hr) (xv 4) (xe_un us_neg xe_int) (fun _ _ => rfl)) xe_int (fun _ _ => rfl)) xa_nil))))) (xss_cons (xs_ret xe_bl)
  xss_nil) xss_nil)
  xss_nil)))
  (xss_cons (xs_for PassesOwn.never rfl (xi_any (xe_lst (xa_cons xe_str (xa_cons xe_str (xa_cons xe_str xa_nil))))) (xg_name 6 (w0 (is := [6])) (by decide) sc__law_tells.nd rfl (by first | exact .inl rfl | exact .inr rfl)) (xss_cons (xs_if (xt_not (xt_tru (xe_call G__law_same (hr.mono (by decide)) (by rfl) (xa_cons (xe_call G_amount_of (hr.mono (by decide)) (by rfl) (xa_cons (xv 0) (xa_cons (xv 6) (xa_cons xe_str xa_nil)))) (xa_cons (xe_callB (cs_sum rfl) (by rfl) B.sum bb_sum (xa_cons (xe_lc [("key", 7)] [7] rfl rfl sc__law_tells.nd (xi_any (xv 3)) (blkOk_by (N := n__law_tells) (sc := defScope st__law_tells) (by decide +kernel)) (fun _ _ _ _ _ => (xg_name 7 (ww (is := [7])) (by decide) sc__law_tells.nd rfl (by first | exact .inl rfl | exact .inr rfl))) (fun _ _ _ _ _ => (xts_one (xt_cmp (os_eq (hu64 hr)) (xe_slice ss_sl (xv 7) xp_none (xp_some xe_int)) (xe_tup (xa_cons (xv 6) (xa_cons xe_str xa_nil))) (by rfl)))) (fun _ _ _ _ _ => (xe_sub (hu1 hr) (xv 1) (xv 7) (fun _ _ => rfl)))) xa_nil)) xa_nil))))) (xss_cons (xs_ret xe_bl)
  xss_nil) xss_nil)
  xss_nil))
  (xss_cons (xs_ret (xe_and (xe_call G__law_same (hr.mono (by decide)) (by rfl) (xa_cons (xe_call G_supplies (hr.mono (by decide)) (by rfl) (xa_cons (xv 0) xa_nil)) (xa_cons (xe_callTy cs_tuple (by rfl) B.tuple bb_tuple (xa_cons (xv 4) xa_nil)) xa_nil))) (xe_one (xe_call G__law_same (hr.mono (by decide)) (by rfl) (xa_cons (xe_call G_supply (hr.mono (by decide)) (by rfl) (xa_cons (xv 0) (xa_cons xe_str xa_nil))) (xa_cons xe_int xa_nil))))))
  xss_nil)))))))
theorem fn__law_tells {f : Addr} {fd : FuncData} (F : Fun K "_law_tells" "_law_tells" st__law_tells f fd) (hm : mg "_law_tells" = some (.ref f)) (B : Blt mg) (G__law_same : Fn P w K mg base "_law_same" 7 (f__law_same 6)) (G_is_book : Fn P w K mg base "is_book" 4 f_is_book) (G_supplies : Fn P w K mg base "supplies" 2 f_supplies) (G_supply : Fn P w K mg base "supply" 1 f_supply) (G__law_book : Fn P w K mg base "_law_book" 1 f__law_book) (G_accounts : Fn P w K mg base "accounts" 1 f_accounts) (G_units : Fn P w K mg base "units" 1 f_units) (G_amount_of : Fn P w K mg base "amount_of" 1 f_amount_of) : Fn P w K mg base "_law_tells" 8 f__law_tells := ⟨f, fd, ["book", "parts", "cells"], ok__law_tells F B G__law_same G_is_book G_supplies G_supply G__law_book G_accounts G_units G_amount_of, hm, F.kp, (F.binds (ps := ["book", "parts", "cells"]) fun _ _ _ _ _ _ us hl => match us, hl with | [_, _, _], _ => rfl)⟩
theorem ok_law {f : Addr} {fd : FuncData} (F : Fun K "law" "law" st_law f fd) (B : Blt mg) (G__law_plain_book : Fn P w K mg base "_law_plain_book" 2 f__law_plain_book) (G__law_tells : Fn P w K mg base "_law_tells" 8 f__law_tells) (G_moved : Fn P w K mg base "moved" 3 f_moved) (G__law_next : Fn P w K mg base "_law_next" 1 f__law_next) (G__law_same : Fn P w K mg base "_law_same" 7 (f__law_same 6)) (G_with_cell : Fn P w K mg base "with_cell" 2 f_with_cell) (G_cell_of : Fn P w K mg base "cell_of" 2 f_cell_of) (G_part_of : Fn P w K mg base "part_of" 2 f_part_of) (G_is_book : Fn P w K mg base "is_book" 4 f_is_book) : FnOk P w K mg base CX0 9 f fd ["script"] (spM K f_law) :=
  ok_of F sc_law (by decide) fun cdv A outer s H E hr => (xss_cons (xs_set 1 sc_law.nd rfl (by first | exact .inl rfl | exact .inr rfl) (xe_lst (xa_cons (xe_callTy (cs_listA rfl) (by rfl) B.list bb_list (xa_cons (xv 0) xa_nil)) (xa_cons xe_int (xa_cons xe_int (xa_cons xe_int xa_nil))))))
  (xss_cons (xs_for PassesOwn.never rfl (xi_range1 (by rfl) B.range (xa_cons xe_int xa_nil)) (xg_name 2 (w0 (is := [2])) (by decide) sc_law.nd rfl (by first | exact .inl rfl | exact .inr rfl)) (xss_cons (xs_set 3 sc_law.nd rfl (by first | exact .inl rfl | exact .inr rfl) (xe_call G__law_plain_book (hr.mono (by decide)) (by rfl) (xa_cons (xv 1) xa_nil)))
  (xss_cons (xs_par (i := 4) (j := 5) rfl sc_law.nd rfl rfl (by decide) (by rfl) (by rfl) (xa_cons (xe_callTy (cs_dict rfl (hu2 hr)) (by rfl) B.dict bb_dict (xa_cons (xe_lc [("part", 11)] [11] rfl rfl sc_law.nd (xi_any (xe_sub (hu1 hr) (xv 3) xe_int (fun _ _ => rfl))) (blkOk_by (N := n_law) (sc := defScope st_law) (by decide +kernel)) (fun _ _ _ _ _ => (xg_name 11 (ww (is := [11])) (by decide) sc_law.nd rfl (by first | exact .inl rfl | exact .inr rfl))) (fun _ _ _ _ _ => xts_nil) (fun _ _ _ _ _ => (xe_tup (xa_cons (xe_slice ss_sl (xv 11) xp_none (xp_some xe_int)) (xa_cons (xe_sub (hu1 hr) (xv 11) xe_int (fun _ _ => rfl)) xa_nil))))) xa_nil)) (xa_cons (xe_callTy (cs_dict rfl (hu2 hr)) (by rfl) B.dict bb_dict (xa_cons (xe_lc [("cell", 10)] [10] rfl rfl sc_law.nd (xi_any (xe_sub (hu1 hr) (xv 3) xe_int (fun _ _ => rfl))) (blkOk_by (N := n_law) (sc := defScope st_law) (by decide +kernel)) (fun _ _ _ _ _ => (xg_name 10 (ww (is := [10])) (by decide) sc_law.nd rfl (by first | exact .inl rfl | exact .inr rfl))) (fun _ _ _ _ _ => xts_nil) (fun _ _ _ _ _ => (xe_tup (xa_cons (xe_slice ss_sl (xv 10) xp_none (xp_some xe_int)) (xa_cons (xe_sub (hu1 hr) (xv 10) xe_int (fun _ _ => rfl)) xa_nil))))) xa_nil)) xa_nil)) (by rfl))
  (xss_cons (xs_if (xt_not (xt_tru (xe_call G__law_tells (hr.mono (by decide)) (by rfl) (xa_cons (xv 3) (xa_cons (xv 4) (xa_cons (xv 5) xa_nil)))))) (xss_cons (xs_ret xe_bl)
  xss_nil) xss_nil)
  (xss_cons (xs_for PassesOwn.never rfl (xi_range1 (by rfl) B.range (xa_cons xe_int xa_nil)) (xg_name 6 (w0 (is := [6])) (by decide) sc_law.nd rfl (by first | exact .inl rfl | exact .inr rfl)) (xss_cons (xs_set 7 sc_law.nd rfl (by first | exact .inl rfl | exact .inr rfl) (xe_tup (xa_cons (xe_sub (hu1 hr) (xe_lst (xa_cons xe_str (xa_cons xe_str (xa_cons xe_str xa_nil)))) (xe_call G__law_next (hr.mono (by decide)) (by rfl) (xa_cons (xv 1) (xa_cons xe_int xa_nil))) (fun _ _ => rfl)) (xa_cons (xe_sub (hu1 hr) (xe_lst (xa_cons xe_str (xa_cons xe_str xa_nil))) (xe_call G__law_next (hr.mono (by decide)) (by rfl) (xa_cons (xv 1) (xa_cons xe_int xa_nil))) (fun _ _ => rfl)) (xa_cons (xe_call G__law_next (hr.mono (by decide)) (by rfl) (xa_cons (xv 1) (xa_cons xe_int xa_nil))) xa_nil)))))
  (xss_cons (xs_set 8 sc_law.nd rfl (by first | exact .inl rfl | exact .inr rfl) (xe_op os_sub (xe_call G__law_next (hr.mono (by decide)) (by rfl) (xa_cons (xv 1) (xa_cons xe_int xa_nil))) xe_int))
  (xss_cons (xs_set 9 sc_law.nd rfl (by first | exact .inl rfl | exact .inr rfl) (xe_call G_moved (hr.mono (by decide)) (by rfl) (xa_cons (xv 3) (xa_cons (xe_sub (hu1 hr) (xv 7) xe_int (fun _ _ => rfl)) (xa_cons (xe_sub (hu1 hr) (xv 7) xe_int (fun _ _ => rfl)) (xa_cons (xe_sub (hu1 hr) (xv 7) xe_int (fun _ _ => rfl)) (xa_cons (xv 8) xa_nil)))))))
  (xss_cons (xs_if (xt_w (xw_or (xt_cmp (os_ne (hu64 hr)) (xe_cmp os_is (xv 9) xe_non (by rfl)) (xe_cmp os_lt (xe_op os_add (xe_get2 (hu1 hr) (xv 4) (xv 7) xe_int ⟨by rfl, by rfl, by rfl, by rfl⟩) (xv 8)) xe_int (by rfl)) (by rfl)) (xw_or1 (xt_not (xt_tru (xe_call G__law_same (hr.mono (by decide)) (by rfl) (xa_cons (xe_call G_part_of (hr.mono (by decide)) (by rfl) (xa_cons (xv 3) (xa_cons (xe_sub (hu1 hr) (xv 7) xe_int (fun _ _ => rfl)) (xa_cons (xe_sub (hu1 hr) (xv 7) xe_int (fun _ _ => rfl)) (xa_cons (xe_sub (hu1 hr) (xv 7) xe_int (fun _ _ => rfl)) xa_nil))))) (xa_cons (xe_get2 (hu1 hr) (xv 4) (xv 7) xe_int ⟨by rfl, by rfl, by rfl, by rfl⟩) xa_nil)))))))) (xss_cons (xs_ret xe_bl)
  xss_nil) xss_nil)
  (xss_cons (xs_if (xt_cmp os_isnot (xv 9) xe_non (by rfl)) (xss_cons (xs_asg (xe_tup (xa_cons (xv 9) (xa_cons (xe_op os_add (xe_get2 (hu1 hr) (xv 4) (xv 7) xe_int ⟨by rfl, by rfl, by rfl, by rfl⟩) (xv 8)) xa_nil))) (xg_tup rfl (xgs_cons (w0 (is := [])) (xg_name 3 (w0 (is := [3])) (by decide) sc_law.nd rfl (by first | exact .inl rfl | exact .inr rfl)) (xgs_cons (w0 (is := [])) (xg_sub (w0 (is := [])) (xv 4) (xv 7) (ss_set (hu1 hr))) (xgs_nil (w0 (is := [])))))))
  xss_nil) xss_nil)
  (xss_cons (xs_set 10 sc_law.nd rfl (by first | exact .inl rfl | exact .inr rfl) (xe_tup (xa_cons (xe_call G__law_next (hr.mono (by decide)) (by rfl) (xa_cons (xv 1) (xa_cons xe_int xa_nil))) (xa_cons (xe_sub (hu1 hr) (xe_lst (xa_cons xe_str (xa_cons xe_str xa_nil))) (xe_call G__law_next (hr.mono (by decide)) (by rfl) (xa_cons (xv 1) (xa_cons xe_int xa_nil))) (fun _ _ => rfl)) (xa_cons (xe_sub (hu1 hr) (xe_lst (xa_cons xe_str (xa_cons xe_str xa_nil))) (xe_call G__law_next (hr.mono (by decide)) (by rfl) (xa_cons (xv 1) (xa_cons xe_int xa_nil))) (fun _ _ => rfl)) xa_nil)))))
  (xss_cons (xs_set 8 sc_law.nd rfl (by first | exact .inl rfl | exact .inr rfl) (xe_op os_sub (xe_call G__law_next (hr.mono (by decide)) (by rfl) (xa_cons (xv 1) (xa_cons xe_int xa_nil))) xe_int))
  (xss_cons (xs_if (xt_not (xt_tru (xe_call G__law_same (hr.mono (by decide)) (by rfl) (xa_cons (xe_call G_cell_of (hr.mono (by decide)) (by rfl) (xa_cons (xv 3) (xa_cons (xe_sub (hu1 hr) (xv 10) xe_int (fun _ _ => rfl)) (xa_cons (xe_sub (hu1 hr) (xv 10) xe_int (fun _ _ => rfl)) (xa_cons (xe_sub (hu1 hr) (xv 10) xe_int (fun _ _ => rfl)) xa_nil))))) (xa_cons (xe_get2 (hu1 hr) (xv 5) (xv 10) xe_int ⟨by rfl, by rfl, by rfl, by rfl⟩) xa_nil))))) (xss_cons (xs_ret xe_bl)
  xss_nil) xss_nil)
  (xss_cons (xs_asg (xe_tup (xa_cons (xe_call G_with_cell (hr.mono (by decide)) (by rfl) (xa_cons (xv 3) (xa_cons (xe_sub (hu1 hr) (xv 10) xe_int (fun _ _ => rfl)) (xa_cons (xe_sub (hu1 hr) (xv 10) xe_int (fun _ _ => rfl)) (xa_cons (xe_sub (hu1 hr) (xv 10) xe_int (fun _ _ => rfl)) (xa_cons (xv 8) xa_nil)))))) (xa_cons (xv 8) xa_nil))) (xg_tup rfl (xgs_cons (w0 (is := [])) (xg_name 3 (w0 (is := [3])) (by decide) sc_law.nd rfl (by first | exact .inl rfl | exact .inr rfl)) (xgs_cons (w0 (is := [])) (xg_sub (w0 (is := [])) (xv 5) (xv 10) (ss_set (hu1 hr))) (xgs_nil (w0 (is := [])))))))
  (xss_cons (xs_if (xt_not (xt_tru (xe_call G__law_tells (hr.mono (by decide)) (by rfl) (xa_cons (xv 3) (xa_cons (xv 4) (xa_cons (xv 5) xa_nil)))))) (xss_cons (xs_ret xe_bl)
  xss_nil) xss_nil)
  xss_nil)))))))))))
  (xss_cons (xs_asg (xe_tup (xa_cons (xe_tup (xa_cons xe_str (xa_cons xe_str (xa_cons xe_int (xa_cons xe_int xa_nil))))) (xa_cons (xe_tup (xa_cons xe_int (xa_cons xe_str (xa_cons xe_str (xa_cons xe_int xa_nil))))) xa_nil))) (xg_tup rfl (xgs_cons (w0 (is := [])) (xg_name 11 (w0 (is := [11])) (by decide) sc_law.nd rfl (by first | exact .inl rfl | exact .inr rfl)) (xgs_cons (w0 (is := [])) (xg_name 10 (w0 (is := [10])) (by decide) sc_law.nd rfl (by first | exact .inl rfl | exact .inr rfl)) (xgs_nil (w0 (is := [])))))))
  (xss_cons (xs_set 12 sc_law.nd rfl (by first | exact .inl rfl | exact .inr rfl) (xe_lst (xa_cons xe_non (xa_cons (xe_tup xa_nil) (xa_cons (xe_lstD (xa_cons xe_str (xa_cons (xe_tup xa_nil) (xa_cons (xe_tup xa_nil) xa_nil)))) (xa_cons (xe_tup (xa_cons xe_str (xa_cons (xe_tup xa_nil) xa_nil))) (xa_cons (xe_tup (xa_cons xe_str (xa_cons (xe_lstD xa_nil) (xa_cons (xe_tup xa_nil) xa_nil)))) (xa_cons (xe_tup (xa_cons xe_str (xa_cons (xe_tup (xa_cons (xv 11) (xa_cons (xv 11) xa_nil))) (xa_cons (xe_tup xa_nil) xa_nil)))) (xa_cons (xe_tup (xa_cons xe_str (xa_cons (xe_tup xa_nil) (xa_cons (xe_tup (xa_cons (xv 10) (xa_cons (xv 10) xa_nil))) xa_nil)))) (xa_cons (xe_tup (xa_cons xe_str (xa_cons (xe_tup (xa_cons (xe_op os_add (xe_slice ss_sl (xv 11) xp_none (xp_some xe_int)) (xe_tup (xa_cons xe_int xa_nil))) xa_nil)) (xa_cons (xe_tup xa_nil) xa_nil)))) xa_nil))))))))))
  (xss_cons (xs_set 12 sc_law.nd rfl (by first | exact .inl rfl | exact .inr rfl) (xe_op os_add (xv 12) (xe_lst (xa_cons (xe_tup (xa_cons xe_str (xa_cons (xe_tup (xa_cons (xe_op os_add (xe_slice ss_sl (xv 11) xp_none (xp_some xe_int)) (xe_tup (xa_cons (xe_un us_neg xe_int) xa_nil))) xa_nil)) (xa_cons (xe_tup xa_nil) xa_nil)))) (xa_cons (xe_tup (xa_cons xe_str (xa_cons (xe_tup (xa_cons (xe_op os_add (xe_tup (xa_cons xe_str xa_nil)) (xe_slice ss_sl (xv 11) (xp_some xe_int) xp_none)) xa_nil)) (xa_cons (xe_tup xa_nil) xa_nil)))) (xa_cons (xe_tup (xa_cons xe_str (xa_cons (xe_tup (xa_cons (xe_op os_add (xe_slice ss_sl (xv 11) xp_none (xp_some xe_int)) (xe_tup (xa_cons xe_int (xa_cons xe_int xa_nil)))) xa_nil)) (xa_cons (xe_tup xa_nil) xa_nil)))) (xa_cons (xe_tup (xa_cons xe_str (xa_cons (xe_tup (xa_cons (xe_op os_add (xe_slice ss_sl (xv 11) xp_none (xp_some xe_int)) (xe_tup (xa_cons xe_bl xa_nil))) xa_nil)) (xa_cons (xe_tup xa_nil) xa_nil)))) xa_nil)))))))
  (xss_cons (xs_set 12 sc_law.nd rfl (by first | exact .inl rfl | exact .inr rfl) (xe_op os_add (xv 12) (xe_lst (xa_cons (xe_tup (xa_cons xe_str (xa_cons (xe_tup xa_nil) (xa_cons (xe_tup (xa_cons (xe_op os_add (xe_slice ss_sl (xv 10) xp_none (xp_some xe_int)) (xe_tup (xa_cons xe_int xa_nil))) xa_nil)) xa_nil)))) (xa_cons (xe_tup (xa_cons xe_str (xa_cons (xe_tup xa_nil) (xa_cons (xe_tup (xa_cons (xe_op os_add (xe_slice ss_sl (xv 10) xp_none (xp_some xe_int)) (xe_tup (xa_cons xe_str (xa_cons xe_int xa_nil)))) xa_nil)) xa_nil)))) (xa_cons (xe_tup (xa_cons xe_str (xa_cons (xe_tup xa_nil) (xa_cons (xe_tup (xa_cons (xe_op os_add (xe_slice ss_sl (xv 10) xp_none (xp_some xe_int)) (xe_tup (xa_cons (xe_op os_add (xe_op os_pow xe_int xe_int) xe_int) xa_nil))) xa_nil)) xa_nil)))) (xa_cons (xe_tup (xa_cons xe_str (xa_cons (xe_tup xa_nil) (xa_cons (xe_tup (xa_cons (xe_op os_add (xe_tup (xa_cons xe_int xa_nil)) (xe_slice ss_sl (xv 10) (xp_some xe_int) xp_none)) xa_nil)) xa_nil)))) xa_nil)))))))
  (xss_cons (xs_if (xt_cmp (os_ne (hu64 hr)) (xe_lc [("thing", 13)] [13] rfl rfl sc_law.nd (xi_any (xe_op os_add (xv 12) (xe_lst (xa_cons (xe_tup (xa_cons xe_str (xa_cons (xe_tup (xa_cons (xv 11) (xa_cons (xe_tup (xa_cons xe_str (xa_cons xe_str (xa_cons xe_int (xa_cons xe_int xa_nil))))) xa_nil))) (xa_cons (xe_tup xa_nil) xa_nil)))) xa_nil)))) (blkOk_by (N := n_law) (sc := defScope st_law) (by decide +kernel)) (fun _ _ _ _ _ => (xg_name 13 (ww (is := [13])) (by decide) sc_law.nd rfl (by first | exact .inl rfl | exact .inr rfl))) (fun _ _ _ _ _ => (xts_one (xt_cmp os_isnot (xe_call G_is_book (hr.mono (by decide)) (by rfl) (xa_cons (xv 13) xa_nil)) xe_bl (by rfl)))) (fun _ _ _ _ _ => (xv 13))) (xe_lst xa_nil) (by rfl)) (xss_cons (xs_ret xe_bl)
  xss_nil) xss_nil)
  (xss_cons (xs_if (xt_cmp (os_ne (hu64 hr)) (xe_lc [("thing", 13)] [13] rfl rfl sc_law.nd (xi_any (xe_lst (xa_cons (xe_tup (xa_cons xe_str (xa_cons (xe_tup (xa_cons (xv 11) xa_nil)) (xa_cons (xe_tup (xa_cons (xv 10) xa_nil)) xa_nil)))) (xa_cons (xe_tup (xa_cons xe_str (xa_cons (xe_tup (xa_cons (xe_op os_add (xe_slice ss_sl (xv 11) xp_none (xp_some xe_int)) (xe_tup (xa_cons (xe_op os_pow xe_int xe_int) xa_nil))) xa_nil)) (xa_cons (xe_tup (xa_cons (xe_op os_add (xe_slice ss_sl (xv 10) xp_none (xp_some xe_int)) (xe_tup (xa_cons (xe_un us_neg xe_int) xa_nil))) xa_nil)) xa_nil)))) (xa_cons (xe_tup (xa_cons xe_str (xa_cons (xe_tup xa_nil) (xa_cons (xe_tup xa_nil) xa_nil)))) xa_nil))))) (blkOk_by (N := n_law) (sc := defScope st_law) (by decide +kernel)) (fun _ _ _ _ _ => (xg_name 13 (ww (is := [13])) (by decide) sc_law.nd rfl (by first | exact .inl rfl | exact .inr rfl))) (fun _ _ _ _ _ => (xts_one (xt_cmp os_isnot (xe_call G_is_book (hr.mono (by decide)) (by rfl) (xa_cons (xv 13) xa_nil)) xe_bl (by rfl)))) (fun _ _ _ _ _ => (xv 13))) (xe_lst xa_nil) (by rfl)) (xss_cons (xs_ret xe_bl)
  xss_nil) xss_nil)
  xss_nil)))))))))))
  (xss_cons (xs_ret xe_bl)
  xss_nil)))
theorem fn_law {f : Addr} {fd : FuncData} (F : Fun K "law" "law" st_law f fd) (hm : mg "law" = some (.ref f)) (B : Blt mg) (G__law_plain_book : Fn P w K mg base "_law_plain_book" 2 f__law_plain_book) (G__law_tells : Fn P w K mg base "_law_tells" 8 f__law_tells) (G_moved : Fn P w K mg base "moved" 3 f_moved) (G__law_next : Fn P w K mg base "_law_next" 1 f__law_next) (G__law_same : Fn P w K mg base "_law_same" 7 (f__law_same 6)) (G_with_cell : Fn P w K mg base "with_cell" 2 f_with_cell) (G_cell_of : Fn P w K mg base "cell_of" 2 f_cell_of) (G_part_of : Fn P w K mg base "part_of" 2 f_part_of) (G_is_book : Fn P w K mg base "is_book" 4 f_is_book) : Fn P w K mg base "law" 9 f_law := ⟨f, fd, ["script"], ok_law F B G__law_plain_book G__law_tells G_moved G__law_next G__law_same G_with_cell G_cell_of G_part_of G_is_book, hm, F.kp, (F.binds (ps := ["script"]) fun _ _ _ _ _ _ us hl => match us, hl with | [_], _ => rfl)⟩
end
end K34

set_option Elab.async false
set_option linter.all false
set_option maxRecDepth 100000
set_option autoImplicit false
namespace K34
open PySem PySem.Spec PyProof.Rows L2 PM
open Classical

/-! ### what a call that only reads leaves behind -/
noncomputable def J (F : List D → M D) (xs : List D) (st : Store) : Store := match F xs st with
  | some (_, s) => s.drop st.length
  | none => []
theorem jof {F : List D → M D} {xs : List D} {st : Store} {r : D} (h : ∃ t, F xs st = some (r, st ++ t)) : F xs st = some (r, st ++ J F xs st) := by
  obtain ⟨t, h⟩ := h
  unfold J
  rw [h]
  dsimp only
  rw [List.drop_left]
theorem small (n : Nat) (h : n ≤ 902) : n ≤ sizeLine := by
  rw [sizeLine_eq]
  omega
theorem smallB {n : Nat} (h : n ≤ 902) : fits n = true := decide_eq_true (small n h)
def goodS (z : Str) : Bool := PyData.canLay0 (.str z) && decide (z.length ≤ 900) && decide ((PySem.Txt.split z ".").length ≤ 900) && (PySem.Txt.split z ".").all fun p => decide (p.length ≤ 900)
mutual
def good : PyData → Bool
  | .none => true
  | .bool _ => true
  | .int _ => true
  | .str z => goodS z
  | .list xs => goodAll xs && decide (xs.length ≤ 900)
  | .tuple xs => goodAll xs && decide (xs.length ≤ 900)
  | .dict _ => false
def goodAll : List PyData → Bool
  | [] => true
  | x :: xs => good x && goodAll xs
end
theorem good_tup {xs : List PyData} (h : good (.tuple xs) = true) : goodAll xs = true ∧ xs.length ≤ 900 := by
  unfold good at h
  rw [Bool.and_eq_true] at h
  exact ⟨h.1, of_decide_eq_true h.2⟩
theorem good_cons {x : PyData} {xs : List PyData} (h : goodAll (x :: xs) = true) : good x = true ∧ goodAll xs = true := by
  unfold goodAll at h
  rwa [Bool.and_eq_true] at h
theorem good_str {z : Str} (h : good (.str z) = true) : SeqAt.shaped (.str z) = true ∧ z.length ≤ 900 := by
  unfold good goodS at h
  simp only [Bool.and_eq_true, decide_eq_true_eq] at h
  refine ⟨?_, h.1.1.2⟩
  unfold SeqAt.shaped
  rw [h.1.1.1]
  rfl
theorem good_mem : ∀ {xs : List PyData}, goodAll xs = true → ∀ x ∈ xs, good x = true
  | y :: ys, h, x, hx => by
    obtain ⟨h1, h2⟩ := good_cons h
    rcases List.mem_cons.mp hx with e | hx
    · rw [e]; exact h1
    · exact good_mem h2 x hx
theorem sh_int (i : Int) : SeqAt.shaped (.int i) = true := by rfl
theorem sh_bool (b : Bool) : SeqAt.shaped (.bool b) = true := by rfl
/-! ### leaves -/
def isWhole : PyData → Bool
  | .int _ => true
  | _ => false
theorem ev_whole {x : PyData} {st : Store} (h : good x = true) : f_is_whole [.d x] st = some (.d (.bool (isWhole x)), st) := by
  cases x <;> first | (cases h; done) | simp [f_is_whole, s_is_whole, isiT, isWhole, truF, wp_some, wp_none, wp_bind, wp_sFor, mOp, mUn, mC, mVar, mTest, mTru, mAnd, mOr, mNot, mAndV, mOrV, mNotV, mIf, mNil, mCons, mCall, mTup, mLstD, mLst, mChain, mPart, mSl, mMeth, mIsi, sSeq, sNil, sIf, sRet, sRetN, sAsg, sExpr, sPar, sPar3, gN, gT, gsCons, gsNil, gIx, bodyM, retM, List.getElem?_cons_zero, List.getElem?_cons_succ, List.set_cons_zero, List.set_cons_succ, List.map_cons, List.map_nil, List.length_cons, List.length_nil, List.replicate, List.cons_append, List.nil_append, Option.bind_some, Option.map_some, if_true, if_false, reduceIte, Bool.false_eq_true, tyN, datas, iiF, addI, Bool.not_true, Bool.not_false, Nat.zero_add, Nat.reduceAdd, Nat.reduceSub, reduceCtorEq]
def isTold (x : PyData) (w : Str) (c : Int) : Bool := match x with
  | .tuple (.str z :: r) => ((r.length : Int) + 1 == c) && (z == w)
  | _ => false
theorem ev_told {x : PyData} {w : Str} {c : Int} {st : Store} (h : good x = true) (hc : 0 < c) (hw : SeqAt.shaped (.str w) = true) : f_is_told [.d x, .d (.str w), .d (.int c)] st = some (.d (.bool (isTold x w c)), st) := by
  cases x with
  | dict _ => cases h
  | tuple xs =>
    obtain ⟨h1, h2⟩ := good_tup h
    cases xs with
    | nil =>
      have e : ((0 : Int) == c) = false := beq_eq_false_iff_ne.mpr (by omega)
      simp [f_is_told, s_is_told, isiT, isTold, lenF, seqOf, lstOf, eqF, pyOf, sh_int, PyData.eqv, e, truF, wp_some, wp_none, wp_bind, wp_sFor, mOp, mUn, mC, mVar, mTest, mTru, mAnd, mOr, mNot, mAndV, mOrV, mNotV, mIf, mNil, mCons, mCall, mTup, mLstD, mLst, mChain, mPart, mSl, mMeth, mIsi, sSeq, sNil, sIf, sRet, sRetN, sAsg, sExpr, sPar, sPar3, gN, gT, gsCons, gsNil, gIx, bodyM, retM, List.getElem?_cons_zero, List.getElem?_cons_succ, List.set_cons_zero, List.set_cons_succ, List.map_cons, List.map_nil, List.length_cons, List.length_nil, List.replicate, List.cons_append, List.nil_append, Option.bind_some, Option.map_some, if_true, if_false, reduceIte, Bool.false_eq_true, tyN, datas, iiF, addI, Bool.not_true, Bool.not_false, Nat.zero_add, Nat.reduceAdd, Nat.reduceSub, reduceCtorEq]
    | cons y r =>
      obtain ⟨hy, _⟩ := good_cons h1
      cases e : ((r.length : Int) + 1 == c) with
      | true =>
        cases y with
        | dict _ => cases hy
        | str z => simp [f_is_told, s_is_told, isiT, isTold, lenF, seqOf, lstOf, eqF, pyOf, sh_int, PyData.eqv, e, (good_str hy).1, hw, getF, isDict, ixF, atI, ixN, truF, wp_some, wp_none, wp_bind, wp_sFor, mOp, mUn, mC, mVar, mTest, mTru, mAnd, mOr, mNot, mAndV, mOrV, mNotV, mIf, mNil, mCons, mCall, mTup, mLstD, mLst, mChain, mPart, mSl, mMeth, mIsi, sSeq, sNil, sIf, sRet, sRetN, sAsg, sExpr, sPar, sPar3, gN, gT, gsCons, gsNil, gIx, bodyM, retM, List.getElem?_cons_zero, List.getElem?_cons_succ, List.set_cons_zero, List.set_cons_succ, List.map_cons, List.map_nil, List.length_cons, List.length_nil, List.replicate, List.cons_append, List.nil_append, Option.bind_some, Option.map_some, if_true, if_false, reduceIte, Bool.false_eq_true, tyN, datas, iiF, addI, Bool.not_true, Bool.not_false, Nat.zero_add, Nat.reduceAdd, Nat.reduceSub, reduceCtorEq]
        | _ => simp [f_is_told, s_is_told, isiT, isTold, lenF, seqOf, lstOf, eqF, pyOf, sh_int, PyData.eqv, e, getF, isDict, ixF, atI, ixN, truF, wp_some, wp_none, wp_bind, wp_sFor, mOp, mUn, mC, mVar, mTest, mTru, mAnd, mOr, mNot, mAndV, mOrV, mNotV, mIf, mNil, mCons, mCall, mTup, mLstD, mLst, mChain, mPart, mSl, mMeth, mIsi, sSeq, sNil, sIf, sRet, sRetN, sAsg, sExpr, sPar, sPar3, gN, gT, gsCons, gsNil, gIx, bodyM, retM, List.getElem?_cons_zero, List.getElem?_cons_succ, List.set_cons_zero, List.set_cons_succ, List.map_cons, List.map_nil, List.length_cons, List.length_nil, List.replicate, List.cons_append, List.nil_append, Option.bind_some, Option.map_some, if_true, if_false, reduceIte, Bool.false_eq_true, tyN, datas, iiF, addI, Bool.not_true, Bool.not_false, Nat.zero_add, Nat.reduceAdd, Nat.reduceSub, reduceCtorEq]
      | false => cases y <;> simp [f_is_told, s_is_told, isiT, isTold, lenF, seqOf, lstOf, eqF, pyOf, sh_int, PyData.eqv, e, getF, isDict, ixF, atI, ixN, truF, wp_some, wp_none, wp_bind, wp_sFor, mOp, mUn, mC, mVar, mTest, mTru, mAnd, mOr, mNot, mAndV, mOrV, mNotV, mIf, mNil, mCons, mCall, mTup, mLstD, mLst, mChain, mPart, mSl, mMeth, mIsi, sSeq, sNil, sIf, sRet, sRetN, sAsg, sExpr, sPar, sPar3, gN, gT, gsCons, gsNil, gIx, bodyM, retM, List.getElem?_cons_zero, List.getElem?_cons_succ, List.set_cons_zero, List.set_cons_succ, List.map_cons, List.map_nil, List.length_cons, List.length_nil, List.replicate, List.cons_append, List.nil_append, Option.bind_some, Option.map_some, if_true, if_false, reduceIte, Bool.false_eq_true, tyN, datas, iiF, addI, Bool.not_true, Bool.not_false, Nat.zero_add, Nat.reduceAdd, Nat.reduceSub, reduceCtorEq]
  | _ => simp [f_is_told, s_is_told, isiT, isTold, truF, wp_some, wp_none, wp_bind, wp_sFor, mOp, mUn, mC, mVar, mTest, mTru, mAnd, mOr, mNot, mAndV, mOrV, mNotV, mIf, mNil, mCons, mCall, mTup, mLstD, mLst, mChain, mPart, mSl, mMeth, mIsi, sSeq, sNil, sIf, sRet, sRetN, sAsg, sExpr, sPar, sPar3, gN, gT, gsCons, gsNil, gIx, bodyM, retM, List.getElem?_cons_zero, List.getElem?_cons_succ, List.set_cons_zero, List.set_cons_succ, List.map_cons, List.map_nil, List.length_cons, List.length_nil, List.replicate, List.cons_append, List.nil_append, Option.bind_some, Option.map_some, if_true, if_false, reduceIte, Bool.false_eq_true, tyN, datas, iiF, addI, Bool.not_true, Bool.not_false, Nat.zero_add, Nat.reduceAdd, Nat.reduceSub, reduceCtorEq]
/-! ### flags -/
def flags (bs : List Bool) : List D := bs.map fun b => .d (.bool b)
theorem datas_map : ∀ ds : List PyData, datas (ds.map D.d) = some ds
  | [] => rfl
  | d :: ds => by
    show (datas (ds.map D.d)).map (d :: ·) = _
    rw [datas_map ds]
    rfl
theorem lay_bools : ∀ bs : List Bool, PyData.canLayAll0 (bs.map PyData.bool) = true ∧ PyData.depthAll (bs.map PyData.bool) = 0
  | [] => ⟨rfl, rfl⟩
  | b :: bs => by
    obtain ⟨h1, h2⟩ := lay_bools bs
    refine ⟨?_, ?_⟩
    · rw [List.map_cons, PyData.canLayAll0, h1]
      rfl
    · rw [List.map_cons, PyData.depthAll, h2]
      rfl
theorem sh_bools (bs : List Bool) : SeqAt.shaped (.list (bs.map PyData.bool)) = true := by
  obtain ⟨h1, h2⟩ := lay_bools bs
  unfold SeqAt.shaped
  rw [PyData.canLay0, h1, PyData.depth, h2]
  rfl
theorem any_bools (v : Bool) : ∀ bs : List Bool, ((bs.map PyData.bool).any fun z => PyData.eqv z (.bool v)) = bs.contains v
  | [] => rfl
  | b :: bs => by
    rw [List.map_cons, List.any_cons, any_bools v bs, List.contains_cons]
    congr 1
    cases b <;> cases v <;> rfl
theorem ev_flag {neg v : Bool} {n : Nat} {st : Store} {bs : List Bool} (h : st[n]? = some (.lst (flags bs))) : inAF neg (.d (.bool v)) (.ref n) st = some (.d (.bool (if neg then !bs.contains v else bs.contains v)), st) := by
  have e : flags bs = (bs.map PyData.bool).map D.d := by
    unfold flags
    rw [List.map_map]
    rfl
  have hd : isDict st (.ref n) = false := by
    unfold isDict
    dsimp only
    rw [h]
  unfold inAF
  rw [hd, if_neg Bool.false_ne_true]
  unfold inF
  simp only [pyOf, h, lstC, Option.bind_some, e, datas_map, Option.map_some, sh_bool, sh_bools, and_self, if_true, any_bools]
/-! ### names -/
def firstL : List Nat := ("abcdefghijklmnopqrstuvwxyz" : Str).cps.toList
def signL : List Nat := ("abcdefghijklmnopqrstuvwxyz0123456789_" : Str).cps.toList
def isNameS (z : Str) : Bool := match z.cps.toList with
  | [] => false
  | c :: r => decide (c ∈ firstL) && (c :: r).all fun c => decide (c ∈ signL)
def isName : PyData → Bool
  | .str z => isNameS z
  | _ => false
theorem contains_not {α : Type} (f : α → Bool) : ∀ xs : List α, (!(xs.map fun a => !f a).contains true) = xs.all f
  | [] => rfl
  | x :: xs => by
    rw [List.map_cons, List.contains_cons, List.all_cons, ← contains_not f xs]
    cases f x <;> simp
theorem contains_f {α : Type} (f : α → Bool) : ∀ xs : List α, ((xs.map f).contains false) = !xs.all f
  | [] => rfl
  | x :: xs => by
    rw [List.map_cons, List.contains_cons, List.all_cons, contains_f f xs]
    cases f x <;> simp
theorem contains_t {α : Type} (f : α → Bool) : ∀ xs : List α, ((xs.map f).contains true) = !xs.all fun a => !f a
  | [] => rfl
  | x :: xs => by
    rw [List.map_cons, List.contains_cons, List.all_cons, contains_t f xs]
    cases f x <;> simp
def lenOk : PyData → Bool
  | .str z => decide (z.length ≤ 900)
  | .dict _ => false
  | _ => true
theorem ev_sign {neg : Bool} {c : Nat} {z : Str} {st : Store} : inAF neg (.d (.str ⟨#[c]⟩)) (.d (.str z)) st = some (.d (.bool (if neg then !decide (c ∈ z.cps.toList) else decide (c ∈ z.cps.toList))), st) := by
  unfold inAF
  rw [show isDict st (.d (.str z)) = false from rfl, if_neg Bool.false_ne_true]
  rfl
theorem ev_first {c : Nat} {st : Store} : inAF true (.d (.str ⟨#[c]⟩)) (.d (.str ("abcdefghijklmnopqrstuvwxyz" : Str))) st = some (.d (.bool (!decide (c ∈ firstL))), st) := ev_sign
theorem ev_signs {c : Nat} {st : Store} : inAF true (.d (.str ⟨#[c]⟩)) (.d (.str ("abcdefghijklmnopqrstuvwxyz0123456789_" : Str))) st = some (.d (.bool (!decide (c ∈ signL))), st) := ev_sign
theorem wp_ex {F : List D → M D} {xs : List D} {st : Store} {r : D} (h : wp (F xs st) fun a s => a = r ∧ st <+: s) : ∃ t, F xs st = some (r, st ++ t) := by
  obtain ⟨⟨a, s⟩, e, h1, t, h2⟩ := h
  dsimp only at h1 h2
  subst h1 h2
  exact ⟨t, e⟩
theorem ev_name0 {x : PyData} {st : Store} (h : lenOk x = true) : ∃ t, f_is_name [.d x] st = some (.d (.bool (isName x)), st ++ t) := by
  refine wp_ex ?_
  cases x with
  | dict _ => cases h
  | str z =>
    obtain ⟨⟨cs⟩⟩ := z
    have hl : cs.length ≤ 900 := by
      have := of_decide_eq_true h
      simpa [Str.length] using this
    have hf : fits (Str.mk ⟨cs⟩).length = true := smallB (by simp [Str.length]; omega)
    cases cs with
    | nil =>
      have h0 : (((Str.mk ⟨[]⟩).length : Int) != 0) = false := by simp [Str.length]
      simp [f_is_name, s_is_name, isiT, isName, isNameS, hf, h0, truF, wp_some, wp_none, wp_bind, wp_sFor, mOp, mUn, mC, mVar, mTest, mTru, mAnd, mOr, mNot, mAndV, mOrV, mNotV, mIf, mNil, mCons, mCall, mTup, mLstD, mLst, mChain, mPart, mSl, mMeth, mIsi, sSeq, sNil, sIf, sRet, sRetN, sAsg, sExpr, sPar, sPar3, gN, gT, gsCons, gsNil, gIx, bodyM, retM, List.getElem?_cons_zero, List.getElem?_cons_succ, List.set_cons_zero, List.set_cons_succ, List.map_cons, List.map_nil, List.length_cons, List.length_nil, List.replicate, List.cons_append, List.nil_append, Option.bind_some, Option.map_some, if_true, if_false, reduceIte, Bool.false_eq_true, tyN, datas, iiF, addI, Bool.not_true, Bool.not_false, Nat.zero_add, Nat.reduceAdd, Nat.reduceSub, reduceCtorEq]
    | cons c r =>
      have h0 : (((Str.mk ⟨c :: r⟩).length : Int) != 0) = true := by simp [Str.length]; omega
      cases hc : decide (c ∈ firstL) with
      | false => simp [f_is_name, s_is_name, isiT, isName, isNameS, hf, h0, getF, isDict, ixF, atI, ixN, ev_first, hc, truF, wp_some, wp_none, wp_bind, wp_sFor, mOp, mUn, mC, mVar, mTest, mTru, mAnd, mOr, mNot, mAndV, mOrV, mNotV, mIf, mNil, mCons, mCall, mTup, mLstD, mLst, mChain, mPart, mSl, mMeth, mIsi, sSeq, sNil, sIf, sRet, sRetN, sAsg, sExpr, sPar, sPar3, gN, gT, gsCons, gsNil, gIx, bodyM, retM, List.getElem?_cons_zero, List.getElem?_cons_succ, List.set_cons_zero, List.set_cons_succ, List.map_cons, List.map_nil, List.length_cons, List.length_nil, List.replicate, List.cons_append, List.nil_append, Option.bind_some, Option.map_some, if_true, if_false, reduceIte, Bool.false_eq_true, tyN, datas, iiF, addI, Bool.not_true, Bool.not_false, Nat.zero_add, Nat.reduceAdd, Nat.reduceSub, reduceCtorEq]
      | true =>
        simp [f_is_name, s_is_name, isiT, hf, h0, getF, isDict, ixF, atI, ixN, ev_first, hc, truF, wp_some, wp_none, wp_bind, wp_sFor, mOp, mUn, mC, mVar, mTest, mTru, mAnd, mOr, mNot, mAndV, mOrV, mNotV, mIf, mNil, mCons, mCall, mTup, mLstD, mLst, mChain, mPart, mSl, mMeth, mIsi, sSeq, sNil, sIf, sRet, sRetN, sAsg, sExpr, sPar, sPar3, gN, gT, gsCons, gsNil, gIx, bodyM, retM, List.getElem?_cons_zero, List.getElem?_cons_succ, List.set_cons_zero, List.set_cons_succ, List.map_cons, List.map_nil, List.length_cons, List.length_nil, List.replicate, List.cons_append, List.nil_append, Option.bind_some, Option.map_some, if_true, if_false, reduceIte, Bool.false_eq_true, tyN, datas, iiF, addI, Bool.not_true, Bool.not_false, Nat.zero_add, Nat.reduceAdd, Nat.reduceSub, reduceCtorEq]
        refine wp_map (fun c => D.d (.str ⟨#[c]⟩)) (fun c => D.d (.bool (!decide (c ∈ signL)))) (c :: r) (s0 := st) (g := none) (by simp [mAny, truF, wp_some, wp_none, wp_bind, wp_sFor, mOp, mUn, mC, mVar, mTest, mTru, mAnd, mOr, mNot, mAndV, mOrV, mNotV, mIf, mNil, mCons, mCall, mTup, mLstD, mLst, mChain, mPart, mSl, mMeth, mIsi, sSeq, sNil, sIf, sRet, sRetN, sAsg, sExpr, sPar, sPar3, gN, gT, gsCons, gsNil, gIx, bodyM, retM, List.getElem?_cons_zero, List.getElem?_cons_succ, List.set_cons_zero, List.set_cons_succ, List.map_cons, List.map_nil, List.length_cons, List.length_nil, List.replicate, List.cons_append, List.nil_append, Option.bind_some, Option.map_some, if_true, if_false, reduceIte, Bool.false_eq_true, tyN, datas, iiF, addI, Bool.not_true, Bool.not_false, Nat.zero_add, Nat.reduceAdd, Nat.reduceSub, reduceCtorEq]; rfl) holds_none (small _ (by omega)) (fun s hs x hx => ?_) fun t => ?_
        · simp [mYes, wipeE, ev_signs, truF, wp_some, wp_none, wp_bind, wp_sFor, mOp, mUn, mC, mVar, mTest, mTru, mAnd, mOr, mNot, mAndV, mOrV, mNotV, mIf, mNil, mCons, mCall, mTup, mLstD, mLst, mChain, mPart, mSl, mMeth, mIsi, sSeq, sNil, sIf, sRet, sRetN, sAsg, sExpr, sPar, sPar3, gN, gT, gsCons, gsNil, gIx, bodyM, retM, List.getElem?_cons_zero, List.getElem?_cons_succ, List.set_cons_zero, List.set_cons_succ, List.map_cons, List.map_nil, List.length_cons, List.length_nil, List.replicate, List.cons_append, List.nil_append, Option.bind_some, Option.map_some, if_true, if_false, reduceIte, Bool.false_eq_true, tyN, datas, iiF, addI, Bool.not_true, Bool.not_false, Nat.zero_add, Nat.reduceAdd, Nat.reduceSub, reduceCtorEq]
        · refine wp_of (ev_flag (bs := (c :: r).map fun c => !decide (c ∈ signL)) (by rw [get_mid, flags, List.map_map]; rfl)) ⟨?_, pre_app⟩
          rw [if_pos rfl, contains_not (fun c => decide (c ∈ signL)) (c :: r)]
          show _ = D.d (.bool (decide (c ∈ firstL) && _))
          rw [hc, Bool.true_and]
  | _ => simp [f_is_name, s_is_name, isiT, isName, truF, wp_some, wp_none, wp_bind, wp_sFor, mOp, mUn, mC, mVar, mTest, mTru, mAnd, mOr, mNot, mAndV, mOrV, mNotV, mIf, mNil, mCons, mCall, mTup, mLstD, mLst, mChain, mPart, mSl, mMeth, mIsi, sSeq, sNil, sIf, sRet, sRetN, sAsg, sExpr, sPar, sPar3, gN, gT, gsCons, gsNil, gIx, bodyM, retM, List.getElem?_cons_zero, List.getElem?_cons_succ, List.set_cons_zero, List.set_cons_succ, List.map_cons, List.map_nil, List.length_cons, List.length_nil, List.replicate, List.cons_append, List.nil_append, Option.bind_some, Option.map_some, if_true, if_false, reduceIte, Bool.false_eq_true, tyN, datas, iiF, addI, Bool.not_true, Bool.not_false, Nat.zero_add, Nat.reduceAdd, Nat.reduceSub, reduceCtorEq]
theorem lenOk_of {x : PyData} (h : good x = true) : lenOk x = true := by
  cases x with
  | str z => exact decide_eq_true (good_str h).2
  | dict _ => cases h
  | _ => rfl
theorem ev_name {x : PyData} {st : Store} (h : lenOk x = true) : f_is_name [.d x] st = some (.d (.bool (isName x)), st ++ J f_is_name [.d x] st) := jof (ev_name0 h)
/-! ### keys -/
def isKeyS (z : Str) : Bool := (PySem.Txt.split z ".").all isNameS
def isKey : PyData → Bool
  | .str z => isKeyS z
  | _ => false
theorem ev_key {x : PyData} {st : Store} (h : good x = true) : ∃ t, f_is_key [.d x] st = some (.d (.bool (isKey x)), st ++ t) := by
  refine wp_ex ?_
  cases x with
  | dict _ => cases h
  | str z =>
    have hl := (good_str h).2
    have hsp : (PySem.Txt.split z ".").length ≤ 900 ∧ ∀ p ∈ PySem.Txt.split z ".", p.length ≤ 900 := by
      unfold good goodS at h
      simp only [Bool.and_eq_true, List.all_eq_true, decide_eq_true_eq] at h
      exact ⟨h.1.2, h.2⟩
    have hf : fits (z.length + 2) = true := smallB (by omega)
    have hd : ¬ ("." : Str).length = 0 := by decide
    simp [f_is_key, s_is_key, isiT, truF, wp_some, wp_none, wp_bind, wp_sFor, mOp, mUn, mC, mVar, mTest, mTru, mAnd, mOr, mNot, mAndV, mOrV, mNotV, mIf, mNil, mCons, mCall, mTup, mLstD, mLst, mChain, mPart, mSl, mMeth, mIsi, sSeq, sNil, sIf, sRet, sRetN, sAsg, sExpr, sPar, sPar3, gN, gT, gsCons, gsNil, gIx, bodyM, retM, List.getElem?_cons_zero, List.getElem?_cons_succ, List.set_cons_zero, List.set_cons_succ, List.map_cons, List.map_nil, List.length_cons, List.length_nil, List.replicate, List.cons_append, List.nil_append, Option.bind_some, Option.map_some, if_true, if_false, reduceIte, Bool.false_eq_true, tyN, datas, iiF, addI, Bool.not_true, Bool.not_false, Nat.zero_add, Nat.reduceAdd, Nat.reduceSub, reduceCtorEq]
    refine wp_map (fun z => D.d (.str z)) (fun z => D.d (.bool (isNameS z))) (PySem.Txt.split z ".") (s0 := st ++ [.lst ((PySem.Txt.split z ".").map fun z => .d (.str z))]) (g := some (st.length, .lst ((PySem.Txt.split z ".").map fun z => .d (.str z)))) ?_ (holds_of (get_mid st [] _)) (small _ (by omega)) (fun s hs p hp => ?_) fun t => ?_
    · simp [mAny, tyD, splitF, hf, hd, truF, wp_some, wp_none, wp_bind, wp_sFor, mOp, mUn, mC, mVar, mTest, mTru, mAnd, mOr, mNot, mAndV, mOrV, mNotV, mIf, mNil, mCons, mCall, mTup, mLstD, mLst, mChain, mPart, mSl, mMeth, mIsi, sSeq, sNil, sIf, sRet, sRetN, sAsg, sExpr, sPar, sPar3, gN, gT, gsCons, gsNil, gIx, bodyM, retM, List.getElem?_cons_zero, List.getElem?_cons_succ, List.set_cons_zero, List.set_cons_succ, List.map_cons, List.map_nil, List.length_cons, List.length_nil, List.replicate, List.cons_append, List.nil_append, Option.bind_some, Option.map_some, if_true, if_false, reduceIte, Bool.false_eq_true, tyN, datas, iiF, addI, Bool.not_true, Bool.not_false, Nat.zero_add, Nat.reduceAdd, Nat.reduceSub, reduceCtorEq]
    · have := ev_name (x := .str p) (st := s) (decide_eq_true (hsp.2 p hp))
      simp [mYes, wipeE, this, isName, truF, wp_some, wp_none, wp_bind, wp_sFor, mOp, mUn, mC, mVar, mTest, mTru, mAnd, mOr, mNot, mAndV, mOrV, mNotV, mIf, mNil, mCons, mCall, mTup, mLstD, mLst, mChain, mPart, mSl, mMeth, mIsi, sSeq, sNil, sIf, sRet, sRetN, sAsg, sExpr, sPar, sPar3, gN, gT, gsCons, gsNil, gIx, bodyM, retM, List.getElem?_cons_zero, List.getElem?_cons_succ, List.set_cons_zero, List.set_cons_succ, List.map_cons, List.map_nil, List.length_cons, List.length_nil, List.replicate, List.cons_append, List.nil_append, Option.bind_some, Option.map_some, if_true, if_false, reduceIte, Bool.false_eq_true, tyN, datas, iiF, addI, Bool.not_true, Bool.not_false, Nat.zero_add, Nat.reduceAdd, Nat.reduceSub, reduceCtorEq]
    · refine wp_of (ev_flag (bs := (PySem.Txt.split z ".").map isNameS) (by rw [get_mid, flags, List.map_map]; rfl)) ⟨?_, ⟨_, by rw [List.append_assoc]⟩⟩
      rw [if_pos rfl, contains_f, Bool.not_not]
      rfl
  | _ => simp [f_is_key, s_is_key, isiT, isKey, truF, wp_some, wp_none, wp_bind, wp_sFor, mOp, mUn, mC, mVar, mTest, mTru, mAnd, mOr, mNot, mAndV, mOrV, mNotV, mIf, mNil, mCons, mCall, mTup, mLstD, mLst, mChain, mPart, mSl, mMeth, mIsi, sSeq, sNil, sIf, sRet, sRetN, sAsg, sExpr, sPar, sPar3, gN, gT, gsCons, gsNil, gIx, bodyM, retM, List.getElem?_cons_zero, List.getElem?_cons_succ, List.set_cons_zero, List.set_cons_succ, List.map_cons, List.map_nil, List.length_cons, List.length_nil, List.replicate, List.cons_append, List.nil_append, Option.bind_some, Option.map_some, if_true, if_false, reduceIte, Bool.false_eq_true, tyN, datas, iiF, addI, Bool.not_true, Bool.not_false, Nat.zero_add, Nat.reduceAdd, Nat.reduceSub, reduceCtorEq]
end K34

set_option Elab.async false
set_option linter.all false
set_option maxRecDepth 100000
set_option autoImplicit false
namespace K34
open PySem PySem.Spec PyProof.Rows L2 PM
open Classical

def isHouse : PyData → Bool
  | .int i => decide (0 ≤ i) && decide (i ≤ 7)
  | _ => false
def isAmount : PyData → Bool
  | .int i => decide (0 ≤ i)
  | _ => false
def isNumber : PyData → Bool
  | .int i => decide (-1000000000000 ≤ i) && decide (i ≤ 1000000000000)
  | _ => false
theorem ev_house {x : PyData} {st : Store} (h : good x = true) : f_is_house [.d x] st = some (.d (.bool (isHouse x)), st) := by
  have hw := fun st => ev_whole (x := x) (st := st) h
  cases x with
  | int i => by_cases h1 : 0 ≤ i <;> simp [f_is_house, s_is_house, hw, isWhole, isHouse, mChain, leF, h1, truF, wp_some, wp_none, wp_bind, wp_sFor, mOp, mUn, mC, mVar, mTest, mTru, mAnd, mOr, mNot, mAndV, mOrV, mNotV, mIf, mNil, mCons, mCall, mTup, mLstD, mLst, mChain, mPart, mSl, mMeth, mIsi, sSeq, sNil, sIf, sRet, sRetN, sAsg, sExpr, sPar, sPar3, gN, gT, gsCons, gsNil, gIx, bodyM, retM, List.getElem?_cons_zero, List.getElem?_cons_succ, List.set_cons_zero, List.set_cons_succ, List.map_cons, List.map_nil, List.length_cons, List.length_nil, List.replicate, List.cons_append, List.nil_append, Option.bind_some, Option.map_some, if_true, if_false, reduceIte, Bool.false_eq_true, tyN, datas, iiF, addI, Bool.not_true, Bool.not_false, Nat.zero_add, Nat.reduceAdd, Nat.reduceSub, reduceCtorEq]
  | dict _ => cases h
  | _ => simp [f_is_house, s_is_house, hw, isWhole, isHouse, truF, wp_some, wp_none, wp_bind, wp_sFor, mOp, mUn, mC, mVar, mTest, mTru, mAnd, mOr, mNot, mAndV, mOrV, mNotV, mIf, mNil, mCons, mCall, mTup, mLstD, mLst, mChain, mPart, mSl, mMeth, mIsi, sSeq, sNil, sIf, sRet, sRetN, sAsg, sExpr, sPar, sPar3, gN, gT, gsCons, gsNil, gIx, bodyM, retM, List.getElem?_cons_zero, List.getElem?_cons_succ, List.set_cons_zero, List.set_cons_succ, List.map_cons, List.map_nil, List.length_cons, List.length_nil, List.replicate, List.cons_append, List.nil_append, Option.bind_some, Option.map_some, if_true, if_false, reduceIte, Bool.false_eq_true, tyN, datas, iiF, addI, Bool.not_true, Bool.not_false, Nat.zero_add, Nat.reduceAdd, Nat.reduceSub, reduceCtorEq]
theorem ev_amount {x : PyData} {st : Store} (h : good x = true) : f_is_amount [.d x] st = some (.d (.bool (isAmount x)), st) := by
  have hw := fun st => ev_whole (x := x) (st := st) h
  cases x with
  | int i => simp [f_is_amount, s_is_amount, hw, isWhole, isAmount, geF, truF, wp_some, wp_none, wp_bind, wp_sFor, mOp, mUn, mC, mVar, mTest, mTru, mAnd, mOr, mNot, mAndV, mOrV, mNotV, mIf, mNil, mCons, mCall, mTup, mLstD, mLst, mChain, mPart, mSl, mMeth, mIsi, sSeq, sNil, sIf, sRet, sRetN, sAsg, sExpr, sPar, sPar3, gN, gT, gsCons, gsNil, gIx, bodyM, retM, List.getElem?_cons_zero, List.getElem?_cons_succ, List.set_cons_zero, List.set_cons_succ, List.map_cons, List.map_nil, List.length_cons, List.length_nil, List.replicate, List.cons_append, List.nil_append, Option.bind_some, Option.map_some, if_true, if_false, reduceIte, Bool.false_eq_true, tyN, datas, iiF, addI, Bool.not_true, Bool.not_false, Nat.zero_add, Nat.reduceAdd, Nat.reduceSub, reduceCtorEq]
  | dict _ => cases h
  | _ => simp [f_is_amount, s_is_amount, hw, isWhole, isAmount, truF, wp_some, wp_none, wp_bind, wp_sFor, mOp, mUn, mC, mVar, mTest, mTru, mAnd, mOr, mNot, mAndV, mOrV, mNotV, mIf, mNil, mCons, mCall, mTup, mLstD, mLst, mChain, mPart, mSl, mMeth, mIsi, sSeq, sNil, sIf, sRet, sRetN, sAsg, sExpr, sPar, sPar3, gN, gT, gsCons, gsNil, gIx, bodyM, retM, List.getElem?_cons_zero, List.getElem?_cons_succ, List.set_cons_zero, List.set_cons_succ, List.map_cons, List.map_nil, List.length_cons, List.length_nil, List.replicate, List.cons_append, List.nil_append, Option.bind_some, Option.map_some, if_true, if_false, reduceIte, Bool.false_eq_true, tyN, datas, iiF, addI, Bool.not_true, Bool.not_false, Nat.zero_add, Nat.reduceAdd, Nat.reduceSub, reduceCtorEq]
theorem ev_number {x : PyData} {st : Store} (h : good x = true) : f_is_number [.d x] st = some (.d (.bool (isNumber x)), st) := by
  have hw := fun st => ev_whole (x := x) (st := st) h
  cases x with
  | int i => by_cases h1 : -1000000000000 ≤ i <;> simp [f_is_number, s_is_number, hw, isWhole, isNumber, mChain, leF, negF, h1, truF, wp_some, wp_none, wp_bind, wp_sFor, mOp, mUn, mC, mVar, mTest, mTru, mAnd, mOr, mNot, mAndV, mOrV, mNotV, mIf, mNil, mCons, mCall, mTup, mLstD, mLst, mChain, mPart, mSl, mMeth, mIsi, sSeq, sNil, sIf, sRet, sRetN, sAsg, sExpr, sPar, sPar3, gN, gT, gsCons, gsNil, gIx, bodyM, retM, List.getElem?_cons_zero, List.getElem?_cons_succ, List.set_cons_zero, List.set_cons_succ, List.map_cons, List.map_nil, List.length_cons, List.length_nil, List.replicate, List.cons_append, List.nil_append, Option.bind_some, Option.map_some, if_true, if_false, reduceIte, Bool.false_eq_true, tyN, datas, iiF, addI, Bool.not_true, Bool.not_false, Nat.zero_add, Nat.reduceAdd, Nat.reduceSub, reduceCtorEq]
  | dict _ => cases h
  | _ => simp [f_is_number, s_is_number, hw, isWhole, isNumber, truF, wp_some, wp_none, wp_bind, wp_sFor, mOp, mUn, mC, mVar, mTest, mTru, mAnd, mOr, mNot, mAndV, mOrV, mNotV, mIf, mNil, mCons, mCall, mTup, mLstD, mLst, mChain, mPart, mSl, mMeth, mIsi, sSeq, sNil, sIf, sRet, sRetN, sAsg, sExpr, sPar, sPar3, gN, gT, gsCons, gsNil, gIx, bodyM, retM, List.getElem?_cons_zero, List.getElem?_cons_succ, List.set_cons_zero, List.set_cons_succ, List.map_cons, List.map_nil, List.length_cons, List.length_nil, List.replicate, List.cons_append, List.nil_append, Option.bind_some, Option.map_some, if_true, if_false, reduceIte, Bool.false_eq_true, tyN, datas, iiF, addI, Bool.not_true, Bool.not_false, Nat.zero_add, Nat.reduceAdd, Nat.reduceSub, reduceCtorEq]
def posI : PyData → Bool
  | .int n => decide (0 < n)
  | _ => false
def nzI : PyData → Bool
  | .int n => !(n == 0)
  | _ => false
def isPart : PyData → Bool
  | .tuple [a, b, c, d] => isName a && (isName b && (isHouse c && (isAmount d && posI d)))
  | _ => false
def isCell : PyData → Bool
  | .tuple [a, b, c, d] => isHouse a && (isName b && (isKey c && (isNumber d && nzI d)))
  | _ => false
theorem ev_key' {x : PyData} {st : Store} (h : good x = true) : f_is_key [.d x] st = some (.d (.bool (isKey x)), st ++ J f_is_key [.d x] st) := jof (ev_key h)
set_option maxHeartbeats 4000000 in
theorem ev_part0 {x : PyData} {st : Store} (h : good x = true) : ∃ t, f_is_part [.d x] st = some (.d (.bool (isPart x)), st ++ t) := by
  refine wp_ex ?_
  cases x with
  | dict _ => cases h
  | tuple xs =>
    obtain ⟨h1, h2⟩ := good_tup h
    rcases xs with _ | ⟨a, _ | ⟨b, _ | ⟨c, _ | ⟨d, _ | ⟨e, r⟩⟩⟩⟩⟩
    · simp [f_is_part, s_is_part, isiT, isPart, lenF, seqOf, lstOf, neF, pyOf, sh_int, PyData.eqv, truF, wp_some, wp_none, wp_bind, wp_sFor, mOp, mUn, mC, mVar, mTest, mTru, mAnd, mOr, mNot, mAndV, mOrV, mNotV, mIf, mNil, mCons, mCall, mTup, mLstD, mLst, mChain, mPart, mSl, mMeth, mIsi, sSeq, sNil, sIf, sRet, sRetN, sAsg, sExpr, sPar, sPar3, gN, gT, gsCons, gsNil, gIx, bodyM, retM, List.getElem?_cons_zero, List.getElem?_cons_succ, List.set_cons_zero, List.set_cons_succ, List.map_cons, List.map_nil, List.length_cons, List.length_nil, List.replicate, List.cons_append, List.nil_append, Option.bind_some, Option.map_some, if_true, if_false, reduceIte, Bool.false_eq_true, tyN, datas, iiF, addI, Bool.not_true, Bool.not_false, Nat.zero_add, Nat.reduceAdd, Nat.reduceSub, reduceCtorEq]
    · simp [f_is_part, s_is_part, isiT, isPart, lenF, seqOf, lstOf, neF, pyOf, sh_int, PyData.eqv, truF, wp_some, wp_none, wp_bind, wp_sFor, mOp, mUn, mC, mVar, mTest, mTru, mAnd, mOr, mNot, mAndV, mOrV, mNotV, mIf, mNil, mCons, mCall, mTup, mLstD, mLst, mChain, mPart, mSl, mMeth, mIsi, sSeq, sNil, sIf, sRet, sRetN, sAsg, sExpr, sPar, sPar3, gN, gT, gsCons, gsNil, gIx, bodyM, retM, List.getElem?_cons_zero, List.getElem?_cons_succ, List.set_cons_zero, List.set_cons_succ, List.map_cons, List.map_nil, List.length_cons, List.length_nil, List.replicate, List.cons_append, List.nil_append, Option.bind_some, Option.map_some, if_true, if_false, reduceIte, Bool.false_eq_true, tyN, datas, iiF, addI, Bool.not_true, Bool.not_false, Nat.zero_add, Nat.reduceAdd, Nat.reduceSub, reduceCtorEq]
    · simp [f_is_part, s_is_part, isiT, isPart, lenF, seqOf, lstOf, neF, pyOf, sh_int, PyData.eqv, truF, wp_some, wp_none, wp_bind, wp_sFor, mOp, mUn, mC, mVar, mTest, mTru, mAnd, mOr, mNot, mAndV, mOrV, mNotV, mIf, mNil, mCons, mCall, mTup, mLstD, mLst, mChain, mPart, mSl, mMeth, mIsi, sSeq, sNil, sIf, sRet, sRetN, sAsg, sExpr, sPar, sPar3, gN, gT, gsCons, gsNil, gIx, bodyM, retM, List.getElem?_cons_zero, List.getElem?_cons_succ, List.set_cons_zero, List.set_cons_succ, List.map_cons, List.map_nil, List.length_cons, List.length_nil, List.replicate, List.cons_append, List.nil_append, Option.bind_some, Option.map_some, if_true, if_false, reduceIte, Bool.false_eq_true, tyN, datas, iiF, addI, Bool.not_true, Bool.not_false, Nat.zero_add, Nat.reduceAdd, Nat.reduceSub, reduceCtorEq]
    · simp [f_is_part, s_is_part, isiT, isPart, lenF, seqOf, lstOf, neF, pyOf, sh_int, PyData.eqv, truF, wp_some, wp_none, wp_bind, wp_sFor, mOp, mUn, mC, mVar, mTest, mTru, mAnd, mOr, mNot, mAndV, mOrV, mNotV, mIf, mNil, mCons, mCall, mTup, mLstD, mLst, mChain, mPart, mSl, mMeth, mIsi, sSeq, sNil, sIf, sRet, sRetN, sAsg, sExpr, sPar, sPar3, gN, gT, gsCons, gsNil, gIx, bodyM, retM, List.getElem?_cons_zero, List.getElem?_cons_succ, List.set_cons_zero, List.set_cons_succ, List.map_cons, List.map_nil, List.length_cons, List.length_nil, List.replicate, List.cons_append, List.nil_append, Option.bind_some, Option.map_some, if_true, if_false, reduceIte, Bool.false_eq_true, tyN, datas, iiF, addI, Bool.not_true, Bool.not_false, Nat.zero_add, Nat.reduceAdd, Nat.reduceSub, reduceCtorEq]
    · obtain ⟨ga, h1⟩ := good_cons h1
      obtain ⟨gb, h1⟩ := good_cons h1
      obtain ⟨gc, h1⟩ := good_cons h1
      obtain ⟨gd, h1⟩ := good_cons h1
      have na := fun st => ev_name (x := a) (st := st) (lenOk_of ga)
      have nb := fun st => ev_name (x := b) (st := st) (lenOk_of gb)
      have nc := fun st => ev_house (x := c) (st := st) gc
      have nd := fun st => ev_amount (x := d) (st := st) gd
      cases ha : isName a with
      | false => simp [f_is_part, s_is_part, isiT, isPart, lenF, seqOf, lstOf, neF, pyOf, sh_int, PyData.eqv, getF, isDict, ixF, atI, ixN, na, ha, truF, wp_some, wp_none, wp_bind, wp_sFor, mOp, mUn, mC, mVar, mTest, mTru, mAnd, mOr, mNot, mAndV, mOrV, mNotV, mIf, mNil, mCons, mCall, mTup, mLstD, mLst, mChain, mPart, mSl, mMeth, mIsi, sSeq, sNil, sIf, sRet, sRetN, sAsg, sExpr, sPar, sPar3, gN, gT, gsCons, gsNil, gIx, bodyM, retM, List.getElem?_cons_zero, List.getElem?_cons_succ, List.set_cons_zero, List.set_cons_succ, List.map_cons, List.map_nil, List.length_cons, List.length_nil, List.replicate, List.cons_append, List.nil_append, Option.bind_some, Option.map_some, if_true, if_false, reduceIte, Bool.false_eq_true, tyN, datas, iiF, addI, Bool.not_true, Bool.not_false, Nat.zero_add, Nat.reduceAdd, Nat.reduceSub, reduceCtorEq]
      | true =>
        cases hb : isName b with
        | false => simp [f_is_part, s_is_part, isiT, isPart, lenF, seqOf, lstOf, neF, pyOf, sh_int, PyData.eqv, getF, isDict, ixF, atI, ixN, na, ha, nb, hb, truF, wp_some, wp_none, wp_bind, wp_sFor, mOp, mUn, mC, mVar, mTest, mTru, mAnd, mOr, mNot, mAndV, mOrV, mNotV, mIf, mNil, mCons, mCall, mTup, mLstD, mLst, mChain, mPart, mSl, mMeth, mIsi, sSeq, sNil, sIf, sRet, sRetN, sAsg, sExpr, sPar, sPar3, gN, gT, gsCons, gsNil, gIx, bodyM, retM, List.getElem?_cons_zero, List.getElem?_cons_succ, List.set_cons_zero, List.set_cons_succ, List.map_cons, List.map_nil, List.length_cons, List.length_nil, List.replicate, List.cons_append, List.nil_append, Option.bind_some, Option.map_some, if_true, if_false, reduceIte, Bool.false_eq_true, tyN, datas, iiF, addI, Bool.not_true, Bool.not_false, Nat.zero_add, Nat.reduceAdd, Nat.reduceSub, reduceCtorEq]
        | true =>
          cases hc : isHouse c with
          | false => simp [f_is_part, s_is_part, isiT, isPart, lenF, seqOf, lstOf, neF, pyOf, sh_int, PyData.eqv, getF, isDict, ixF, atI, ixN, na, ha, nb, hb, nc, hc, truF, wp_some, wp_none, wp_bind, wp_sFor, mOp, mUn, mC, mVar, mTest, mTru, mAnd, mOr, mNot, mAndV, mOrV, mNotV, mIf, mNil, mCons, mCall, mTup, mLstD, mLst, mChain, mPart, mSl, mMeth, mIsi, sSeq, sNil, sIf, sRet, sRetN, sAsg, sExpr, sPar, sPar3, gN, gT, gsCons, gsNil, gIx, bodyM, retM, List.getElem?_cons_zero, List.getElem?_cons_succ, List.set_cons_zero, List.set_cons_succ, List.map_cons, List.map_nil, List.length_cons, List.length_nil, List.replicate, List.cons_append, List.nil_append, Option.bind_some, Option.map_some, if_true, if_false, reduceIte, Bool.false_eq_true, tyN, datas, iiF, addI, Bool.not_true, Bool.not_false, Nat.zero_add, Nat.reduceAdd, Nat.reduceSub, reduceCtorEq]
          | true =>
            cases d with
            | int n => by_cases h0 : 0 ≤ n <;> simp [f_is_part, s_is_part, isiT, isPart, lenF, seqOf, lstOf, neF, pyOf, sh_int, PyData.eqv, getF, isDict, ixF, atI, ixN, na, ha, nb, hb, nc, hc, nd, isAmount, posI, gtF, h0, truF, wp_some, wp_none, wp_bind, wp_sFor, mOp, mUn, mC, mVar, mTest, mTru, mAnd, mOr, mNot, mAndV, mOrV, mNotV, mIf, mNil, mCons, mCall, mTup, mLstD, mLst, mChain, mPart, mSl, mMeth, mIsi, sSeq, sNil, sIf, sRet, sRetN, sAsg, sExpr, sPar, sPar3, gN, gT, gsCons, gsNil, gIx, bodyM, retM, List.getElem?_cons_zero, List.getElem?_cons_succ, List.set_cons_zero, List.set_cons_succ, List.map_cons, List.map_nil, List.length_cons, List.length_nil, List.replicate, List.cons_append, List.nil_append, Option.bind_some, Option.map_some, if_true, if_false, reduceIte, Bool.false_eq_true, tyN, datas, iiF, addI, Bool.not_true, Bool.not_false, Nat.zero_add, Nat.reduceAdd, Nat.reduceSub, reduceCtorEq]
            | dict _ => cases gd
            | _ => simp [f_is_part, s_is_part, isiT, isPart, lenF, seqOf, lstOf, neF, pyOf, sh_int, PyData.eqv, getF, isDict, ixF, atI, ixN, na, ha, nb, hb, nc, hc, nd, isAmount, truF, wp_some, wp_none, wp_bind, wp_sFor, mOp, mUn, mC, mVar, mTest, mTru, mAnd, mOr, mNot, mAndV, mOrV, mNotV, mIf, mNil, mCons, mCall, mTup, mLstD, mLst, mChain, mPart, mSl, mMeth, mIsi, sSeq, sNil, sIf, sRet, sRetN, sAsg, sExpr, sPar, sPar3, gN, gT, gsCons, gsNil, gIx, bodyM, retM, List.getElem?_cons_zero, List.getElem?_cons_succ, List.set_cons_zero, List.set_cons_succ, List.map_cons, List.map_nil, List.length_cons, List.length_nil, List.replicate, List.cons_append, List.nil_append, Option.bind_some, Option.map_some, if_true, if_false, reduceIte, Bool.false_eq_true, tyN, datas, iiF, addI, Bool.not_true, Bool.not_false, Nat.zero_add, Nat.reduceAdd, Nat.reduceSub, reduceCtorEq]
    · have e4 : ((r.length : Int) + 1 + 1 + 1 + 1 + 1 == 4) = false := beq_eq_false_iff_ne.mpr (by omega)
      simp [f_is_part, s_is_part, isiT, isPart, lenF, seqOf, lstOf, neF, pyOf, sh_int, PyData.eqv, e4, truF, wp_some, wp_none, wp_bind, wp_sFor, mOp, mUn, mC, mVar, mTest, mTru, mAnd, mOr, mNot, mAndV, mOrV, mNotV, mIf, mNil, mCons, mCall, mTup, mLstD, mLst, mChain, mPart, mSl, mMeth, mIsi, sSeq, sNil, sIf, sRet, sRetN, sAsg, sExpr, sPar, sPar3, gN, gT, gsCons, gsNil, gIx, bodyM, retM, List.getElem?_cons_zero, List.getElem?_cons_succ, List.set_cons_zero, List.set_cons_succ, List.map_cons, List.map_nil, List.length_cons, List.length_nil, List.replicate, List.cons_append, List.nil_append, Option.bind_some, Option.map_some, if_true, if_false, reduceIte, Bool.false_eq_true, tyN, datas, iiF, addI, Bool.not_true, Bool.not_false, Nat.zero_add, Nat.reduceAdd, Nat.reduceSub, reduceCtorEq]
  | _ => simp [f_is_part, s_is_part, isiT, isPart, truF, wp_some, wp_none, wp_bind, wp_sFor, mOp, mUn, mC, mVar, mTest, mTru, mAnd, mOr, mNot, mAndV, mOrV, mNotV, mIf, mNil, mCons, mCall, mTup, mLstD, mLst, mChain, mPart, mSl, mMeth, mIsi, sSeq, sNil, sIf, sRet, sRetN, sAsg, sExpr, sPar, sPar3, gN, gT, gsCons, gsNil, gIx, bodyM, retM, List.getElem?_cons_zero, List.getElem?_cons_succ, List.set_cons_zero, List.set_cons_succ, List.map_cons, List.map_nil, List.length_cons, List.length_nil, List.replicate, List.cons_append, List.nil_append, Option.bind_some, Option.map_some, if_true, if_false, reduceIte, Bool.false_eq_true, tyN, datas, iiF, addI, Bool.not_true, Bool.not_false, Nat.zero_add, Nat.reduceAdd, Nat.reduceSub, reduceCtorEq]
set_option maxHeartbeats 4000000 in
theorem ev_cell0 {x : PyData} {st : Store} (h : good x = true) : ∃ t, f_is_cell [.d x] st = some (.d (.bool (isCell x)), st ++ t) := by
  refine wp_ex ?_
  cases x with
  | dict _ => cases h
  | tuple xs =>
    obtain ⟨h1, h2⟩ := good_tup h
    rcases xs with _ | ⟨a, _ | ⟨b, _ | ⟨c, _ | ⟨d, _ | ⟨e, r⟩⟩⟩⟩⟩
    · simp [f_is_cell, s_is_cell, isiT, isCell, lenF, seqOf, lstOf, neF, pyOf, sh_int, PyData.eqv, truF, wp_some, wp_none, wp_bind, wp_sFor, mOp, mUn, mC, mVar, mTest, mTru, mAnd, mOr, mNot, mAndV, mOrV, mNotV, mIf, mNil, mCons, mCall, mTup, mLstD, mLst, mChain, mPart, mSl, mMeth, mIsi, sSeq, sNil, sIf, sRet, sRetN, sAsg, sExpr, sPar, sPar3, gN, gT, gsCons, gsNil, gIx, bodyM, retM, List.getElem?_cons_zero, List.getElem?_cons_succ, List.set_cons_zero, List.set_cons_succ, List.map_cons, List.map_nil, List.length_cons, List.length_nil, List.replicate, List.cons_append, List.nil_append, Option.bind_some, Option.map_some, if_true, if_false, reduceIte, Bool.false_eq_true, tyN, datas, iiF, addI, Bool.not_true, Bool.not_false, Nat.zero_add, Nat.reduceAdd, Nat.reduceSub, reduceCtorEq]
    · simp [f_is_cell, s_is_cell, isiT, isCell, lenF, seqOf, lstOf, neF, pyOf, sh_int, PyData.eqv, truF, wp_some, wp_none, wp_bind, wp_sFor, mOp, mUn, mC, mVar, mTest, mTru, mAnd, mOr, mNot, mAndV, mOrV, mNotV, mIf, mNil, mCons, mCall, mTup, mLstD, mLst, mChain, mPart, mSl, mMeth, mIsi, sSeq, sNil, sIf, sRet, sRetN, sAsg, sExpr, sPar, sPar3, gN, gT, gsCons, gsNil, gIx, bodyM, retM, List.getElem?_cons_zero, List.getElem?_cons_succ, List.set_cons_zero, List.set_cons_succ, List.map_cons, List.map_nil, List.length_cons, List.length_nil, List.replicate, List.cons_append, List.nil_append, Option.bind_some, Option.map_some, if_true, if_false, reduceIte, Bool.false_eq_true, tyN, datas, iiF, addI, Bool.not_true, Bool.not_false, Nat.zero_add, Nat.reduceAdd, Nat.reduceSub, reduceCtorEq]
    · simp [f_is_cell, s_is_cell, isiT, isCell, lenF, seqOf, lstOf, neF, pyOf, sh_int, PyData.eqv, truF, wp_some, wp_none, wp_bind, wp_sFor, mOp, mUn, mC, mVar, mTest, mTru, mAnd, mOr, mNot, mAndV, mOrV, mNotV, mIf, mNil, mCons, mCall, mTup, mLstD, mLst, mChain, mPart, mSl, mMeth, mIsi, sSeq, sNil, sIf, sRet, sRetN, sAsg, sExpr, sPar, sPar3, gN, gT, gsCons, gsNil, gIx, bodyM, retM, List.getElem?_cons_zero, List.getElem?_cons_succ, List.set_cons_zero, List.set_cons_succ, List.map_cons, List.map_nil, List.length_cons, List.length_nil, List.replicate, List.cons_append, List.nil_append, Option.bind_some, Option.map_some, if_true, if_false, reduceIte, Bool.false_eq_true, tyN, datas, iiF, addI, Bool.not_true, Bool.not_false, Nat.zero_add, Nat.reduceAdd, Nat.reduceSub, reduceCtorEq]
    · simp [f_is_cell, s_is_cell, isiT, isCell, lenF, seqOf, lstOf, neF, pyOf, sh_int, PyData.eqv, truF, wp_some, wp_none, wp_bind, wp_sFor, mOp, mUn, mC, mVar, mTest, mTru, mAnd, mOr, mNot, mAndV, mOrV, mNotV, mIf, mNil, mCons, mCall, mTup, mLstD, mLst, mChain, mPart, mSl, mMeth, mIsi, sSeq, sNil, sIf, sRet, sRetN, sAsg, sExpr, sPar, sPar3, gN, gT, gsCons, gsNil, gIx, bodyM, retM, List.getElem?_cons_zero, List.getElem?_cons_succ, List.set_cons_zero, List.set_cons_succ, List.map_cons, List.map_nil, List.length_cons, List.length_nil, List.replicate, List.cons_append, List.nil_append, Option.bind_some, Option.map_some, if_true, if_false, reduceIte, Bool.false_eq_true, tyN, datas, iiF, addI, Bool.not_true, Bool.not_false, Nat.zero_add, Nat.reduceAdd, Nat.reduceSub, reduceCtorEq]
    · obtain ⟨ga, h1⟩ := good_cons h1
      obtain ⟨gb, h1⟩ := good_cons h1
      obtain ⟨gc, h1⟩ := good_cons h1
      obtain ⟨gd, h1⟩ := good_cons h1
      have na := fun st => ev_house (x := a) (st := st) ga
      have nb := fun st => ev_name (x := b) (st := st) (lenOk_of gb)
      have nc := fun st => ev_key' (x := c) (st := st) gc
      have nd := fun st => ev_number (x := d) (st := st) gd
      cases ha : isHouse a with
      | false => simp [f_is_cell, s_is_cell, isiT, isCell, lenF, seqOf, lstOf, neF, pyOf, sh_int, PyData.eqv, getF, isDict, ixF, atI, ixN, na, ha, truF, wp_some, wp_none, wp_bind, wp_sFor, mOp, mUn, mC, mVar, mTest, mTru, mAnd, mOr, mNot, mAndV, mOrV, mNotV, mIf, mNil, mCons, mCall, mTup, mLstD, mLst, mChain, mPart, mSl, mMeth, mIsi, sSeq, sNil, sIf, sRet, sRetN, sAsg, sExpr, sPar, sPar3, gN, gT, gsCons, gsNil, gIx, bodyM, retM, List.getElem?_cons_zero, List.getElem?_cons_succ, List.set_cons_zero, List.set_cons_succ, List.map_cons, List.map_nil, List.length_cons, List.length_nil, List.replicate, List.cons_append, List.nil_append, Option.bind_some, Option.map_some, if_true, if_false, reduceIte, Bool.false_eq_true, tyN, datas, iiF, addI, Bool.not_true, Bool.not_false, Nat.zero_add, Nat.reduceAdd, Nat.reduceSub, reduceCtorEq]
      | true =>
        cases hb : isName b with
        | false => simp [f_is_cell, s_is_cell, isiT, isCell, lenF, seqOf, lstOf, neF, pyOf, sh_int, PyData.eqv, getF, isDict, ixF, atI, ixN, na, ha, nb, hb, truF, wp_some, wp_none, wp_bind, wp_sFor, mOp, mUn, mC, mVar, mTest, mTru, mAnd, mOr, mNot, mAndV, mOrV, mNotV, mIf, mNil, mCons, mCall, mTup, mLstD, mLst, mChain, mPart, mSl, mMeth, mIsi, sSeq, sNil, sIf, sRet, sRetN, sAsg, sExpr, sPar, sPar3, gN, gT, gsCons, gsNil, gIx, bodyM, retM, List.getElem?_cons_zero, List.getElem?_cons_succ, List.set_cons_zero, List.set_cons_succ, List.map_cons, List.map_nil, List.length_cons, List.length_nil, List.replicate, List.cons_append, List.nil_append, Option.bind_some, Option.map_some, if_true, if_false, reduceIte, Bool.false_eq_true, tyN, datas, iiF, addI, Bool.not_true, Bool.not_false, Nat.zero_add, Nat.reduceAdd, Nat.reduceSub, reduceCtorEq]
        | true =>
          cases hc : isKey c with
          | false => simp [f_is_cell, s_is_cell, isiT, isCell, lenF, seqOf, lstOf, neF, pyOf, sh_int, PyData.eqv, getF, isDict, ixF, atI, ixN, na, ha, nb, hb, nc, hc, truF, wp_some, wp_none, wp_bind, wp_sFor, mOp, mUn, mC, mVar, mTest, mTru, mAnd, mOr, mNot, mAndV, mOrV, mNotV, mIf, mNil, mCons, mCall, mTup, mLstD, mLst, mChain, mPart, mSl, mMeth, mIsi, sSeq, sNil, sIf, sRet, sRetN, sAsg, sExpr, sPar, sPar3, gN, gT, gsCons, gsNil, gIx, bodyM, retM, List.getElem?_cons_zero, List.getElem?_cons_succ, List.set_cons_zero, List.set_cons_succ, List.map_cons, List.map_nil, List.length_cons, List.length_nil, List.replicate, List.cons_append, List.nil_append, Option.bind_some, Option.map_some, if_true, if_false, reduceIte, Bool.false_eq_true, tyN, datas, iiF, addI, Bool.not_true, Bool.not_false, Nat.zero_add, Nat.reduceAdd, Nat.reduceSub, reduceCtorEq]
          | true =>
            cases d with
            | int n => cases h0 : isNumber (.int n) <;> cases h2 : (n == (0 : Int)) <;> simp [f_is_cell, s_is_cell, isiT, isCell, lenF, seqOf, lstOf, neF, pyOf, sh_int, PyData.eqv, getF, isDict, ixF, atI, ixN, na, ha, nb, hb, nc, hc, nd, nzI, h0, h2, truF, wp_some, wp_none, wp_bind, wp_sFor, mOp, mUn, mC, mVar, mTest, mTru, mAnd, mOr, mNot, mAndV, mOrV, mNotV, mIf, mNil, mCons, mCall, mTup, mLstD, mLst, mChain, mPart, mSl, mMeth, mIsi, sSeq, sNil, sIf, sRet, sRetN, sAsg, sExpr, sPar, sPar3, gN, gT, gsCons, gsNil, gIx, bodyM, retM, List.getElem?_cons_zero, List.getElem?_cons_succ, List.set_cons_zero, List.set_cons_succ, List.map_cons, List.map_nil, List.length_cons, List.length_nil, List.replicate, List.cons_append, List.nil_append, Option.bind_some, Option.map_some, if_true, if_false, reduceIte, Bool.false_eq_true, tyN, datas, iiF, addI, Bool.not_true, Bool.not_false, Nat.zero_add, Nat.reduceAdd, Nat.reduceSub, reduceCtorEq]
            | dict _ => cases gd
            | _ => simp [f_is_cell, s_is_cell, isiT, isCell, lenF, seqOf, lstOf, neF, pyOf, sh_int, PyData.eqv, getF, isDict, ixF, atI, ixN, na, ha, nb, hb, nc, hc, nd, isNumber, truF, wp_some, wp_none, wp_bind, wp_sFor, mOp, mUn, mC, mVar, mTest, mTru, mAnd, mOr, mNot, mAndV, mOrV, mNotV, mIf, mNil, mCons, mCall, mTup, mLstD, mLst, mChain, mPart, mSl, mMeth, mIsi, sSeq, sNil, sIf, sRet, sRetN, sAsg, sExpr, sPar, sPar3, gN, gT, gsCons, gsNil, gIx, bodyM, retM, List.getElem?_cons_zero, List.getElem?_cons_succ, List.set_cons_zero, List.set_cons_succ, List.map_cons, List.map_nil, List.length_cons, List.length_nil, List.replicate, List.cons_append, List.nil_append, Option.bind_some, Option.map_some, if_true, if_false, reduceIte, Bool.false_eq_true, tyN, datas, iiF, addI, Bool.not_true, Bool.not_false, Nat.zero_add, Nat.reduceAdd, Nat.reduceSub, reduceCtorEq]
    · have e4 : ((r.length : Int) + 1 + 1 + 1 + 1 + 1 == 4) = false := beq_eq_false_iff_ne.mpr (by omega)
      simp [f_is_cell, s_is_cell, isiT, isCell, lenF, seqOf, lstOf, neF, pyOf, sh_int, PyData.eqv, e4, truF, wp_some, wp_none, wp_bind, wp_sFor, mOp, mUn, mC, mVar, mTest, mTru, mAnd, mOr, mNot, mAndV, mOrV, mNotV, mIf, mNil, mCons, mCall, mTup, mLstD, mLst, mChain, mPart, mSl, mMeth, mIsi, sSeq, sNil, sIf, sRet, sRetN, sAsg, sExpr, sPar, sPar3, gN, gT, gsCons, gsNil, gIx, bodyM, retM, List.getElem?_cons_zero, List.getElem?_cons_succ, List.set_cons_zero, List.set_cons_succ, List.map_cons, List.map_nil, List.length_cons, List.length_nil, List.replicate, List.cons_append, List.nil_append, Option.bind_some, Option.map_some, if_true, if_false, reduceIte, Bool.false_eq_true, tyN, datas, iiF, addI, Bool.not_true, Bool.not_false, Nat.zero_add, Nat.reduceAdd, Nat.reduceSub, reduceCtorEq]
  | _ => simp [f_is_cell, s_is_cell, isiT, isCell, truF, wp_some, wp_none, wp_bind, wp_sFor, mOp, mUn, mC, mVar, mTest, mTru, mAnd, mOr, mNot, mAndV, mOrV, mNotV, mIf, mNil, mCons, mCall, mTup, mLstD, mLst, mChain, mPart, mSl, mMeth, mIsi, sSeq, sNil, sIf, sRet, sRetN, sAsg, sExpr, sPar, sPar3, gN, gT, gsCons, gsNil, gIx, bodyM, retM, List.getElem?_cons_zero, List.getElem?_cons_succ, List.set_cons_zero, List.set_cons_succ, List.map_cons, List.map_nil, List.length_cons, List.length_nil, List.replicate, List.cons_append, List.nil_append, Option.bind_some, Option.map_some, if_true, if_false, reduceIte, Bool.false_eq_true, tyN, datas, iiF, addI, Bool.not_true, Bool.not_false, Nat.zero_add, Nat.reduceAdd, Nat.reduceSub, reduceCtorEq]
end K34

set_option Elab.async false
set_option linter.all false
set_option maxRecDepth 100000
set_option autoImplicit false
namespace K34
open PySem PySem.Spec PyProof.Rows L2 PM
open Classical

theorem ev_part {x : PyData} {st : Store} (h : good x = true) : f_is_part [.d x] st = some (.d (.bool (isPart x)), st ++ J f_is_part [.d x] st) := jof (ev_part0 h)
theorem ev_cell {x : PyData} {st : Store} (h : good x = true) : f_is_cell [.d x] st = some (.d (.bool (isCell x)), st ++ J f_is_cell [.d x] st) := jof (ev_cell0 h)
/-! ### rise -/
theorem cut3 {α : Type} (xs : List α) : PM.cutD xs none (some 3) = xs.take 3 := by
  unfold PM.cutD
  rw [show HT.sIx xs.length 0 none = 0 from rfl, show HT.sIx xs.length xs.length (some 3) = min 3 xs.length from HT.sIx_nat xs.length xs.length 3, List.drop_zero, Nat.sub_zero]
  rcases Nat.le_total 3 xs.length with h | h
  · rw [Nat.min_eq_left h]
  · rw [Nat.min_eq_right h, List.take_length, List.take_of_length_le h]
theorem cut2 {α : Type} (xs : List α) : PM.cutD xs none (some 2) = xs.take 2 := by
  unfold PM.cutD
  rw [show HT.sIx xs.length 0 none = 0 from rfl, show HT.sIx xs.length xs.length (some 2) = min 2 xs.length from HT.sIx_nat xs.length xs.length 2, List.drop_zero, Nat.sub_zero]
  rcases Nat.le_total 2 xs.length with h | h
  · rw [Nat.min_eq_left h]
  · rw [Nat.min_eq_right h, List.take_length, List.take_of_length_le h]
theorem ev_ix {ds : List PyData} {i : Nat} {j : Int} {d : PyData} {st : Store} (e : j = (i : Int)) (h : ds[i]? = some d) : getF (.d (.tuple ds)) (.d (.int j)) st = some (.d d, st) := by
  subst e
  have hl : i < ds.length := (List.getElem?_eq_some_iff.mp h).1
  unfold getF
  rw [show isDict st (.d (.tuple ds)) = false from rfl, if_neg Bool.false_ne_true]
  show ((some (ds.map D.d)).bind fun xs => (atI xs (i : Int)).map fun x => (x, st)) = _
  rw [Option.bind_some]
  unfold atI ixN
  rw [if_pos (Int.natCast_nonneg i), if_pos (by rw [List.length_map]; omega)]
  simp only [Option.bind_some, Int.toNat_natCast, List.getElem?_map, h, Option.map_some]
theorem ev_sl3 {xs : List PyData} {st : Store} : slF (.d (.tuple xs)) none (some 3) st = some (.d (.tuple (xs.take 3)), st) := by
  show some (D.d (.tuple (PM.cutD xs none (some 3))), st) = _
  rw [cut3]
theorem ev_sl2 {xs : List PyData} {st : Store} : slF (.d (.tuple xs)) none (some 2) st = some (.d (.tuple (xs.take 2)), st) := by
  show some (D.d (.tuple (PM.cutD xs none (some 2))), st) = _
  rw [cut2]
def k3 (ds : List PyData) (i : Nat) : List PyData := match ds[i]? with
  | some (.tuple xs) => xs.take 3
  | _ => []
def riseB (ds : List PyData) : Bool := (List.range (ds.length - 1)).all fun i => !geT (k3 ds i) (k3 ds (i + 1))
theorem ev_rise0 {ds : List PyData} {st : Store} (hz : ds.length ≤ 900) (h : ∀ i, i + 1 < ds.length → ∃ xs ys, ds[i]? = some (.tuple xs) ∧ ds[i + 1]? = some (.tuple ys) ∧ geOk (xs.take 3) (ys.take 3) = true) : ∃ t, f_rise [.d (.tuple ds)] st = some (.d (.bool (riseB ds)), st ++ t) := by
  refine wp_ex ?_
  simp only [f_rise, s_rise, truF, wp_some, wp_none, wp_bind, wp_sFor, mOp, mUn, mC, mVar, mTest, mTru, mAnd, mOr, mNot, mAndV, mOrV, mNotV, mIf, mNil, mCons, mCall, mTup, mLstD, mLst, mChain, mPart, mSl, mMeth, mIsi, sSeq, sNil, sIf, sRet, sRetN, sAsg, sExpr, sPar, sPar3, gN, gT, gsCons, gsNil, gIx, bodyM, retM, List.getElem?_cons_zero, List.getElem?_cons_succ, List.set_cons_zero, List.set_cons_succ, List.map_cons, List.map_nil, List.length_cons, List.length_nil, List.replicate, List.cons_append, List.nil_append, Option.bind_some, Option.map_some, if_true, if_false, reduceIte, Bool.false_eq_true, tyN, datas, iiF, addI, Bool.not_true, Bool.not_false, Nat.zero_add, Nat.reduceAdd, Nat.reduceSub, reduceCtorEq]
  refine wp_map (fun i : Nat => D.d (.int (0 + (i : Nat)))) (fun i => D.d (.bool (geT (k3 ds i) (k3 ds (i + 1))))) (List.range (ds.length - 1)) (s0 := st) (g := none) ?_ holds_none (by rw [List.length_range]; exact small _ (by omega)) (fun s hs i hi => ?_) fun t => ?_
  · have e1 : small62 ((ds.length : Int) - 1) = true := decide_eq_true ⟨by omega, by omega⟩
    have e2 : ((ds.length : Int) - 1).toNat = ds.length - 1 := by omega
    simp [mRange, lenF, seqOf, lstOf, subF, e1, e2, rint, truF, wp_some, wp_none, wp_bind, wp_sFor, mOp, mUn, mC, mVar, mTest, mTru, mAnd, mOr, mNot, mAndV, mOrV, mNotV, mIf, mNil, mCons, mCall, mTup, mLstD, mLst, mChain, mPart, mSl, mMeth, mIsi, sSeq, sNil, sIf, sRet, sRetN, sAsg, sExpr, sPar, sPar3, gN, gT, gsCons, gsNil, gIx, bodyM, retM, List.getElem?_cons_zero, List.getElem?_cons_succ, List.set_cons_zero, List.set_cons_succ, List.map_cons, List.map_nil, List.length_cons, List.length_nil, List.replicate, List.cons_append, List.nil_append, Option.bind_some, Option.map_some, if_true, if_false, reduceIte, Bool.false_eq_true, tyN, datas, iiF, addI, Bool.not_true, Bool.not_false, Nat.zero_add, Nat.reduceAdd, Nat.reduceSub, reduceCtorEq]
  · have hi := List.mem_range.mp hi
    obtain ⟨xs, ys, h1, h2, h3⟩ := h i (by omega)
    have g1 : ∀ st : Store, getF (.d (.tuple ds)) (.d (.int (0 + (i : Nat)))) st = some (.d (.tuple xs), st) := fun st => ev_ix (i := i) (by omega) h1
    have g2 : ∀ st : Store, getF (.d (.tuple ds)) (.d (.int (0 + (i : Nat) + 1))) st = some (.d (.tuple ys), st) := fun st => ev_ix (i := i + 1) (by omega) h2
    have k1 : k3 ds i = xs.take 3 := by unfold k3; rw [h1]
    have k2 : k3 ds (i + 1) = ys.take 3 := by unfold k3; rw [h2]
    simp only [mYes, wipeE, addF, g1, g2, ev_sl3, geF, h3, k1, k2, truF, wp_some, wp_none, wp_bind, wp_sFor, mOp, mUn, mC, mVar, mTest, mTru, mAnd, mOr, mNot, mAndV, mOrV, mNotV, mIf, mNil, mCons, mCall, mTup, mLstD, mLst, mChain, mPart, mSl, mMeth, mIsi, sSeq, sNil, sIf, sRet, sRetN, sAsg, sExpr, sPar, sPar3, gN, gT, gsCons, gsNil, gIx, bodyM, retM, List.getElem?_cons_zero, List.getElem?_cons_succ, List.set_cons_zero, List.set_cons_succ, List.map_cons, List.map_nil, List.length_cons, List.length_nil, List.replicate, List.cons_append, List.nil_append, Option.bind_some, Option.map_some, if_true, if_false, reduceIte, Bool.false_eq_true, tyN, datas, iiF, addI, Bool.not_true, Bool.not_false, Nat.zero_add, Nat.reduceAdd, Nat.reduceSub, reduceCtorEq]
    exact ⟨List.prefix_refl _, trivial⟩
  · refine wp_of (ev_flag (bs := (List.range (ds.length - 1)).map fun i => geT (k3 ds i) (k3 ds (i + 1))) (by rw [get_mid, flags, List.map_map]; rfl)) ?_
    rw [contains_t]
    simp only [wp_some, retM, if_true, Bool.not_not]
    exact ⟨rfl, pre_app⟩
theorem ev_rise {ds : List PyData} {st : Store} (hz : ds.length ≤ 900) (h : ∀ i, i + 1 < ds.length → ∃ xs ys, ds[i]? = some (.tuple xs) ∧ ds[i + 1]? = some (.tuple ys) ∧ geOk (xs.take 3) (ys.take 3) = true) : f_rise [.d (.tuple ds)] st = some (.d (.bool (riseB ds)), st ++ J f_rise [.d (.tuple ds)] st) := jof (ev_rise0 hz h)
/-! ### books -/
theorem name_str {x : PyData} (h : isName x = true) : ∃ z, x = .str z := by
  cases x with
  | str z => exact ⟨z, rfl⟩
  | _ => cases h
theorem key_str {x : PyData} (h : isKey x = true) : ∃ z, x = .str z := by
  cases x with
  | str z => exact ⟨z, rfl⟩
  | _ => cases h
theorem house_int {x : PyData} (h : isHouse x = true) : ∃ z, x = .int z := by
  cases x with
  | int z => exact ⟨z, rfl⟩
  | _ => cases h
theorem part_shape {x : PyData} (h : isPart x = true) : ∃ a b c d, x = .tuple [.str a, .str b, .int c, d] := by
  unfold isPart at h
  split at h
  · simp only [Bool.and_eq_true] at h
    obtain ⟨h1, h2, h3, h4, h5⟩ := h
    obtain ⟨a, rfl⟩ := name_str h1
    obtain ⟨b, rfl⟩ := name_str h2
    obtain ⟨c, rfl⟩ := house_int h3
    exact ⟨a, b, c, _, rfl⟩
  · cases h
theorem cell_shape {x : PyData} (h : isCell x = true) : ∃ a b c d, x = .tuple [.int a, .str b, .str c, d] := by
  unfold isCell at h
  split at h
  · simp only [Bool.and_eq_true] at h
    obtain ⟨h1, h2, h3, h4, h5⟩ := h
    obtain ⟨a, rfl⟩ := house_int h1
    obtain ⟨b, rfl⟩ := name_str h2
    obtain ⟨c, rfl⟩ := key_str h3
    exact ⟨a, b, c, _, rfl⟩
  · cases h
theorem rise_part {ds : List PyData} (h : ds.all isPart = true) : ∀ i, i + 1 < ds.length → ∃ xs ys, ds[i]? = some (.tuple xs) ∧ ds[i + 1]? = some (.tuple ys) ∧ geOk (xs.take 3) (ys.take 3) = true := fun i hi => by
  rw [List.all_eq_true] at h
  obtain ⟨a, b, c, d, e1⟩ := part_shape (h _ (List.getElem_mem (show i < ds.length by omega)))
  obtain ⟨a', b', c', d', e2⟩ := part_shape (h _ (List.getElem_mem hi))
  exact ⟨_, _, by rw [List.getElem?_eq_getElem (by omega), e1], by rw [List.getElem?_eq_getElem hi, e2], rfl⟩
theorem rise_cell {ds : List PyData} (h : ds.all isCell = true) : ∀ i, i + 1 < ds.length → ∃ xs ys, ds[i]? = some (.tuple xs) ∧ ds[i + 1]? = some (.tuple ys) ∧ geOk (xs.take 3) (ys.take 3) = true := fun i hi => by
  rw [List.all_eq_true] at h
  obtain ⟨a, b, c, d, e1⟩ := cell_shape (h _ (List.getElem_mem (show i < ds.length by omega)))
  obtain ⟨a', b', c', d', e2⟩ := cell_shape (h _ (List.getElem_mem hi))
  exact ⟨_, _, by rw [List.getElem?_eq_getElem (by omega), e1], by rw [List.getElem?_eq_getElem hi, e2], rfl⟩
def isBook : PyData → Bool
  | .tuple [.str z, .tuple ps, .tuple cs] => (z == ("book" : Str)) && (ps.all isPart && (cs.all isCell && (riseB ps && riseB cs)))
  | _ => false
theorem sh_book : SeqAt.shaped (.str ("book" : Str)) = true := by decide +kernel
theorem told3 {x : PyData} (h : isTold x ("book" : Str) 3 = true) : ∃ b c, x = .tuple [.str ("book" : Str), b, c] := by
  unfold isTold at h
  split at h
  · rename_i z r
    rw [Bool.and_eq_true, beq_iff_eq, beq_iff_eq] at h
    obtain ⟨h1, rfl⟩ := h
    rcases r with _ | ⟨b, _ | ⟨c, _ | ⟨d, r⟩⟩⟩
    · simp at h1
    · simp at h1
    · exact ⟨b, c, rfl⟩
    · simp only [List.length_cons] at h1
      omega
  · cases h
theorem told3_of {b c : PyData} : isTold (.tuple [.str ("book" : Str), b, c]) ("book" : Str) 3 = true := by
  unfold isTold
  simp
set_option maxHeartbeats 4000000 in
theorem ev_book0 {x : PyData} {st : Store} (h : good x = true) : ∃ t, f_is_book [.d x] st = some (.d (.bool (isBook x)), st ++ t) := by
  refine wp_ex ?_
  have ht := fun st => ev_told (x := x) (w := ("book" : Str)) (c := 3) (st := st) h (by decide) sh_book
  cases e : isTold x ("book" : Str) 3 with
  | false =>
    have e2 : isBook x = false := by
      unfold isBook
      split
      · rename_i z ps cs
        cases q : (z == ("book" : Str)) with
        | false => rfl
        | true =>
          rw [beq_iff_eq] at q
          subst q
          rw [told3_of] at e
          cases e
      · rfl
    simp [f_is_book, s_is_book, ht, e, e2, truF, wp_some, wp_none, wp_bind, wp_sFor, mOp, mUn, mC, mVar, mTest, mTru, mAnd, mOr, mNot, mAndV, mOrV, mNotV, mIf, mNil, mCons, mCall, mTup, mLstD, mLst, mChain, mPart, mSl, mMeth, mIsi, sSeq, sNil, sIf, sRet, sRetN, sAsg, sExpr, sPar, sPar3, gN, gT, gsCons, gsNil, gIx, bodyM, retM, List.getElem?_cons_zero, List.getElem?_cons_succ, List.set_cons_zero, List.set_cons_succ, List.map_cons, List.map_nil, List.length_cons, List.length_nil, List.replicate, List.cons_append, List.nil_append, Option.bind_some, Option.map_some, if_true, if_false, reduceIte, Bool.false_eq_true, tyN, datas, iiF, addI, Bool.not_true, Bool.not_false, Nat.zero_add, Nat.reduceAdd, Nat.reduceSub, reduceCtorEq]
  | true =>
    obtain ⟨b, c, rfl⟩ := told3 e
    obtain ⟨h1, _⟩ := good_tup h
    obtain ⟨_, h1⟩ := good_cons h1
    obtain ⟨gb, h1⟩ := good_cons h1
    obtain ⟨gc, _⟩ := good_cons h1
    have i1 : ∀ st : Store, getF (.d (.tuple [.str ("book" : Str), b, c])) (.d (.int 1)) st = some (.d b, st) := fun st => ev_ix (i := 1) rfl rfl
    have i2 : ∀ st : Store, getF (.d (.tuple [.str ("book" : Str), b, c])) (.d (.int 2)) st = some (.d c, st) := fun st => ev_ix (i := 2) rfl rfl
    cases b with
    | dict _ => cases gb
    | tuple ps =>
      obtain ⟨gp, zp⟩ := good_tup gb
      cases c with
      | dict _ => cases gc
      | tuple cs =>
        obtain ⟨gq, zq⟩ := good_tup gc
        have eb : isBook (.tuple [.str ("book" : Str), .tuple ps, .tuple cs]) = (ps.all isPart && (cs.all isCell && (riseB ps && riseB cs))) := by
          unfold isBook
          dsimp only
          rw [beq_self_eq_true, Bool.true_and]
        simp [f_is_book, s_is_book, ht, e, i1, i2, isiT, truF, wp_some, wp_none, wp_bind, wp_sFor, mOp, mUn, mC, mVar, mTest, mTru, mAnd, mOr, mNot, mAndV, mOrV, mNotV, mIf, mNil, mCons, mCall, mTup, mLstD, mLst, mChain, mPart, mSl, mMeth, mIsi, sSeq, sNil, sIf, sRet, sRetN, sAsg, sExpr, sPar, sPar3, gN, gT, gsCons, gsNil, gIx, bodyM, retM, List.getElem?_cons_zero, List.getElem?_cons_succ, List.set_cons_zero, List.set_cons_succ, List.map_cons, List.map_nil, List.length_cons, List.length_nil, List.replicate, List.cons_append, List.nil_append, Option.bind_some, Option.map_some, if_true, if_false, reduceIte, Bool.false_eq_true, tyN, datas, iiF, addI, Bool.not_true, Bool.not_false, Nat.zero_add, Nat.reduceAdd, Nat.reduceSub, reduceCtorEq]
        refine wp_map (fun p : PyData => D.d p) (fun p => D.d (.bool (isPart p))) ps (g := none) (s0 := st) ?_ holds_none (small _ (by omega)) (fun s hs p hp => ?_) fun t => ?_
        · simp [mAny, i1, truF, wp_some, wp_none, wp_bind, wp_sFor, mOp, mUn, mC, mVar, mTest, mTru, mAnd, mOr, mNot, mAndV, mOrV, mNotV, mIf, mNil, mCons, mCall, mTup, mLstD, mLst, mChain, mPart, mSl, mMeth, mIsi, sSeq, sNil, sIf, sRet, sRetN, sAsg, sExpr, sPar, sPar3, gN, gT, gsCons, gsNil, gIx, bodyM, retM, List.getElem?_cons_zero, List.getElem?_cons_succ, List.set_cons_zero, List.set_cons_succ, List.map_cons, List.map_nil, List.length_cons, List.length_nil, List.replicate, List.cons_append, List.nil_append, Option.bind_some, Option.map_some, if_true, if_false, reduceIte, Bool.false_eq_true, tyN, datas, iiF, addI, Bool.not_true, Bool.not_false, Nat.zero_add, Nat.reduceAdd, Nat.reduceSub, reduceCtorEq]
        · have := ev_part (x := p) (st := s) (good_mem gp p hp)
          simp [mYes, wipeE, this, truF, wp_some, wp_none, wp_bind, wp_sFor, mOp, mUn, mC, mVar, mTest, mTru, mAnd, mOr, mNot, mAndV, mOrV, mNotV, mIf, mNil, mCons, mCall, mTup, mLstD, mLst, mChain, mPart, mSl, mMeth, mIsi, sSeq, sNil, sIf, sRet, sRetN, sAsg, sExpr, sPar, sPar3, gN, gT, gsCons, gsNil, gIx, bodyM, retM, List.getElem?_cons_zero, List.getElem?_cons_succ, List.set_cons_zero, List.set_cons_succ, List.map_cons, List.map_nil, List.length_cons, List.length_nil, List.replicate, List.cons_append, List.nil_append, Option.bind_some, Option.map_some, if_true, if_false, reduceIte, Bool.false_eq_true, tyN, datas, iiF, addI, Bool.not_true, Bool.not_false, Nat.zero_add, Nat.reduceAdd, Nat.reduceSub, reduceCtorEq]
        · have fl := ev_flag (neg := false) (v := false) (n := st.length) (st := st ++ Cell.lst (List.map (fun p => D.d (.bool (isPart p))) ps) :: t) (bs := ps.map isPart) (by rw [get_mid, flags, List.map_map]; rfl)
          have hp : st <+: st ++ Cell.lst (List.map (fun p => D.d (.bool (isPart p))) ps) :: t := pre_app
          generalize st ++ Cell.lst (List.map (fun p => D.d (.bool (isPart p))) ps) :: t = s1 at fl hp ⊢
          rw [if_neg Bool.false_ne_true, contains_f] at fl
          cases hA : ps.all isPart with
          | false =>
            rw [hA] at fl eb
            simp [fl, eb, hp, truF, wp_some, wp_none, wp_bind, wp_sFor, mOp, mUn, mC, mVar, mTest, mTru, mAnd, mOr, mNot, mAndV, mOrV, mNotV, mIf, mNil, mCons, mCall, mTup, mLstD, mLst, mChain, mPart, mSl, mMeth, mIsi, sSeq, sNil, sIf, sRet, sRetN, sAsg, sExpr, sPar, sPar3, gN, gT, gsCons, gsNil, gIx, bodyM, retM, List.getElem?_cons_zero, List.getElem?_cons_succ, List.set_cons_zero, List.set_cons_succ, List.map_cons, List.map_nil, List.length_cons, List.length_nil, List.replicate, List.cons_append, List.nil_append, Option.bind_some, Option.map_some, if_true, if_false, reduceIte, Bool.false_eq_true, tyN, datas, iiF, addI, Bool.not_true, Bool.not_false, Nat.zero_add, Nat.reduceAdd, Nat.reduceSub, reduceCtorEq]
          | true =>
            rw [hA] at fl eb
            simp [fl, truF, wp_some, wp_none, wp_bind, wp_sFor, mOp, mUn, mC, mVar, mTest, mTru, mAnd, mOr, mNot, mAndV, mOrV, mNotV, mIf, mNil, mCons, mCall, mTup, mLstD, mLst, mChain, mPart, mSl, mMeth, mIsi, sSeq, sNil, sIf, sRet, sRetN, sAsg, sExpr, sPar, sPar3, gN, gT, gsCons, gsNil, gIx, bodyM, retM, List.getElem?_cons_zero, List.getElem?_cons_succ, List.set_cons_zero, List.set_cons_succ, List.map_cons, List.map_nil, List.length_cons, List.length_nil, List.replicate, List.cons_append, List.nil_append, Option.bind_some, Option.map_some, if_true, if_false, reduceIte, Bool.false_eq_true, tyN, datas, iiF, addI, Bool.not_true, Bool.not_false, Nat.zero_add, Nat.reduceAdd, Nat.reduceSub, reduceCtorEq]
            refine wp_map (fun p : PyData => D.d p) (fun p => D.d (.bool (isCell p))) cs (g := none) (s0 := s1) ?_ holds_none (small _ (by omega)) (fun s hs p hp => ?_) fun t => ?_
            · simp [mAny, i2, truF, wp_some, wp_none, wp_bind, wp_sFor, mOp, mUn, mC, mVar, mTest, mTru, mAnd, mOr, mNot, mAndV, mOrV, mNotV, mIf, mNil, mCons, mCall, mTup, mLstD, mLst, mChain, mPart, mSl, mMeth, mIsi, sSeq, sNil, sIf, sRet, sRetN, sAsg, sExpr, sPar, sPar3, gN, gT, gsCons, gsNil, gIx, bodyM, retM, List.getElem?_cons_zero, List.getElem?_cons_succ, List.set_cons_zero, List.set_cons_succ, List.map_cons, List.map_nil, List.length_cons, List.length_nil, List.replicate, List.cons_append, List.nil_append, Option.bind_some, Option.map_some, if_true, if_false, reduceIte, Bool.false_eq_true, tyN, datas, iiF, addI, Bool.not_true, Bool.not_false, Nat.zero_add, Nat.reduceAdd, Nat.reduceSub, reduceCtorEq]
            · have := ev_cell (x := p) (st := s) (good_mem gq p hp)
              simp [mYes, wipeE, this, truF, wp_some, wp_none, wp_bind, wp_sFor, mOp, mUn, mC, mVar, mTest, mTru, mAnd, mOr, mNot, mAndV, mOrV, mNotV, mIf, mNil, mCons, mCall, mTup, mLstD, mLst, mChain, mPart, mSl, mMeth, mIsi, sSeq, sNil, sIf, sRet, sRetN, sAsg, sExpr, sPar, sPar3, gN, gT, gsCons, gsNil, gIx, bodyM, retM, List.getElem?_cons_zero, List.getElem?_cons_succ, List.set_cons_zero, List.set_cons_succ, List.map_cons, List.map_nil, List.length_cons, List.length_nil, List.replicate, List.cons_append, List.nil_append, Option.bind_some, Option.map_some, if_true, if_false, reduceIte, Bool.false_eq_true, tyN, datas, iiF, addI, Bool.not_true, Bool.not_false, Nat.zero_add, Nat.reduceAdd, Nat.reduceSub, reduceCtorEq]
            · have fl2 := ev_flag (neg := false) (v := false) (n := s1.length) (st := s1 ++ Cell.lst (List.map (fun p => D.d (.bool (isCell p))) cs) :: t) (bs := cs.map isCell) (by rw [get_mid, flags, List.map_map]; rfl)
              have hp2 : st <+: s1 ++ Cell.lst (List.map (fun p => D.d (.bool (isCell p))) cs) :: t := hp.trans pre_app
              generalize s1 ++ Cell.lst (List.map (fun p => D.d (.bool (isCell p))) cs) :: t = s2 at fl2 hp2 ⊢
              rw [if_neg Bool.false_ne_true, contains_f] at fl2
              cases hB : cs.all isCell with
              | false =>
                rw [hB] at fl2 eb
                simp [fl2, eb, hp2, truF, wp_some, wp_none, wp_bind, wp_sFor, mOp, mUn, mC, mVar, mTest, mTru, mAnd, mOr, mNot, mAndV, mOrV, mNotV, mIf, mNil, mCons, mCall, mTup, mLstD, mLst, mChain, mPart, mSl, mMeth, mIsi, sSeq, sNil, sIf, sRet, sRetN, sAsg, sExpr, sPar, sPar3, gN, gT, gsCons, gsNil, gIx, bodyM, retM, List.getElem?_cons_zero, List.getElem?_cons_succ, List.set_cons_zero, List.set_cons_succ, List.map_cons, List.map_nil, List.length_cons, List.length_nil, List.replicate, List.cons_append, List.nil_append, Option.bind_some, Option.map_some, if_true, if_false, reduceIte, Bool.false_eq_true, tyN, datas, iiF, addI, Bool.not_true, Bool.not_false, Nat.zero_add, Nat.reduceAdd, Nat.reduceSub, reduceCtorEq]
              | true =>
                rw [hB] at fl2 eb
                have r1 := fun st => ev_rise (st := st) zp (rise_part hA)
                have r2 := fun st => ev_rise (st := st) zq (rise_cell hB)
                cases hR : riseB ps with
                | false =>
                  rw [hR] at eb
                  simp [fl2, i1, i2, r1, hR, eb, hp2.trans pre_app, truF, wp_some, wp_none, wp_bind, wp_sFor, mOp, mUn, mC, mVar, mTest, mTru, mAnd, mOr, mNot, mAndV, mOrV, mNotV, mIf, mNil, mCons, mCall, mTup, mLstD, mLst, mChain, mPart, mSl, mMeth, mIsi, sSeq, sNil, sIf, sRet, sRetN, sAsg, sExpr, sPar, sPar3, gN, gT, gsCons, gsNil, gIx, bodyM, retM, List.getElem?_cons_zero, List.getElem?_cons_succ, List.set_cons_zero, List.set_cons_succ, List.map_cons, List.map_nil, List.length_cons, List.length_nil, List.replicate, List.cons_append, List.nil_append, Option.bind_some, Option.map_some, if_true, if_false, reduceIte, Bool.false_eq_true, tyN, datas, iiF, addI, Bool.not_true, Bool.not_false, Nat.zero_add, Nat.reduceAdd, Nat.reduceSub, reduceCtorEq]
                | true =>
                  rw [hR] at eb
                  simp [fl2, i1, i2, r1, r2, hR, eb, truF, wp_some, wp_none, wp_bind, wp_sFor, mOp, mUn, mC, mVar, mTest, mTru, mAnd, mOr, mNot, mAndV, mOrV, mNotV, mIf, mNil, mCons, mCall, mTup, mLstD, mLst, mChain, mPart, mSl, mMeth, mIsi, sSeq, sNil, sIf, sRet, sRetN, sAsg, sExpr, sPar, sPar3, gN, gT, gsCons, gsNil, gIx, bodyM, retM, List.getElem?_cons_zero, List.getElem?_cons_succ, List.set_cons_zero, List.set_cons_succ, List.map_cons, List.map_nil, List.length_cons, List.length_nil, List.replicate, List.cons_append, List.nil_append, Option.bind_some, Option.map_some, if_true, if_false, reduceIte, Bool.false_eq_true, tyN, datas, iiF, addI, Bool.not_true, Bool.not_false, Nat.zero_add, Nat.reduceAdd, Nat.reduceSub, reduceCtorEq]
                  exact hp2.trans pre_app
      | _ => simp [f_is_book, s_is_book, ht, e, i1, i2, isiT, isBook, truF, wp_some, wp_none, wp_bind, wp_sFor, mOp, mUn, mC, mVar, mTest, mTru, mAnd, mOr, mNot, mAndV, mOrV, mNotV, mIf, mNil, mCons, mCall, mTup, mLstD, mLst, mChain, mPart, mSl, mMeth, mIsi, sSeq, sNil, sIf, sRet, sRetN, sAsg, sExpr, sPar, sPar3, gN, gT, gsCons, gsNil, gIx, bodyM, retM, List.getElem?_cons_zero, List.getElem?_cons_succ, List.set_cons_zero, List.set_cons_succ, List.map_cons, List.map_nil, List.length_cons, List.length_nil, List.replicate, List.cons_append, List.nil_append, Option.bind_some, Option.map_some, if_true, if_false, reduceIte, Bool.false_eq_true, tyN, datas, iiF, addI, Bool.not_true, Bool.not_false, Nat.zero_add, Nat.reduceAdd, Nat.reduceSub, reduceCtorEq]
    | _ => simp [f_is_book, s_is_book, ht, e, i1, i2, isiT, isBook, truF, wp_some, wp_none, wp_bind, wp_sFor, mOp, mUn, mC, mVar, mTest, mTru, mAnd, mOr, mNot, mAndV, mOrV, mNotV, mIf, mNil, mCons, mCall, mTup, mLstD, mLst, mChain, mPart, mSl, mMeth, mIsi, sSeq, sNil, sIf, sRet, sRetN, sAsg, sExpr, sPar, sPar3, gN, gT, gsCons, gsNil, gIx, bodyM, retM, List.getElem?_cons_zero, List.getElem?_cons_succ, List.set_cons_zero, List.set_cons_succ, List.map_cons, List.map_nil, List.length_cons, List.length_nil, List.replicate, List.cons_append, List.nil_append, Option.bind_some, Option.map_some, if_true, if_false, reduceIte, Bool.false_eq_true, tyN, datas, iiF, addI, Bool.not_true, Bool.not_false, Nat.zero_add, Nat.reduceAdd, Nat.reduceSub, reduceCtorEq]
end K34

set_option Elab.async false
set_option linter.all false
set_option maxRecDepth 100000
set_option autoImplicit false
namespace K34
open PySem PySem.Spec PyProof.Rows L2 PM
open Classical

/-! ### _law_same of a thing and itself -/
mutual
def tupG : PyData → Bool
  | .none => true
  | .bool _ => true
  | .int _ => true
  | .str z => goodS z
  | .list _ => false
  | .tuple xs => tupGAll xs && decide (xs.length ≤ 900)
  | .dict _ => false
def tupGAll : List PyData → Bool
  | [] => true
  | x :: xs => tupG x && tupGAll xs
end
mutual
theorem good_of : ∀ x : PyData, tupG x = true → good x = true
  | .none, _ => rfl
  | .bool _, _ => rfl
  | .int _, _ => rfl
  | .str z, h => by unfold tupG at h; unfold good; exact h
  | .list _, h => by unfold tupG at h; cases h
  | .tuple xs, h => by
    unfold tupG at h
    rw [Bool.and_eq_true] at h
    unfold good
    rw [Bool.and_eq_true]
    exact ⟨goodAll_of xs h.1, h.2⟩
  | .dict _, h => by unfold tupG at h; cases h
theorem goodAll_of : ∀ xs : List PyData, tupGAll xs = true → goodAll xs = true
  | [], _ => rfl
  | x :: xs, h => by
    unfold tupGAll at h
    rw [Bool.and_eq_true] at h
    unfold goodAll
    rw [Bool.and_eq_true]
    exact ⟨good_of x h.1, goodAll_of xs h.2⟩
end
theorem tupG_mem : ∀ {xs : List PyData}, tupGAll xs = true → ∀ x ∈ xs, tupG x = true
  | y :: ys, h, x, hx => by
    unfold tupGAll at h
    rw [Bool.and_eq_true] at h
    rcases List.mem_cons.mp hx with e | hx
    · rw [e]; exact h.1
    · exact tupG_mem h.2 x hx
theorem depth_mem : ∀ {xs : List PyData} (x : PyData), x ∈ xs → x.depth ≤ PyData.depthAll xs
  | y :: ys, x, hx => by
    rw [PyData.depthAll]
    rcases List.mem_cons.mp hx with e | hx
    · rw [e]; exact Nat.le_max_left _ _
    · exact Nat.le_trans (depth_mem x hx) (Nat.le_max_right _ _)
theorem eqv_str (z : Str) : PyData.eqv (.str z) (.str z) = true := by
  rw [PyData.eqv]
  exact beq_self_eq_true z
theorem ev_same_none (d : Nat) (st : Store) : f__law_same (d + 1) [.d .none, .d .none] st = some (.d (.bool true), st) := by
  simp [f__law_same, s__law_same, isF, truF, wp_some, wp_none, wp_bind, wp_sFor, mOp, mUn, mC, mVar, mTest, mTru, mAnd, mOr, mNot, mAndV, mOrV, mNotV, mIf, mNil, mCons, mCall, mTup, mLstD, mLst, mChain, mPart, mSl, mMeth, mIsi, sSeq, sNil, sIf, sRet, sRetN, sAsg, sExpr, sPar, sPar3, gN, gT, gsCons, gsNil, gIx, bodyM, retM, List.getElem?_cons_zero, List.getElem?_cons_succ, List.set_cons_zero, List.set_cons_succ, List.map_cons, List.map_nil, List.length_cons, List.length_nil, List.replicate, List.cons_append, List.nil_append, Option.bind_some, Option.map_some, if_true, if_false, reduceIte, Bool.false_eq_true, tyN, datas, iiF, addI, Bool.not_true, Bool.not_false, Nat.zero_add, Nat.reduceAdd, Nat.reduceSub, reduceCtorEq]
theorem ev_same_bool (d : Nat) (b : Bool) (st : Store) : f__law_same (d + 1) [.d (.bool b), .d (.bool b)] st = some (.d (.bool true), st) := by
  simp [f__law_same, s__law_same, isF, isiT, eqF, pyOf, sh_bool, PyData.eqv, truF, wp_some, wp_none, wp_bind, wp_sFor, mOp, mUn, mC, mVar, mTest, mTru, mAnd, mOr, mNot, mAndV, mOrV, mNotV, mIf, mNil, mCons, mCall, mTup, mLstD, mLst, mChain, mPart, mSl, mMeth, mIsi, sSeq, sNil, sIf, sRet, sRetN, sAsg, sExpr, sPar, sPar3, gN, gT, gsCons, gsNil, gIx, bodyM, retM, List.getElem?_cons_zero, List.getElem?_cons_succ, List.set_cons_zero, List.set_cons_succ, List.map_cons, List.map_nil, List.length_cons, List.length_nil, List.replicate, List.cons_append, List.nil_append, Option.bind_some, Option.map_some, if_true, if_false, reduceIte, Bool.false_eq_true, tyN, datas, iiF, addI, Bool.not_true, Bool.not_false, Nat.zero_add, Nat.reduceAdd, Nat.reduceSub, reduceCtorEq]
theorem ev_same_int (d : Nat) (i : Int) (st : Store) : f__law_same (d + 1) [.d (.int i), .d (.int i)] st = some (.d (.bool true), st) := by
  simp [f__law_same, s__law_same, isF, isiT, eqF, pyOf, sh_int, PyData.eqv, truF, wp_some, wp_none, wp_bind, wp_sFor, mOp, mUn, mC, mVar, mTest, mTru, mAnd, mOr, mNot, mAndV, mOrV, mNotV, mIf, mNil, mCons, mCall, mTup, mLstD, mLst, mChain, mPart, mSl, mMeth, mIsi, sSeq, sNil, sIf, sRet, sRetN, sAsg, sExpr, sPar, sPar3, gN, gT, gsCons, gsNil, gIx, bodyM, retM, List.getElem?_cons_zero, List.getElem?_cons_succ, List.set_cons_zero, List.set_cons_succ, List.map_cons, List.map_nil, List.length_cons, List.length_nil, List.replicate, List.cons_append, List.nil_append, Option.bind_some, Option.map_some, if_true, if_false, reduceIte, Bool.false_eq_true, tyN, datas, iiF, addI, Bool.not_true, Bool.not_false, Nat.zero_add, Nat.reduceAdd, Nat.reduceSub, reduceCtorEq]
theorem ev_same_str (d : Nat) (z : Str) (st : Store) (hs : SeqAt.shaped (.str z) = true) : f__law_same (d + 1) [.d (.str z), .d (.str z)] st = some (.d (.bool true), st) := by
  simp [f__law_same, s__law_same, isF, isiT, eqF, pyOf, hs, eqv_str, truF, wp_some, wp_none, wp_bind, wp_sFor, mOp, mUn, mC, mVar, mTest, mTru, mAnd, mOr, mNot, mAndV, mOrV, mNotV, mIf, mNil, mCons, mCall, mTup, mLstD, mLst, mChain, mPart, mSl, mMeth, mIsi, sSeq, sNil, sIf, sRet, sRetN, sAsg, sExpr, sPar, sPar3, gN, gT, gsCons, gsNil, gIx, bodyM, retM, List.getElem?_cons_zero, List.getElem?_cons_succ, List.set_cons_zero, List.set_cons_succ, List.map_cons, List.map_nil, List.length_cons, List.length_nil, List.replicate, List.cons_append, List.nil_append, Option.bind_some, Option.map_some, if_true, if_false, reduceIte, Bool.false_eq_true, tyN, datas, iiF, addI, Bool.not_true, Bool.not_false, Nat.zero_add, Nat.reduceAdd, Nat.reduceSub, reduceCtorEq]
theorem mRange_at {As : PM.Env → M (List D)} {env : PM.Env} {st s : Store} {j : Int} (h : As env st = some ([.d (.int j)], s)) (hj : small62 j = true) : mRange As env st = some ((rint 0 j.toNat, none), s) := by
  unfold mRange
  rw [h]
  show (if small62 j = true then some ((rint 0 j.toNat, none), s) else none) = _
  rw [if_pos hj]
theorem small62_of {n : Nat} (h : n ≤ 900) : small62 (n : Int) = true := by
  unfold small62
  exact decide_eq_true ⟨by omega, by omega⟩
theorem i_bt : isiT "bool" "tuple" = false := by decide
theorem i_it : isiT "int" "tuple" = false := by decide
theorem i_st : isiT "str" "tuple" = false := by decide
theorem i_tt : isiT "tuple" "tuple" = true := by decide
theorem i_lt : isiT "list" "tuple" = false := by decide
theorem if_skip {T : PM.Env → M Bool} {S R : PM.Env → M Fl} {env : PM.Env} {st s : Store} (h : T env st = some (false, s)) : sSeq (sIf T S sNil) R env st = R env s := by
  unfold sSeq sIf
  rw [h]
  rfl
theorem if_go {T : PM.Env → M Bool} {S R : PM.Env → M Fl} {env : PM.Env} {st s s' : Store} {x : PM.D} (h : T env st = some (true, s)) (h2 : S env s = some (.rt x, s')) : sSeq (sIf T S sNil) R env st = some (.rt x, s') := by
  unfold sSeq sIf
  rw [h]
  show ((if true = true then S env s else sNil env s).bind _) = _
  rw [if_pos rfl, h2]
  rfl
theorem body_eq {n m : Nat} {S : PM.Env → M Fl} {xs : List PM.D} {st : Store} (h : xs.length = n) : bodyM n m S xs st = (S (xs.map some ++ List.replicate (m - n) none) st).bind retM := by
  unfold bodyM
  rw [if_pos h]
theorem ev_same_tup (d : Nat) (xs : List PyData) (st : Store) (hz : xs.length ≤ 900) (ih : ∀ (i : Nat) (hi : i < xs.length) st, f__law_same d [.d xs[i], .d xs[i]] st = some (.d (.bool true), st)) : wp (f__law_same (d + 1) [.d (.tuple xs), .d (.tuple xs)] st) fun a s => a = .d (.bool true) ∧ s = st := by
  show wp (bodyM 2 3 (s__law_same (f__law_same d)) [.d (.tuple xs), .d (.tuple xs)] st) _
  rw [body_eq (n := 2) (xs := [.d (.tuple xs), .d (.tuple xs)]) rfl]
  show wp ((s__law_same (f__law_same d) [some (.d (.tuple xs)), some (.d (.tuple xs)), none] st).bind retM) _
  unfold s__law_same
  rw [if_skip (s := st) (by simp only [isF, truF, wp_some, wp_none, wp_bind, wp_sFor, mOp, mUn, mC, mVar, mTest, mTru, mAnd, mOr, mNot, mAndV, mOrV, mNotV, mIf, mNil, mCons, mCall, mTup, mLstD, mLst, mChain, mPart, mSl, mMeth, mIsi, sSeq, sNil, sIf, sRet, sRetN, sAsg, sExpr, sPar, sPar3, gN, gT, gsCons, gsNil, gIx, bodyM, retM, List.getElem?_cons_zero, List.getElem?_cons_succ, List.set_cons_zero, List.set_cons_succ, List.map_cons, List.map_nil, List.length_cons, List.length_nil, List.replicate, List.cons_append, List.nil_append, Option.bind_some, Option.map_some, if_true, if_false, reduceIte, Bool.false_eq_true, tyN, datas, iiF, addI, Bool.not_true, Bool.not_false, Nat.zero_add, Nat.reduceAdd, Nat.reduceSub, reduceCtorEq]), if_skip (s := st) (by simp only [i_bt, truF, wp_some, wp_none, wp_bind, wp_sFor, mOp, mUn, mC, mVar, mTest, mTru, mAnd, mOr, mNot, mAndV, mOrV, mNotV, mIf, mNil, mCons, mCall, mTup, mLstD, mLst, mChain, mPart, mSl, mMeth, mIsi, sSeq, sNil, sIf, sRet, sRetN, sAsg, sExpr, sPar, sPar3, gN, gT, gsCons, gsNil, gIx, bodyM, retM, List.getElem?_cons_zero, List.getElem?_cons_succ, List.set_cons_zero, List.set_cons_succ, List.map_cons, List.map_nil, List.length_cons, List.length_nil, List.replicate, List.cons_append, List.nil_append, Option.bind_some, Option.map_some, if_true, if_false, reduceIte, Bool.false_eq_true, tyN, datas, iiF, addI, Bool.not_true, Bool.not_false, Nat.zero_add, Nat.reduceAdd, Nat.reduceSub, reduceCtorEq]), if_skip (s := st) (by simp only [i_it, truF, wp_some, wp_none, wp_bind, wp_sFor, mOp, mUn, mC, mVar, mTest, mTru, mAnd, mOr, mNot, mAndV, mOrV, mNotV, mIf, mNil, mCons, mCall, mTup, mLstD, mLst, mChain, mPart, mSl, mMeth, mIsi, sSeq, sNil, sIf, sRet, sRetN, sAsg, sExpr, sPar, sPar3, gN, gT, gsCons, gsNil, gIx, bodyM, retM, List.getElem?_cons_zero, List.getElem?_cons_succ, List.set_cons_zero, List.set_cons_succ, List.map_cons, List.map_nil, List.length_cons, List.length_nil, List.replicate, List.cons_append, List.nil_append, Option.bind_some, Option.map_some, if_true, if_false, reduceIte, Bool.false_eq_true, tyN, datas, iiF, addI, Bool.not_true, Bool.not_false, Nat.zero_add, Nat.reduceAdd, Nat.reduceSub, reduceCtorEq]), if_skip (s := st) (by simp only [i_st, truF, wp_some, wp_none, wp_bind, wp_sFor, mOp, mUn, mC, mVar, mTest, mTru, mAnd, mOr, mNot, mAndV, mOrV, mNotV, mIf, mNil, mCons, mCall, mTup, mLstD, mLst, mChain, mPart, mSl, mMeth, mIsi, sSeq, sNil, sIf, sRet, sRetN, sAsg, sExpr, sPar, sPar3, gN, gT, gsCons, gsNil, gIx, bodyM, retM, List.getElem?_cons_zero, List.getElem?_cons_succ, List.set_cons_zero, List.set_cons_succ, List.map_cons, List.map_nil, List.length_cons, List.length_nil, List.replicate, List.cons_append, List.nil_append, Option.bind_some, Option.map_some, if_true, if_false, reduceIte, Bool.false_eq_true, tyN, datas, iiF, addI, Bool.not_true, Bool.not_false, Nat.zero_add, Nat.reduceAdd, Nat.reduceSub, reduceCtorEq]), if_skip (s := st) (by simp only [i_tt, truF, wp_some, wp_none, wp_bind, wp_sFor, mOp, mUn, mC, mVar, mTest, mTru, mAnd, mOr, mNot, mAndV, mOrV, mNotV, mIf, mNil, mCons, mCall, mTup, mLstD, mLst, mChain, mPart, mSl, mMeth, mIsi, sSeq, sNil, sIf, sRet, sRetN, sAsg, sExpr, sPar, sPar3, gN, gT, gsCons, gsNil, gIx, bodyM, retM, List.getElem?_cons_zero, List.getElem?_cons_succ, List.set_cons_zero, List.set_cons_succ, List.map_cons, List.map_nil, List.length_cons, List.length_nil, List.replicate, List.cons_append, List.nil_append, Option.bind_some, Option.map_some, if_true, if_false, reduceIte, Bool.false_eq_true, tyN, datas, iiF, addI, Bool.not_true, Bool.not_false, Nat.zero_add, Nat.reduceAdd, Nat.reduceSub, reduceCtorEq]), if_skip (s := st) (by simp only [i_lt, truF, wp_some, wp_none, wp_bind, wp_sFor, mOp, mUn, mC, mVar, mTest, mTru, mAnd, mOr, mNot, mAndV, mOrV, mNotV, mIf, mNil, mCons, mCall, mTup, mLstD, mLst, mChain, mPart, mSl, mMeth, mIsi, sSeq, sNil, sIf, sRet, sRetN, sAsg, sExpr, sPar, sPar3, gN, gT, gsCons, gsNil, gIx, bodyM, retM, List.getElem?_cons_zero, List.getElem?_cons_succ, List.set_cons_zero, List.set_cons_succ, List.map_cons, List.map_nil, List.length_cons, List.length_nil, List.replicate, List.cons_append, List.nil_append, Option.bind_some, Option.map_some, if_true, if_false, reduceIte, Bool.false_eq_true, tyN, datas, iiF, addI, Bool.not_true, Bool.not_false, Nat.zero_add, Nat.reduceAdd, Nat.reduceSub, reduceCtorEq]),
    if_skip (s := st) (by simp only [lenF, seqOf, neF, pyOf, sh_int, PyData.eqv, beq_self_eq_true, and_self, List.length_map, truF, wp_some, wp_none, wp_bind, wp_sFor, mOp, mUn, mC, mVar, mTest, mTru, mAnd, mOr, mNot, mAndV, mOrV, mNotV, mIf, mNil, mCons, mCall, mTup, mLstD, mLst, mChain, mPart, mSl, mMeth, mIsi, sSeq, sNil, sIf, sRet, sRetN, sAsg, sExpr, sPar, sPar3, gN, gT, gsCons, gsNil, gIx, bodyM, retM, List.getElem?_cons_zero, List.getElem?_cons_succ, List.set_cons_zero, List.set_cons_succ, List.map_cons, List.map_nil, List.length_cons, List.length_nil, List.replicate, List.cons_append, List.nil_append, Option.bind_some, Option.map_some, if_true, if_false, reduceIte, Bool.false_eq_true, tyN, datas, iiF, addI, Bool.not_true, Bool.not_false, Nat.zero_add, Nat.reduceAdd, Nat.reduceSub, reduceCtorEq])]
  rw [wp_bind]
  unfold sSeq
  rw [wp_bind, wp_sFor]
  refine wp_of (mRange_at (j := (xs.length : Int)) (s := st) (by simp only [lenF, seqOf, List.length_map, truF, wp_some, wp_none, wp_bind, wp_sFor, mOp, mUn, mC, mVar, mTest, mTru, mAnd, mOr, mNot, mAndV, mOrV, mNotV, mIf, mNil, mCons, mCall, mTup, mLstD, mLst, mChain, mPart, mSl, mMeth, mIsi, sSeq, sNil, sIf, sRet, sRetN, sAsg, sExpr, sPar, sPar3, gN, gT, gsCons, gsNil, gIx, bodyM, retM, List.getElem?_cons_zero, List.getElem?_cons_succ, List.set_cons_zero, List.set_cons_succ, List.map_cons, List.map_nil, List.length_cons, List.length_nil, List.replicate, List.cons_append, List.nil_append, Option.bind_some, Option.map_some, if_true, if_false, reduceIte, Bool.false_eq_true, tyN, datas, iiF, addI, Bool.not_true, Bool.not_false, Nat.zero_add, Nat.reduceAdd, Nat.reduceSub, reduceCtorEq]) (small62_of hz)) ?_
  refine wp_for (fun l env s => s = st ∧ (∃ o, env = [some (D.d (.tuple xs)), some (D.d (.tuple xs)), o]) ∧ ∀ y ∈ l, ∃ i : Nat, i < xs.length ∧ y = .d (.int (i : Int))) (fun env s ⟨h1, ⟨o, h2⟩, _⟩ => ?_) (fun y l env s ⟨h1, ⟨o, h2⟩, h3⟩ => ?_) _ _ _ ⟨rfl, ⟨_, rfl⟩, fun y hy => ?_⟩
  · subst h1 h2
    refine ⟨holds_none, ?_⟩
    simp only [truF, wp_some, wp_none, wp_bind, wp_sFor, mOp, mUn, mC, mVar, mTest, mTru, mAnd, mOr, mNot, mAndV, mOrV, mNotV, mIf, mNil, mCons, mCall, mTup, mLstD, mLst, mChain, mPart, mSl, mMeth, mIsi, sSeq, sNil, sIf, sRet, sRetN, sAsg, sExpr, sPar, sPar3, gN, gT, gsCons, gsNil, gIx, bodyM, retM, List.getElem?_cons_zero, List.getElem?_cons_succ, List.set_cons_zero, List.set_cons_succ, List.map_cons, List.map_nil, List.length_cons, List.length_nil, List.replicate, List.cons_append, List.nil_append, Option.bind_some, Option.map_some, if_true, if_false, reduceIte, Bool.false_eq_true, tyN, datas, iiF, addI, Bool.not_true, Bool.not_false, Nat.zero_add, Nat.reduceAdd, Nat.reduceSub, reduceCtorEq]
    exact ⟨trivial, trivial⟩
  · subst h1 h2
    obtain ⟨i, hi, rfl⟩ := h3 y List.mem_cons_self
    have g1 : ∀ st : Store, getF (.d (.tuple xs)) (.d (.int (i : Int))) st = some (.d xs[i], st) := fun st => ev_ix rfl (List.getElem?_eq_getElem hi)
    have ih' := ih i hi
    refine ⟨holds_none, ?_⟩
    simp only [b__law_same_1, g1, ih', truF, wp_some, wp_none, wp_bind, wp_sFor, mOp, mUn, mC, mVar, mTest, mTru, mAnd, mOr, mNot, mAndV, mOrV, mNotV, mIf, mNil, mCons, mCall, mTup, mLstD, mLst, mChain, mPart, mSl, mMeth, mIsi, sSeq, sNil, sIf, sRet, sRetN, sAsg, sExpr, sPar, sPar3, gN, gT, gsCons, gsNil, gIx, bodyM, retM, List.getElem?_cons_zero, List.getElem?_cons_succ, List.set_cons_zero, List.set_cons_succ, List.map_cons, List.map_nil, List.length_cons, List.length_nil, List.replicate, List.cons_append, List.nil_append, Option.bind_some, Option.map_some, if_true, if_false, reduceIte, Bool.false_eq_true, tyN, datas, iiF, addI, Bool.not_true, Bool.not_false, Nat.zero_add, Nat.reduceAdd, Nat.reduceSub, reduceCtorEq]
    exact ⟨trivial, ⟨_, rfl⟩, fun y hy => h3 y (List.mem_cons_of_mem _ hy)⟩
  · unfold rint at hy
    obtain ⟨i, hi, rfl⟩ := List.mem_map.mp hy
    exact ⟨i, List.mem_range.mp (by rw [Int.toNat_natCast] at hi; exact hi), by rw [Int.zero_add]⟩
theorem ev_same (d : Nat) : ∀ (x : PyData) (st : Store), tupG x = true → x.depth < d → f__law_same d [.d x, .d x] st = some (.d (.bool true), st) := by
  induction d with
  | zero => exact fun x st _ h => absurd h (Nat.not_lt_zero _)
  | succ d ihd =>
    intro x st g h
    cases x with
    | none => exact ev_same_none d st
    | bool b => exact ev_same_bool d b st
    | int i => exact ev_same_int d i st
    | str z => exact ev_same_str d z st (good_str (good_of _ g)).1
    | list _ => unfold tupG at g; cases g
    | dict _ => unfold tupG at g; cases g
    | tuple xs =>
      unfold tupG at g
      rw [Bool.and_eq_true] at g
      have hd : PyData.depthAll xs < d := by
        rw [PyData.depth] at h
        omega
      obtain ⟨⟨a, s⟩, e, h1, h2⟩ := ev_same_tup d xs st (of_decide_eq_true g.2) fun i hi st => ihd xs[i] st (tupG_mem g.1 _ (List.getElem_mem hi)) (Nat.lt_of_le_of_lt (depth_mem _ (List.getElem_mem hi)) hd)
      dsimp only at h1 h2
      subst h1 h2
      exact e
end K34

set_option Elab.async false
set_option linter.all false
set_option maxRecDepth 100000
set_option autoImplicit false
namespace K34
open PySem PySem.Spec PyProof.Rows L2 PM
open Classical

/-! ### tables -/
abbrev Ent := List L2.Key × Int
def ent (e : Ent) : PyData := .tuple (e.1.map keyD ++ [.int e.2])
def nz (e : Ent) : Bool := !(e.2 == 0)
def live (T : List Ent) : List Ent := T.filter nz
noncomputable def csort (T : List Ent) : List Ent := (live T).mergeSort fun a b => PySem.W.dataLe false id (ent a) (ent b)
noncomputable def canon (T : List Ent) : List PyData := (csort T).map ent
def kvs (T : List Ent) : List (List L2.Key × PM.D) := T.map fun e => (e.1, PM.D.d (.int e.2))
def goodKey (k : List L2.Key) : Bool := tupGAll (k.map keyD) && decide (k.length = 3)
structure TOk (kd : List Bool) (T : List Ent) : Prop where
  nd : (T.map (·.1)).Nodup
  pat : ∀ e ∈ T, e.1.map Sum.isRight = kd
  good : ∀ e ∈ T, goodKey e.1 = true
  len : T.length ≤ 800
theorem goodKey_len {k : List L2.Key} (h : goodKey k = true) : k.length = 3 := by
  unfold goodKey at h
  rw [Bool.and_eq_true, decide_eq_true_eq] at h
  exact h.2
def ktok : L2.Key → Int ⊕ List Nat
  | .inl i => .inl i
  | .inr x => .inr x.cps.toList
theorem toks_key (k : L2.Key) : PySem.W.keyToks (keyD k) = [ktok k] := by
  cases k <;> simp [keyD, PySem.W.keyToks, ktok]
theorem ktok_inj {k k' : L2.Key} (h : ktok k = ktok k') : k = k' := by
  cases k with
  | inl i =>
    cases k' with
    | inl j => exact congrArg Sum.inl (Sum.inl.inj h)
    | inr y => cases h
  | inr x =>
    cases k' with
    | inl j => cases h
    | inr y => exact congrArg Sum.inr (PySem.W.str_of_cps (Sum.inr.inj h))
theorem toks_inj : ∀ (ks ks' : List L2.Key) (n n' : Int), ks.length = ks'.length → PySem.W.keyToksAll (ks.map keyD ++ [.int n]) = PySem.W.keyToksAll (ks'.map keyD ++ [.int n']) → ks = ks' ∧ n = n'
  | [], [], n, n', _, h => by
    simp [PySem.W.keyToksAll, PySem.W.keyToks] at h
    exact ⟨rfl, h⟩
  | k :: ks, k' :: ks', n, n', hl, h => by
    rw [List.map_cons, List.map_cons, List.cons_append, List.cons_append, PySem.W.keyToksAll, PySem.W.keyToksAll, toks_key, toks_key] at h
    injection h with _ h
    injection h with h1 h2
    obtain ⟨a, b⟩ := toks_inj ks ks' n n' (by simpa using hl) h2
    exact ⟨by rw [a, ktok_inj h1], b⟩
  | [], _ :: _, _, _, hl, _ => by simp at hl
  | _ :: _, [], _, _, hl, _ => by simp at hl
theorem ent_inj {e e' : Ent} (hl : e.1.length = e'.1.length) (h : PySem.W.keyToks (ent e) = PySem.W.keyToks (ent e')) : e = e' := by
  unfold ent at h
  rw [PySem.W.keyToks, PySem.W.keyToks] at h
  obtain ⟨a, b⟩ := toks_inj _ _ _ _ hl h
  exact Prod.ext a b
theorem csort_perm (T : List Ent) : (csort T).Perm (live T) := List.mergeSort_perm _ _
theorem canon_of {T L : List Ent} (p : L.Perm (live T)) (h3 : ∀ e ∈ T, e.1.length = 3) : sortD (L.map ent) = canon T := by
  have e1 : sortD (L.map ent) = sortD ((live T).map ent) := by
    refine sortD_perm (p.map ent) fun a ha b hb h => ?_
    obtain ⟨x, hx, rfl⟩ := List.mem_map.mp ha
    obtain ⟨y, hy, rfl⟩ := List.mem_map.mp hb
    have hx := h3 x (List.mem_filter.mp (p.mem_iff.mp hx)).1
    have hy := h3 y (List.mem_filter.mp (p.mem_iff.mp hy)).1
    rw [ent_inj (hx.trans hy.symm) h]
  rw [e1]
  unfold canon csort sortD
  exact (PySem.W.sort_maps ent (r := fun a b => PySem.W.dataLe false id (ent a) (ent b)) fun a _ b _ => rfl).symm
theorem canon_perm {T T' : List Ent} (p : T.Perm T') (h3 : ∀ e ∈ T, e.1.length = 3) : canon T = canon T' := by
  rw [← canon_of (T := T') ((csort_perm T).trans (p.filter nz)) fun e he => h3 e (p.mem_iff.mpr he)]
  exact (canon_of (csort_perm T) h3).symm
/-! sorting is served -/
theorem alike_keys : ∀ (ks ks' : List L2.Key) (n n' : Int), ks.map Sum.isRight = ks'.map Sum.isRight → PySem.W.alikeAll (ks.map keyD ++ [.int n]) (ks'.map keyD ++ [.int n']) = true
  | [], [], n, n', _ => by simp [PySem.W.alikeAll, PySem.W.alike]
  | k :: ks, k' :: ks', n, n', h => by
    rw [List.map_cons, List.map_cons] at h
    injection h with h1 h2
    rw [List.map_cons, List.map_cons, List.cons_append, List.cons_append, PySem.W.alikeAll, alike_keys ks ks' n n' h2, Bool.and_true]
    cases k <;> cases k' <;> first | (cases h1; done) | simp [keyD, PySem.W.alike]
  | [], _ :: _, _, _, h => by cases h
  | _ :: _, [], _, _, h => by cases h
theorem depth_keys : ∀ (ks : List L2.Key) (n : Int), PyData.depthAll (ks.map keyD ++ [.int n]) = 0
  | [], n => by simp [PyData.depthAll, PyData.depth]
  | k :: ks, n => by
    rw [List.map_cons, List.cons_append, PyData.depthAll, depth_keys ks n]
    cases k <;> simp [keyD, PyData.depth]
theorem depth_ent (e : Ent) : (ent e).depth = 1 := by
  unfold ent
  rw [PyData.depth, depth_keys]
theorem sortB_ent {kd : List Bool} {L : List Ent} (hp : ∀ e ∈ L, e.1.map Sum.isRight = kd) (hl : L.length ≤ 902) : sortB (L.map ent) = true := by
  unfold sortB
  simp only [Bool.and_eq_true, Bool.or_eq_true, List.all_eq_true, decide_eq_true_eq]
  refine ⟨⟨⟨?_, .inl fun d hd => ?_⟩, fun d hd => ?_⟩, smallB (by rw [List.length_map]; exact hl)⟩
  · unfold alikeB
    refine List.all_eq_true.mpr fun d hd => List.all_eq_true.mpr fun d' hd' => ?_
    obtain ⟨x, hx, rfl⟩ := List.mem_map.mp hd
    obtain ⟨y, hy, rfl⟩ := List.mem_map.mp hd'
    unfold ent
    rw [PySem.W.alike]
    exact alike_keys _ _ _ _ ((hp x hx).trans (hp y hy).symm)
  · obtain ⟨x, hx, rfl⟩ := List.mem_map.mp hd
    unfold ent
    cases x.1 <;> rfl
  · obtain ⟨x, hx, rfl⟩ := List.mem_map.mp hd
    rw [depth_ent]
    decide
/-! order and keys -/
theorem eqv_key (k k' : L2.Key) : PyData.eqv (keyD k) (keyD k') = decide (k = k') := by
  cases k <;> cases k' <;> simp [keyD, PyData.eqv] <;> rfl
theorem eqv_keys : ∀ ks ks' : List L2.Key, PyData.eqvAll (ks.map keyD) (ks'.map keyD) = decide (ks = ks')
  | [], [] => by simp [PyData.eqvAll]
  | k :: ks, k' :: ks' => by
    rw [List.map_cons, List.map_cons, PyData.eqvAll, eqv_key, eqv_keys ks ks']
    by_cases h1 : k = k' <;> by_cases h2 : ks = ks' <;> simp [h1, h2]
  | [], _ :: _ => by simp [PyData.eqvAll]
  | _ :: _, [] => by simp [PyData.eqvAll]
theorem eqv_tupk (ks ks' : List L2.Key) : PyData.eqv (.tuple (ks.map keyD)) (.tuple (ks'.map keyD)) = decide (ks = ks') := by
  rw [PyData.eqv, eqv_keys]
theorem geA_lt (k k' : L2.Key) (hs : k.isRight = k'.isRight) (hn : k ≠ k') : (geA (keyD k) (keyD k')).getD false = PySem.W.dataLt (keyD k') (keyD k) := by
  cases k with
  | inl i =>
    cases k' with
    | inl j =>
      have : i ≠ j := fun e => hn (by rw [e])
      rw [show keyD (.inl i) = PyData.int i from rfl, show keyD (.inl j) = PyData.int j from rfl, PySem.W.dataLt_int]
      show decide (j ≤ i) = _
      rw [decide_eq_decide]
      omega
    | inr y => cases hs
  | inr x =>
    cases k' with
    | inl j => cases hs
    | inr y =>
      have : x.cps.toList ≠ y.cps.toList := fun e => hn (by rw [PySem.W.str_of_cps e])
      rw [show keyD (.inr x) = PyData.str x from rfl, show keyD (.inr y) = PyData.str y from rfl, PySem.W.dataLt_str]
      show (!decide (x.cps.toList < y.cps.toList)) = _
      by_cases h : y.cps.toList < x.cps.toList
      · rw [decide_eq_true h, decide_eq_false (List.lt_asymm h)]
        rfl
      · rw [decide_eq_false h]
        by_cases h2 : x.cps.toList < y.cps.toList
        · rw [decide_eq_true h2]
          rfl
        · exact absurd (List.le_antisymm (List.not_lt.mp h) (List.not_lt.mp h2)) this
theorem alike_key {k k' : L2.Key} (hs : k.isRight = k'.isRight) : PySem.W.alike (keyD k) (keyD k') = true := by
  cases k <;> cases k' <;> first | (cases hs; done) | simp [keyD, PySem.W.alike]
theorem ge_false {a b : Ent} (ha : a.1.length = 3) (hp : a.1.map Sum.isRight = b.1.map Sum.isRight) (hn : a.1 ≠ b.1) (h : PySem.W.dataLe false id (ent a) (ent b) = true) : geT (a.1.map keyD) (b.1.map keyD) = false := by
  obtain ⟨ka, n⟩ := a
  obtain ⟨kb, m⟩ := b
  have hl : kb.length = 3 := by
    have := congrArg List.length hp
    simp only [List.length_map] at this
    exact this.symm.trans ha
  rw [PySem.W.dataLe_eq] at h
  have h : (!PySem.W.dataLt (ent (kb, m)) (ent (ka, n))) = true := h
  rw [Bool.not_eq_true'] at h
  match ka, kb, ha, hl, hp, hn, h with
  | [x1, x2, x3], [y1, y2, y3], _, _, hp, hn, h =>
    have hp : [x1.isRight, x2.isRight, x3.isRight] = [y1.isRight, y2.isRight, y3.isRight] := hp
    injection hp with p1 hp
    injection hp with p2 hp
    injection hp with p3 _
    have h : PyProof.Rows.lexLt itemOrd (PySem.W.keyToksAll [keyD y1, keyD y2, keyD y3, .int m]) (PySem.W.keyToksAll [keyD x1, keyD x2, keyD x3, .int n]) = false := h
    rw [PySem.W.dataLt_cons (alike_key p1.symm), PySem.W.dataLt_cons (alike_key p2.symm), PySem.W.dataLt_cons (alike_key p3.symm), eqv_key, eqv_key, eqv_key] at h
    show (if PyData.eqv (keyD x1) (keyD y1) = true then (if PyData.eqv (keyD x2) (keyD y2) = true then (if PyData.eqv (keyD x3) (keyD y3) = true then true else (geA (keyD x3) (keyD y3)).getD false) else (geA (keyD x2) (keyD y2)).getD false) else (geA (keyD x1) (keyD y1)).getD false) = false
    rw [eqv_key, eqv_key, eqv_key]
    by_cases e1 : x1 = y1
    · by_cases e2 : x2 = y2
      · by_cases e3 : x3 = y3
        · exact absurd (by rw [e1, e2, e3]) hn
        · rw [if_pos (decide_eq_true e1), if_pos (decide_eq_true e2), if_neg (by simpa using e3), geA_lt _ _ p3 e3]
          rw [if_pos (decide_eq_true e1.symm), if_pos (decide_eq_true e2.symm), if_neg (by simpa using fun z => e3 z.symm)] at h
          exact h
      · rw [if_pos (decide_eq_true e1), if_neg (by simpa using e2), geA_lt _ _ p2 e2]
        rw [if_pos (decide_eq_true e1.symm), if_neg (by simpa using fun z => e2 z.symm)] at h
        exact h
    · rw [if_neg (by simpa using e1), geA_lt _ _ p1 e1]
      rw [if_neg (by simpa using fun z => e1 z.symm)] at h
      exact h
theorem csort_sub {kd : List Bool} {T : List Ent} (ok : TOk kd T) : (∀ e ∈ csort T, e ∈ T ∧ nz e = true) ∧ ((csort T).map (·.1)).Nodup ∧ (csort T).length ≤ 800 := by
  have p := csort_perm T
  refine ⟨fun e he => List.mem_filter.mp (p.mem_iff.mp he), ?_, ?_⟩
  · refine (p.map _).nodup_iff.mpr ?_
    exact List.Nodup.sublist (List.Sublist.map _ (List.filter_sublist ..)) ok.nd
  · rw [p.length_eq]
    exact Nat.le_trans (List.length_filter_le _ _) ok.len
theorem k3_canon {T : List Ent} {i : Nat} {e : Ent} (h : (csort T)[i]? = some e) (hl : e.1.length = 3) : k3 (canon T) i = e.1.map keyD := by
  unfold k3 canon
  rw [List.getElem?_map, h]
  show (e.1.map keyD ++ [PyData.int e.2]).take 3 = _
  rw [List.take_append_of_le_length (by rw [List.length_map, hl]; exact Nat.le_refl _), List.take_of_length_le (by rw [List.length_map, hl]; exact Nat.le_refl _)]
theorem rise_canon {kd : List Bool} {T : List Ent} (ok : TOk kd T) : riseB (canon T) = true := by
  obtain ⟨h1, h2, _⟩ := csort_sub ok
  unfold riseB
  refine List.all_eq_true.mpr fun i hi => ?_
  have hi := List.mem_range.mp hi
  rw [show (canon T).length = (csort T).length from List.length_map _] at hi
  have i1 : i < (csort T).length := by omega
  have i2 : i + 1 < (csort T).length := by omega
  have g1 := List.getElem?_eq_getElem i1
  have g2 := List.getElem?_eq_getElem i2
  have m1 := (h1 _ (List.getElem_mem i1)).1
  have m2 := (h1 _ (List.getElem_mem i2)).1
  rw [k3_canon g1 (goodKey_len (ok.good _ m1)), k3_canon g2 (goodKey_len (ok.good _ m2))]
  have tl : PySem.W.TotalLe (fun a b : Ent => PySem.W.dataLe false id (ent a) (ent b)) := ⟨fun a b c => dle_total.trans _ _ _, fun a b => dle_total.total _ _⟩
  have hne : (csort T)[i].1 ≠ (csort T)[i + 1].1 := by
    have := List.pairwise_iff_getElem.mp h2 i (i + 1) (by rw [List.length_map]; exact i1) (by rw [List.length_map]; exact i2) (Nat.lt_succ_self i)
    rw [List.getElem_map, List.getElem_map] at this
    exact this
  rw [ge_false (goodKey_len (ok.good _ m1)) ((ok.pat _ m1).trans (ok.pat _ m2).symm) hne (List.pairwise_iff_getElem.mp (PySem.W.sort_pairwise tl (live T)) i (i + 1) i1 i2 (Nat.lt_succ_self i))]
  rfl
/-! stores into tables -/
def setI (T : List Ent) (k : List L2.Key) (n : Int) : List Ent := T.filter (fun e => !decide (e.1 = k)) ++ [(k, n)]
def putI (T : List Ent) (k : List L2.Key) (n : Int) : List Ent := if (T.any fun e => decide (e.1 = k)) = true then T.map (fun e => if e.1 = k then (e.1, n) else e) else T ++ [(k, n)]
theorem kvs_put (T : List Ent) (k : List L2.Key) (n : Int) : putD (kvs T) k (.d (.int n)) = kvs (putI T k n) := by
  unfold putD putI kvs
  rw [List.any_map]
  have e : ((fun kv : List L2.Key × PM.D => decide (kv.1 = k)) ∘ fun e : Ent => (e.1, PM.D.d (.int e.2))) = fun e => decide (e.1 = k) := rfl
  rw [e]
  split
  · rw [List.map_map, List.map_map]
    refine List.map_congr_left fun x _ => ?_
    show (if x.1 = k then (x.1, PM.D.d (.int n)) else (x.1, PM.D.d (.int x.2))) = _
    by_cases h : x.1 = k
    · simp [Function.comp, h]
    · simp [Function.comp, h]
  · rw [List.map_append]
    rfl
theorem filter_none {T : List Ent} {k : List L2.Key} (h : ∀ e ∈ T, e.1 ≠ k) : T.filter (fun e => !decide (e.1 = k)) = T :=
  List.filter_eq_self.mpr fun e he => by simp [h e he]
theorem put_perm {T : List Ent} {k : List L2.Key} {n : Int} (nd : (T.map (·.1)).Nodup) : (putI T k n).Perm (setI T k n) := by
  unfold putI setI
  split
  · rename_i h
    induction T with
    | nil => simp at h
    | cons x T ih =>
      obtain ⟨n1, n2⟩ := List.nodup_cons.mp nd
      by_cases hx : x.1 = k
      · have hn : ∀ e ∈ T, e.1 ≠ k := fun e he z => n1 (by
          exact List.mem_map.mpr ⟨e, he, z.trans hx.symm⟩)
        rw [List.map_cons, if_pos hx, List.filter_cons_of_neg (by simp [hx]), filter_none hn]
        have e1 : T.map (fun e => if e.1 = k then (e.1, n) else e) = T := by
          conv => rhs; rw [← List.map_id T]
          exact List.map_congr_left fun e he => by rw [if_neg (hn e he)]; rfl
        rw [e1, hx]
        exact (List.perm_append_singleton _ _).symm
      · rw [List.map_cons, if_neg hx, List.filter_cons_of_pos (by simp [hx]), List.cons_append]
        refine (ih n2 ?_).cons x
        rw [List.any_cons, decide_eq_false hx, Bool.false_or] at h
        exact h
  · rename_i h
    rw [filter_none]
    intro e he z
    exact h (List.any_eq_true.mpr ⟨e, he, decide_eq_true z⟩)
theorem set_keys {T : List Ent} {k : List L2.Key} {n : Int} (nd : (T.map (·.1)).Nodup) : ((setI T k n).map (·.1)).Nodup := by
  unfold setI
  rw [List.map_append, List.nodup_append]
  refine ⟨List.Nodup.sublist (List.Sublist.map _ (List.filter_sublist ..)) nd, by simp, fun a ha b hb => ?_⟩
  obtain ⟨e, he, rfl⟩ := List.mem_map.mp ha
  have hb : b = k := by simpa using hb
  subst hb
  have := (List.mem_filter.mp he).2
  simpa using this
theorem TOk.put {kd : List Bool} {T : List Ent} {k : List L2.Key} {n : Int} (ok : TOk kd T) (hp : k.map Sum.isRight = kd) (hg : goodKey k = true) (hl : (putI T k n).length ≤ 800) : TOk kd (putI T k n) := by
  have p := put_perm (k := k) (n := n) ok.nd
  refine ⟨(p.map _).nodup_iff.mpr (set_keys ok.nd), fun e he => ?_, fun e he => ?_, hl⟩
  · have he := p.mem_iff.mp he
    unfold setI at he
    rcases List.mem_append.mp he with he | he
    · exact ok.pat e (List.mem_filter.mp he).1
    · rw [List.mem_singleton.mp he]; exact hp
  · have he := p.mem_iff.mp he
    unfold setI at he
    rcases List.mem_append.mp he with he | he
    · exact ok.good e (List.mem_filter.mp he).1
    · rw [List.mem_singleton.mp he]; exact hg
theorem put_len (T : List Ent) (k : List L2.Key) (n : Int) : (putI T k n).length ≤ T.length + 1 := by
  unfold putI
  split <;> simp
end K34

set_option Elab.async false
set_option linter.all false
set_option maxRecDepth 100000
set_option autoImplicit false
namespace K34
open PySem PySem.Spec PyProof.Rows L2 PM
open Classical

/-! ### entries as they are read -/
theorem lay_keys : ∀ {ks : List L2.Key}, tupGAll (ks.map keyD) = true → PyData.canLayAll0 (ks.map keyD) = true ∧ PyData.depthAll (ks.map keyD) = 0
  | [], _ => ⟨rfl, rfl⟩
  | k :: ks, h => by
    rw [List.map_cons, tupGAll, Bool.and_eq_true] at h
    obtain ⟨h1, h2⟩ := lay_keys h.2
    have hk : PyData.canLay0 (keyD k) = true ∧ PyData.depth (keyD k) = 0 := by
      cases k with
      | inl i => exact ⟨rfl, rfl⟩
      | inr x =>
        have g := (good_str (good_of (.str x) h.1)).1
        unfold SeqAt.shaped at g
        rw [Bool.and_eq_true] at g
        exact ⟨g.1, rfl⟩
    refine ⟨?_, ?_⟩
    · rw [List.map_cons, PyData.canLayAll0, hk.1, h1]
      rfl
    · rw [List.map_cons, PyData.depthAll, hk.2, h2]
      rfl
theorem sh_keys {ks : List L2.Key} (h : tupGAll (ks.map keyD) = true) : SeqAt.shaped (.tuple (ks.map keyD)) = true := by
  obtain ⟨h1, h2⟩ := lay_keys h
  unfold SeqAt.shaped
  rw [PyData.canLay0, h1, PyData.depth, h2]
  rfl
theorem gk_all {k : List L2.Key} (h : goodKey k = true) : tupGAll (k.map keyD) = true := by
  unfold goodKey at h
  rw [Bool.and_eq_true] at h
  exact h.1
theorem take_all : ∀ {ks : List L2.Key} (n : Nat), tupGAll (ks.map keyD) = true → tupGAll ((ks.take n).map keyD) = true
  | _, 0, _ => rfl
  | [], _ + 1, _ => rfl
  | k :: ks, n + 1, h => by
    rw [List.map_cons, tupGAll, Bool.and_eq_true] at h
    rw [List.take_succ_cons, List.map_cons, tupGAll, h.1, take_all n h.2]
    rfl
theorem ent_take {e : Ent} {n : Nat} (hn : n ≤ e.1.length) : (e.1.map keyD ++ [PyData.int e.2]).take n = (e.1.take n).map keyD := by
  rw [List.take_append_of_le_length (by rw [List.length_map]; exact hn), List.map_take]
theorem ev_e3 {e : Ent} {st : Store} (hl : e.1.length = 3) : slF (.d (ent e)) none (some 3) st = some (.d (.tuple (e.1.map keyD)), st) := by
  unfold ent
  rw [ev_sl3, ent_take (by rw [hl]; exact Nat.le_refl _), List.take_of_length_le (by rw [hl]; exact Nat.le_refl _)]
theorem ev_e2 {e : Ent} {st : Store} (hl : e.1.length = 3) : slF (.d (ent e)) none (some 2) st = some (.d (.tuple ((e.1.take 2).map keyD)), st) := by
  unfold ent
  rw [ev_sl2, ent_take (by rw [hl]; decide)]
theorem ev_en {e : Ent} {st : Store} (hl : e.1.length = 3) : getF (.d (ent e)) (.d (.int 3)) st = some (.d (.int e.2), st) :=
  ev_ix (i := 3) rfl (by rw [List.getElem?_append_right (by rw [List.length_map, hl]; exact Nat.le_refl _), List.length_map, hl]; rfl)
theorem ev_ek {e : Ent} {st : Store} {i : Nat} {j : Int} {k : L2.Key} (hj : j = (i : Int)) (h : e.1[i]? = some k) : getF (.d (ent e)) (.d (.int j)) st = some (.d (keyD k), st) := by
  have hl : i < e.1.length := (List.getElem?_eq_some_iff.mp h).1
  exact ev_ix hj (by rw [List.getElem?_append_left (by rw [List.length_map]; exact hl), List.getElem?_map, h]; rfl)
def dEnt (e : Ent) : PM.D := PM.D.d (ent e)
theorem dmap_ent (L : List Ent) : (L.map ent).map PM.D.d = L.map dEnt := by rw [List.map_map]; rfl
theorem ev_eq {x y : PyData} {st : Store} (h1 : SeqAt.shaped x = true) (h2 : SeqAt.shaped y = true) : eqF (.d x) (.d y) st = some (.d (.bool (PyData.eqv x y)), st) := by
  unfold eqF
  simp only [pyOf, h1, h2, and_self, if_true]
theorem ev_ne {x y : PyData} {st : Store} (h1 : SeqAt.shaped x = true) (h2 : SeqAt.shaped y = true) : neF (.d x) (.d y) st = some (.d (.bool (!PyData.eqv x y)), st) := by
  unfold neF
  simp only [pyOf, h1, h2, and_self, if_true]
/-! ### what a key tells -/
def getI (L : List Ent) (k : List L2.Key) : Int := match L.find? fun e => decide (e.1 = k) with
  | some e => e.2
  | none => 0
theorem getI_cons {e : Ent} {L : List Ent} {k : List L2.Key} : getI (e :: L) k = if e.1 = k then e.2 else getI L k := by
  unfold getI
  rw [List.find?_cons]
  by_cases h : e.1 = k
  · rw [decide_eq_true h, if_pos h]
  · rw [decide_eq_false h, if_neg h]
theorem getI_none : ∀ {L : List Ent} {k : List L2.Key}, (∀ e ∈ L, e.1 ≠ k) → getI L k = 0
  | [], _, _ => rfl
  | e :: L, k, h => by
    rw [getI_cons, if_neg (h e List.mem_cons_self)]
    exact getI_none fun x hx => h x (List.mem_cons_of_mem _ hx)
theorem getI_mem : ∀ {L : List Ent} {e : Ent}, (L.map (·.1)).Nodup → e ∈ L → getI L e.1 = e.2
  | x :: L, e, nd, h => by
    obtain ⟨n1, n2⟩ := List.nodup_cons.mp nd
    rw [getI_cons]
    rcases List.mem_cons.mp h with z | z
    · rw [z, if_pos rfl]
    · rw [if_neg fun q => n1 (List.mem_map.mpr ⟨e, z, q.symm⟩)]
      exact getI_mem n2 z
theorem getI_csort {kd : List Bool} {T : List Ent} (ok : TOk kd T) (k : List L2.Key) : getI (csort T) k = getI T k := by
  obtain ⟨h1, h2, _⟩ := csort_sub ok
  by_cases h : ∃ e ∈ T, e.1 = k
  · obtain ⟨e, he, rfl⟩ := h
    rw [getI_mem ok.nd he]
    cases q : nz e with
    | true => exact getI_mem h2 ((csort_perm T).mem_iff.mpr (List.mem_filter.mpr ⟨he, q⟩))
    | false =>
      have e0 : e.2 = 0 := by
        unfold nz at q
        simpa using q
      rw [e0]
      refine getI_none fun x hx z => ?_
      obtain ⟨x1, x2⟩ := h1 x hx
      have a := getI_mem ok.nd x1
      have b := getI_mem ok.nd he
      rw [z] at a
      rw [a] at b
      unfold nz at x2
      rw [b, e0] at x2
      cases x2
  · have hn : ∀ e ∈ T, e.1 ≠ k := fun e he z => h ⟨e, he, z⟩
    rw [getI_none hn, getI_none fun e he => hn e (h1 e he).1]
theorem ev_told_of {L : List Ent} {k : List L2.Key} {st : Store} (hk : tupGAll (k.map keyD) = true) (hL : ∀ e ∈ L, goodKey e.1 = true) : f_told_of [.d (.tuple (L.map ent)), .d (.tuple (k.map keyD))] st = some (.d (.int (getI L k)), st) := by
  have key : wp (f_told_of [.d (.tuple (L.map ent)), .d (.tuple (k.map keyD))] st) fun a s => a = .d (.int (getI L k)) ∧ s = st := by
    simp only [f_told_of, s_told_of, mAny, truF, wp_some, wp_none, wp_bind, wp_sFor, mOp, mUn, mC, mVar, mTest, mTru, mAnd, mOr, mNot, mAndV, mOrV, mNotV, mIf, mNil, mCons, mCall, mTup, mLstD, mLst, mChain, mPart, mSl, mMeth, mIsi, sSeq, sNil, sIf, sRet, sRetN, sAsg, sExpr, sPar, sPar3, gN, gT, gsCons, gsNil, gIx, bodyM, retM, List.getElem?_cons_zero, List.getElem?_cons_succ, List.set_cons_zero, List.set_cons_succ, List.map_cons, List.map_nil, List.length_cons, List.length_nil, List.replicate, List.cons_append, List.nil_append, Option.bind_some, Option.map_some, if_true, if_false, reduceIte, Bool.false_eq_true, tyN, datas, iiF, addI, Bool.not_true, Bool.not_false, Nat.zero_add, Nat.reduceAdd, Nat.reduceSub, reduceCtorEq]
    refine wp_for (fun l env s => s = st ∧ (∃ o, env = [some (PM.D.d (.tuple (L.map ent))), some (PM.D.d (.tuple (k.map keyD))), o]) ∧ ∃ L', l = L'.map dEnt ∧ (∀ e ∈ L', goodKey e.1 = true) ∧ getI L' k = getI L k) (fun env s ⟨h1, ⟨o, h2⟩, h3⟩ => ?_) (fun y l env s ⟨h1, ⟨o, h2⟩, L', h3, h4, h5⟩ => ?_) _ _ _ ⟨rfl, ⟨_, rfl⟩, L, dmap_ent L, hL, rfl⟩
    · subst h1 h2
      obtain ⟨L', h3, h4, h5⟩ := h3
      have : L' = [] := by
        cases L' with
        | nil => rfl
        | cons _ _ => cases h3
      subst this
      refine ⟨holds_none, ?_⟩
      simp only [truF, wp_some, wp_none, wp_bind, wp_sFor, mOp, mUn, mC, mVar, mTest, mTru, mAnd, mOr, mNot, mAndV, mOrV, mNotV, mIf, mNil, mCons, mCall, mTup, mLstD, mLst, mChain, mPart, mSl, mMeth, mIsi, sSeq, sNil, sIf, sRet, sRetN, sAsg, sExpr, sPar, sPar3, gN, gT, gsCons, gsNil, gIx, bodyM, retM, List.getElem?_cons_zero, List.getElem?_cons_succ, List.set_cons_zero, List.set_cons_succ, List.map_cons, List.map_nil, List.length_cons, List.length_nil, List.replicate, List.cons_append, List.nil_append, Option.bind_some, Option.map_some, if_true, if_false, reduceIte, Bool.false_eq_true, tyN, datas, iiF, addI, Bool.not_true, Bool.not_false, Nat.zero_add, Nat.reduceAdd, Nat.reduceSub, reduceCtorEq]
      exact ⟨by rw [← h5]; rfl, trivial⟩
    · subst h1 h2
      cases L' with
      | nil => cases h3
      | cons e L' =>
        rw [List.map_cons] at h3
        injection h3 with h3 h3'
        subst h3 h3'
        have ge := h4 e List.mem_cons_self
        have hl := goodKey_len ge
        have e1 := fun st => ev_e3 (e := e) (st := st) hl
        have e2 := fun st => ev_eq (st := st) (sh_keys (gk_all ge)) (sh_keys hk)
        have e3 := fun st => ev_en (e := e) (st := st) hl
        refine ⟨holds_none, ?_⟩
        rw [getI_cons] at h5
        by_cases hek : e.1 = k
        · rw [if_pos hek] at h5
          have q : PyData.eqv (.tuple (e.1.map keyD)) (.tuple (k.map keyD)) = true := by rw [eqv_tupk, decide_eq_true hek]
          simp only [b_told_of_1, dEnt, e1, e2, e3, q, truF, wp_some, wp_none, wp_bind, wp_sFor, mOp, mUn, mC, mVar, mTest, mTru, mAnd, mOr, mNot, mAndV, mOrV, mNotV, mIf, mNil, mCons, mCall, mTup, mLstD, mLst, mChain, mPart, mSl, mMeth, mIsi, sSeq, sNil, sIf, sRet, sRetN, sAsg, sExpr, sPar, sPar3, gN, gT, gsCons, gsNil, gIx, bodyM, retM, List.getElem?_cons_zero, List.getElem?_cons_succ, List.set_cons_zero, List.set_cons_succ, List.map_cons, List.map_nil, List.length_cons, List.length_nil, List.replicate, List.cons_append, List.nil_append, Option.bind_some, Option.map_some, if_true, if_false, reduceIte, Bool.false_eq_true, tyN, datas, iiF, addI, Bool.not_true, Bool.not_false, Nat.zero_add, Nat.reduceAdd, Nat.reduceSub, reduceCtorEq]
          exact ⟨by rw [← h5], trivial⟩
        · rw [if_neg hek] at h5
          have q : PyData.eqv (.tuple (e.1.map keyD)) (.tuple (k.map keyD)) = false := by rw [eqv_tupk, decide_eq_false hek]
          simp only [b_told_of_1, dEnt, e1, e2, e3, q, truF, wp_some, wp_none, wp_bind, wp_sFor, mOp, mUn, mC, mVar, mTest, mTru, mAnd, mOr, mNot, mAndV, mOrV, mNotV, mIf, mNil, mCons, mCall, mTup, mLstD, mLst, mChain, mPart, mSl, mMeth, mIsi, sSeq, sNil, sIf, sRet, sRetN, sAsg, sExpr, sPar, sPar3, gN, gT, gsCons, gsNil, gIx, bodyM, retM, List.getElem?_cons_zero, List.getElem?_cons_succ, List.set_cons_zero, List.set_cons_succ, List.map_cons, List.map_nil, List.length_cons, List.length_nil, List.replicate, List.cons_append, List.nil_append, Option.bind_some, Option.map_some, if_true, if_false, reduceIte, Bool.false_eq_true, tyN, datas, iiF, addI, Bool.not_true, Bool.not_false, Nat.zero_add, Nat.reduceAdd, Nat.reduceSub, reduceCtorEq]
          exact ⟨trivial, ⟨_, rfl⟩, L', rfl, fun x hx => h4 x (List.mem_cons_of_mem _ hx), h5⟩
  obtain ⟨⟨a, s⟩, e, h1, h2⟩ := key
  dsimp only at h1 h2
  subst h1 h2
  exact e
/-! ### sorted, tuple -/
theorem ev_sorted {m : Nat} {L : List Ent} {st : Store} (h : st[m]? = some (.lst (L.map dEnt))) (hs : sortB (L.map ent) = true) : sortedF [.ref m] st = some (.ref st.length, st ++ [.lst ((sortD (L.map ent)).map PM.D.d)]) := by
  unfold sortedF
  simp only [lstOf, h, lstC, Option.bind_some, ← dmap_ent, datas_map, hs, if_true]
theorem ev_tuple {m : Nat} {ds : List PyData} {st : Store} (h : st[m]? = some (.lst (ds.map PM.D.d))) : tupleF [.ref m] st = some (.d (.tuple ds), st) := by
  unfold tupleF
  simp only [lstOf, h, lstC, Option.bind_some, datas_map, Option.map_some]
theorem last_get {st : Store} {c : Cell} : (st ++ [c])[st.length]? = some c := get_mid st [] c
theorem filt_live (T : List Ent) (k : List L2.Key) (n : Int) : ((csort T).filter (fun e => !decide (e.1 = k)) ++ (if (n == 0) = true then [] else [(k, n)])).Perm (live (setI T k n)) := by
  unfold live setI
  rw [List.filter_append]
  refine List.Perm.append ?_ ?_
  · refine ((csort_perm T).filter _).trans ?_
    unfold live
    rw [List.filter_filter, List.filter_filter]
    refine List.Perm.of_eq (List.filter_congr fun x _ => Bool.and_comm _ _)
  · refine List.Perm.of_eq ?_
    cases h : (n == 0) with
    | true => rw [if_pos rfl, List.filter_cons_of_neg (by unfold nz; rw [h]; exact Bool.false_ne_true)]; rfl
    | false => rw [if_neg Bool.false_ne_true, List.filter_cons_of_pos (by unfold nz; rw [h]; rfl)]; rfl
theorem canon_put {kd : List Bool} {T : List Ent} (ok : TOk kd T) {k : List L2.Key} (hk : k.length = 3) (n : Int) : sortD (((csort T).filter (fun e => !decide (e.1 = k)) ++ (if (n == 0) = true then [] else [(k, n)])).map ent) = canon (putI T k n) := by
  have p := put_perm (k := k) (n := n) ok.nd
  have h3 : ∀ e ∈ setI T k n, e.1.length = 3 := fun e he => by
    unfold setI at he
    rcases List.mem_append.mp he with he | he
    · exact goodKey_len (ok.good e (List.mem_filter.mp he).1)
    · rw [List.mem_singleton.mp he]; exact hk
  rw [canon_of (filt_live T k n) h3]
  exact (canon_perm p fun e he => h3 e (p.mem_iff.mp he)).symm
theorem ev_set0 {kd : List Bool} {T : List Ent} (ok : TOk kd T) {k : List L2.Key} {n : Int} {st : Store} (hp : k.map Sum.isRight = kd) (hk : goodKey k = true) :
    ∃ t, f_set_entry [.d (.tuple (canon T)), .d (.tuple (k.map keyD)), .d (.int n)] st = some (.d (.tuple (canon (putI T k n))), st ++ t) := by
  obtain ⟨c1, c2, c3⟩ := csort_sub ok
  refine wp_ex ?_
  unfold canon
  simp only [f_set_entry, s_set_entry, truF, wp_some, wp_none, wp_bind, wp_sFor, mOp, mUn, mC, mVar, mTest, mTru, mAnd, mOr, mNot, mAndV, mOrV, mNotV, mIf, mNil, mCons, mCall, mTup, mLstD, mLst, mChain, mPart, mSl, mMeth, mIsi, sSeq, sNil, sIf, sRet, sRetN, sAsg, sExpr, sPar, sPar3, gN, gT, gsCons, gsNil, gIx, bodyM, retM, List.getElem?_cons_zero, List.getElem?_cons_succ, List.set_cons_zero, List.set_cons_succ, List.map_cons, List.map_nil, List.length_cons, List.length_nil, List.replicate, List.cons_append, List.nil_append, Option.bind_some, Option.map_some, if_true, if_false, reduceIte, Bool.false_eq_true, tyN, datas, iiF, addI, Bool.not_true, Bool.not_false, Nat.zero_add, Nat.reduceAdd, Nat.reduceSub, reduceCtorEq]
  refine wp_filter dEnt (fun e => !decide (e.1 = k)) dEnt (csort T) (g := none) (s0 := st) ?_ holds_none (small _ (by omega)) (fun s hs e he => ?_) fun t => ?_
  · simp only [mAny, dmap_ent, truF, wp_some, wp_none, wp_bind, wp_sFor, mOp, mUn, mC, mVar, mTest, mTru, mAnd, mOr, mNot, mAndV, mOrV, mNotV, mIf, mNil, mCons, mCall, mTup, mLstD, mLst, mChain, mPart, mSl, mMeth, mIsi, sSeq, sNil, sIf, sRet, sRetN, sAsg, sExpr, sPar, sPar3, gN, gT, gsCons, gsNil, gIx, bodyM, retM, List.getElem?_cons_zero, List.getElem?_cons_succ, List.set_cons_zero, List.set_cons_succ, List.map_cons, List.map_nil, List.length_cons, List.length_nil, List.replicate, List.cons_append, List.nil_append, Option.bind_some, Option.map_some, if_true, if_false, reduceIte, Bool.false_eq_true, tyN, datas, iiF, addI, Bool.not_true, Bool.not_false, Nat.zero_add, Nat.reduceAdd, Nat.reduceSub, reduceCtorEq]
  · have ge := ok.good e (c1 e he).1
    have e1 := fun st => ev_e3 (e := e) (st := st) (goodKey_len ge)
    have e2 := fun st => ev_ne (st := st) (sh_keys (gk_all ge)) (sh_keys (gk_all hk))
    simp only [wipeE, dEnt, e1, e2, eqv_tupk, truF, wp_some, wp_none, wp_bind, wp_sFor, mOp, mUn, mC, mVar, mTest, mTru, mAnd, mOr, mNot, mAndV, mOrV, mNotV, mIf, mNil, mCons, mCall, mTup, mLstD, mLst, mChain, mPart, mSl, mMeth, mIsi, sSeq, sNil, sIf, sRet, sRetN, sAsg, sExpr, sPar, sPar3, gN, gT, gsCons, gsNil, gIx, bodyM, retM, List.getElem?_cons_zero, List.getElem?_cons_succ, List.set_cons_zero, List.set_cons_succ, List.map_cons, List.map_nil, List.length_cons, List.length_nil, List.replicate, List.cons_append, List.nil_append, Option.bind_some, Option.map_some, if_true, if_false, reduceIte, Bool.false_eq_true, tyN, datas, iiF, addI, Bool.not_true, Bool.not_false, Nat.zero_add, Nat.reduceAdd, Nat.reduceSub, reduceCtorEq]
    refine ⟨trivial, ?_⟩
    split
    · exact ⟨List.prefix_refl _, trivial⟩
    · exact List.prefix_refl _
  · have e0 := fun st => ev_ne (x := .int n) (y := .int 0) (st := st) (sh_int n) (sh_int 0)
    have hl : ((csort T).filter fun e => !decide (e.1 = k)).length ≤ 800 := Nat.le_trans (List.length_filter_le _ _) c3
    have hb : ∀ L : List Ent, L = (csort T).filter (fun e => !decide (e.1 = k)) ++ (if (n == 0) = true then [] else [(k, n)]) → sortB (L.map ent) = true := fun L hL => by
      subst hL
      refine sortB_ent (kd := kd) (fun e he => ?_) ?_
      · rcases List.mem_append.mp he with he | he
        · exact ok.pat e (c1 e (List.mem_filter.mp he).1).1
        · split at he
          · cases he
          · rw [List.mem_singleton.mp he]; exact hp
      · rw [List.length_append]
        split <;> simp <;> omega
    have he : ent (k, n) = .tuple (k.map keyD ++ [.int n]) := rfl
    have hf1 : fits 1 = true := smallB (by decide)
    have hf2 : fits (k.map keyD).length = true := smallB (by rw [List.length_map, goodKey_len hk]; decide)
    have hf3 : fits ((k.map keyD).length + 1) = true := smallB (by rw [List.length_map, goodKey_len hk]; decide)
    have e3 : ∀ L, L = (csort T).filter (fun e => !decide (e.1 = k)) ++ (if (n == 0) = true then [] else [(k, n)]) → sortD (L.map ent) = (csort (putI T k n)).map ent := fun L hL => by
      rw [hL, canon_put ok (goodKey_len hk) n]
      rfl
    cases h0 : (n == (0 : Int)) with
    | true =>
      rw [h0] at hb e3
      simp only [if_true, List.append_nil] at hb e3
      simp only [e0, PyData.eqv, h0, truF, wp_some, wp_none, wp_bind, wp_sFor, mOp, mUn, mC, mVar, mTest, mTru, mAnd, mOr, mNot, mAndV, mOrV, mNotV, mIf, mNil, mCons, mCall, mTup, mLstD, mLst, mChain, mPart, mSl, mMeth, mIsi, sSeq, sNil, sIf, sRet, sRetN, sAsg, sExpr, sPar, sPar3, gN, gT, gsCons, gsNil, gIx, bodyM, retM, List.getElem?_cons_zero, List.getElem?_cons_succ, List.set_cons_zero, List.set_cons_succ, List.map_cons, List.map_nil, List.length_cons, List.length_nil, List.replicate, List.cons_append, List.nil_append, Option.bind_some, Option.map_some, if_true, if_false, reduceIte, Bool.false_eq_true, tyN, datas, iiF, addI, Bool.not_true, Bool.not_false, Nat.zero_add, Nat.reduceAdd, Nat.reduceSub, reduceCtorEq]
      refine wp_of (ev_sorted (get_mid st t _) (hb _ rfl)) ?_
      refine wp_of (ev_tuple last_get) ?_
      exact ⟨by rw [e3 _ rfl], by rw [List.append_assoc]; exact pre_app⟩
    | false =>
      rw [h0] at hb e3
      simp only [Bool.false_eq_true, if_false] at hb e3
      have ea : appendF (.ref st.length) [.d (.tuple (k.map keyD ++ [.int n]))] (st ++ Cell.lst (((csort T).filter fun e => !decide (e.1 = k)).map dEnt) :: t) = some (.d .none, st ++ Cell.lst (((csort T).filter (fun e => !decide (e.1 = k)) ++ [(k, n)]).map dEnt) :: t) := by
        unfold appendF
        simp only [get_mid]
        rw [if_pos (by rw [List.length_map]; exact Nat.lt_of_le_of_lt hl (by rw [sizeLine_eq]; decide)), set_mid, List.map_append]
        rfl
      have et : tyD "list" (st ++ Cell.lst (((csort T).filter fun e => !decide (e.1 = k)).map dEnt) :: t) (.ref st.length) = true := by
        unfold tyD
        simp only [get_mid]
        rfl
      simp only [e0, PyData.eqv, h0, et, addF, hf1, hf2, hf3, ea, truF, wp_some, wp_none, wp_bind, wp_sFor, mOp, mUn, mC, mVar, mTest, mTru, mAnd, mOr, mNot, mAndV, mOrV, mNotV, mIf, mNil, mCons, mCall, mTup, mLstD, mLst, mChain, mPart, mSl, mMeth, mIsi, sSeq, sNil, sIf, sRet, sRetN, sAsg, sExpr, sPar, sPar3, gN, gT, gsCons, gsNil, gIx, bodyM, retM, List.getElem?_cons_zero, List.getElem?_cons_succ, List.set_cons_zero, List.set_cons_succ, List.map_cons, List.map_nil, List.length_cons, List.length_nil, List.replicate, List.cons_append, List.nil_append, Option.bind_some, Option.map_some, if_true, if_false, reduceIte, Bool.false_eq_true, tyN, datas, iiF, addI, Bool.not_true, Bool.not_false, Nat.zero_add, Nat.reduceAdd, Nat.reduceSub, reduceCtorEq]
      refine wp_of (ev_sorted (get_mid st t _) (hb _ rfl)) ?_
      refine wp_of (ev_tuple last_get) ?_
      exact ⟨by rw [e3 _ rfl], by rw [List.append_assoc]; exact pre_app⟩
end K34

set_option Elab.async false
set_option linter.all false
set_option maxRecDepth 100000
set_option autoImplicit false
namespace K34
open PySem PySem.Spec PyProof.Rows L2 PM
open Classical

noncomputable def bookD (P C : List Ent) : PyData := .tuple [.str ("book" : Str), .tuple (canon P), .tuple (canon C)]
theorem bk1 {P C : List Ent} {st : Store} : getF (.d (bookD P C)) (.d (.int 1)) st = some (.d (.tuple (canon P)), st) := ev_ix (i := 1) rfl rfl
theorem bk2 {P C : List Ent} {st : Store} : getF (.d (bookD P C)) (.d (.int 2)) st = some (.d (.tuple (canon C)), st) := ev_ix (i := 2) rfl rfl
abbrev pK : List Bool := [true, true, false]
abbrev cK' : List Bool := [false, true, true]
def kP (a u : Str) (h : Int) : List L2.Key := [.inr a, .inr u, .inl h]
def kC (h : Int) (c k : Str) : List L2.Key := [.inl h, .inr c, .inr k]
theorem fits3 : fits 3 = true := smallB (by decide)
theorem fits2 : fits 2 = true := smallB (by decide)
theorem fits1 : fits 1 = true := smallB (by decide)
theorem ev_part_of {P C : List Ent} (ok : TOk pK P) {a u : Str} {h : Int} {st : Store} (hk : goodKey (kP a u h) = true) : f_part_of [.d (bookD P C), .d (.str a), .d (.str u), .d (.int h)] st = some (.d (.int (getI P (kP a u h))), st) := by
  have e1 := fun st => ev_told_of (L := csort P) (k := kP a u h) (st := st) (gk_all hk) fun e he => ok.good e ((csort_sub ok).1 e he).1
  rw [getI_csort ok] at e1
  have e2 : ∀ st, f_told_of [.d (.tuple (canon P)), .d (.tuple [.str a, .str u, .int h])] st = some (.d (.int (getI P (kP a u h))), st) := e1
  simp only [f_part_of, s_part_of, bk1, fits3, e2, truF, wp_some, wp_none, wp_bind, wp_sFor, mOp, mUn, mC, mVar, mTest, mTru, mAnd, mOr, mNot, mAndV, mOrV, mNotV, mIf, mNil, mCons, mCall, mTup, mLstD, mLst, mChain, mPart, mSl, mMeth, mIsi, sSeq, sNil, sIf, sRet, sRetN, sAsg, sExpr, sPar, sPar3, gN, gT, gsCons, gsNil, gIx, bodyM, retM, List.getElem?_cons_zero, List.getElem?_cons_succ, List.set_cons_zero, List.set_cons_succ, List.map_cons, List.map_nil, List.length_cons, List.length_nil, List.replicate, List.cons_append, List.nil_append, Option.bind_some, Option.map_some, if_true, if_false, reduceIte, Bool.false_eq_true, tyN, datas, iiF, addI, Bool.not_true, Bool.not_false, Nat.zero_add, Nat.reduceAdd, Nat.reduceSub, reduceCtorEq]
theorem ev_cell_of {P C : List Ent} (ok : TOk cK' C) {h : Int} {c k : Str} {st : Store} (hk : goodKey (kC h c k) = true) : f_cell_of [.d (bookD P C), .d (.int h), .d (.str c), .d (.str k)] st = some (.d (.int (getI C (kC h c k))), st) := by
  have e1 := fun st => ev_told_of (L := csort C) (k := kC h c k) (st := st) (gk_all hk) fun e he => ok.good e ((csort_sub ok).1 e he).1
  rw [getI_csort ok] at e1
  have e2 : ∀ st, f_told_of [.d (.tuple (canon C)), .d (.tuple [.int h, .str c, .str k])] st = some (.d (.int (getI C (kC h c k))), st) := e1
  simp only [f_cell_of, s_cell_of, bk2, fits3, e2, truF, wp_some, wp_none, wp_bind, wp_sFor, mOp, mUn, mC, mVar, mTest, mTru, mAnd, mOr, mNot, mAndV, mOrV, mNotV, mIf, mNil, mCons, mCall, mTup, mLstD, mLst, mChain, mPart, mSl, mMeth, mIsi, sSeq, sNil, sIf, sRet, sRetN, sAsg, sExpr, sPar, sPar3, gN, gT, gsCons, gsNil, gIx, bodyM, retM, List.getElem?_cons_zero, List.getElem?_cons_succ, List.set_cons_zero, List.set_cons_succ, List.map_cons, List.map_nil, List.length_cons, List.length_nil, List.replicate, List.cons_append, List.nil_append, Option.bind_some, Option.map_some, if_true, if_false, reduceIte, Bool.false_eq_true, tyN, datas, iiF, addI, Bool.not_true, Bool.not_false, Nat.zero_add, Nat.reduceAdd, Nat.reduceSub, reduceCtorEq]
theorem ev_set {kd : List Bool} {T : List Ent} (ok : TOk kd T) {k : List L2.Key} {n : Int} {st : Store} (hp : k.map Sum.isRight = kd) (hk : goodKey k = true) :
    f_set_entry [.d (.tuple (canon T)), .d (.tuple (k.map keyD)), .d (.int n)] st = some (.d (.tuple (canon (putI T k n))), st ++ J f_set_entry [.d (.tuple (canon T)), .d (.tuple (k.map keyD)), .d (.int n)] st) := jof (ev_set0 ok hp hk)
theorem ev_moved {P C : List Ent} (ok : TOk pK P) {a u : Str} {h n : Int} {st : Store} (hk : goodKey (kP a u h) = true) :
    wp (f_moved [.d (bookD P C), .d (.str a), .d (.str u), .d (.int h), .d (.int n)] st) fun x s => st <+: s ∧ x = if getI P (kP a u h) + n < 0 then .d .none else .d (bookD (putI P (kP a u h) (getI P (kP a u h) + n)) C) := by
  have e1 := fun st => ev_part_of (P := P) (C := C) ok (st := st) hk
  by_cases q : getI P (kP a u h) + n < 0
  · rw [if_pos q]
    simp only [f_moved, s_moved, e1, addF, ltF, q, decide_true, truF, wp_some, wp_none, wp_bind, wp_sFor, mOp, mUn, mC, mVar, mTest, mTru, mAnd, mOr, mNot, mAndV, mOrV, mNotV, mIf, mNil, mCons, mCall, mTup, mLstD, mLst, mChain, mPart, mSl, mMeth, mIsi, sSeq, sNil, sIf, sRet, sRetN, sAsg, sExpr, sPar, sPar3, gN, gT, gsCons, gsNil, gIx, bodyM, retM, List.getElem?_cons_zero, List.getElem?_cons_succ, List.set_cons_zero, List.set_cons_succ, List.map_cons, List.map_nil, List.length_cons, List.length_nil, List.replicate, List.cons_append, List.nil_append, Option.bind_some, Option.map_some, if_true, if_false, reduceIte, Bool.false_eq_true, tyN, datas, iiF, addI, Bool.not_true, Bool.not_false, Nat.zero_add, Nat.reduceAdd, Nat.reduceSub, reduceCtorEq]
    exact ⟨List.prefix_refl _, trivial⟩
  · rw [if_neg q]
    obtain ⟨t, e2⟩ := ev_set0 (n := getI P (kP a u h) + n) ok (st := st) (show (kP a u h).map Sum.isRight = pK from rfl) hk
    have e2 : f_set_entry [.d (.tuple (canon P)), .d (.tuple [.str a, .str u, .int h]), .d (.int (getI P (kP a u h) + n))] st = _ := e2
    simp only [f_moved, s_moved, e1, addF, ltF, q, decide_false, bk1, bk2, fits3, e2, truF, wp_some, wp_none, wp_bind, wp_sFor, mOp, mUn, mC, mVar, mTest, mTru, mAnd, mOr, mNot, mAndV, mOrV, mNotV, mIf, mNil, mCons, mCall, mTup, mLstD, mLst, mChain, mPart, mSl, mMeth, mIsi, sSeq, sNil, sIf, sRet, sRetN, sAsg, sExpr, sPar, sPar3, gN, gT, gsCons, gsNil, gIx, bodyM, retM, List.getElem?_cons_zero, List.getElem?_cons_succ, List.set_cons_zero, List.set_cons_succ, List.map_cons, List.map_nil, List.length_cons, List.length_nil, List.replicate, List.cons_append, List.nil_append, Option.bind_some, Option.map_some, if_true, if_false, reduceIte, Bool.false_eq_true, tyN, datas, iiF, addI, Bool.not_true, Bool.not_false, Nat.zero_add, Nat.reduceAdd, Nat.reduceSub, reduceCtorEq]
    exact ⟨pre_app, rfl⟩
theorem ev_with {P C : List Ent} (ok : TOk cK' C) {h n : Int} {c k : Str} {st : Store} (hk : goodKey (kC h c k) = true) :
    wp (f_with_cell [.d (bookD P C), .d (.int h), .d (.str c), .d (.str k), .d (.int n)] st) fun x s => st <+: s ∧ x = .d (bookD P (putI C (kC h c k) n)) := by
  obtain ⟨t, e2⟩ := ev_set0 (n := n) ok (st := st) (show (kC h c k).map Sum.isRight = cK' from rfl) hk
  have e2 : f_set_entry [.d (.tuple (canon C)), .d (.tuple [.int h, .str c, .str k]), .d (.int n)] st = _ := e2
  simp only [f_with_cell, s_with_cell, bk1, bk2, fits3, e2, truF, wp_some, wp_none, wp_bind, wp_sFor, mOp, mUn, mC, mVar, mTest, mTru, mAnd, mOr, mNot, mAndV, mOrV, mNotV, mIf, mNil, mCons, mCall, mTup, mLstD, mLst, mChain, mPart, mSl, mMeth, mIsi, sSeq, sNil, sIf, sRet, sRetN, sAsg, sExpr, sPar, sPar3, gN, gT, gsCons, gsNil, gIx, bodyM, retM, List.getElem?_cons_zero, List.getElem?_cons_succ, List.set_cons_zero, List.set_cons_succ, List.map_cons, List.map_nil, List.length_cons, List.length_nil, List.replicate, List.cons_append, List.nil_append, Option.bind_some, Option.map_some, if_true, if_false, reduceIte, Bool.false_eq_true, tyN, datas, iiF, addI, Bool.not_true, Bool.not_false, Nat.zero_add, Nat.reduceAdd, Nat.reduceSub, reduceCtorEq]
  exact ⟨pre_app, rfl⟩
/-! ### sums -/
theorem ints_map : ∀ ns : List Int, intsOf (ns.map fun n => PM.D.d (.int n)) = some ns
  | [] => rfl
  | n :: ns => by
    rw [List.map_cons, intsOf, ints_map ns]
    rfl
theorem ev_sum {m : Nat} {ns : List Int} {st : Store} (h : st[m]? = some (.lst (ns.map fun n => PM.D.d (.int n)))) : sumF [.ref m] st = some (.d (.int ns.sum), st) := by
  unfold sumF
  simp only [lstOf, h, lstC, Option.bind_some, ints_map, Option.map_some]
theorem perm_sum {l m : List Int} (p : l.Perm m) : l.sum = m.sum := by
  induction p with
  | nil => rfl
  | cons x _ ih => rw [List.sum_cons, List.sum_cons, ih]
  | swap x y l =>
    rw [List.sum_cons, List.sum_cons, List.sum_cons, List.sum_cons]
    omega
  | trans _ _ a b => exact a.trans b
def accS (e : Ent) : Str := match e.1 with
  | .inr a :: _ => a
  | _ => Str.empty
def unitS (e : Ent) : Str := match e.1 with
  | _ :: .inr u :: _ => u
  | _ => Str.empty
theorem part_form {P : List Ent} (ok : TOk pK P) {e : Ent} (he : e ∈ P) : ∃ a u h, e.1 = kP a u h ∧ accS e = a ∧ unitS e = u := by
  have hp := ok.pat e he
  obtain ⟨k, n⟩ := e
  match k, hp with
  | [.inr a, .inr u, .inl h], _ => exact ⟨a, u, h, rfl, rfl, rfl⟩
theorem gk_str {ks : List L2.Key} (h : tupGAll (ks.map keyD) = true) {z : Str} (hz : .inr z ∈ ks) : SeqAt.shaped (.str z) = true :=
  (good_str (good_of _ (tupG_mem h (keyD (.inr z)) (List.mem_map.mpr ⟨_, hz, rfl⟩)))).1
def sumBy (p : Ent → Bool) (L : List Ent) : Int := ((L.filter p).map (·.2)).sum
theorem sumBy_perm {p : Ent → Bool} {L M : List Ent} (h : L.Perm M) : sumBy p L = sumBy p M := perm_sum ((h.filter p).map _)
theorem ev_supply {P C : List Ent} (ok : TOk pK P) {u : Str} {st : Store} (hu : SeqAt.shaped (.str u) = true) :
    ∃ t, f_supply [.d (bookD P C), .d (.str u)] st = some (.d (.int (sumBy (fun e => decide (unitS e = u)) (live P))), st ++ t) := by
  obtain ⟨c1, c2, c3⟩ := csort_sub ok
  refine wp_ex ?_
  rw [← sumBy_perm (csort_perm P)]
  simp only [f_supply, s_supply, truF, wp_some, wp_none, wp_bind, wp_sFor, mOp, mUn, mC, mVar, mTest, mTru, mAnd, mOr, mNot, mAndV, mOrV, mNotV, mIf, mNil, mCons, mCall, mTup, mLstD, mLst, mChain, mPart, mSl, mMeth, mIsi, sSeq, sNil, sIf, sRet, sRetN, sAsg, sExpr, sPar, sPar3, gN, gT, gsCons, gsNil, gIx, bodyM, retM, List.getElem?_cons_zero, List.getElem?_cons_succ, List.set_cons_zero, List.set_cons_succ, List.map_cons, List.map_nil, List.length_cons, List.length_nil, List.replicate, List.cons_append, List.nil_append, Option.bind_some, Option.map_some, if_true, if_false, reduceIte, Bool.false_eq_true, tyN, datas, iiF, addI, Bool.not_true, Bool.not_false, Nat.zero_add, Nat.reduceAdd, Nat.reduceSub, reduceCtorEq]
  refine wp_filter dEnt (fun e => decide (unitS e = u)) (fun e => PM.D.d (.int e.2)) (csort P) (g := none) (s0 := st) ?_ holds_none (small _ (by omega)) (fun s hs e he => ?_) fun t => ?_
  · simp only [mAny, bk1, truF, wp_some, wp_none, wp_bind, wp_sFor, mOp, mUn, mC, mVar, mTest, mTru, mAnd, mOr, mNot, mAndV, mOrV, mNotV, mIf, mNil, mCons, mCall, mTup, mLstD, mLst, mChain, mPart, mSl, mMeth, mIsi, sSeq, sNil, sIf, sRet, sRetN, sAsg, sExpr, sPar, sPar3, gN, gT, gsCons, gsNil, gIx, bodyM, retM, List.getElem?_cons_zero, List.getElem?_cons_succ, List.set_cons_zero, List.set_cons_succ, List.map_cons, List.map_nil, List.length_cons, List.length_nil, List.replicate, List.cons_append, List.nil_append, Option.bind_some, Option.map_some, if_true, if_false, reduceIte, Bool.false_eq_true, tyN, datas, iiF, addI, Bool.not_true, Bool.not_false, Nat.zero_add, Nat.reduceAdd, Nat.reduceSub, reduceCtorEq]
    rw [← dmap_ent]
    rfl
  · obtain ⟨a, v, h, e1, e2, e3⟩ := part_form ok (c1 e he).1
    have ge := ok.good e (c1 e he).1
    have hl := goodKey_len ge
    have g1 := fun st => ev_ek (e := e) (st := st) (i := 1) (j := 1) rfl (by rw [e1]; rfl : e.1[1]? = some (.inr v))
    have g3 := fun st => ev_en (e := e) (st := st) hl
    have hv : SeqAt.shaped (.str v) = true := gk_str (gk_all ge) (by rw [e1]; simp [kP])
    have g2 : ∀ st, eqF (.d (keyD (.inr v))) (.d (.str u)) st = some (.d (.bool (PyData.eqv (keyD (.inr v)) (keyD (.inr u)))), st) := fun st => ev_eq hv hu
    simp only [wipeE, dEnt, g1, g2, g3, eqv_key, truF, wp_some, wp_none, wp_bind, wp_sFor, mOp, mUn, mC, mVar, mTest, mTru, mAnd, mOr, mNot, mAndV, mOrV, mNotV, mIf, mNil, mCons, mCall, mTup, mLstD, mLst, mChain, mPart, mSl, mMeth, mIsi, sSeq, sNil, sIf, sRet, sRetN, sAsg, sExpr, sPar, sPar3, gN, gT, gsCons, gsNil, gIx, bodyM, retM, List.getElem?_cons_zero, List.getElem?_cons_succ, List.set_cons_zero, List.set_cons_succ, List.map_cons, List.map_nil, List.length_cons, List.length_nil, List.replicate, List.cons_append, List.nil_append, Option.bind_some, Option.map_some, if_true, if_false, reduceIte, Bool.false_eq_true, tyN, datas, iiF, addI, Bool.not_true, Bool.not_false, Nat.zero_add, Nat.reduceAdd, Nat.reduceSub, reduceCtorEq]
    refine ⟨by rw [e3]; rw [decide_eq_decide]; exact ⟨fun z => Sum.inr.inj z, fun z => by rw [z]⟩, ?_⟩
    split
    · exact ⟨List.prefix_refl _, trivial⟩
    · exact List.prefix_refl _
  · refine wp_of (ev_sum (ns := ((csort P).filter fun e => decide (unitS e = u)).map (·.2)) (by rw [get_mid, List.map_map]; rfl)) ?_
    exact ⟨rfl, pre_app⟩
def auB (a u : Str) (e : Ent) : Bool := decide (accS e = a) && decide (unitS e = u)
theorem ev_amount_of {P C : List Ent} (ok : TOk pK P) {a u : Str} {st : Store} (ha : tupGAll ([.inr a, .inr u].map keyD) = true) :
    ∃ t, f_amount_of [.d (bookD P C), .d (.str a), .d (.str u)] st = some (.d (.int (sumBy (auB a u) (live P))), st ++ t) := by
  obtain ⟨c1, c2, c3⟩ := csort_sub ok
  refine wp_ex ?_
  rw [← sumBy_perm (csort_perm P)]
  simp only [f_amount_of, s_amount_of, truF, wp_some, wp_none, wp_bind, wp_sFor, mOp, mUn, mC, mVar, mTest, mTru, mAnd, mOr, mNot, mAndV, mOrV, mNotV, mIf, mNil, mCons, mCall, mTup, mLstD, mLst, mChain, mPart, mSl, mMeth, mIsi, sSeq, sNil, sIf, sRet, sRetN, sAsg, sExpr, sPar, sPar3, gN, gT, gsCons, gsNil, gIx, bodyM, retM, List.getElem?_cons_zero, List.getElem?_cons_succ, List.set_cons_zero, List.set_cons_succ, List.map_cons, List.map_nil, List.length_cons, List.length_nil, List.replicate, List.cons_append, List.nil_append, Option.bind_some, Option.map_some, if_true, if_false, reduceIte, Bool.false_eq_true, tyN, datas, iiF, addI, Bool.not_true, Bool.not_false, Nat.zero_add, Nat.reduceAdd, Nat.reduceSub, reduceCtorEq]
  refine wp_filter dEnt (auB a u) (fun e => PM.D.d (.int e.2)) (csort P) (g := none) (s0 := st) ?_ holds_none (small _ (by omega)) (fun s hs e he => ?_) fun t => ?_
  · simp only [mAny, bk1, truF, wp_some, wp_none, wp_bind, wp_sFor, mOp, mUn, mC, mVar, mTest, mTru, mAnd, mOr, mNot, mAndV, mOrV, mNotV, mIf, mNil, mCons, mCall, mTup, mLstD, mLst, mChain, mPart, mSl, mMeth, mIsi, sSeq, sNil, sIf, sRet, sRetN, sAsg, sExpr, sPar, sPar3, gN, gT, gsCons, gsNil, gIx, bodyM, retM, List.getElem?_cons_zero, List.getElem?_cons_succ, List.set_cons_zero, List.set_cons_succ, List.map_cons, List.map_nil, List.length_cons, List.length_nil, List.replicate, List.cons_append, List.nil_append, Option.bind_some, Option.map_some, if_true, if_false, reduceIte, Bool.false_eq_true, tyN, datas, iiF, addI, Bool.not_true, Bool.not_false, Nat.zero_add, Nat.reduceAdd, Nat.reduceSub, reduceCtorEq]
    rw [← dmap_ent]
    rfl
  · obtain ⟨b, v, h, e1, e2, e3⟩ := part_form ok (c1 e he).1
    have ge := ok.good e (c1 e he).1
    have hl := goodKey_len ge
    have g1 := fun st => ev_e2 (e := e) (st := st) hl
    have g3 := fun st => ev_en (e := e) (st := st) hl
    have hv : e.1.take 2 = [.inr b, .inr v] := by rw [e1]; rfl
    have g2 : ∀ st, eqF (.d (.tuple ((e.1.take 2).map keyD))) (.d (.tuple [.str a, .str u])) st = some (.d (.bool (PyData.eqv (.tuple ((e.1.take 2).map keyD)) (.tuple ([.inr a, .inr u].map keyD)))), st) := fun st => ev_eq (sh_keys (take_all 2 (gk_all ge))) (sh_keys ha)
    simp only [wipeE, dEnt, g1, g2, g3, eqv_tupk, fits2, truF, wp_some, wp_none, wp_bind, wp_sFor, mOp, mUn, mC, mVar, mTest, mTru, mAnd, mOr, mNot, mAndV, mOrV, mNotV, mIf, mNil, mCons, mCall, mTup, mLstD, mLst, mChain, mPart, mSl, mMeth, mIsi, sSeq, sNil, sIf, sRet, sRetN, sAsg, sExpr, sPar, sPar3, gN, gT, gsCons, gsNil, gIx, bodyM, retM, List.getElem?_cons_zero, List.getElem?_cons_succ, List.set_cons_zero, List.set_cons_succ, List.map_cons, List.map_nil, List.length_cons, List.length_nil, List.replicate, List.cons_append, List.nil_append, Option.bind_some, Option.map_some, if_true, if_false, reduceIte, Bool.false_eq_true, tyN, datas, iiF, addI, Bool.not_true, Bool.not_false, Nat.zero_add, Nat.reduceAdd, Nat.reduceSub, reduceCtorEq]
    refine ⟨?_, ?_⟩
    · unfold auB
      rw [hv, e2, e3, ← Bool.decide_and]
      show PyData.eqv (.tuple (([.inr b, .inr v] : List L2.Key).map keyD)) (.tuple (([.inr a, .inr u] : List L2.Key).map keyD)) = _
      rw [eqv_tupk, decide_eq_decide]
      constructor
      · intro z
        injection z with z1 z2
        injection z2 with z2 _
        exact ⟨Sum.inr.inj z1, Sum.inr.inj z2⟩
      · rintro ⟨rfl, rfl⟩
        rfl
    · split
      · exact ⟨List.prefix_refl _, trivial⟩
      · exact List.prefix_refl _
  · refine wp_of (ev_sum (ns := ((csort P).filter (auB a u)).map (·.2)) (by rw [get_mid, List.map_map]; rfl)) ?_
    exact ⟨rfl, pre_app⟩
/-! ### accounts, units -/
theorem strs_map : ∀ zs : List Str, strsOf (zs.map fun z => PM.D.d (.str z)) = some zs
  | [] => rfl
  | z :: zs => by
    rw [List.map_cons, strsOf, strs_map zs]
    rfl
theorem wp_sset {A : PM.Env → M PM.D} {env : PM.Env} {st : Store} {Q : PM.D → Store → Prop} {zs : List Str} (hz : zs.length ≤ 900) (h : wp (A env st) fun a s => lstOf s a = some (zs.map fun z => PM.D.d (.str z)) ∧ Q (.ref s.length) (s ++ [.lst ((sset zs).map PM.D.d)])) : wp (mSset A env st) Q := by
  unfold mSset
  rw [wp_bind]
  refine wp_mono h fun a s ⟨h1, h2⟩ => ?_
  have hb : zs.length + 1 < scanBound := by unfold scanBound; omega
  simp only [h1, Option.bind_some, strs_map, hb, if_true]
  exact wp_some.mpr h2
theorem ev_accounts {P C : List Ent} (ok : TOk pK P) {st : Store} : ∃ t, f_accounts [.d (bookD P C)] st = some (.d (.tuple (sset ((live P).map accS))), st ++ t) := by
  obtain ⟨c1, c2, c3⟩ := csort_sub ok
  refine wp_ex ?_
  rw [sset_congr (xs := (live P).map accS) (ys := (csort P).map accS) fun k => ((csort_perm P).map accS).mem_iff.symm]
  simp only [f_accounts, s_accounts, truF, wp_some, wp_none, wp_bind, wp_sFor, mOp, mUn, mC, mVar, mTest, mTru, mAnd, mOr, mNot, mAndV, mOrV, mNotV, mIf, mNil, mCons, mCall, mTup, mLstD, mLst, mChain, mPart, mSl, mMeth, mIsi, sSeq, sNil, sIf, sRet, sRetN, sAsg, sExpr, sPar, sPar3, gN, gT, gsCons, gsNil, gIx, bodyM, retM, List.getElem?_cons_zero, List.getElem?_cons_succ, List.set_cons_zero, List.set_cons_succ, List.map_cons, List.map_nil, List.length_cons, List.length_nil, List.replicate, List.cons_append, List.nil_append, Option.bind_some, Option.map_some, if_true, if_false, reduceIte, Bool.false_eq_true, tyN, datas, iiF, addI, Bool.not_true, Bool.not_false, Nat.zero_add, Nat.reduceAdd, Nat.reduceSub, reduceCtorEq]
  refine wp_sset (zs := (csort P).map accS) (by rw [List.length_map]; omega) ?_
  refine wp_map dEnt (fun e => PM.D.d (.str (accS e))) (csort P) (g := none) (s0 := st) ?_ holds_none (small _ (by omega)) (fun s hs e he => ?_) fun t => ⟨?_, ?_⟩
  · simp only [mAny, bk1, truF, wp_some, wp_none, wp_bind, wp_sFor, mOp, mUn, mC, mVar, mTest, mTru, mAnd, mOr, mNot, mAndV, mOrV, mNotV, mIf, mNil, mCons, mCall, mTup, mLstD, mLst, mChain, mPart, mSl, mMeth, mIsi, sSeq, sNil, sIf, sRet, sRetN, sAsg, sExpr, sPar, sPar3, gN, gT, gsCons, gsNil, gIx, bodyM, retM, List.getElem?_cons_zero, List.getElem?_cons_succ, List.set_cons_zero, List.set_cons_succ, List.map_cons, List.map_nil, List.length_cons, List.length_nil, List.replicate, List.cons_append, List.nil_append, Option.bind_some, Option.map_some, if_true, if_false, reduceIte, Bool.false_eq_true, tyN, datas, iiF, addI, Bool.not_true, Bool.not_false, Nat.zero_add, Nat.reduceAdd, Nat.reduceSub, reduceCtorEq]
    rw [← dmap_ent]
    rfl
  · obtain ⟨a, v, h, e1, e2, e3⟩ := part_form ok (c1 e he).1
    have g1 := fun st => ev_ek (e := e) (st := st) (i := 0) (j := 0) rfl (by rw [e1]; rfl : e.1[0]? = some (.inr a))
    simp only [mYes, wipeE, dEnt, g1, e2, truF, wp_some, wp_none, wp_bind, wp_sFor, mOp, mUn, mC, mVar, mTest, mTru, mAnd, mOr, mNot, mAndV, mOrV, mNotV, mIf, mNil, mCons, mCall, mTup, mLstD, mLst, mChain, mPart, mSl, mMeth, mIsi, sSeq, sNil, sIf, sRet, sRetN, sAsg, sExpr, sPar, sPar3, gN, gT, gsCons, gsNil, gIx, bodyM, retM, List.getElem?_cons_zero, List.getElem?_cons_succ, List.set_cons_zero, List.set_cons_succ, List.map_cons, List.map_nil, List.length_cons, List.length_nil, List.replicate, List.cons_append, List.nil_append, Option.bind_some, Option.map_some, if_true, if_false, reduceIte, Bool.false_eq_true, tyN, datas, iiF, addI, Bool.not_true, Bool.not_false, Nat.zero_add, Nat.reduceAdd, Nat.reduceSub, reduceCtorEq]
    exact ⟨List.prefix_refl _, rfl⟩
  · unfold lstOf
    simp only [get_mid, lstC, List.map_map]
    rfl
  · refine wp_of (ev_tuple last_get) ?_
    exact ⟨rfl, by rw [List.append_assoc]; exact pre_app⟩
theorem ev_units {P C : List Ent} (ok : TOk pK P) {st : Store} : ∃ t, f_units [.d (bookD P C)] st = some (.d (.tuple (sset ((live P).map unitS))), st ++ t) := by
  obtain ⟨c1, c2, c3⟩ := csort_sub ok
  refine wp_ex ?_
  rw [sset_congr (xs := (live P).map unitS) (ys := (csort P).map unitS) fun k => ((csort_perm P).map unitS).mem_iff.symm]
  simp only [f_units, s_units, truF, wp_some, wp_none, wp_bind, wp_sFor, mOp, mUn, mC, mVar, mTest, mTru, mAnd, mOr, mNot, mAndV, mOrV, mNotV, mIf, mNil, mCons, mCall, mTup, mLstD, mLst, mChain, mPart, mSl, mMeth, mIsi, sSeq, sNil, sIf, sRet, sRetN, sAsg, sExpr, sPar, sPar3, gN, gT, gsCons, gsNil, gIx, bodyM, retM, List.getElem?_cons_zero, List.getElem?_cons_succ, List.set_cons_zero, List.set_cons_succ, List.map_cons, List.map_nil, List.length_cons, List.length_nil, List.replicate, List.cons_append, List.nil_append, Option.bind_some, Option.map_some, if_true, if_false, reduceIte, Bool.false_eq_true, tyN, datas, iiF, addI, Bool.not_true, Bool.not_false, Nat.zero_add, Nat.reduceAdd, Nat.reduceSub, reduceCtorEq]
  refine wp_sset (zs := (csort P).map unitS) (by rw [List.length_map]; omega) ?_
  refine wp_map dEnt (fun e => PM.D.d (.str (unitS e))) (csort P) (g := none) (s0 := st) ?_ holds_none (small _ (by omega)) (fun s hs e he => ?_) fun t => ⟨?_, ?_⟩
  · simp only [mAny, bk1, truF, wp_some, wp_none, wp_bind, wp_sFor, mOp, mUn, mC, mVar, mTest, mTru, mAnd, mOr, mNot, mAndV, mOrV, mNotV, mIf, mNil, mCons, mCall, mTup, mLstD, mLst, mChain, mPart, mSl, mMeth, mIsi, sSeq, sNil, sIf, sRet, sRetN, sAsg, sExpr, sPar, sPar3, gN, gT, gsCons, gsNil, gIx, bodyM, retM, List.getElem?_cons_zero, List.getElem?_cons_succ, List.set_cons_zero, List.set_cons_succ, List.map_cons, List.map_nil, List.length_cons, List.length_nil, List.replicate, List.cons_append, List.nil_append, Option.bind_some, Option.map_some, if_true, if_false, reduceIte, Bool.false_eq_true, tyN, datas, iiF, addI, Bool.not_true, Bool.not_false, Nat.zero_add, Nat.reduceAdd, Nat.reduceSub, reduceCtorEq]
    rw [← dmap_ent]
    rfl
  · obtain ⟨a, v, h, e1, e2, e3⟩ := part_form ok (c1 e he).1
    have g1 := fun st => ev_ek (e := e) (st := st) (i := 1) (j := 1) rfl (by rw [e1]; rfl : e.1[1]? = some (.inr v))
    simp only [mYes, wipeE, dEnt, g1, e3, truF, wp_some, wp_none, wp_bind, wp_sFor, mOp, mUn, mC, mVar, mTest, mTru, mAnd, mOr, mNot, mAndV, mOrV, mNotV, mIf, mNil, mCons, mCall, mTup, mLstD, mLst, mChain, mPart, mSl, mMeth, mIsi, sSeq, sNil, sIf, sRet, sRetN, sAsg, sExpr, sPar, sPar3, gN, gT, gsCons, gsNil, gIx, bodyM, retM, List.getElem?_cons_zero, List.getElem?_cons_succ, List.set_cons_zero, List.set_cons_succ, List.map_cons, List.map_nil, List.length_cons, List.length_nil, List.replicate, List.cons_append, List.nil_append, Option.bind_some, Option.map_some, if_true, if_false, reduceIte, Bool.false_eq_true, tyN, datas, iiF, addI, Bool.not_true, Bool.not_false, Nat.zero_add, Nat.reduceAdd, Nat.reduceSub, reduceCtorEq]
    exact ⟨List.prefix_refl _, rfl⟩
  · unfold lstOf
    simp only [get_mid, lstC, List.map_map]
    rfl
  · refine wp_of (ev_tuple last_get) ?_
    exact ⟨rfl, by rw [List.append_assoc]; exact pre_app⟩
noncomputable def ssetS (zs : List Str) : List Str := (dedup zs).mergeSort fun a b => PySem.W.dataLe false id (.str a) (.str b)
theorem sset_S (zs : List Str) : sset zs = (ssetS zs).map PyData.str := by
  unfold sset ssetS sortD
  exact (PySem.W.sort_maps PyData.str (r := fun a b => PySem.W.dataLe false id (.str a) (.str b)) fun a _ b _ => rfl).symm
theorem mem_ssetS {zs : List Str} {z : Str} : z ∈ ssetS zs ↔ z ∈ zs := by
  unfold ssetS
  rw [(List.mergeSort_perm _ _).mem_iff, mem_dedup]
theorem ssetS_len (zs : List Str) : (ssetS zs).length ≤ zs.length := by
  unfold ssetS
  rw [(List.mergeSort_perm _ _).length_eq]
  induction zs with
  | nil => exact Nat.le_refl _
  | cons x zs ih =>
    show (if x ∈ dedup zs then dedup zs else x :: dedup zs).length ≤ _
    split
    · rw [List.length_cons]; omega
    · rw [List.length_cons, List.length_cons]; omega
noncomputable def supT (P : List Ent) : List PyData := (ssetS ((live P).map unitS)).map fun u => .tuple [.str u, .int (sumBy (fun e => decide (unitS e = u)) (live P))]
theorem live_sub {kd : List Bool} {T : List Ent} (ok : TOk kd T) : (∀ e ∈ live T, e ∈ T ∧ nz e = true) ∧ (live T).length ≤ 800 :=
  ⟨fun e he => List.mem_filter.mp he, Nat.le_trans (List.length_filter_le _ _) ok.len⟩
theorem unit_shaped {P : List Ent} (ok : TOk pK P) {u : Str} (hu : u ∈ ssetS ((live P).map unitS)) : SeqAt.shaped (.str u) = true := by
  obtain ⟨e, he, rfl⟩ := List.mem_map.mp (mem_ssetS.mp hu)
  have hm := ((live_sub ok).1 e he).1
  obtain ⟨a, v, h, e1, e2, e3⟩ := part_form ok hm
  rw [e3]
  exact gk_str (gk_all (ok.good e hm)) (by rw [e1]; simp [kP])
theorem ev_supplies {P C : List Ent} (ok : TOk pK P) {st : Store} : ∃ t, f_supplies [.d (bookD P C)] st = some (.d (.tuple (supT P)), st ++ t) := by
  obtain ⟨c1, c3⟩ := live_sub ok
  refine wp_ex ?_
  obtain ⟨t1, e1⟩ := ev_units (C := C) ok (st := st)
  have hl : (ssetS ((live P).map unitS)).length ≤ 900 := Nat.le_trans (ssetS_len _) (by rw [List.length_map]; omega)
  simp only [f_supplies, s_supplies, truF, wp_some, wp_none, wp_bind, wp_sFor, mOp, mUn, mC, mVar, mTest, mTru, mAnd, mOr, mNot, mAndV, mOrV, mNotV, mIf, mNil, mCons, mCall, mTup, mLstD, mLst, mChain, mPart, mSl, mMeth, mIsi, sSeq, sNil, sIf, sRet, sRetN, sAsg, sExpr, sPar, sPar3, gN, gT, gsCons, gsNil, gIx, bodyM, retM, List.getElem?_cons_zero, List.getElem?_cons_succ, List.set_cons_zero, List.set_cons_succ, List.map_cons, List.map_nil, List.length_cons, List.length_nil, List.replicate, List.cons_append, List.nil_append, Option.bind_some, Option.map_some, if_true, if_false, reduceIte, Bool.false_eq_true, tyN, datas, iiF, addI, Bool.not_true, Bool.not_false, Nat.zero_add, Nat.reduceAdd, Nat.reduceSub, reduceCtorEq]
  refine wp_map (fun u => PM.D.d (.str u)) (fun u => PM.D.d (.tuple [.str u, .int (sumBy (fun e => decide (unitS e = u)) (live P))])) (ssetS ((live P).map unitS)) (g := none) (s0 := st ++ t1) ?_ holds_none (small _ (by omega)) (fun s hs u hu => ?_) fun t => ?_
  · simp only [mAny, e1, sset_S, List.map_map, truF, wp_some, wp_none, wp_bind, wp_sFor, mOp, mUn, mC, mVar, mTest, mTru, mAnd, mOr, mNot, mAndV, mOrV, mNotV, mIf, mNil, mCons, mCall, mTup, mLstD, mLst, mChain, mPart, mSl, mMeth, mIsi, sSeq, sNil, sIf, sRet, sRetN, sAsg, sExpr, sPar, sPar3, gN, gT, gsCons, gsNil, gIx, bodyM, retM, List.getElem?_cons_zero, List.getElem?_cons_succ, List.set_cons_zero, List.set_cons_succ, List.map_cons, List.map_nil, List.length_cons, List.length_nil, List.replicate, List.cons_append, List.nil_append, Option.bind_some, Option.map_some, if_true, if_false, reduceIte, Bool.false_eq_true, tyN, datas, iiF, addI, Bool.not_true, Bool.not_false, Nat.zero_add, Nat.reduceAdd, Nat.reduceSub, reduceCtorEq]
    rfl
  · obtain ⟨t2, e2⟩ := ev_supply (C := C) ok (st := s) (unit_shaped ok hu)
    simp only [mYes, wipeE, e2, fits2, truF, wp_some, wp_none, wp_bind, wp_sFor, mOp, mUn, mC, mVar, mTest, mTru, mAnd, mOr, mNot, mAndV, mOrV, mNotV, mIf, mNil, mCons, mCall, mTup, mLstD, mLst, mChain, mPart, mSl, mMeth, mIsi, sSeq, sNil, sIf, sRet, sRetN, sAsg, sExpr, sPar, sPar3, gN, gT, gsCons, gsNil, gIx, bodyM, retM, List.getElem?_cons_zero, List.getElem?_cons_succ, List.set_cons_zero, List.set_cons_succ, List.map_cons, List.map_nil, List.length_cons, List.length_nil, List.replicate, List.cons_append, List.nil_append, Option.bind_some, Option.map_some, if_true, if_false, reduceIte, Bool.false_eq_true, tyN, datas, iiF, addI, Bool.not_true, Bool.not_false, Nat.zero_add, Nat.reduceAdd, Nat.reduceSub, reduceCtorEq]
    exact ⟨pre_app, trivial⟩
  · refine wp_of (ev_tuple (ds := supT P) (by rw [get_mid, supT, List.map_map]; rfl)) ?_
    exact ⟨rfl, by rw [List.append_assoc]; exact pre_app⟩
end K34

set_option Elab.async false
set_option linter.all false
set_option maxRecDepth 100000
set_option autoImplicit false
namespace K34
open PySem PySem.Spec PyProof.Rows L2 PM
open Classical

/-! ### the names of this law -/
def accL : List Str := ["till", "kate", "omar", "zoe", "zed"]
def unitL : List Str := ["gold", "gem", "tin"]
def conL : List Str := ["pay", "drawnp", "forge", "hold"]
def oneS (a u : Str) : Str := ("one." : Str) ++ a ++ ("." : Str) ++ u
def keyL : List Str := (["k", "m", "seen", "one.till.gold"] : List Str) ++ accL.flatMap fun a => unitL.map fun u => oneS a u
def nmB (z : Str) : Bool := goodS z && isNameS z
def kyB (z : Str) : Bool := goodS z && isKeyS z
theorem acc_ok : ∀ a ∈ accL, nmB a = true := by decide +kernel
theorem unit_ok : ∀ u ∈ unitL, (nmB u && !(u == ("none" : Str))) = true := by decide +kernel
theorem con_ok : ∀ u ∈ conL, nmB u = true := by decide +kernel
theorem key_ok : ∀ u ∈ keyL, kyB u = true := by decide +kernel
theorem one_mem {a u : Str} (ha : a ∈ accL) (hu : u ∈ unitL) : oneS a u ∈ keyL :=
  List.mem_append_right _ (List.mem_flatMap.mpr ⟨a, ha, List.mem_map.mpr ⟨u, hu, rfl⟩⟩)
def PKey (k : List L2.Key) : Prop := ∃ a u h, a ∈ accL ∧ u ∈ unitL ∧ (0 ≤ h ∧ h ≤ 7) ∧ k = kP a u h
def CKey (k : List L2.Key) : Prop := ∃ h c z, (0 ≤ h ∧ h ≤ 7) ∧ c ∈ conL ∧ z ∈ keyL ∧ k = kC h c z
theorem nm_good {z : Str} (h : nmB z = true) : goodS z = true ∧ isNameS z = true := by
  unfold nmB at h
  rwa [Bool.and_eq_true] at h
theorem ky_good {z : Str} (h : kyB z = true) : goodS z = true ∧ isKeyS z = true := by
  unfold kyB at h
  rwa [Bool.and_eq_true] at h
theorem gk3 {k1 k2 k3 : L2.Key} (h1 : tupG (keyD k1) = true) (h2 : tupG (keyD k2) = true) (h3 : tupG (keyD k3) = true) : goodKey [k1, k2, k3] = true := by
  unfold goodKey
  rw [Bool.and_eq_true]
  refine ⟨?_, rfl⟩
  rw [List.map_cons, List.map_cons, List.map_cons, tupGAll, tupGAll, tupGAll, h1, h2, h3]
  rfl
theorem tg_str {z : Str} (h : goodS z = true) : tupG (keyD (.inr z)) = true := by
  show tupG (.str z) = true
  unfold tupG
  exact h
theorem tg_int (i : Int) : tupG (keyD (.inl i)) = true := by
  show tupG (.int i) = true
  unfold tupG
  rfl
theorem PKey.good {k : List L2.Key} (h : PKey k) : goodKey k = true ∧ k.map Sum.isRight = pK := by
  obtain ⟨a, u, i, ha, hu, _, rfl⟩ := h
  have h2 := unit_ok u hu
  rw [Bool.and_eq_true] at h2
  exact ⟨gk3 (tg_str (nm_good (acc_ok a ha)).1) (tg_str (nm_good h2.1).1) (tg_int i), rfl⟩
theorem CKey.good {k : List L2.Key} (h : CKey k) : goodKey k = true ∧ k.map Sum.isRight = cK' := by
  obtain ⟨i, c, z, _, hc, hz, rfl⟩ := h
  exact ⟨gk3 (tg_int i) (tg_str (nm_good (con_ok c hc)).1) (tg_str (ky_good (key_ok z hz)).1), rfl⟩
theorem nodup_len {α : Type} [DecidableEq α] : ∀ {l m : List α}, l.Nodup → (∀ x ∈ l, x ∈ m) → l.length ≤ m.length
  | [], _, _, _ => Nat.zero_le _
  | x :: l, m, nd, h => by
    obtain ⟨n1, n2⟩ := List.nodup_cons.mp nd
    have hx := h x List.mem_cons_self
    have ih := nodup_len (m := m.erase x) n2 fun y hy => (List.mem_erase_of_ne (fun z : y = x => n1 (by rw [← z]; exact hy))).mpr (h y (List.mem_cons_of_mem _ hy))
    rw [List.length_erase_of_mem hx] at ih
    have : 0 < m.length := List.length_pos_of_mem hx
    rw [List.length_cons]
    omega
def allPK : List (List L2.Key) := accL.flatMap fun a => unitL.flatMap fun u => (List.range 8).map fun h => kP a u (h : Nat)
def allCK : List (List L2.Key) := (List.range 8).flatMap fun h => conL.flatMap fun c => keyL.map fun z => kC (h : Nat) c z
theorem allPK_len : allPK.length ≤ 800 := by decide +kernel
theorem allCK_len : allCK.length ≤ 800 := by decide +kernel
theorem nat8 {h : Int} (h1 : 0 ≤ h ∧ h ≤ 7) : ∃ n : Nat, n ∈ List.range 8 ∧ (n : Int) = h := ⟨h.toNat, List.mem_range.mpr (by omega), by omega⟩
theorem PKey.mem {k : List L2.Key} (h : PKey k) : k ∈ allPK := by
  obtain ⟨a, u, i, ha, hu, hi, rfl⟩ := h
  obtain ⟨n, hn, rfl⟩ := nat8 hi
  exact List.mem_flatMap.mpr ⟨a, ha, List.mem_flatMap.mpr ⟨u, hu, List.mem_map.mpr ⟨n, hn, rfl⟩⟩⟩
theorem CKey.mem {k : List L2.Key} (h : CKey k) : k ∈ allCK := by
  obtain ⟨i, c, z, hi, hc, hz, rfl⟩ := h
  obtain ⟨n, hn, rfl⟩ := nat8 hi
  exact List.mem_flatMap.mpr ⟨n, hn, List.mem_flatMap.mpr ⟨c, hc, List.mem_map.mpr ⟨z, hz, rfl⟩⟩⟩
structure PT (P : List Ent) : Prop where
  nd : (P.map (·.1)).Nodup
  key : ∀ e ∈ P, PKey e.1 ∧ 0 ≤ e.2
structure CT (C : List Ent) : Prop where
  nd : (C.map (·.1)).Nodup
  key : ∀ e ∈ C, CKey e.1 ∧ -1000000000000 ≤ e.2 ∧ e.2 ≤ 1000000000000
theorem PT.ok {P : List Ent} (h : PT P) : TOk pK P := ⟨h.nd, fun e he => (h.key e he).1.good.2, fun e he => (h.key e he).1.good.1, by
  have := nodup_len h.nd (m := allPK) fun k hk => by
    obtain ⟨e, he, rfl⟩ := List.mem_map.mp hk
    exact (h.key e he).1.mem
  rw [List.length_map] at this
  exact Nat.le_trans this allPK_len⟩
theorem CT.ok {C : List Ent} (h : CT C) : TOk cK' C := ⟨h.nd, fun e he => (h.key e he).1.good.2, fun e he => (h.key e he).1.good.1, by
  have := nodup_len h.nd (m := allCK) fun k hk => by
    obtain ⟨e, he, rfl⟩ := List.mem_map.mp hk
    exact (h.key e he).1.mem
  rw [List.length_map] at this
  exact Nat.le_trans this allCK_len⟩
theorem put_nd {T : List Ent} {k : List L2.Key} {n : Int} (nd : (T.map (·.1)).Nodup) : ((putI T k n).map (·.1)).Nodup := ((put_perm (n := n) nd).map _).nodup_iff.mpr (set_keys nd)
theorem put_all {T : List Ent} {k : List L2.Key} {n : Int} (nd : (T.map (·.1)).Nodup) {p : Ent → Prop} (h : ∀ e ∈ T, p e) (h2 : p (k, n)) : ∀ e ∈ putI T k n, p e := fun e he => by
  have he := (put_perm (n := n) nd).mem_iff.mp he
  unfold setI at he
  rcases List.mem_append.mp he with he | he
  · exact h e (List.mem_filter.mp he).1
  · rw [List.mem_singleton.mp he]; exact h2
theorem PT.put {P : List Ent} (h : PT P) {k : List L2.Key} {n : Int} (hk : PKey k) (hn : 0 ≤ n) : PT (putI P k n) := ⟨put_nd h.nd, put_all h.nd h.key ⟨hk, hn⟩⟩
theorem CT.put {C : List Ent} (h : CT C) {k : List L2.Key} {n : Int} (hk : CKey k) (hn : -1000000000000 ≤ n ∧ n ≤ 1000000000000) : CT (putI C k n) := ⟨put_nd h.nd, put_all h.nd h.key ⟨hk, hn⟩⟩
theorem PT.nil : PT [] := ⟨List.Pairwise.nil, fun e he => nomatch he⟩
theorem CT.nil : CT [] := ⟨List.Pairwise.nil, fun e he => nomatch he⟩
/-! ### such books are books -/
theorem tg_ent {e : Ent} (h : goodKey e.1 = true) : tupG (ent e) = true := by
  unfold ent tupG
  have hl := goodKey_len h
  have go : ∀ ks : List L2.Key, tupGAll (ks.map keyD) = true → tupGAll (ks.map keyD ++ [.int e.2]) = true := by
    intro ks
    induction ks with
    | nil =>
      intro _
      rw [List.map_nil, List.nil_append, tupGAll, tupGAll]
      unfold tupG
      rfl
    | cons k ks ih =>
      intro h
      rw [List.map_cons, tupGAll, Bool.and_eq_true] at h
      rw [List.map_cons, List.cons_append, tupGAll, h.1, ih h.2]
      rfl
  rw [go _ (gk_all h), Bool.true_and, decide_eq_true_eq, List.length_append, List.length_map, hl]
  simp
theorem tg_all {α : Type} {f : α → PyData} : ∀ {l : List α}, (∀ x ∈ l, tupG (f x) = true) → tupGAll (l.map f) = true
  | [], _ => by rw [List.map_nil]; unfold tupGAll; rfl
  | x :: l, h => by
    rw [List.map_cons, tupGAll, h x List.mem_cons_self, tg_all fun y hy => h y (List.mem_cons_of_mem _ hy)]
    rfl
theorem dp_all {α : Type} {f : α → PyData} {n : Nat} : ∀ {l : List α}, (∀ x ∈ l, (f x).depth ≤ n) → PyData.depthAll (l.map f) ≤ n
  | [], _ => by rw [List.map_nil]; exact Nat.zero_le _
  | x :: l, h => by
    rw [List.map_cons, PyData.depthAll]
    exact Nat.max_le.mpr ⟨h x List.mem_cons_self, dp_all fun y hy => h y (List.mem_cons_of_mem _ hy)⟩
theorem tg_tup {xs : List PyData} (h : tupGAll xs = true) (hl : xs.length ≤ 900) : tupG (.tuple xs) = true := by
  unfold tupG
  rw [h, Bool.true_and, decide_eq_true_eq]
  exact hl
theorem tg_canon {kd : List Bool} {T : List Ent} (ok : TOk kd T) : tupG (.tuple (canon T)) = true ∧ (PyData.tuple (canon T)).depth ≤ 2 := by
  obtain ⟨c1, c2, c3⟩ := csort_sub ok
  refine ⟨tg_tup (tg_all fun e he => tg_ent (ok.good e (c1 e he).1)) (by rw [canon, List.length_map]; omega), ?_⟩
  rw [PyData.depth]
  exact Nat.succ_le_succ (dp_all fun e _ => Nat.le_of_eq (depth_ent e))
theorem tg_book {P C : List Ent} (hP : PT P) (hC : CT C) : tupG (bookD P C) = true ∧ (bookD P C).depth < 6 := by
  obtain ⟨a1, a2⟩ := tg_canon hP.ok
  obtain ⟨b1, b2⟩ := tg_canon hC.ok
  refine ⟨?_, ?_⟩
  · refine tg_tup ?_ (by simp)
    rw [tupGAll, tupGAll, tupGAll, a1, b1]
    have : tupG (.str ("book" : Str)) = true := by decide +kernel
    rw [this]
    rfl
  · unfold bookD
    rw [PyData.depth, PyData.depthAll, PyData.depthAll, PyData.depthAll]
    have : (PyData.str ("book" : Str)).depth = 0 := rfl
    rw [this]
    have e0 : PyData.depthAll [] = 0 := rfl
    rw [e0]
    omega
theorem isPart_ent {e : Ent} (h : PKey e.1 ∧ 0 ≤ e.2) (hz : nz e = true) : isPart (ent e) = true := by
  obtain ⟨⟨a, u, i, ha, hu, hi, e1⟩, h2⟩ := h
  have hz : e.2 ≠ 0 := by
    unfold nz at hz
    simpa using hz
  have hu2 := unit_ok u hu
  rw [Bool.and_eq_true] at hu2
  unfold ent
  rw [e1]
  show (isNameS a && (isNameS u && ((decide (0 ≤ i) && decide (i ≤ 7)) && (decide (0 ≤ e.2) && decide (0 < e.2))))) = true
  rw [(nm_good (acc_ok a ha)).2, (nm_good hu2.1).2, decide_eq_true hi.1, decide_eq_true hi.2, decide_eq_true h2, decide_eq_true (show 0 < e.2 by omega)]
  rfl
theorem isCell_ent {e : Ent} (h : CKey e.1 ∧ -1000000000000 ≤ e.2 ∧ e.2 ≤ 1000000000000) (hz : nz e = true) : isCell (ent e) = true := by
  obtain ⟨⟨i, c, z, hi, hc, hzz, e1⟩, h2, h3⟩ := h
  unfold ent
  rw [e1]
  show ((decide (0 ≤ i) && decide (i ≤ 7)) && (isNameS c && (isKeyS z && ((decide (-1000000000000 ≤ e.2) && decide (e.2 ≤ 1000000000000)) && nz e)))) = true
  rw [(nm_good (con_ok c hc)).2, (ky_good (key_ok z hzz)).2, decide_eq_true hi.1, decide_eq_true hi.2, decide_eq_true h2, decide_eq_true h3, hz]
  rfl
theorem isBook_book {P C : List Ent} (hP : PT P) (hC : CT C) : isBook (bookD P C) = true := by
  obtain ⟨c1, _, _⟩ := csort_sub hP.ok
  obtain ⟨d1, _, _⟩ := csort_sub hC.ok
  show ((("book" : Str) == ("book" : Str)) && ((canon P).all isPart && ((canon C).all isCell && (riseB (canon P) && riseB (canon C))))) = true
  have h1 : (canon P).all isPart = true := List.all_eq_true.mpr fun x hx => by
    obtain ⟨e, he, rfl⟩ := List.mem_map.mp hx
    exact isPart_ent (hP.key e (c1 e he).1) (c1 e he).2
  have h2 : (canon C).all isCell = true := List.all_eq_true.mpr fun x hx => by
    obtain ⟨e, he, rfl⟩ := List.mem_map.mp hx
    exact isCell_ent (hC.key e (d1 e he).1) (d1 e he).2
  rw [h1, h2, rise_canon hP.ok, rise_canon hC.ok, beq_self_eq_true]
  rfl
end K34

set_option Elab.async false
set_option linter.all false
set_option maxRecDepth 100000
set_option autoImplicit false
namespace K34
open PySem PySem.Spec PyProof.Rows L2 PM
open Classical

theorem keysA_map : ∀ ks : List L2.Key, keysA (ks.map keyD) = some ks
  | [] => rfl
  | k :: ks => by
    rw [List.map_cons]
    cases k <;> simp [keysA, keyA, keyD, keysA_map ks]
theorem look_kvs (T : List Ent) (k : List L2.Key) : look (kvs T) k = (T.find? fun e => decide (e.1 = k)).map fun e => PM.D.d (.int e.2) := by
  unfold look kvs
  rw [List.find?_map, Option.map_map]
  rfl
theorem look_get (T : List Ent) (k : List L2.Key) : (look (kvs T) k).getD (PM.D.d (.int 0)) = PM.D.d (.int (getI T k)) := by
  rw [look_kvs]
  unfold getI
  cases T.find? fun e => decide (e.1 = k) <;> rfl
theorem look_mem {T : List Ent} {e : Ent} (nd : (T.map (·.1)).Nodup) (he : e ∈ T) : look (kvs T) e.1 = some (PM.D.d (.int e.2)) := by
  have h := getI_mem nd he
  rw [look_kvs]
  unfold getI at h
  cases q : T.find? fun x => decide (x.1 = e.1) with
  | none => exact absurd (decide_eq_true rfl) (List.find?_eq_none.mp q e he)
  | some x =>
    rw [q] at h
    have h : x.2 = e.2 := h
    show some (PM.D.d (.int x.2)) = _
    rw [h]
theorem dict_T {n : Nat} {l : Bool} {T : List Ent} {st : Store} (h : st[n]? = some (.dT l (kvs T))) : isDict st (.ref n) = true := by
  unfold isDict
  dsimp only
  rw [h]
theorem ev_dget {n : Nat} {l : Bool} {T : List Ent} {st : Store} {e : Ent} (h : st[n]? = some (.dT l (kvs T))) (nd : (T.map (·.1)).Nodup) (he : e ∈ T) : getF (.ref n) (.d (tupK e.1)) st = some (.d (.int e.2), st) := by
  unfold getF
  rw [dict_T h, if_pos rfl]
  show ((lookC st[n]? (.tuple (e.1.map keyD))).bind fun r => r.map fun x => (x, st)) = _
  rw [h]
  show (((keysA (e.1.map keyD)).map fun k => look (kvs T) k).bind fun r => r.map fun x => (x, st)) = _
  rw [keysA_map, Option.map_some, Option.bind_some, look_mem nd he]
  rfl
theorem ev_world {n : Nat} {l : Bool} {D0 : List (L2.Key × PM.D)} {st : Store} {z : Str} {x : PM.D} (h : st[n]? = some (.dK l D0)) (hz : look D0 (.inr z) = some x) : getF (.ref n) (.d (.str z)) st = some (x, st) := by
  have hd : isDict st (.ref n) = true := by
    unfold isDict
    dsimp only
    rw [h]
  unfold getF
  rw [hd, if_pos rfl]
  show ((lookC st[n]? (.str z)).bind fun r => r.map fun x => (x, st)) = _
  rw [h]
  show (((keyA (.str z)).map fun k => look D0 k).bind fun r => r.map fun x => (x, st)) = _
  show ((some (look D0 (.inr z))).bind fun r => r.map fun x => (x, st)) = _
  rw [hz]
  rfl
theorem pairs_kvs : ∀ T : List Ent, pairsD (kvs T) = some (T.map fun e => .tuple [tupK e.1, .int e.2])
  | [] => rfl
  | e :: T => by
    show (pairsD (kvs T)).map (PyData.tuple [tupK e.1, .int e.2] :: ·) = _
    rw [pairs_kvs T]
    rfl
theorem ev_items {kd : List Bool} {T : List Ent} (ok : TOk kd T) {m ip : Nat} {D0 : List (L2.Key × PM.D)} {z : Str} {o : Option PM.D} {st : Store} (hm : st[m]? = some (.dK false D0)) (hz : look D0 (.inr z) = some (.ref ip)) (hi : st[ip]? = some (.dT false (kvs T))) :
    wp (mLock (selM (mOp getF (mVar 0) (mC (.str z)))) (mLc [2, 3] (mItems (mOp getF (mVar 0) (mC (.str z)))) (gT (gsCons (gN 2) (gsCons (gN 3) gsNil)) 2) (mTest (mOp neF (mVar 3) (mC (.int 0)))) (mOp addF (mVar 2) (mTup (mCons (mVar 3) mNil)))) [some (.ref m), o, none, none] st)
      fun a s => ∃ t, a = .ref st.length ∧ s = st ++ .lst ((live T).map dEnt) :: t := by
  have hne : m ≠ ip := fun e => by
    subst e
    rw [hm] at hi
    cases hi
  have g0 := ev_world hm hz
  have hil : ip < st.length := (List.getElem?_eq_some_iff.mp hi).1
  refine wp_lock (n := ip) (c1 := .dT true (kvs T)) (c2 := .dT false (kvs T)) ?_ (by rw [hi]; rfl) hi ?_
  · unfold selM
    simp only [g0, truF, wp_some, wp_none, wp_bind, wp_sFor, mOp, mUn, mC, mVar, mTest, mTru, mAnd, mOr, mNot, mAndV, mOrV, mNotV, mIf, mNil, mCons, mCall, mTup, mLstD, mLst, mChain, mPart, mSl, mMeth, mIsi, sSeq, sNil, sIf, sRet, sRetN, sAsg, sExpr, sPar, sPar3, gN, gT, gsCons, gsNil, gIx, bodyM, retM, List.getElem?_cons_zero, List.getElem?_cons_succ, List.set_cons_zero, List.set_cons_succ, List.map_cons, List.map_nil, List.length_cons, List.length_nil, List.replicate, List.cons_append, List.nil_append, Option.bind_some, Option.map_some, if_true, if_false, reduceIte, Bool.false_eq_true, tyN, datas, iiF, addI, Bool.not_true, Bool.not_false, Nat.zero_add, Nat.reduceAdd, Nat.reduceSub, reduceCtorEq]
  · have hm1 : (st.set ip (.dT true (kvs T)))[m]? = some (.dK false D0) := by rw [List.getElem?_set_ne (Ne.symm hne)]; exact hm
    have hi1 : (st.set ip (.dT true (kvs T)))[ip]? = some (.dT true (kvs T)) := List.getElem?_set_self hil
    have g1 := ev_world hm1 hz
    refine wp_filter (fun e : Ent => PM.D.d (.tuple [tupK e.1, .int e.2])) nz dEnt T (g := some (ip, .dT true (kvs T))) (s0 := st.set ip (.dT true (kvs T))) ?_ (holds_of hi1) (small _ (by have := ok.len; omega)) (fun s hs e he => ?_) fun t => ?_
    · unfold mItems
      simp only [g1, hi1, pairs_kvs, List.map_map, truF, wp_some, wp_none, wp_bind, wp_sFor, mOp, mUn, mC, mVar, mTest, mTru, mAnd, mOr, mNot, mAndV, mOrV, mNotV, mIf, mNil, mCons, mCall, mTup, mLstD, mLst, mChain, mPart, mSl, mMeth, mIsi, sSeq, sNil, sIf, sRet, sRetN, sAsg, sExpr, sPar, sPar3, gN, gT, gsCons, gsNil, gIx, bodyM, retM, List.getElem?_cons_zero, List.getElem?_cons_succ, List.set_cons_zero, List.set_cons_succ, List.map_cons, List.map_nil, List.length_cons, List.length_nil, List.replicate, List.cons_append, List.nil_append, Option.bind_some, Option.map_some, if_true, if_false, reduceIte, Bool.false_eq_true, tyN, datas, iiF, addI, Bool.not_true, Bool.not_false, Nat.zero_add, Nat.reduceAdd, Nat.reduceSub, reduceCtorEq]
      rfl
    · have g2 := fun st => ev_ne (x := .int e.2) (y := .int 0) (st := st) (sh_int _) (sh_int _)
      have hf : fits ((e.1.map keyD).length + 1) = true := smallB (by rw [List.length_map, goodKey_len (ok.good e he)]; decide)
      simp only [wipeE, tupK, g2, PyData.eqv, addF, fits1, hf, truF, wp_some, wp_none, wp_bind, wp_sFor, mOp, mUn, mC, mVar, mTest, mTru, mAnd, mOr, mNot, mAndV, mOrV, mNotV, mIf, mNil, mCons, mCall, mTup, mLstD, mLst, mChain, mPart, mSl, mMeth, mIsi, sSeq, sNil, sIf, sRet, sRetN, sAsg, sExpr, sPar, sPar3, gN, gT, gsCons, gsNil, gIx, bodyM, retM, List.getElem?_cons_zero, List.getElem?_cons_succ, List.set_cons_zero, List.set_cons_succ, List.map_cons, List.map_nil, List.length_cons, List.length_nil, List.replicate, List.cons_append, List.nil_append, Option.bind_some, Option.map_some, if_true, if_false, reduceIte, Bool.false_eq_true, tyN, datas, iiF, addI, Bool.not_true, Bool.not_false, Nat.zero_add, Nat.reduceAdd, Nat.reduceSub, reduceCtorEq]
      refine ⟨rfl, ?_⟩
      split
      · exact ⟨List.prefix_refl _, rfl⟩
      · exact List.prefix_refl _
    · refine ⟨_, rfl, _, by rw [List.length_set], rfl⟩
def wD (a b : PM.D) : List (L2.Key × PM.D) := [(.inr ("parts" : Str), a), (.inr ("cells" : Str), b)]
theorem lk_parts {a b : PM.D} : look (wD a b) (.inr ("parts" : Str)) = some a := by
  unfold look wD
  rw [List.find?_cons, decide_eq_true (show (Sum.inr ("parts" : Str) : L2.Key) = .inr ("parts" : Str) from rfl)]
  rfl
theorem pc_ne : ¬ (Sum.inr ("parts" : Str) : L2.Key) = .inr ("cells" : Str) := by decide +kernel
theorem lk_cells {a b : PM.D} : look (wD a b) (.inr ("cells" : Str)) = some b := by
  unfold look wD
  rw [List.find?_cons, decide_eq_false pc_ne, List.find?_cons, decide_eq_true (show (Sum.inr ("cells" : Str) : L2.Key) = .inr ("cells" : Str) from rfl)]
  rfl
theorem live_canon {kd : List Bool} {T : List Ent} (ok : TOk kd T) : sortD ((live T).map ent) = canon T := canon_of (List.Perm.refl _) fun e he => goodKey_len (ok.good e he)
theorem live_sort {kd : List Bool} {T : List Ent} (ok : TOk kd T) : sortB ((live T).map ent) = true := by
  obtain ⟨c1, c3⟩ := live_sub ok
  exact sortB_ent (fun e he => ok.pat e (c1 e he).1) (by omega)
theorem ev_law_book {P C : List Ent} (hP : TOk pK P) (hC : TOk cK' C) {m ip ic : Nat} {st : Store} (hm : st[m]? = some (.dK false (wD (.ref ip) (.ref ic)))) (hi : st[ip]? = some (.dT false (kvs P))) (hj : st[ic]? = some (.dT false (kvs C))) :
    ∃ t, f__law_book [.ref m] st = some (.d (bookD P C), st ++ t) := by
  refine wp_ex ?_
  simp only [f__law_book, s__law_book, truF, wp_some, wp_none, wp_bind, wp_sFor, mOp, mUn, mC, mVar, mTest, mTru, mAnd, mOr, mNot, mAndV, mOrV, mNotV, mIf, mNil, mCons, mCall, mTup, mLstD, mLst, mChain, mPart, mSl, mMeth, mIsi, sSeq, sNil, sIf, sRet, sRetN, sAsg, sExpr, sPar, sPar3, gN, gT, gsCons, gsNil, gIx, bodyM, retM, List.getElem?_cons_zero, List.getElem?_cons_succ, List.set_cons_zero, List.set_cons_succ, List.map_cons, List.map_nil, List.length_cons, List.length_nil, List.replicate, List.cons_append, List.nil_append, Option.bind_some, Option.map_some, if_true, if_false, reduceIte, Bool.false_eq_true, tyN, datas, iiF, addI, Bool.not_true, Bool.not_false, Nat.zero_add, Nat.reduceAdd, Nat.reduceSub, reduceCtorEq]
  refine wp_mono (ev_items hP hm lk_parts hi) fun a s ⟨t, e1, e2⟩ => ?_
  subst e1 e2
  refine wp_of (ev_sorted (get_mid st t _) (live_sort hP)) ?_
  refine wp_of (ev_tuple last_get) ?_
  have hp : st <+: st ++ Cell.lst ((live P).map dEnt) :: t ++ [Cell.lst ((sortD ((live P).map ent)).map PM.D.d)] := by rw [List.append_assoc]; exact pre_app
  generalize st ++ Cell.lst ((live P).map dEnt) :: t ++ [Cell.lst ((sortD ((live P).map ent)).map PM.D.d)] = s1 at hp ⊢
  simp only [truF, wp_some, wp_none, wp_bind, wp_sFor, mOp, mUn, mC, mVar, mTest, mTru, mAnd, mOr, mNot, mAndV, mOrV, mNotV, mIf, mNil, mCons, mCall, mTup, mLstD, mLst, mChain, mPart, mSl, mMeth, mIsi, sSeq, sNil, sIf, sRet, sRetN, sAsg, sExpr, sPar, sPar3, gN, gT, gsCons, gsNil, gIx, bodyM, retM, List.getElem?_cons_zero, List.getElem?_cons_succ, List.set_cons_zero, List.set_cons_succ, List.map_cons, List.map_nil, List.length_cons, List.length_nil, List.replicate, List.cons_append, List.nil_append, Option.bind_some, Option.map_some, if_true, if_false, reduceIte, Bool.false_eq_true, tyN, datas, iiF, addI, Bool.not_true, Bool.not_false, Nat.zero_add, Nat.reduceAdd, Nat.reduceSub, reduceCtorEq]
  refine wp_mono (ev_items hC (pre_get hp hm) lk_cells (pre_get hp hj)) fun a s ⟨t, e1, e2⟩ => ?_
  subst e1 e2
  refine wp_of (ev_sorted (get_mid s1 t _) (live_sort hC)) ?_
  refine wp_of (ev_tuple last_get) ?_
  simp only [fits3, truF, wp_some, wp_none, wp_bind, wp_sFor, mOp, mUn, mC, mVar, mTest, mTru, mAnd, mOr, mNot, mAndV, mOrV, mNotV, mIf, mNil, mCons, mCall, mTup, mLstD, mLst, mChain, mPart, mSl, mMeth, mIsi, sSeq, sNil, sIf, sRet, sRetN, sAsg, sExpr, sPar, sPar3, gN, gT, gsCons, gsNil, gIx, bodyM, retM, List.getElem?_cons_zero, List.getElem?_cons_succ, List.set_cons_zero, List.set_cons_succ, List.map_cons, List.map_nil, List.length_cons, List.length_nil, List.replicate, List.cons_append, List.nil_append, Option.bind_some, Option.map_some, if_true, if_false, reduceIte, Bool.false_eq_true, tyN, datas, iiF, addI, Bool.not_true, Bool.not_false, Nat.zero_add, Nat.reduceAdd, Nat.reduceSub, reduceCtorEq]
  rw [live_canon hP, live_canon hC]
  exact ⟨rfl, hp.trans (by rw [List.append_assoc]; exact pre_app)⟩
end K34

set_option Elab.async false
set_option linter.all false
set_option maxRecDepth 100000
set_option autoImplicit false
namespace K34
open PySem PySem.Spec PyProof.Rows L2 PM
open Classical

theorem wp_seq {S R : PM.Env → M Fl} {env : PM.Env} {st : Store} {Q : Fl → Store → Prop} (h : wp (S env st) fun f s => match f with
    | .nx e => wp (R e s) Q
    | f => Q f s) : wp (sSeq S R env st) Q := by
  unfold sSeq
  rw [wp_bind]
  refine wp_mono h fun f s h => ?_
  cases f with
  | nx e => exact h
  | rt x => exact wp_some.mpr h
  | bk e => exact wp_some.mpr h
  | ct e => exact wp_some.mpr h
theorem wp_skip {T : PM.Env → M Bool} {S R : PM.Env → M Fl} {env : PM.Env} {st : Store} {Q : Fl → Store → Prop} (h : wp (T env st) fun b s => b = false ∧ wp (R env s) Q) : wp (sSeq (sIf T S sNil) R env st) Q := by
  obtain ⟨⟨b, s⟩, e, h1, h2⟩ := h
  dsimp only at h1 h2
  subst h1
  rw [if_skip e]
  exact h2
def kD (e : Ent) : PM.D := PM.D.d (tupK e.1)
def keysC (P : List Ent) : Cell := .lst ((live P).map kD)
def envT (b : PyData) (ip ic m : Nat) (o4 o5 o6 o7 : Option PM.D) : PM.Env := [some (.d b), some (.ref ip), some (.ref ic), some (.ref m), o4, o5, o6, o7]
theorem tells_keys {P C : List Ent} (hP : PT P) {b : PyData} {ip ic : Nat} {st : Store} (hi : st[ip]? = some (.dT false (kvs P))) :
    wp (mLock (selM (mVar 1)) (sAsg (mLc [7] (mAny (mVar 1)) (gN 7) (mTest (mOp neF (mOp getF (mVar 1) (mVar 7)) (mC (.int 0)))) (mVar 7)) (gN 3)) [some (.d b), some (.ref ip), some (.ref ic), none, none, none, none, none] st)
      fun f s => ∃ t, f = .nx (envT b ip ic st.length none none none none) ∧ s = st ++ keysC P :: t := by
  have hil : ip < st.length := (List.getElem?_eq_some_iff.mp hi).1
  have ok := hP.ok
  refine wp_lock (n := ip) (c1 := .dT true (kvs P)) (c2 := .dT false (kvs P)) ?_ (by rw [hi]; rfl) hi ?_
  · unfold selM
    simp only [truF, wp_some, wp_none, wp_bind, wp_sFor, mOp, mUn, mC, mVar, mTest, mTru, mAnd, mOr, mNot, mAndV, mOrV, mNotV, mIf, mNil, mCons, mCall, mTup, mLstD, mLst, mChain, mPart, mSl, mMeth, mIsi, sSeq, sNil, sIf, sRet, sRetN, sAsg, sExpr, sPar, sPar3, gN, gT, gsCons, gsNil, gIx, bodyM, retM, List.getElem?_cons_zero, List.getElem?_cons_succ, List.set_cons_zero, List.set_cons_succ, List.map_cons, List.map_nil, List.length_cons, List.length_nil, List.replicate, List.cons_append, List.nil_append, Option.bind_some, Option.map_some, if_true, if_false, reduceIte, Bool.false_eq_true, tyN, datas, iiF, addI, Bool.not_true, Bool.not_false, Nat.zero_add, Nat.reduceAdd, Nat.reduceSub, reduceCtorEq]
  · have hi1 : (st.set ip (.dT true (kvs P)))[ip]? = some (.dT true (kvs P)) := List.getElem?_set_self hil
    simp only [sAsg, wp_bind]
    refine wp_filter kD nz kD P (g := some (ip, .dT true (kvs P))) (s0 := st.set ip (.dT true (kvs P))) ?_ (holds_of hi1) (small _ (by have := ok.len; omega)) (fun s hs e he => ?_) fun t => ?_
    · unfold mAny
      simp only [hi1, truF, wp_some, wp_none, wp_bind, wp_sFor, mOp, mUn, mC, mVar, mTest, mTru, mAnd, mOr, mNot, mAndV, mOrV, mNotV, mIf, mNil, mCons, mCall, mTup, mLstD, mLst, mChain, mPart, mSl, mMeth, mIsi, sSeq, sNil, sIf, sRet, sRetN, sAsg, sExpr, sPar, sPar3, gN, gT, gsCons, gsNil, gIx, bodyM, retM, List.getElem?_cons_zero, List.getElem?_cons_succ, List.set_cons_zero, List.set_cons_succ, List.map_cons, List.map_nil, List.length_cons, List.length_nil, List.replicate, List.cons_append, List.nil_append, Option.bind_some, Option.map_some, if_true, if_false, reduceIte, Bool.false_eq_true, tyN, datas, iiF, addI, Bool.not_true, Bool.not_false, Nat.zero_add, Nat.reduceAdd, Nat.reduceSub, reduceCtorEq]
      unfold kvs
      rw [List.map_map]
      rfl
    · have g2 := fun st => ev_ne (x := .int e.2) (y := .int 0) (st := st) (sh_int _) (sh_int _)
      have g1 := ev_dget (pre_get hs hi1) hP.nd he
      simp only [wipeE, kD, g1, g2, PyData.eqv, truF, wp_some, wp_none, wp_bind, wp_sFor, mOp, mUn, mC, mVar, mTest, mTru, mAnd, mOr, mNot, mAndV, mOrV, mNotV, mIf, mNil, mCons, mCall, mTup, mLstD, mLst, mChain, mPart, mSl, mMeth, mIsi, sSeq, sNil, sIf, sRet, sRetN, sAsg, sExpr, sPar, sPar3, gN, gT, gsCons, gsNil, gIx, bodyM, retM, List.getElem?_cons_zero, List.getElem?_cons_succ, List.set_cons_zero, List.set_cons_succ, List.map_cons, List.map_nil, List.length_cons, List.length_nil, List.replicate, List.cons_append, List.nil_append, Option.bind_some, Option.map_some, if_true, if_false, reduceIte, Bool.false_eq_true, tyN, datas, iiF, addI, Bool.not_true, Bool.not_false, Nat.zero_add, Nat.reduceAdd, Nat.reduceSub, reduceCtorEq]
      refine ⟨rfl, ?_⟩
      split
      · exact ⟨List.prefix_refl _, trivial⟩
      · exact List.prefix_refl _
    · simp only [truF, wp_some, wp_none, wp_bind, wp_sFor, mOp, mUn, mC, mVar, mTest, mTru, mAnd, mOr, mNot, mAndV, mOrV, mNotV, mIf, mNil, mCons, mCall, mTup, mLstD, mLst, mChain, mPart, mSl, mMeth, mIsi, sSeq, sNil, sIf, sRet, sRetN, sAsg, sExpr, sPar, sPar3, gN, gT, gsCons, gsNil, gIx, bodyM, retM, List.getElem?_cons_zero, List.getElem?_cons_succ, List.set_cons_zero, List.set_cons_succ, List.map_cons, List.map_nil, List.length_cons, List.length_nil, List.replicate, List.cons_append, List.nil_append, Option.bind_some, Option.map_some, if_true, if_false, reduceIte, Bool.false_eq_true, tyN, datas, iiF, addI, Bool.not_true, Bool.not_false, Nat.zero_add, Nat.reduceAdd, Nat.reduceSub, reduceCtorEq]
      refine ⟨_, rfl, _, ?_, rfl⟩
      rw [List.length_set]
      rfl
theorem kD_ix {e : Ent} {st : Store} {i : Nat} {j : Int} {k : L2.Key} (hj : j = (i : Int)) (h : e.1[i]? = some k) : getF (kD e) (.d (.int j)) st = some (.d (keyD k), st) := ev_ix hj (by rw [List.getElem?_map, h]; rfl)
theorem kD_2 {e : Ent} {st : Store} : slF (kD e) none (some 2) st = some (.d (.tuple ((e.1.take 2).map keyD)), st) := by
  unfold kD tupK
  rw [ev_sl2, List.map_take]
/-- sum([parts[key] for key in keys if ..]) -/
theorem ev_ksum {P : List Ent} (hP : PT P) {b : PyData} {ip ic m : Nat} {o4 o5 o6 o7 : Option PM.D} {T : PM.Env → M Bool} (p : Ent → Bool) {st : Store} (hi : st[ip]? = some (.dT false (kvs P))) (hm : st[m]? = some (keysC P))
    (hT : ∀ e ∈ P, ∀ s, wp (T (envT b ip ic m o4 o5 o6 (some (kD e))) s) fun c s' => c = p e ∧ s' = s) {Q : PM.D → Store → Prop} (k : ∀ t, Q (.d (.int (sumBy p (live P)))) (st ++ t)) :
    wp (mCall sumF (mCons (mLc [7] (mAny (mVar 3)) (gN 7) T (mOp getF (mVar 1) (mVar 7))) mNil) (envT b ip ic m o4 o5 o6 o7) st) Q := by
  obtain ⟨c1, c3⟩ := live_sub hP.ok
  simp only [mCall, mCons, mNil, wp_bind, wp_some]
  refine wp_filter kD p (fun e => PM.D.d (.int e.2)) (live P) (g := some (m, keysC P)) (s0 := st) ?_ (holds_of hm) (small _ (by omega)) (fun s hs e he => ?_) fun t => ?_
  · unfold mAny envT
    simp only [hm, keysC, truF, wp_some, wp_none, wp_bind, wp_sFor, mOp, mUn, mC, mVar, mTest, mTru, mAnd, mOr, mNot, mAndV, mOrV, mNotV, mIf, mNil, mCons, mCall, mTup, mLstD, mLst, mChain, mPart, mSl, mMeth, mIsi, sSeq, sNil, sIf, sRet, sRetN, sAsg, sExpr, sPar, sPar3, gN, gT, gsCons, gsNil, gIx, bodyM, retM, List.getElem?_cons_zero, List.getElem?_cons_succ, List.set_cons_zero, List.set_cons_succ, List.map_cons, List.map_nil, List.length_cons, List.length_nil, List.replicate, List.cons_append, List.nil_append, Option.bind_some, Option.map_some, if_true, if_false, reduceIte, Bool.false_eq_true, tyN, datas, iiF, addI, Bool.not_true, Bool.not_false, Nat.zero_add, Nat.reduceAdd, Nat.reduceSub, reduceCtorEq]
  · have g1 := ev_dget (l := false) (T := P) (pre_get hs hi) hP.nd (c1 e he).1
    unfold envT wipeE wipeE
    simp only [truF, wp_some, wp_none, wp_bind, wp_sFor, mOp, mUn, mC, mVar, mTest, mTru, mAnd, mOr, mNot, mAndV, mOrV, mNotV, mIf, mNil, mCons, mCall, mTup, mLstD, mLst, mChain, mPart, mSl, mMeth, mIsi, sSeq, sNil, sIf, sRet, sRetN, sAsg, sExpr, sPar, sPar3, gN, gT, gsCons, gsNil, gIx, bodyM, retM, List.getElem?_cons_zero, List.getElem?_cons_succ, List.set_cons_zero, List.set_cons_succ, List.map_cons, List.map_nil, List.length_cons, List.length_nil, List.replicate, List.cons_append, List.nil_append, Option.bind_some, Option.map_some, if_true, if_false, reduceIte, Bool.false_eq_true, tyN, datas, iiF, addI, Bool.not_true, Bool.not_false, Nat.zero_add, Nat.reduceAdd, Nat.reduceSub, reduceCtorEq]
    refine wp_mono (hT e (c1 e he).1 s) fun c s' ⟨h1, h2⟩ => ⟨h1, ?_⟩
    split
    · subst h2
      unfold kD
      simp only [g1, truF, wp_some, wp_none, wp_bind, wp_sFor, mOp, mUn, mC, mVar, mTest, mTru, mAnd, mOr, mNot, mAndV, mOrV, mNotV, mIf, mNil, mCons, mCall, mTup, mLstD, mLst, mChain, mPart, mSl, mMeth, mIsi, sSeq, sNil, sIf, sRet, sRetN, sAsg, sExpr, sPar, sPar3, gN, gT, gsCons, gsNil, gIx, bodyM, retM, List.getElem?_cons_zero, List.getElem?_cons_succ, List.set_cons_zero, List.set_cons_succ, List.map_cons, List.map_nil, List.length_cons, List.length_nil, List.replicate, List.cons_append, List.nil_append, Option.bind_some, Option.map_some, if_true, if_false, reduceIte, Bool.false_eq_true, tyN, datas, iiF, addI, Bool.not_true, Bool.not_false, Nat.zero_add, Nat.reduceAdd, Nat.reduceSub, reduceCtorEq]
      exact ⟨List.prefix_refl _, trivial⟩
    · rw [h2]
      exact List.prefix_refl _
  · refine wp_of (ev_sum (ns := ((live P).filter p).map (·.2)) (by rw [get_mid, List.map_map]; rfl)) ?_
    exact k _
theorem same_true {x : PyData} {st : Store} (h : tupG x = true) (hd : x.depth < 6) : f__law_same 6 [.d x, .d x] st = some (.d (.bool true), st) := ev_same 6 x st h hd
theorem tg_sset {zs : List Str} (hz : zs.length ≤ 900) (h : ∀ z ∈ zs, goodS z = true) : tupG (.tuple (sset zs)) = true ∧ (PyData.tuple (sset zs)).depth < 6 := by
  rw [sset_S]
  refine ⟨tg_tup (tg_all fun z hz => ?_) (by rw [List.length_map]; exact Nat.le_trans (ssetS_len _) hz), ?_⟩
  · unfold tupG
    exact h z (mem_ssetS.mp hz)
  · rw [PyData.depth]
    have := dp_all (f := PyData.str) (n := 0) (l := ssetS zs) fun _ _ => Nat.le_refl _
    omega
theorem PKey.acc {e : Ent} (h : PKey e.1) : accS e ∈ accL ∧ unitS e ∈ unitL := by
  obtain ⟨a, u, i, ha, hu, _, e1⟩ := h
  unfold accS unitS
  rw [e1]
  exact ⟨ha, hu⟩
theorem unit_good {u : Str} (hu : u ∈ unitL) : goodS u = true ∧ u ≠ ("none" : Str) := by
  have h2 := unit_ok u hu
  rw [Bool.and_eq_true, Bool.not_eq_true', beq_eq_false_iff_ne] at h2
  exact ⟨(nm_good h2.1).1, h2.2⟩
theorem ks_mSset {P : List Ent} (hP : PT P) {b : PyData} {ip ic m : Nat} {o4 o5 o6 o7 : Option PM.D} {A : PM.Env → M PM.D} (f : Ent → Str) {st : Store} (hm : st[m]? = some (keysC P))
    (hA : ∀ e ∈ P, ∀ s, A (envT b ip ic m o4 o5 o6 (some (kD e))) s = some (.d (.str (f e)), s)) {Q : PM.D → Store → Prop} (k : ∀ t q, st.length ≤ q → (st ++ t)[q]? = some (.lst ((sset ((live P).map f)).map PM.D.d)) → Q (.ref q) (st ++ t)) :
    wp (mSset (mLc [7] (mAny (mVar 3)) (gN 7) mYes A) (envT b ip ic m o4 o5 o6 o7) st) Q := by
  obtain ⟨c1, c3⟩ := live_sub hP.ok
  refine wp_sset (zs := (live P).map f) (by rw [List.length_map]; omega) ?_
  refine wp_map kD (fun e => PM.D.d (.str (f e))) (live P) (g := some (m, keysC P)) (s0 := st) ?_ (holds_of hm) (small _ (by omega)) (fun s hs e he => ?_) fun t => ⟨?_, ?_⟩
  · unfold mAny envT
    simp only [hm, keysC, truF, wp_some, wp_none, wp_bind, wp_sFor, mOp, mUn, mC, mVar, mTest, mTru, mAnd, mOr, mNot, mAndV, mOrV, mNotV, mIf, mNil, mCons, mCall, mTup, mLstD, mLst, mChain, mPart, mSl, mMeth, mIsi, sSeq, sNil, sIf, sRet, sRetN, sAsg, sExpr, sPar, sPar3, gN, gT, gsCons, gsNil, gIx, bodyM, retM, List.getElem?_cons_zero, List.getElem?_cons_succ, List.set_cons_zero, List.set_cons_succ, List.map_cons, List.map_nil, List.length_cons, List.length_nil, List.replicate, List.cons_append, List.nil_append, Option.bind_some, Option.map_some, if_true, if_false, reduceIte, Bool.false_eq_true, tyN, datas, iiF, addI, Bool.not_true, Bool.not_false, Nat.zero_add, Nat.reduceAdd, Nat.reduceSub, reduceCtorEq]
  · have := hA e (c1 e he).1 s
    unfold envT at this
    unfold envT wipeE wipeE
    simp only [mYes, this, truF, wp_some, wp_none, wp_bind, wp_sFor, mOp, mUn, mC, mVar, mTest, mTru, mAnd, mOr, mNot, mAndV, mOrV, mNotV, mIf, mNil, mCons, mCall, mTup, mLstD, mLst, mChain, mPart, mSl, mMeth, mIsi, sSeq, sNil, sIf, sRet, sRetN, sAsg, sExpr, sPar, sPar3, gN, gT, gsCons, gsNil, gIx, bodyM, retM, List.getElem?_cons_zero, List.getElem?_cons_succ, List.set_cons_zero, List.set_cons_succ, List.map_cons, List.map_nil, List.length_cons, List.length_nil, List.replicate, List.cons_append, List.nil_append, Option.bind_some, Option.map_some, if_true, if_false, reduceIte, Bool.false_eq_true, tyN, datas, iiF, addI, Bool.not_true, Bool.not_false, Nat.zero_add, Nat.reduceAdd, Nat.reduceSub, reduceCtorEq]
    exact ⟨List.prefix_refl _, trivial⟩
  · unfold lstOf
    simp only [get_mid, lstC, List.map_map]
    rfl
  · rw [List.append_assoc]
    refine k _ _ (by rw [List.length_append]; exact Nat.le_add_right _ _) ?_
    rw [← List.append_assoc]
    exact last_get
end K34

set_option Elab.async false
set_option linter.all false
set_option maxRecDepth 100000
set_option autoImplicit false
namespace K34
open PySem PySem.Spec PyProof.Rows L2 PM
open Classical

theorem ev_ksum' {P : List Ent} (hP : PT P) {b : PyData} {ip ic m : Nat} {o4 o5 o6 o7 : Option PM.D} {T : PM.Env → M Bool} (p : Ent → Bool) {st : Store} (hi : st[ip]? = some (.dT false (kvs P))) (hm : st[m]? = some (keysC P))
    (hT : ∀ e ∈ P, ∀ s, wp (T (envT b ip ic m o4 o5 o6 (some (kD e))) s) fun c s' => c = p e ∧ s' = s) {Q : PM.D → Store → Prop} (k : ∀ t q, (st ++ t)[q]? = some (.lst ((((live P).filter p).map (·.2)).map fun n => PM.D.d (.int n))) → Q (.ref q) (st ++ t)) :
    wp (mLc [7] (mAny (mVar 3)) (gN 7) T (mOp getF (mVar 1) (mVar 7)) [some (.d b), some (.ref ip), some (.ref ic), some (.ref m), o4, o5, o6, o7] st) Q := by
  obtain ⟨c1, c3⟩ := live_sub hP.ok
  refine wp_filter kD p (fun e => PM.D.d (.int e.2)) (live P) (g := some (m, keysC P)) (s0 := st) ?_ (holds_of hm) (small _ (by omega)) (fun s hs e he => ?_) fun t => ?_
  · unfold mAny
    simp only [hm, keysC, truF, wp_some, wp_none, wp_bind, wp_sFor, mOp, mUn, mC, mVar, mTest, mTru, mAnd, mOr, mNot, mAndV, mOrV, mNotV, mIf, mNil, mCons, mCall, mTup, mLstD, mLst, mChain, mPart, mSl, mMeth, mIsi, sSeq, sNil, sIf, sRet, sRetN, sAsg, sExpr, sPar, sPar3, gN, gT, gsCons, gsNil, gIx, bodyM, retM, List.getElem?_cons_zero, List.getElem?_cons_succ, List.set_cons_zero, List.set_cons_succ, List.map_cons, List.map_nil, List.length_cons, List.length_nil, List.replicate, List.cons_append, List.nil_append, Option.bind_some, Option.map_some, if_true, if_false, reduceIte, Bool.false_eq_true, tyN, datas, iiF, addI, Bool.not_true, Bool.not_false, Nat.zero_add, Nat.reduceAdd, Nat.reduceSub, reduceCtorEq]
  · have g1 := ev_dget (l := false) (T := P) (pre_get hs hi) hP.nd (c1 e he).1
    unfold wipeE wipeE
    simp only [truF, wp_some, wp_none, wp_bind, wp_sFor, mOp, mUn, mC, mVar, mTest, mTru, mAnd, mOr, mNot, mAndV, mOrV, mNotV, mIf, mNil, mCons, mCall, mTup, mLstD, mLst, mChain, mPart, mSl, mMeth, mIsi, sSeq, sNil, sIf, sRet, sRetN, sAsg, sExpr, sPar, sPar3, gN, gT, gsCons, gsNil, gIx, bodyM, retM, List.getElem?_cons_zero, List.getElem?_cons_succ, List.set_cons_zero, List.set_cons_succ, List.map_cons, List.map_nil, List.length_cons, List.length_nil, List.replicate, List.cons_append, List.nil_append, Option.bind_some, Option.map_some, if_true, if_false, reduceIte, Bool.false_eq_true, tyN, datas, iiF, addI, Bool.not_true, Bool.not_false, Nat.zero_add, Nat.reduceAdd, Nat.reduceSub, reduceCtorEq]
    refine wp_mono (hT e (c1 e he).1 s) fun c s' ⟨h1, h2⟩ => ⟨h1, ?_⟩
    split
    · subst h2
      unfold kD
      simp only [g1, truF, wp_some, wp_none, wp_bind, wp_sFor, mOp, mUn, mC, mVar, mTest, mTru, mAnd, mOr, mNot, mAndV, mOrV, mNotV, mIf, mNil, mCons, mCall, mTup, mLstD, mLst, mChain, mPart, mSl, mMeth, mIsi, sSeq, sNil, sIf, sRet, sRetN, sAsg, sExpr, sPar, sPar3, gN, gT, gsCons, gsNil, gIx, bodyM, retM, List.getElem?_cons_zero, List.getElem?_cons_succ, List.set_cons_zero, List.set_cons_succ, List.map_cons, List.map_nil, List.length_cons, List.length_nil, List.replicate, List.cons_append, List.nil_append, Option.bind_some, Option.map_some, if_true, if_false, reduceIte, Bool.false_eq_true, tyN, datas, iiF, addI, Bool.not_true, Bool.not_false, Nat.zero_add, Nat.reduceAdd, Nat.reduceSub, reduceCtorEq]
      exact ⟨List.prefix_refl _, trivial⟩
    · rw [h2]
      exact List.prefix_refl _
  · exact k _ _ (by rw [get_mid, List.map_map]; rfl)
theorem unitT {P : List Ent} (hP : PT P) {b : PyData} {ip ic m : Nat} {o4 o6 : Option PM.D} {u : Str} (hu : SeqAt.shaped (.str u) = true) : ∀ e ∈ P, ∀ s, wp (mTest (mOp eqF (mOp getF (mVar 7) (mC (.int 1))) (mVar 5)) (envT b ip ic m o4 (some (.d (.str u))) o6 (some (kD e))) s) fun c s' => c = decide (unitS e = u) ∧ s' = s := fun e he s => by
  obtain ⟨a, v, h, e1, e2, e3⟩ := part_form hP.ok he
  have ge := hP.ok.good e he
  have g1 := fun st => kD_ix (e := e) (st := st) (i := 1) (j := 1) rfl (by rw [e1]; rfl : e.1[1]? = some (.inr v))
  have hv : SeqAt.shaped (.str v) = true := gk_str (gk_all ge) (by rw [e1]; simp [kP])
  have g2 : ∀ st, eqF (.d (keyD (.inr v))) (.d (.str u)) st = some (.d (.bool (PyData.eqv (keyD (.inr v)) (keyD (.inr u)))), st) := fun st => ev_eq hv hu
  unfold envT
  simp only [g1, g2, eqv_key, truF, wp_some, wp_none, wp_bind, wp_sFor, mOp, mUn, mC, mVar, mTest, mTru, mAnd, mOr, mNot, mAndV, mOrV, mNotV, mIf, mNil, mCons, mCall, mTup, mLstD, mLst, mChain, mPart, mSl, mMeth, mIsi, sSeq, sNil, sIf, sRet, sRetN, sAsg, sExpr, sPar, sPar3, gN, gT, gsCons, gsNil, gIx, bodyM, retM, List.getElem?_cons_zero, List.getElem?_cons_succ, List.set_cons_zero, List.set_cons_succ, List.map_cons, List.map_nil, List.length_cons, List.length_nil, List.replicate, List.cons_append, List.nil_append, Option.bind_some, Option.map_some, if_true, if_false, reduceIte, Bool.false_eq_true, tyN, datas, iiF, addI, Bool.not_true, Bool.not_false, Nat.zero_add, Nat.reduceAdd, Nat.reduceSub, reduceCtorEq]
  refine ⟨?_, trivial⟩
  rw [e3, decide_eq_decide]
  exact ⟨fun z => Sum.inr.inj z, fun z => by rw [z]⟩
theorem auT {P : List Ent} (hP : PT P) {b : PyData} {ip ic m : Nat} {o4 o5 : Option PM.D} {a : Str} (ha : tupGAll (([.inr a, .inr ("gold" : Str)] : List L2.Key).map keyD) = true) : ∀ e ∈ P, ∀ s, wp (mTest (mOp eqF (mSl slF (mVar 7) (mPart none) (mPart (some (mC (.int 2))))) (mTup (mCons (mVar 6) (mCons (mC (.str ("gold" : Str))) mNil)))) (envT b ip ic m o4 o5 (some (.d (.str a))) (some (kD e))) s) fun c s' => c = auB a ("gold" : Str) e ∧ s' = s := fun e he s => by
  obtain ⟨a', v, h, e1, e2, e3⟩ := part_form hP.ok he
  have ge := hP.ok.good e he
  have g1 := fun st => kD_2 (e := e) (st := st)
  have hv : e.1.take 2 = [.inr a', .inr v] := by rw [e1]; rfl
  have g2 : ∀ st, eqF (.d (.tuple ((e.1.take 2).map keyD))) (.d (.tuple [.str a, .str ("gold" : Str)])) st = some (.d (.bool (PyData.eqv (.tuple ((e.1.take 2).map keyD)) (.tuple (([.inr a, .inr ("gold" : Str)] : List L2.Key).map keyD)))), st) := fun st => ev_eq (sh_keys (take_all 2 (gk_all ge))) (sh_keys ha)
  unfold envT
  simp only [g1, g2, fits2, truF, wp_some, wp_none, wp_bind, wp_sFor, mOp, mUn, mC, mVar, mTest, mTru, mAnd, mOr, mNot, mAndV, mOrV, mNotV, mIf, mNil, mCons, mCall, mTup, mLstD, mLst, mChain, mPart, mSl, mMeth, mIsi, sSeq, sNil, sIf, sRet, sRetN, sAsg, sExpr, sPar, sPar3, gN, gT, gsCons, gsNil, gIx, bodyM, retM, List.getElem?_cons_zero, List.getElem?_cons_succ, List.set_cons_zero, List.set_cons_succ, List.map_cons, List.map_nil, List.length_cons, List.length_nil, List.replicate, List.cons_append, List.nil_append, Option.bind_some, Option.map_some, if_true, if_false, reduceIte, Bool.false_eq_true, tyN, datas, iiF, addI, Bool.not_true, Bool.not_false, Nat.zero_add, Nat.reduceAdd, Nat.reduceSub, reduceCtorEq]
  refine ⟨?_, trivial⟩
  unfold auB
  rw [hv, e2, e3, ← Bool.decide_and]
  show PyData.eqv (.tuple (([.inr a', .inr v] : List L2.Key).map keyD)) (.tuple (([.inr a, .inr ("gold" : Str)] : List L2.Key).map keyD)) = _
  rw [eqv_tupk, decide_eq_decide]
  constructor
  · intro z
    injection z with z1 z2
    injection z2 with z2 _
    exact ⟨Sum.inr.inj z1, Sum.inr.inj z2⟩
  · rintro ⟨rfl, rfl⟩
    rfl
noncomputable def tlP (P : List Ent) (u : Str) : PyData := .tuple [.str u, .int (sumBy (fun e => decide (unitS e = u)) (live P))]
theorem tells_loop1 {P C : List Ent} (hP : PT P) {ip ic m : Nat} {s3 s : Store} {g : Gd} {U : List Str} (hU : ∀ u ∈ U, u ∈ unitL) (hl : U.length ≤ 900) (hi : s3[ip]? = some (.dT false (kvs P))) (hm : s3[m]? = some (keysC P)) {t0 : Store} (hs : s = s3 ++ .lst [] :: t0) (hg : holds g s) (hgn : ∀ n c, g = some (n, c) → n ≠ s3.length) :
    wp (PM.forM g (gN 5) b__law_tells_2 (U.map fun u => PM.D.d (.str u)) (envT (bookD P C) ip ic m (some (.ref s3.length)) none none none) s) fun f s' => ∃ t o, f = .nx (envT (bookD P C) ip ic m (some (.ref s3.length)) o none none) ∧ s' = s3 ++ .lst ((U.map (tlP P)).map PM.D.d) :: t := by
  refine wp_for (fun l env s => ∃ don rest t o, l = rest.map (fun u => PM.D.d (.str u)) ∧ don ++ rest = U ∧ s = s3 ++ .lst ((don.map (tlP P)).map PM.D.d) :: t ∧ holds g s ∧ env = envT (bookD P C) ip ic m (some (.ref s3.length)) o none none) (fun env s ⟨don, rest, t, o, h1, h2, h3, h4, h5⟩ => ?_) (fun y l env s ⟨don, rest, t, o, h1, h2, h3, h4, h5⟩ => ?_) _ _ _ ⟨[], U, t0, none, rfl, rfl, hs, hg, rfl⟩
  · have : rest = [] := by
      cases rest with
      | nil => rfl
      | cons _ _ => cases h1
    subst this
    rw [List.append_nil] at h2
    subst h2
    exact ⟨h4, t, o, by rw [h5], h3⟩
  · cases rest with
    | nil => cases h1
    | cons u rest =>
      rw [List.map_cons] at h1
      injection h1 with h1 h1'
      subst h1 h1' h3 h5
      refine ⟨h4, ?_⟩
      have hu : u ∈ U := by rw [← h2]; simp
      have hus : SeqAt.shaped (.str u) = true := (good_str (z := u) (by unfold good; exact (unit_good (hU u hu)).1)).1
      have hdl : don.length < 900 := by
        have := congrArg List.length h2
        rw [List.length_append, List.length_cons] at this
        omega
      have hty : tyD "list" (s3 ++ .lst ((don.map (tlP P)).map PM.D.d) :: t) (.ref s3.length) = true := by
        unfold tyD
        simp only [get_mid]
        rfl
      simp only [b__law_tells_2, envT, hty, truF, wp_some, wp_none, wp_bind, wp_sFor, mOp, mUn, mC, mVar, mTest, mTru, mAnd, mOr, mNot, mAndV, mOrV, mNotV, mIf, mNil, mCons, mCall, mTup, mLstD, mLst, mChain, mPart, mSl, mMeth, mIsi, sSeq, sNil, sIf, sRet, sRetN, sAsg, sExpr, sPar, sPar3, gN, gT, gsCons, gsNil, gIx, bodyM, retM, List.getElem?_cons_zero, List.getElem?_cons_succ, List.set_cons_zero, List.set_cons_succ, List.map_cons, List.map_nil, List.length_cons, List.length_nil, List.replicate, List.cons_append, List.nil_append, Option.bind_some, Option.map_some, if_true, if_false, reduceIte, Bool.false_eq_true, tyN, datas, iiF, addI, Bool.not_true, Bool.not_false, Nat.zero_add, Nat.reduceAdd, Nat.reduceSub, reduceCtorEq]
      refine ev_ksum' hP (fun e => decide (unitS e = u)) (pre_get pre_app hi) (pre_get pre_app hm) (unitT hP hus) fun t1 q hq => ?_
      refine wp_of (ev_sum hq) ?_
      have ea : appendF (.ref s3.length) [.d (tlP P u)] (s3 ++ Cell.lst ((don.map (tlP P)).map PM.D.d) :: t ++ t1) = some (.d .none, s3 ++ Cell.lst (((don ++ [u]).map (tlP P)).map PM.D.d) :: (t ++ t1)) := by
        rw [List.append_assoc, List.cons_append]
        unfold appendF
        simp only [get_mid]
        rw [if_pos (by rw [List.length_map, List.length_map]; exact Nat.lt_of_lt_of_le hdl (small _ (by decide))), set_mid]
        simp
      have ea : appendF (.ref s3.length) [.d (.tuple [.str u, .int (((live P).filter fun e => decide (unitS e = u)).map (·.2)).sum])] (s3 ++ Cell.lst ((don.map (tlP P)).map PM.D.d) :: t ++ t1) = some (.d .none, s3 ++ Cell.lst (((don ++ [u]).map (tlP P)).map PM.D.d) :: (t ++ t1)) := ea
      have hgs : holds g (s3 ++ Cell.lst (((don ++ [u]).map (tlP P)).map PM.D.d) :: (t ++ t1)) := fun n c e => by
        have := h4 n c e
        have hn := hgn n c e
        have go : (s3 ++ Cell.lst ((don.map (tlP P)).map PM.D.d) :: t ++ t1)[n]? = some c := pre_get pre_app this
        rw [List.append_assoc, List.cons_append] at go
        rw [← set_mid s3 (t ++ t1) (Cell.lst ((don.map (tlP P)).map PM.D.d)), List.getElem?_set_ne (Ne.symm hn)]
        exact go
      obtain ⟨t2, e2⟩ := ev_supply (C := C) hP.ok (st := s3 ++ Cell.lst (((don ++ [u]).map (tlP P)).map PM.D.d) :: (t ++ t1)) hus
      have e3 : ∀ s', s3 ++ Cell.lst (((don ++ [u]).map (tlP P)).map PM.D.d) :: (t ++ t1) <+: s' → getF (.ref s3.length) (.d (.int (-1))) s' = some (.d (tlP P u), s') := fun s' hs' => by
        have hg := pre_get hs' (get_mid s3 (t ++ t1) _)
        unfold getF
        have hd : isDict s' (.ref s3.length) = false := by
          unfold isDict
          dsimp only
          rw [hg]
        rw [hd, if_neg Bool.false_ne_true]
        show ((seqOf s' (.ref s3.length)).bind fun xs => (atI xs (-1)).map fun x => (x, s')) = _
        show ((lstC s'[s3.length]?).bind fun xs => (atI xs (-1)).map fun x => (x, s')) = _
        rw [hg]
        show (atI (((don ++ [u]).map (tlP P)).map PM.D.d) (-1)).map _ = _
        rw [List.map_append, List.map_append, List.map_cons, List.map_nil, List.map_cons, List.map_nil, atI_last]
        rfl
      have e4 : ∀ s', getF (.d (tlP P u)) (.d (.int 1)) s' = some (.d (.int (sumBy (fun e => decide (unitS e = u)) (live P))), s') := fun s' => ev_ix (i := 1) rfl rfl
      have e5 : ∀ s', f__law_same 6 [.d (.int (sumBy (fun e => decide (unitS e = u)) (live P))), .d (.int (sumBy (fun e => decide (unitS e = u)) (live P)))] s' = some (.d (.bool true), s') := fun s' => same_true (by unfold tupG; rfl) (Nat.zero_lt_succ 5)
      simp only [fits2, ea, e2, negF, e3 _ pre_app, e4, e5, truF, wp_some, wp_none, wp_bind, wp_sFor, mOp, mUn, mC, mVar, mTest, mTru, mAnd, mOr, mNot, mAndV, mOrV, mNotV, mIf, mNil, mCons, mCall, mTup, mLstD, mLst, mChain, mPart, mSl, mMeth, mIsi, sSeq, sNil, sIf, sRet, sRetN, sAsg, sExpr, sPar, sPar3, gN, gT, gsCons, gsNil, gIx, bodyM, retM, List.getElem?_cons_zero, List.getElem?_cons_succ, List.set_cons_zero, List.set_cons_succ, List.map_cons, List.map_nil, List.length_cons, List.length_nil, List.replicate, List.cons_append, List.nil_append, Option.bind_some, Option.map_some, if_true, if_false, reduceIte, Bool.false_eq_true, tyN, datas, iiF, addI, Bool.not_true, Bool.not_false, Nat.zero_add, Nat.reduceAdd, Nat.reduceSub, reduceCtorEq]
      refine ⟨don ++ [u], rest, t ++ t1 ++ t2, _, rfl, by rw [← h2]; simp, by simp, pre_holds pre_app hgs, rfl⟩
end K34

set_option Elab.async false
set_option linter.all false
set_option maxRecDepth 100000
set_option autoImplicit false
namespace K34
open PySem PySem.Spec PyProof.Rows L2 PM
open Classical

def askL : List Str := ["till", "kate", "none"]
theorem ask_ok : ∀ a ∈ askL, tupGAll (([.inr a, .inr ("gold" : Str)] : List L2.Key).map keyD) = true := by decide +kernel
theorem none_ok : goodS ("none" : Str) = true := by decide +kernel
theorem same_int {i : Int} (s' : Store) : f__law_same 6 [.d (.int i), .d (.int i)] s' = some (.d (.bool true), s') := same_true (by unfold tupG; rfl) (Nat.zero_lt_succ 5)
theorem tells_loop2 {P C : List Ent} (hP : PT P) {ip ic m : Nat} {s0 : Store} {o4 o5 : Option PM.D} {g : Gd} (hi : s0[ip]? = some (.dT false (kvs P))) (hm : s0[m]? = some (keysC P)) (hg : holds g s0) :
    wp (PM.forM g (gN 6) b__law_tells_1 (askL.map fun u => PM.D.d (.str u)) (envT (bookD P C) ip ic m o4 o5 none none) s0) fun f s' => ∃ o6, f = .nx (envT (bookD P C) ip ic m o4 o5 o6 none) ∧ s0 <+: s' := by
  refine wp_for (fun l env s => ∃ rest o6, l = rest.map (fun u => PM.D.d (.str u)) ∧ (∀ a ∈ rest, a ∈ askL) ∧ s0 <+: s ∧ env = envT (bookD P C) ip ic m o4 o5 o6 none) (fun env s ⟨rest, o6, h1, h2, h3, h4⟩ => ?_) (fun y l env s ⟨rest, o6, h1, h2, h3, h4⟩ => ?_) _ _ _ ⟨askL, none, rfl, fun a h => h, List.prefix_refl _, rfl⟩
  · exact ⟨pre_holds h3 hg, o6, by rw [h4], h3⟩
  · cases rest with
    | nil => cases h1
    | cons a rest =>
      rw [List.map_cons] at h1
      injection h1 with h1 h1'
      subst h1 h1' h4
      have ha := ask_ok a (h2 a List.mem_cons_self)
      refine ⟨pre_holds h3 hg, ?_⟩
      obtain ⟨t1, e1⟩ := ev_amount_of (C := C) hP.ok (st := s) ha
      simp only [b__law_tells_1, envT, e1, truF, wp_some, wp_none, wp_bind, wp_sFor, mOp, mUn, mC, mVar, mTest, mTru, mAnd, mOr, mNot, mAndV, mOrV, mNotV, mIf, mNil, mCons, mCall, mTup, mLstD, mLst, mChain, mPart, mSl, mMeth, mIsi, sSeq, sNil, sIf, sRet, sRetN, sAsg, sExpr, sPar, sPar3, gN, gT, gsCons, gsNil, gIx, bodyM, retM, List.getElem?_cons_zero, List.getElem?_cons_succ, List.set_cons_zero, List.set_cons_succ, List.map_cons, List.map_nil, List.length_cons, List.length_nil, List.replicate, List.cons_append, List.nil_append, Option.bind_some, Option.map_some, if_true, if_false, reduceIte, Bool.false_eq_true, tyN, datas, iiF, addI, Bool.not_true, Bool.not_false, Nat.zero_add, Nat.reduceAdd, Nat.reduceSub, reduceCtorEq]
      refine ev_ksum' hP (auB a ("gold" : Str)) (pre_get (h3.trans pre_app) hi) (pre_get (h3.trans pre_app) hm) (auT hP ha) fun t2 q hq => ?_
      refine wp_of (ev_sum hq) ?_
      have e2 : ∀ s', f__law_same 6 [.d (.int (sumBy (auB a ("gold" : Str)) (live P))), .d (.int (((live P).filter (auB a ("gold" : Str))).map (·.2)).sum)] s' = some (.d (.bool true), s') := fun s' => same_int s'
      simp only [e2, truF, wp_some, wp_none, wp_bind, wp_sFor, mOp, mUn, mC, mVar, mTest, mTru, mAnd, mOr, mNot, mAndV, mOrV, mNotV, mIf, mNil, mCons, mCall, mTup, mLstD, mLst, mChain, mPart, mSl, mMeth, mIsi, sSeq, sNil, sIf, sRet, sRetN, sAsg, sExpr, sPar, sPar3, gN, gT, gsCons, gsNil, gIx, bodyM, retM, List.getElem?_cons_zero, List.getElem?_cons_succ, List.set_cons_zero, List.set_cons_succ, List.map_cons, List.map_nil, List.length_cons, List.length_nil, List.replicate, List.cons_append, List.nil_append, Option.bind_some, Option.map_some, if_true, if_false, reduceIte, Bool.false_eq_true, tyN, datas, iiF, addI, Bool.not_true, Bool.not_false, Nat.zero_add, Nat.reduceAdd, Nat.reduceSub, reduceCtorEq]
      exact ⟨rest, _, rfl, fun b hb => h2 b (List.mem_cons_of_mem _ hb), (h3.trans pre_app).trans pre_app, rfl⟩
theorem none_sum {P : List Ent} (hP : PT P) : sumBy (fun e => decide (unitS e = ("none" : Str))) (live P) = 0 := by
  unfold sumBy
  have : (live P).filter (fun e => decide (unitS e = ("none" : Str))) = [] := List.filter_eq_nil_iff.mpr fun e he => by
    have hm := ((live_sub hP.ok).1 e he).1
    have := (unit_good (hP.key e hm).1.acc.2).2
    simpa using this
  rw [this]
  rfl
theorem tg_sup {P : List Ent} (hP : PT P) : tupG (.tuple (supT P)) = true ∧ (PyData.tuple (supT P)).depth < 6 := by
  have hl : (ssetS ((live P).map unitS)).length ≤ 800 := Nat.le_trans (ssetS_len _) (by rw [List.length_map]; exact (live_sub hP.ok).2)
  unfold supT
  refine ⟨tg_tup (tg_all fun u hu => ?_) (by rw [List.length_map]; omega), ?_⟩
  · obtain ⟨e, he, rfl⟩ := List.mem_map.mp (mem_ssetS.mp hu)
    have hm := ((live_sub hP.ok).1 e he).1
    refine tg_tup ?_ (by simp)
    rw [tupGAll, tupGAll, tupGAll]
    have h1 : tupG (.str (unitS e)) = true := by
      unfold tupG
      exact (unit_good (hP.key e hm).1.acc.2).1
    rw [h1]
    unfold tupG
    rfl
  · rw [PyData.depth]
    have := dp_all (f := fun u : Str => PyData.tuple [.str u, .int (sumBy (fun e => decide (unitS e = u)) (live P))]) (n := 1) (l := ssetS ((live P).map unitS)) fun _ _ => Nat.le_refl _
    omega
theorem acc_good {P : List Ent} (hP : PT P) : ∀ z ∈ (live P).map accS, goodS z = true := fun z hz => by
  obtain ⟨e, he, rfl⟩ := List.mem_map.mp hz
  exact (nm_good (acc_ok _ (hP.key e ((live_sub hP.ok).1 e he).1).1.acc.1)).1
theorem units_good {P : List Ent} (hP : PT P) : ∀ z ∈ (live P).map unitS, goodS z = true := fun z hz => by
  obtain ⟨e, he, rfl⟩ := List.mem_map.mp hz
  exact (unit_good (hP.key e ((live_sub hP.ok).1 e he).1).1.acc.2).1
theorem accA {P : List Ent} (hP : PT P) {b : PyData} {ip ic m : Nat} {o4 o5 o6 : Option PM.D} : ∀ e ∈ P, ∀ s, (mOp getF (mVar 7) (mC (.int 0))) (envT b ip ic m o4 o5 o6 (some (kD e))) s = some (.d (.str (accS e)), s) := fun e he s => by
  obtain ⟨a, v, h, e1, e2, e3⟩ := part_form hP.ok he
  have g1 := fun st => kD_ix (e := e) (st := st) (i := 0) (j := 0) rfl (by rw [e1]; rfl : e.1[0]? = some (.inr a))
  unfold envT
  simp only [g1, e2, truF, wp_some, wp_none, wp_bind, wp_sFor, mOp, mUn, mC, mVar, mTest, mTru, mAnd, mOr, mNot, mAndV, mOrV, mNotV, mIf, mNil, mCons, mCall, mTup, mLstD, mLst, mChain, mPart, mSl, mMeth, mIsi, sSeq, sNil, sIf, sRet, sRetN, sAsg, sExpr, sPar, sPar3, gN, gT, gsCons, gsNil, gIx, bodyM, retM, List.getElem?_cons_zero, List.getElem?_cons_succ, List.set_cons_zero, List.set_cons_succ, List.map_cons, List.map_nil, List.length_cons, List.length_nil, List.replicate, List.cons_append, List.nil_append, Option.bind_some, Option.map_some, if_true, if_false, reduceIte, Bool.false_eq_true, tyN, datas, iiF, addI, Bool.not_true, Bool.not_false, Nat.zero_add, Nat.reduceAdd, Nat.reduceSub, reduceCtorEq]
  rfl
theorem unitA {P : List Ent} (hP : PT P) {b : PyData} {ip ic m : Nat} {o4 o5 o6 : Option PM.D} : ∀ e ∈ P, ∀ s, (mOp getF (mVar 7) (mC (.int 1))) (envT b ip ic m o4 o5 o6 (some (kD e))) s = some (.d (.str (unitS e)), s) := fun e he s => by
  obtain ⟨a, v, h, e1, e2, e3⟩ := part_form hP.ok he
  have g1 := fun st => kD_ix (e := e) (st := st) (i := 1) (j := 1) rfl (by rw [e1]; rfl : e.1[1]? = some (.inr v))
  unfold envT
  simp only [g1, e3, truF, wp_some, wp_none, wp_bind, wp_sFor, mOp, mUn, mC, mVar, mTest, mTru, mAnd, mOr, mNot, mAndV, mOrV, mNotV, mIf, mNil, mCons, mCall, mTup, mLstD, mLst, mChain, mPart, mSl, mMeth, mIsi, sSeq, sNil, sIf, sRet, sRetN, sAsg, sExpr, sPar, sPar3, gN, gT, gsCons, gsNil, gIx, bodyM, retM, List.getElem?_cons_zero, List.getElem?_cons_succ, List.set_cons_zero, List.set_cons_succ, List.map_cons, List.map_nil, List.length_cons, List.length_nil, List.replicate, List.cons_append, List.nil_append, Option.bind_some, Option.map_some, if_true, if_false, reduceIte, Bool.false_eq_true, tyN, datas, iiF, addI, Bool.not_true, Bool.not_false, Nat.zero_add, Nat.reduceAdd, Nat.reduceSub, reduceCtorEq]
  rfl
theorem isF_tt {st : Store} : isF true (.d (.bool true)) (.d (.bool true)) st = some (.d (.bool false), st) := rfl
theorem ev_disp {ip ic : Nat} {b : PyData} {o3 o4 o5 o6 o7 : Option PM.D} {st : Store} : ∃ t, mDisp (("parts", (mVar 1)) :: (("cells", (mVar 2)) :: [])) [some (.d b), some (.ref ip), some (.ref ic), o3, o4, o5, o6, o7] st = some (.ref st.length, st ++ t) ∧ (st ++ t)[st.length]? = some (.dK false (wD (.ref ip) (.ref ic))) := by
  refine ⟨[.dK false (wD (.ref ip) (.ref ic))], ?_, last_get⟩
  unfold mDisp dispPs dispPs dispPs
  simp only [truF, wp_some, wp_none, wp_bind, wp_sFor, mOp, mUn, mC, mVar, mTest, mTru, mAnd, mOr, mNot, mAndV, mOrV, mNotV, mIf, mNil, mCons, mCall, mTup, mLstD, mLst, mChain, mPart, mSl, mMeth, mIsi, sSeq, sNil, sIf, sRet, sRetN, sAsg, sExpr, sPar, sPar3, gN, gT, gsCons, gsNil, gIx, bodyM, retM, List.getElem?_cons_zero, List.getElem?_cons_succ, List.set_cons_zero, List.set_cons_succ, List.map_cons, List.map_nil, List.length_cons, List.length_nil, List.replicate, List.cons_append, List.nil_append, Option.bind_some, Option.map_some, if_true, if_false, reduceIte, Bool.false_eq_true, tyN, datas, iiF, addI, Bool.not_true, Bool.not_false, Nat.zero_add, Nat.reduceAdd, Nat.reduceSub, reduceCtorEq]
  rw [if_pos ⟨last_get, by decide⟩]
  have : (st ++ [Cell.dK false []]).set st.length (.dK false (wD (.ref ip) (.ref ic))) = st ++ [.dK false (wD (.ref ip) (.ref ic))] := set_mid st [] _ _
  rw [← this]
  unfold wD
  congr 4
theorem wp_skipK {T : PM.Env → M Bool} {S R : PM.Env → M Fl} {env : PM.Env} {st : Store} {Q : Fl → Store → Prop} {K : Store → Prop} (h : wp (T env st) fun b s => b = false ∧ K s) (h2 : ∀ s, K s → wp (R env s) Q) : wp (sSeq (sIf T S sNil) R env st) Q :=
  wp_skip (wp_mono h fun b s q => ⟨q.1, h2 s q.2⟩)
set_option maxHeartbeats 4000000 in
theorem ev_tells {P C : List Ent} (hP : PT P) (hC : CT C) {ip ic : Nat} {st : Store} (hi : st[ip]? = some (.dT false (kvs P))) (hj : st[ic]? = some (.dT false (kvs C))) :
    ∃ t, f__law_tells [.d (bookD P C), .ref ip, .ref ic] st = some (.d (.bool true), st ++ t) := by
  refine wp_ex ?_
  show wp (bodyM 3 8 s__law_tells [.d (bookD P C), .ref ip, .ref ic] st) _
  rw [body_eq (n := 3) (xs := [.d (bookD P C), .ref ip, .ref ic]) rfl]
  show wp ((s__law_tells [some (.d (bookD P C)), some (.ref ip), some (.ref ic), none, none, none, none, none] st).bind retM) _
  rw [wp_bind]
  unfold s__law_tells
  refine wp_seq (wp_mono (tells_keys (C := C) hP hi) fun f s ⟨t, e1, e2⟩ => ?_)
  subst e1 e2
  dsimp only
  have p1 : st <+: st ++ keysC P :: t := pre_app
  have hm : (st ++ keysC P :: t)[st.length]? = some (keysC P) := get_mid st t _
  generalize hs1 : st ++ keysC P :: t = s1 at p1 hm ⊢
  have hi1 := pre_get p1 hi
  have hj1 := pre_get p1 hj
  -- the book is the tables' book
  obtain ⟨tb, tb2⟩ := tg_book hP hC
  have sb : ∀ s', f__law_same 6 [.d (bookD P C), .d (bookD P C)] s' = some (.d (.bool true), s') := fun s' => same_true tb tb2
  refine wp_skipK (K := fun s => s1 <+: s) ?_ fun s2 p2 => ?_
  · obtain ⟨t2, d1, d2⟩ := ev_disp (ip := ip) (ic := ic) (b := bookD P C) (o3 := some (.ref st.length)) (o4 := none) (o5 := none) (o6 := none) (o7 := none) (st := s1)
    obtain ⟨t3, d3⟩ := ev_law_book hP.ok hC.ok d2 (pre_get pre_app hi1) (pre_get pre_app hj1)
    obtain ⟨t4, d4⟩ := ev_book0 (x := bookD P C) (st := s1 ++ t2 ++ t3) (good_of _ tb)
    rw [isBook_book hP hC] at d4
    simp only [envT, d1, d3, d4, sb, isF_tt, truF, wp_some, wp_none, wp_bind, wp_sFor, mOp, mUn, mC, mVar, mTest, mTru, mAnd, mOr, mNot, mAndV, mOrV, mNotV, mIf, mNil, mCons, mCall, mTup, mLstD, mLst, mChain, mPart, mSl, mMeth, mIsi, sSeq, sNil, sIf, sRet, sRetN, sAsg, sExpr, sPar, sPar3, gN, gT, gsCons, gsNil, gIx, bodyM, retM, List.getElem?_cons_zero, List.getElem?_cons_succ, List.set_cons_zero, List.set_cons_succ, List.map_cons, List.map_nil, List.length_cons, List.length_nil, List.replicate, List.cons_append, List.nil_append, Option.bind_some, Option.map_some, if_true, if_false, reduceIte, Bool.false_eq_true, tyN, datas, iiF, addI, Bool.not_true, Bool.not_false, Nat.zero_add, Nat.reduceAdd, Nat.reduceSub, reduceCtorEq]
    exact ⟨trivial, by rw [List.append_assoc, List.append_assoc]; exact pre_app⟩
  have hi2 := pre_get p2 hi1
  have hm2 := pre_get p2 hm
  have q2 := p1.trans p2
  -- accounts, units
  have ll := (live_sub hP.ok).2
  refine wp_skipK (K := fun s => s2 <+: s) ?_ fun s4 p4 => ?_
  · obtain ⟨a1, a2⟩ := tg_sset (zs := (live P).map accS) (by rw [List.length_map]; omega) (acc_good hP)
    obtain ⟨b1, b2⟩ := tg_sset (zs := (live P).map unitS) (by rw [List.length_map]; omega) (units_good hP)
    have sa : ∀ s', f__law_same 6 [.d (.tuple (sset ((live P).map accS))), .d (.tuple (sset ((live P).map accS)))] s' = some (.d (.bool true), s') := fun s' => same_true a1 a2
    have su : ∀ s', f__law_same 6 [.d (.tuple (sset ((live P).map unitS))), .d (.tuple (sset ((live P).map unitS)))] s' = some (.d (.bool true), s') := fun s' => same_true b1 b2
    obtain ⟨t5, f1⟩ := ev_accounts (C := C) hP.ok (st := s2)
    simp only [envT, f1, truF, wp_some, wp_none, wp_bind, wp_sFor, mOp, mUn, mC, mVar, mTest, mTru, mAnd, mOr, mNot, mAndV, mOrV, mNotV, mIf, mNil, mCons, mCall, mTup, mLstD, mLst, mChain, mPart, mSl, mMeth, mIsi, sSeq, sNil, sIf, sRet, sRetN, sAsg, sExpr, sPar, sPar3, gN, gT, gsCons, gsNil, gIx, bodyM, retM, List.getElem?_cons_zero, List.getElem?_cons_succ, List.set_cons_zero, List.set_cons_succ, List.map_cons, List.map_nil, List.length_cons, List.length_nil, List.replicate, List.cons_append, List.nil_append, Option.bind_some, Option.map_some, if_true, if_false, reduceIte, Bool.false_eq_true, tyN, datas, iiF, addI, Bool.not_true, Bool.not_false, Nat.zero_add, Nat.reduceAdd, Nat.reduceSub, reduceCtorEq]
    refine ks_mSset hP accS (pre_get pre_app hm2) (accA hP) fun t6 q _ hq => ?_
    refine wp_of (ev_tuple hq) ?_
    have p3 : s2 <+: s2 ++ t5 ++ t6 := by rw [List.append_assoc]; exact pre_app
    generalize s2 ++ t5 ++ t6 = s3 at p3 ⊢
    obtain ⟨t7, f2⟩ := ev_units (C := C) hP.ok (st := s3)
    simp only [sa, f2, truF, wp_some, wp_none, wp_bind, wp_sFor, mOp, mUn, mC, mVar, mTest, mTru, mAnd, mOr, mNot, mAndV, mOrV, mNotV, mIf, mNil, mCons, mCall, mTup, mLstD, mLst, mChain, mPart, mSl, mMeth, mIsi, sSeq, sNil, sIf, sRet, sRetN, sAsg, sExpr, sPar, sPar3, gN, gT, gsCons, gsNil, gIx, bodyM, retM, List.getElem?_cons_zero, List.getElem?_cons_succ, List.set_cons_zero, List.set_cons_succ, List.map_cons, List.map_nil, List.length_cons, List.length_nil, List.replicate, List.cons_append, List.nil_append, Option.bind_some, Option.map_some, if_true, if_false, reduceIte, Bool.false_eq_true, tyN, datas, iiF, addI, Bool.not_true, Bool.not_false, Nat.zero_add, Nat.reduceAdd, Nat.reduceSub, reduceCtorEq]
    refine ks_mSset hP unitS (pre_get (p3.trans pre_app) hm2) (unitA hP) fun t8 q _ hq => ?_
    refine wp_of (ev_tuple hq) ?_
    have p4 : s2 <+: s3 ++ t7 ++ t8 := p3.trans (by rw [List.append_assoc]; exact pre_app)
    generalize s3 ++ t7 ++ t8 = s4 at p4 ⊢
    simp only [su, truF, wp_some, wp_none, wp_bind, wp_sFor, mOp, mUn, mC, mVar, mTest, mTru, mAnd, mOr, mNot, mAndV, mOrV, mNotV, mIf, mNil, mCons, mCall, mTup, mLstD, mLst, mChain, mPart, mSl, mMeth, mIsi, sSeq, sNil, sIf, sRet, sRetN, sAsg, sExpr, sPar, sPar3, gN, gT, gsCons, gsNil, gIx, bodyM, retM, List.getElem?_cons_zero, List.getElem?_cons_succ, List.set_cons_zero, List.set_cons_succ, List.map_cons, List.map_nil, List.length_cons, List.length_nil, List.replicate, List.cons_append, List.nil_append, Option.bind_some, Option.map_some, if_true, if_false, reduceIte, Bool.false_eq_true, tyN, datas, iiF, addI, Bool.not_true, Bool.not_false, Nat.zero_add, Nat.reduceAdd, Nat.reduceSub, reduceCtorEq]
    exact ⟨trivial, p4⟩
  have hi4 := pre_get p4 hi2
  have hm4 := pre_get p4 hm2
  have q4 := q2.trans p4
  -- told = []
  have f0 : fits 0 = true := smallB (by decide)
  refine wp_seq ?_
  simp only [sAsg, mLst, mNil, f0, gN, wp_bind, wp_some, Option.bind_some, List.length_nil, if_true]
  show wp (sSeq _ _ (envT (bookD P C) ip ic st.length (some (.ref s4.length)) none none none) (s4 ++ [Cell.lst []])) _
  have hp5 : s4 <+: s4 ++ [Cell.lst []] := pre_app
  refine wp_seq ?_
  rw [wp_sFor]
  have hl1 : (ssetS ((live P).map unitS)).length ≤ 800 := Nat.le_trans (ssetS_len _) (by rw [List.length_map]; exact ll)
  simp only [mAny, wp_bind]
  refine ks_mSset hP unitS (pre_get hp5 hm4) (unitA hP) fun t9 q lq hq => ?_
  have hq' : (s4 ++ [Cell.lst []] ++ t9)[q]? = some (.lst ((ssetS ((live P).map unitS)).map fun u => PM.D.d (.str u))) := by
    rw [hq, sset_S, List.map_map]
    rfl
  simp only [hq', wp_some]
  have hqn : q ≠ s4.length := fun z => by
    rw [List.length_append, z] at lq
    exact absurd lq (by simp)
  refine wp_mono (tells_loop1 (C := C) hP (fun u hu => ?_) (by omega) hi4 hm4 (t0 := t9) (by rw [List.append_assoc]; rfl) (holds_of hq') (fun n c z => by cases z; exact hqn)) fun f s ⟨t, o, e1, e2⟩ => ?_
  · obtain ⟨e, he, rfl⟩ := List.mem_map.mp (mem_ssetS.mp hu)
    exact (hP.key e ((live_sub hP.ok).1 e he).1).1.acc.2
  subst e1 e2
  dsimp only
  generalize hs5 : s4 ++ Cell.lst (((ssetS ((live P).map unitS)).map (tlP P)).map PM.D.d) :: t = s5
  have p5 : s4 <+: s5 := by rw [← hs5]; exact pre_app
  have h5 : s5[s4.length]? = some (.lst ((supT P).map PM.D.d)) := by
    rw [← hs5, get_mid]
    rfl
  refine wp_seq ?_
  rw [wp_sFor]
  have f3 : fits 3 = true := fits3
  simp only [mAny, mLst, mCons, mNil, mC, f3, get_mid, last_get, wp_bind, wp_some, List.length_cons, List.length_nil, Nat.zero_add, Nat.reduceAdd, if_true]
  have p6 : s4 <+: s5 ++ [Cell.lst (askL.map fun u => PM.D.d (.str u))] := p5.trans pre_app
  refine wp_mono (tells_loop2 (C := C) hP (pre_get p6 hi4) (pre_get p6 hm4) (holds_of last_get)) fun f s ⟨o6, e1, p7⟩ => ?_
  subst e1
  have hi7 := pre_get (p6.trans p7) hi4
  have h7 := pre_get (pre_app.trans p7) h5
  obtain ⟨tS1, tS2⟩ := tg_sup hP
  have sS : ∀ s', f__law_same 6 [.d (.tuple (supT P)), .d (.tuple (supT P))] s' = some (.d (.bool true), s') := fun s' => same_true tS1 tS2
  obtain ⟨t8, g1⟩ := ev_supplies (C := C) hP.ok (st := s)
  have g2 := ev_tuple (pre_get (pre_app (t := t8)) h7)
  have hn : SeqAt.shaped (.str ("none" : Str)) = true := (good_str (z := ("none" : Str)) (by unfold good; exact none_ok)).1
  obtain ⟨t9, g3⟩ := ev_supply (C := C) hP.ok (st := s ++ t8) hn
  rw [none_sum hP] at g3
  have g4 : ∀ s', f__law_same 6 [.d (.int 0), .d (.int 0)] s' = some (.d (.bool true), s') := fun s' => same_int s'
  simp only [envT, g1, g2, g3, g4, sS, truF, wp_some, wp_none, wp_bind, wp_sFor, mOp, mUn, mC, mVar, mTest, mTru, mAnd, mOr, mNot, mAndV, mOrV, mNotV, mIf, mNil, mCons, mCall, mTup, mLstD, mLst, mChain, mPart, mSl, mMeth, mIsi, sSeq, sNil, sIf, sRet, sRetN, sAsg, sExpr, sPar, sPar3, gN, gT, gsCons, gsNil, gIx, bodyM, retM, List.getElem?_cons_zero, List.getElem?_cons_succ, List.set_cons_zero, List.set_cons_succ, List.map_cons, List.map_nil, List.length_cons, List.length_nil, List.replicate, List.cons_append, List.nil_append, Option.bind_some, Option.map_some, if_true, if_false, reduceIte, Bool.false_eq_true, tyN, datas, iiF, addI, Bool.not_true, Bool.not_false, Nat.zero_add, Nat.reduceAdd, Nat.reduceSub, reduceCtorEq]
  exact ⟨trivial, q4.trans ((p6.trans p7).trans (by rw [List.append_assoc]; exact pre_app))⟩
end K34

set_option Elab.async false
set_option linter.all false
set_option maxRecDepth 100000
set_option autoImplicit false
namespace K34
open PySem PySem.Spec PyProof.Rows L2 PM
open Classical

/-! ### the drawing of numbers -/
def sCell (p a s : Int) : Cell := .lst [.ref 0, .d (.int p), .d (.int a), .d (.int s)]
def nCell (ns : List Int) : Cell := .lst (ns.map fun n => PM.D.d (.int n))
structure Stt (ns : List Int) (st : Store) : Prop where
  zero : st[0]? = some (nCell ns)
  one : ∃ p a s : Int, 0 ≤ p ∧ st[1]? = some (sCell p a s)
structure Fr (st s : Store) : Prop where
  len : s.length = st.length
  get : ∀ i, i ≠ 1 → s[i]? = st[i]?
theorem Fr.refl {st : Store} : Fr st st := ⟨rfl, fun _ _ => rfl⟩
theorem Fr.trans {a b c : Store} (h : Fr a b) (k : Fr b c) : Fr a c := ⟨k.len.trans h.len, fun i hi => (k.get i hi).trans (h.get i hi)⟩
theorem Fr.set {st : Store} {c : Cell} : Fr st (st.set 1 c) := ⟨List.length_set .., fun i hi => List.getElem?_set_ne (Ne.symm hi)⟩
theorem list_nd {n : Nat} {xs : List PM.D} {st : Store} (h : st[n]? = some (.lst xs)) : isDict st (.ref n) = false := by
  unfold isDict
  dsimp only
  rw [h]
theorem ev_lget {n : Nat} {xs : List PM.D} {st : Store} {i : Nat} {j : Int} {x : PM.D} (h : st[n]? = some (.lst xs)) (hj : j = (i : Int)) (hx : xs[i]? = some x) : getF (.ref n) (.d (.int j)) st = some (x, st) := by
  subst hj
  have hl : i < xs.length := (List.getElem?_eq_some_iff.mp hx).1
  unfold getF
  rw [list_nd h, if_neg Bool.false_ne_true]
  show ((lstC st[n]?).bind fun xs => (atI xs (i : Int)).map fun x => (x, st)) = _
  rw [h]
  show (atI xs (i : Int)).map _ = _
  unfold atI ixN
  rw [if_pos (Int.natCast_nonneg i), if_pos (by omega)]
  simp only [Option.bind_some, Int.toNat_natCast, hx, Option.map_some]
theorem ev_lset {n : Nat} {xs : List PM.D} {st : Store} {i : Nat} {j : Int} {v : PM.D} (h : st[n]? = some (.lst xs)) (hj : j = (i : Int)) (hl : i < xs.length) : setF (.ref n) (.d (.int j)) v st = some (st.set n (.lst (xs.set i v))) := by
  subst hj
  unfold setF
  rw [list_nd h, if_neg Bool.false_ne_true]
  unfold setLF
  dsimp only
  rw [h]
  show (ixN xs.length (i : Int)).map _ = _
  unfold ixN
  rw [if_pos (Int.natCast_nonneg i), if_pos (by omega), Option.map_some, Int.toNat_natCast]
theorem ev_mul {i j : Int} {st : Store} (h : -(2 ^ 64) < j ∧ j < 2 ^ 64) : mulF (.d (.int i)) (.d (.int j)) st = some (.d (.int (i * j)), st) := by
  unfold mulF iiF
  dsimp only
  rw [if_pos (show CMul i j from .inr h)]
  rfl
theorem ev_mod {i j : Int} {st : Store} (h : 0 < j) : modF (.d (.int i)) (.d (.int j)) st = some (.d (.int (i % j)), st) := by
  unfold modF iiF
  dsimp only
  rw [if_pos h]
  rfl
theorem ev_fdiv {i j : Int} {st : Store} (h : 0 < j) (h2 : j < 1073741824) : fdivF (.d (.int i)) (.d (.int j)) st = some (.d (.int (i / j)), st) := by
  unfold fdivF iiF
  dsimp only
  rw [if_pos (show CDiv i j from ⟨h, h2⟩)]
  rfl
theorem ev_pow18 {st : Store} : powF (.d (.int 10)) (.d (.int 18)) st = some (.d (.int (10 ^ 18)), st) := by
  unfold powF iiF
  dsimp only
  rw [if_pos (show CPow 10 18 from ⟨by decide, by decide, by decide⟩)]
  rfl
theorem ev_pow13 {st : Store} : powF (.d (.int 10)) (.d (.int 13)) st = some (.d (.int (10 ^ 13)), st) := by
  unfold powF iiF
  dsimp only
  rw [if_pos (show CPow 10 13 from ⟨by decide, by decide, by decide⟩)]
  rfl
theorem ev_eqI {i j : Int} {st : Store} : eqF (.d (.int i)) (.d (.int j)) st = some (.d (.bool (i == j)), st) := by
  rw [ev_eq (sh_int i) (sh_int j), PyData.eqv]
theorem set_one {ns : List Int} {st : Store} {p a s : Int} (h0 : st[0]? = some (nCell ns)) (hl : 1 < st.length) (hp : 0 ≤ p) : Stt ns (st.set 1 (sCell p a s)) :=
  ⟨by rw [List.getElem?_set_ne (by decide)]; exact h0, p, a, s, hp, List.getElem?_set_self hl⟩
noncomputable def nextRest : PM.Env → M Fl := sSeq (sIf (mTest (mOp gtF (mOp getF (mVar 0) (mC (.int 2))) (mC (.int 0)))) (sSeq (sAsg (mOp modF (mCall intF (mCons (mOp getF (mVar 0) (mC (.int 2))) mNil)) (mVar 1)) (gN 3))
  (sSeq (sAsg (mOp fdivF (mOp getF (mVar 0) (mC (.int 2))) (mVar 1)) (gIx (mVar 0) (mC (.int 2)) setF))
  (sSeq (sRet (mVar 3))
  sNil))) sNil)
  (sSeq (sAsg (mOp modF (mCall intF (mCons (mOp addF (mOp mulF (mOp getF (mVar 0) (mC (.int 3))) (mC (.int 69621))) (mC (.int 12345))) mNil)) (mC (.int 2147483647))) (gIx (mVar 0) (mC (.int 3)) setF))
  (sSeq (sRet (mOp modF (mCall intF (mCons (mOp fdivF (mOp getF (mVar 0) (mC (.int 3))) (mC (.int 7))) mNil)) (mVar 1)))
  sNil))
theorem next_1 {ns : List Int} {st : Store} {lim : Int} (h : Stt ns st) (h1 : 0 < lim) (h2 : lim < 1073741824) (h3 : ∃ p a s : Int, 0 ≤ p ∧ st[1]? = some (sCell p a s)) (o : Option PM.D) :
    wp (nextRest [some (.ref 1), some (.d (.int lim)), o, none] st) fun f s => ∃ v, f = .rt (.d (.int v)) ∧ 0 ≤ v ∧ v < lim ∧ Stt ns s ∧ Fr st s := by
  unfold nextRest
  obtain ⟨p, a, s, hp, hc⟩ := h3
  have hl : 1 < st.length := (List.getElem?_eq_some_iff.mp hc).1
  have g2 : ∀ st' : Store, st' = st → getF (.ref 1) (.d (.int 2)) st' = some (.d (.int a), st') := fun st' e => by rw [e]; exact ev_lget (i := 2) hc rfl rfl
  have g3 : getF (.ref 1) (.d (.int 3)) st = some (.d (.int s), st) := ev_lget (i := 3) hc rfl rfl
  by_cases ha : 0 < a
  · have s2 : setF (.ref 1) (.d (.int 2)) (.d (.int (a / lim))) st = some (st.set 1 (sCell p (a / lim) s)) := ev_lset (i := 2) hc rfl (by simp)
    simp only [g2 st rfl, gtF, ha, decide_true, intF, ev_mod h1, ev_fdiv h1 h2, s2, truF, wp_some, wp_none, wp_bind, wp_sFor, mOp, mUn, mC, mVar, mTest, mTru, mAnd, mOr, mNot, mAndV, mOrV, mNotV, mIf, mNil, mCons, mCall, mTup, mLstD, mLst, mChain, mPart, mSl, mMeth, mIsi, sSeq, sNil, sIf, sRet, sRetN, sAsg, sExpr, sPar, sPar3, gN, gT, gsCons, gsNil, gIx, bodyM, retM, List.getElem?_cons_zero, List.getElem?_cons_succ, List.set_cons_zero, List.set_cons_succ, List.map_cons, List.map_nil, List.length_cons, List.length_nil, List.replicate, List.cons_append, List.nil_append, Option.bind_some, Option.map_some, if_true, if_false, reduceIte, Bool.false_eq_true, tyN, datas, iiF, addI, Bool.not_true, Bool.not_false, Nat.zero_add, Nat.reduceAdd, Nat.reduceSub, reduceCtorEq]
    exact ⟨_, rfl, Int.emod_nonneg _ (by omega), Int.emod_lt_of_pos _ h1, set_one h.zero hl hp, Fr.set⟩
  · have s3 : setF (.ref 1) (.d (.int 3)) (.d (.int ((s * 69621 + 12345) % 2147483647))) st = some (st.set 1 (sCell p a ((s * 69621 + 12345) % 2147483647))) := ev_lset (i := 3) hc rfl (by simp)
    have g4 : getF (.ref 1) (.d (.int 3)) (st.set 1 (sCell p a ((s * 69621 + 12345) % 2147483647))) = some (.d (.int ((s * 69621 + 12345) % 2147483647)), st.set 1 (sCell p a ((s * 69621 + 12345) % 2147483647))) := ev_lget (i := 3) (List.getElem?_set_self hl) rfl rfl
    have m1 : ∀ st', mulF (.d (.int s)) (.d (.int 69621)) st' = some (.d (.int (s * 69621)), st') := fun st' => ev_mul ⟨by decide, by decide⟩
    have m2 : ∀ i st', modF (.d (.int i)) (.d (.int 2147483647)) st' = some (.d (.int (i % 2147483647)), st') := fun i st' => ev_mod (by decide)
    have m3 : ∀ i st', fdivF (.d (.int i)) (.d (.int 7)) st' = some (.d (.int (i / 7)), st') := fun i st' => ev_fdiv (by decide) (by decide)
    simp only [g2 st rfl, gtF, ha, decide_false, intF, g3, m1, addF, m2, s3, g4, m3, ev_mod h1, truF, wp_some, wp_none, wp_bind, wp_sFor, mOp, mUn, mC, mVar, mTest, mTru, mAnd, mOr, mNot, mAndV, mOrV, mNotV, mIf, mNil, mCons, mCall, mTup, mLstD, mLst, mChain, mPart, mSl, mMeth, mIsi, sSeq, sNil, sIf, sRet, sRetN, sAsg, sExpr, sPar, sPar3, gN, gT, gsCons, gsNil, gIx, bodyM, retM, List.getElem?_cons_zero, List.getElem?_cons_succ, List.set_cons_zero, List.set_cons_succ, List.map_cons, List.map_nil, List.length_cons, List.length_nil, List.replicate, List.cons_append, List.nil_append, Option.bind_some, Option.map_some, if_true, if_false, reduceIte, Bool.false_eq_true, tyN, datas, iiF, addI, Bool.not_true, Bool.not_false, Nat.zero_add, Nat.reduceAdd, Nat.reduceSub, reduceCtorEq]
    exact ⟨_, rfl, Int.emod_nonneg _ (by omega), Int.emod_lt_of_pos _ h1, set_one h.zero hl hp, Fr.set⟩
theorem ev_next {ns : List Int} {st : Store} {lim : Int} (h : Stt ns st) (h1 : 0 < lim) (h2 : lim < 1073741824) :
    wp (f__law_next [.ref 1, .d (.int lim)] st) fun a s => ∃ v, a = .d (.int v) ∧ 0 ≤ v ∧ v < lim ∧ Stt ns s ∧ Fr st s := by
  obtain ⟨p, a, s, hp, hc⟩ := h.one
  have hl : 1 < st.length := (List.getElem?_eq_some_iff.mp hc).1
  show wp (bodyM 2 4 s__law_next [.ref 1, .d (.int lim)] st) _
  rw [body_eq (n := 2) (xs := [.ref 1, .d (.int lim)]) rfl]
  show wp ((s__law_next [some (.ref 1), some (.d (.int lim)), none, none] st).bind retM) _
  rw [wp_bind]
  unfold s__law_next
  have key : ∀ o s, Stt ns s → Fr st s → wp (nextRest [some (.ref 1), some (.d (.int lim)), o, none] s) (fun f s => wp (retM (f, s)) fun a s => ∃ v, a = .d (.int v) ∧ 0 ≤ v ∧ v < lim ∧ Stt ns s ∧ Fr st s) := fun o s hs hf => wp_mono (next_1 (lim := lim) hs h1 h2 hs.one o) fun f s' ⟨v, e1, e2, e3, e4, e5⟩ => (show wp (retM (f, s')) fun a s => ∃ v, a = .d (.int v) ∧ 0 ≤ v ∧ v < lim ∧ Stt ns s ∧ Fr st s by subst e1; exact wp_some.mpr ⟨v, rfl, e2, e3, e4, hf.trans e5⟩)
  show wp (sSeq _ nextRest _ st) _
  refine wp_seq ?_
  have g0 : getF (.ref 1) (.d (.int 0)) st = some (.ref 0, st) := ev_lget (i := 0) hc rfl rfl
  have g1 : getF (.ref 1) (.d (.int 1)) st = some (.d (.int p), st) := ev_lget (i := 1) hc rfl rfl
  have g2 : getF (.ref 1) (.d (.int 2)) st = some (.d (.int a), st) := ev_lget (i := 2) hc rfl rfl
  have gl : lenF [.ref 0] st = some (.d (.int ns.length), st) := by
    unfold lenF
    dsimp only
    show (lstC st[0]?).map _ = _
    rw [h.zero]
    show some (PM.D.d (.int ((ns.map fun n => PM.D.d (.int n)).length : Nat)), st) = _
    rw [List.length_map]
  cases ha : (a == 0) with
  | false =>
    simp only [g2, ev_eqI, ha, truF, wp_some, wp_none, wp_bind, wp_sFor, mOp, mUn, mC, mVar, mTest, mTru, mAnd, mOr, mNot, mAndV, mOrV, mNotV, mIf, mNil, mCons, mCall, mTup, mLstD, mLst, mChain, mPart, mSl, mMeth, mIsi, sSeq, sNil, sIf, sRet, sRetN, sAsg, sExpr, sPar, sPar3, gN, gT, gsCons, gsNil, gIx, bodyM, retM, List.getElem?_cons_zero, List.getElem?_cons_succ, List.set_cons_zero, List.set_cons_succ, List.map_cons, List.map_nil, List.length_cons, List.length_nil, List.replicate, List.cons_append, List.nil_append, Option.bind_some, Option.map_some, if_true, if_false, reduceIte, Bool.false_eq_true, tyN, datas, iiF, addI, Bool.not_true, Bool.not_false, Nat.zero_add, Nat.reduceAdd, Nat.reduceSub, reduceCtorEq]
    exact key _ _ h Fr.refl
  | true =>
    by_cases hpl : p < (ns.length : Int)
    · obtain ⟨n, hn⟩ : ∃ n, ns[p.toNat]? = some n := ⟨ns[p.toNat]'(by omega), List.getElem?_eq_getElem _⟩
      have gc : getF (.ref 0) (.d (.int p)) st = some (.d (.int n), st) := ev_lget (i := p.toNat) h.zero (by omega) (by rw [List.getElem?_map, hn]; rfl)
      have ga : getLF (.ref 1) (.d (.int 1)) st = some (.d (.int p), st) := by
        unfold getLF
        dsimp only
        rw [if_pos (by decide), hc]
        rfl
      have sp : setF (.ref 1) (.d (.int 1)) (.d (.int (p + 1))) st = some (st.set 1 (sCell (p + 1) a s)) := ev_lset (i := 1) hc rfl (by simp)
      have hc2 : (st.set 1 (sCell (p + 1) a s))[1]? = some (sCell (p + 1) a s) := List.getElem?_set_self hl
      have hz2 : (st.set 1 (sCell (p + 1) a s))[0]? = some (nCell ns) := by rw [List.getElem?_set_ne (by decide)]; exact h.zero
      have hl2 : 1 < (st.set 1 (sCell (p + 1) a s)).length := by rw [List.length_set]; exact hl
      by_cases hb : (10 : Int) ^ 18 ≤ n
      · have sb : setF (.ref 1) (.d (.int 2)) (.d (.int n)) (st.set 1 (sCell (p + 1) a s)) = some ((st.set 1 (sCell (p + 1) a s)).set 1 (sCell (p + 1) n s)) := ev_lset (i := 2) hc2 rfl (by simp)
        simp only [g2, ev_eqI, ha, g1, g0, gl, ltF, hpl, decide_true, gc, sAugIx, ga, sp, ev_pow18, geF, hb, sb, truF, wp_some, wp_none, wp_bind, wp_sFor, mOp, mUn, mC, mVar, mTest, mTru, mAnd, mOr, mNot, mAndV, mOrV, mNotV, mIf, mNil, mCons, mCall, mTup, mLstD, mLst, mChain, mPart, mSl, mMeth, mIsi, sSeq, sNil, sIf, sRet, sRetN, sAsg, sExpr, sPar, sPar3, gN, gT, gsCons, gsNil, gIx, bodyM, retM, List.getElem?_cons_zero, List.getElem?_cons_succ, List.set_cons_zero, List.set_cons_succ, List.map_cons, List.map_nil, List.length_cons, List.length_nil, List.replicate, List.cons_append, List.nil_append, Option.bind_some, Option.map_some, if_true, if_false, reduceIte, Bool.false_eq_true, tyN, datas, iiF, addI, Bool.not_true, Bool.not_false, Nat.zero_add, Nat.reduceAdd, Nat.reduceSub, reduceCtorEq]
        exact key _ _ (set_one hz2 hl2 (by omega)) (Fr.set.trans Fr.set)
      · have g3 : getF (.ref 1) (.d (.int 3)) (st.set 1 (sCell (p + 1) a s)) = some (.d (.int s), st.set 1 (sCell (p + 1) a s)) := ev_lget (i := 3) hc2 rfl rfl
        have m1 : ∀ st', mulF (.d (.int s)) (.d (.int 48271)) st' = some (.d (.int (s * 48271)), st') := fun st' => ev_mul ⟨by decide, by decide⟩
        have m2 : ∀ i st', modF (.d (.int i)) (.d (.int 2147483647)) st' = some (.d (.int (i % 2147483647)), st') := fun i st' => ev_mod (by decide)
        have sb : ∀ v, setF (.ref 1) (.d (.int 3)) (.d (.int v)) (st.set 1 (sCell (p + 1) a s)) = some ((st.set 1 (sCell (p + 1) a s)).set 1 (sCell (p + 1) a v)) := fun v => ev_lset (i := 3) hc2 rfl (by simp)
        simp only [g2, ev_eqI, ha, g1, g0, gl, ltF, hpl, decide_true, gc, sAugIx, ga, sp, ev_pow18, geF, hb, decide_false, intF, g3, m1, m2, addF, sb, truF, wp_some, wp_none, wp_bind, wp_sFor, mOp, mUn, mC, mVar, mTest, mTru, mAnd, mOr, mNot, mAndV, mOrV, mNotV, mIf, mNil, mCons, mCall, mTup, mLstD, mLst, mChain, mPart, mSl, mMeth, mIsi, sSeq, sNil, sIf, sRet, sRetN, sAsg, sExpr, sPar, sPar3, gN, gT, gsCons, gsNil, gIx, bodyM, retM, List.getElem?_cons_zero, List.getElem?_cons_succ, List.set_cons_zero, List.set_cons_succ, List.map_cons, List.map_nil, List.length_cons, List.length_nil, List.replicate, List.cons_append, List.nil_append, Option.bind_some, Option.map_some, if_true, if_false, reduceIte, Bool.false_eq_true, tyN, datas, iiF, addI, Bool.not_true, Bool.not_false, Nat.zero_add, Nat.reduceAdd, Nat.reduceSub, reduceCtorEq]
        exact key _ _ (set_one hz2 hl2 (by omega)) (Fr.set.trans Fr.set)
    · simp only [g2, ev_eqI, ha, g1, g0, gl, ltF, hpl, decide_false, truF, wp_some, wp_none, wp_bind, wp_sFor, mOp, mUn, mC, mVar, mTest, mTru, mAnd, mOr, mNot, mAndV, mOrV, mNotV, mIf, mNil, mCons, mCall, mTup, mLstD, mLst, mChain, mPart, mSl, mMeth, mIsi, sSeq, sNil, sIf, sRet, sRetN, sAsg, sExpr, sPar, sPar3, gN, gT, gsCons, gsNil, gIx, bodyM, retM, List.getElem?_cons_zero, List.getElem?_cons_succ, List.set_cons_zero, List.set_cons_succ, List.map_cons, List.map_nil, List.length_cons, List.length_nil, List.replicate, List.cons_append, List.nil_append, Option.bind_some, Option.map_some, if_true, if_false, reduceIte, Bool.false_eq_true, tyN, datas, iiF, addI, Bool.not_true, Bool.not_false, Nat.zero_add, Nat.reduceAdd, Nat.reduceSub, reduceCtorEq]
      exact key _ _ h Fr.refl
end K34

set_option Elab.async false
set_option linter.all false
set_option maxRecDepth 100000
set_option autoImplicit false
namespace K34
open PySem PySem.Spec PyProof.Rows L2 PM
open Classical

/-- what stays while a book is drawn -/
structure Gr (ip ic : Nat) (st s : Store) : Prop where
  len : st.length ≤ s.length
  get : ∀ i, i ≠ 1 → i ≠ ip → i ≠ ic → i < st.length → s[i]? = st[i]?
theorem Gr.refl {ip ic : Nat} {st : Store} : Gr ip ic st st := ⟨Nat.le_refl _, fun _ _ _ _ _ => rfl⟩
theorem Gr.trans {ip ic : Nat} {a b c : Store} (h : Gr ip ic a b) (k : Gr ip ic b c) : Gr ip ic a c := ⟨Nat.le_trans h.len k.len, fun i h1 h2 h3 h4 => (k.get i h1 h2 h3 (Nat.lt_of_lt_of_le h4 h.len)).trans (h.get i h1 h2 h3 h4)⟩
theorem Fr.gr {ip ic : Nat} {a b : Store} (h : Fr a b) : Gr ip ic a b := ⟨Nat.le_of_eq h.len.symm, fun i h1 _ _ _ => h.get i h1⟩
theorem gr_pre {ip ic : Nat} {a b : Store} (h : a <+: b) : Gr ip ic a b := by
  obtain ⟨t, rfl⟩ := h
  exact ⟨by rw [List.length_append]; exact Nat.le_add_right _ _, fun i _ _ _ hi => List.getElem?_append_left hi⟩
theorem gr_set {ip ic n : Nat} {a : Store} {c : Cell} (h : n = ip ∨ n = ic) : Gr ip ic a (a.set n c) := ⟨Nat.le_of_eq (List.length_set ..).symm, fun i _ h2 h3 _ => List.getElem?_set_ne (by rcases h with h | h <;> rw [h] <;> omega)⟩
structure WW (ns : List Int) (ip ic : Nat) (st : Store) : Prop where
  s0 : Stt ns st
  ex : ∃ P C, PT P ∧ CT C ∧ st[ip]? = some (.dT false (kvs P)) ∧ st[ic]? = some (.dT false (kvs C))
structure Ne (ip ic : Nat) : Prop where
  a : ip ≠ 1
  b : ic ≠ 1
  c : ip ≠ ic
theorem Stt.pre {ns : List Int} {a b : Store} (h : Stt ns a) (p : a <+: b) : Stt ns b := by
  obtain ⟨q, x, y, h1, h2⟩ := h.one
  exact ⟨pre_get p h.zero, q, x, y, h1, pre_get p h2⟩
theorem WW.pre {ns : List Int} {ip ic : Nat} {a b : Store} (h : WW ns ip ic a) (p : a <+: b) : WW ns ip ic b := by
  obtain ⟨P, C, h1, h2, h3, h4⟩ := h.ex
  exact ⟨h.s0.pre p, P, C, h1, h2, pre_get p h3, pre_get p h4⟩
theorem WW.fr {ns : List Int} {ip ic : Nat} {a b : Store} (h : WW ns ip ic a) (hn : Ne ip ic) (p : Fr a b) (s : Stt ns b) : WW ns ip ic b := by
  obtain ⟨P, C, h1, h2, h3, h4⟩ := h.ex
  exact ⟨s, P, C, h1, h2, (p.get ip hn.a).trans h3, (p.get ic hn.b).trans h4⟩
theorem dT_ne {ns : List Int} {st : Store} (h : Stt ns st) {n : Nat} {l : Bool} {k : List (List L2.Key × PM.D)} (hn : st[n]? = some (.dT l k)) : n ≠ 0 ∧ n ≠ 1 := by
  obtain ⟨q, x, y, h1, h2⟩ := h.one
  refine ⟨fun z => ?_, fun z => ?_⟩
  · rw [z, h.zero] at hn; cases hn
  · rw [z, h2] at hn; cases hn
theorem Stt.set {ns : List Int} {st : Store} (h : Stt ns st) {n : Nat} {c : Cell} (h0 : n ≠ 0 ∧ n ≠ 1) : Stt ns (st.set n c) := by
  obtain ⟨q, x, y, h1, h2⟩ := h.one
  exact ⟨by rw [List.getElem?_set_ne h0.1]; exact h.zero, q, x, y, h1, by rw [List.getElem?_set_ne h0.2]; exact h2⟩
theorem ev_dset {n : Nat} {T : List Ent} {k : List L2.Key} {v : Int} {st : Store} (h : st[n]? = some (.dT false (kvs T))) (hl : T.length ≤ 800) : setF (.ref n) (.d (.tuple (k.map keyD))) (.d (.int v)) st = some (st.set n (.dT false (kvs (putI T k v)))) := by
  unfold setF
  rw [dict_T h, if_pos rfl]
  show setDC n (.d (.int v)) st st[n]? (.tuple (k.map keyD)) = _
  rw [h]
  show ((keysA (k.map keyD)).bind fun k => if (kvs T).length < sizeLine then some (st.set n (.dT false (putD (kvs T) k (.d (.int v))))) else none) = _
  rw [keysA_map, Option.bind_some, if_pos (by rw [kvs, List.length_map]; exact Nat.lt_of_le_of_lt hl (by rw [sizeLine_eq]; decide)), kvs_put]
theorem WW.putP {ns : List Int} {ip ic : Nat} {st : Store} (h : WW ns ip ic st) (hn : Ne ip ic) {k : List L2.Key} {v : Int} (hk : PKey k) (hv : 0 ≤ v) :
    ∃ s, setF (.ref ip) (.d (.tuple (k.map keyD))) (.d (.int v)) st = some s ∧ WW ns ip ic s ∧ Gr ip ic st s := by
  obtain ⟨P, C, h1, h2, h3, h4⟩ := h.ex
  have hl : ip < st.length := (List.getElem?_eq_some_iff.mp h3).1
  exact ⟨_, ev_dset h3 h1.ok.len, ⟨h.s0.set (dT_ne h.s0 h3), putI P k v, C, h1.put hk hv, h2, List.getElem?_set_self hl, by rw [List.getElem?_set_ne hn.c]; exact h4⟩, gr_set (.inl rfl)⟩
theorem WW.putC {ns : List Int} {ip ic : Nat} {st : Store} (h : WW ns ip ic st) (hn : Ne ip ic) {k : List L2.Key} {v : Int} (hk : CKey k) (hv : -1000000000000 ≤ v ∧ v ≤ 1000000000000) :
    ∃ s, setF (.ref ic) (.d (.tuple (k.map keyD))) (.d (.int v)) st = some s ∧ WW ns ip ic s ∧ Gr ip ic st s := by
  obtain ⟨P, C, h1, h2, h3, h4⟩ := h.ex
  have hl : ic < st.length := (List.getElem?_eq_some_iff.mp h4).1
  exact ⟨_, ev_dset h4 h2.ok.len, ⟨h.s0.set (dT_ne h.s0 h4), P, putI C k v, h1, h2.put hk hv, by rw [List.getElem?_set_ne hn.c.symm]; exact h3, List.getElem?_set_self hl⟩, gr_set (.inr rfl)⟩
theorem next_W {ns : List Int} {ip ic : Nat} {st : Store} {lim : Int} (h : WW ns ip ic st) (hn : Ne ip ic) (h1 : 0 < lim) (h2 : lim < 1073741824) :
    wp (f__law_next [.ref 1, .d (.int lim)] st) fun a s => ∃ v, a = .d (.int v) ∧ (0 ≤ v ∧ v < lim) ∧ WW ns ip ic s ∧ Gr ip ic st s :=
  wp_mono (ev_next h.s0 h1 h2) fun a s ⟨v, e1, e2, e3, e4, e5⟩ => ⟨v, e1, ⟨e2, e3⟩, h.fr hn e5 e4, e5.gr⟩
abbrev envB (ip ic : Nat) (x3 x4 x5 x6 x7 x8 : Option PM.D) : PM.Env := [some (.ref 1), some (.ref ip), some (.ref ic), x3, x4, x5, x6, x7, x8]
theorem house_body {ns : List Int} {ip ic : Nat} {st : Store} (h : WW ns ip ic st) (hn : Ne ip ic) {a u : Str} {i : Int} (ha : a ∈ accL) (hu : u ∈ unitL) (hi : 0 ≤ i ∧ i ≤ 7) (x6 x7 x8 : Option PM.D) :
    wp (b__law_plain_book_3 (envB ip ic (some (.d (.str a))) (some (.d (.str u))) (some (.d (.int i))) x6 x7 x8) st) fun f s => f = .nx (envB ip ic (some (.d (.str a))) (some (.d (.str u))) (some (.d (.int i))) x6 x7 x8) ∧ WW ns ip ic s ∧ Gr ip ic st s := by
  simp only [b__law_plain_book_3, truF, wp_some, wp_none, wp_bind, wp_sFor, mOp, mUn, mC, mVar, mTest, mTru, mAnd, mOr, mNot, mAndV, mOrV, mNotV, mIf, mNil, mCons, mCall, mTup, mLstD, mLst, mChain, mPart, mSl, mMeth, mIsi, sSeq, sNil, sIf, sRet, sRetN, sAsg, sExpr, sPar, sPar3, gN, gT, gsCons, gsNil, gIx, bodyM, retM, List.getElem?_cons_zero, List.getElem?_cons_succ, List.set_cons_zero, List.set_cons_succ, List.map_cons, List.map_nil, List.length_cons, List.length_nil, List.replicate, List.cons_append, List.nil_append, Option.bind_some, Option.map_some, if_true, if_false, reduceIte, Bool.false_eq_true, tyN, datas, iiF, addI, Bool.not_true, Bool.not_false, Nat.zero_add, Nat.reduceAdd, Nat.reduceSub, reduceCtorEq]
  refine wp_mono (next_W h hn (by decide) (by decide)) fun c s1 ⟨v, e1, e2, w1, g1⟩ => ?_
  subst e1
  cases hv : (v == 0) with
  | false =>
    simp only [ev_eqI, hv, truF, wp_some, wp_none, wp_bind, wp_sFor, mOp, mUn, mC, mVar, mTest, mTru, mAnd, mOr, mNot, mAndV, mOrV, mNotV, mIf, mNil, mCons, mCall, mTup, mLstD, mLst, mChain, mPart, mSl, mMeth, mIsi, sSeq, sNil, sIf, sRet, sRetN, sAsg, sExpr, sPar, sPar3, gN, gT, gsCons, gsNil, gIx, bodyM, retM, List.getElem?_cons_zero, List.getElem?_cons_succ, List.set_cons_zero, List.set_cons_succ, List.map_cons, List.map_nil, List.length_cons, List.length_nil, List.replicate, List.cons_append, List.nil_append, Option.bind_some, Option.map_some, if_true, if_false, reduceIte, Bool.false_eq_true, tyN, datas, iiF, addI, Bool.not_true, Bool.not_false, Nat.zero_add, Nat.reduceAdd, Nat.reduceSub, reduceCtorEq]
    exact ⟨trivial, w1, g1⟩
  | true =>
    simp only [ev_eqI, hv, truF, wp_some, wp_none, wp_bind, wp_sFor, mOp, mUn, mC, mVar, mTest, mTru, mAnd, mOr, mNot, mAndV, mOrV, mNotV, mIf, mNil, mCons, mCall, mTup, mLstD, mLst, mChain, mPart, mSl, mMeth, mIsi, sSeq, sNil, sIf, sRet, sRetN, sAsg, sExpr, sPar, sPar3, gN, gT, gsCons, gsNil, gIx, bodyM, retM, List.getElem?_cons_zero, List.getElem?_cons_succ, List.set_cons_zero, List.set_cons_succ, List.map_cons, List.map_nil, List.length_cons, List.length_nil, List.replicate, List.cons_append, List.nil_append, Option.bind_some, Option.map_some, if_true, if_false, reduceIte, Bool.false_eq_true, tyN, datas, iiF, addI, Bool.not_true, Bool.not_false, Nat.zero_add, Nat.reduceAdd, Nat.reduceSub, reduceCtorEq]
    refine wp_mono (next_W w1 hn (by decide) (by decide)) fun c s2 ⟨v1, e1, e3, w2, g2⟩ => ?_
    subst e1
    simp only [addF, ev_pow13, truF, wp_some, wp_none, wp_bind, wp_sFor, mOp, mUn, mC, mVar, mTest, mTru, mAnd, mOr, mNot, mAndV, mOrV, mNotV, mIf, mNil, mCons, mCall, mTup, mLstD, mLst, mChain, mPart, mSl, mMeth, mIsi, sSeq, sNil, sIf, sRet, sRetN, sAsg, sExpr, sPar, sPar3, gN, gT, gsCons, gsNil, gIx, bodyM, retM, List.getElem?_cons_zero, List.getElem?_cons_succ, List.set_cons_zero, List.set_cons_succ, List.map_cons, List.map_nil, List.length_cons, List.length_nil, List.replicate, List.cons_append, List.nil_append, Option.bind_some, Option.map_some, if_true, if_false, reduceIte, Bool.false_eq_true, tyN, datas, iiF, addI, Bool.not_true, Bool.not_false, Nat.zero_add, Nat.reduceAdd, Nat.reduceSub, reduceCtorEq]
    refine wp_mono (next_W w2 hn (by decide) (by decide)) fun c s3 ⟨v2, e1, e4, w3, g3⟩ => ?_
    subst e1
    simp only [fits2, truF, wp_some, wp_none, wp_bind, wp_sFor, mOp, mUn, mC, mVar, mTest, mTru, mAnd, mOr, mNot, mAndV, mOrV, mNotV, mIf, mNil, mCons, mCall, mTup, mLstD, mLst, mChain, mPart, mSl, mMeth, mIsi, sSeq, sNil, sIf, sRet, sRetN, sAsg, sExpr, sPar, sPar3, gN, gT, gsCons, gsNil, gIx, bodyM, retM, List.getElem?_cons_zero, List.getElem?_cons_succ, List.set_cons_zero, List.set_cons_succ, List.map_cons, List.map_nil, List.length_cons, List.length_nil, List.replicate, List.cons_append, List.nil_append, Option.bind_some, Option.map_some, if_true, if_false, reduceIte, Bool.false_eq_true, tyN, datas, iiF, addI, Bool.not_true, Bool.not_false, Nat.zero_add, Nat.reduceAdd, Nat.reduceSub, reduceCtorEq]
    have w4 := w3.pre (pre_app (t := [Cell.lst [.d (.int (1 + v1)), .d (.int (10 ^ 13 + v2))]]))
    have g4 : Gr ip ic s3 (s3 ++ [Cell.lst [.d (.int (1 + v1)), .d (.int (10 ^ 13 + v2))]]) := gr_pre pre_app
    have hget : ∀ s : Store, s3 ++ [Cell.lst [.d (.int (1 + v1)), .d (.int (10 ^ 13 + v2))]] = s → s[s3.length]? = some (Cell.lst [.d (.int (1 + v1)), .d (.int (10 ^ 13 + v2))]) := fun s e => by rw [← e]; exact last_get
    have hl4 : s3.length < (s3 ++ [Cell.lst [.d (.int (1 + v1)), .d (.int (10 ^ 13 + v2))]]).length := by simp
    have hx : s3.length ≠ 1 ∧ s3.length ≠ ip ∧ s3.length ≠ ic := by
      obtain ⟨P, C, _, _, q1, q2⟩ := w3.ex
      obtain ⟨_, _, _, _, q3⟩ := w3.s0.one
      have := (List.getElem?_eq_some_iff.mp q1).1
      have := (List.getElem?_eq_some_iff.mp q2).1
      have := (List.getElem?_eq_some_iff.mp q3).1
      omega
    have hg4 := hget _ rfl
    generalize s3 ++ [Cell.lst [.d (.int (1 + v1)), .d (.int (10 ^ 13 + v2))]] = s4 at w4 g4 hl4 hg4 ⊢
    refine wp_mono (next_W w4 hn (by decide) (by decide)) fun c s5 ⟨v3, e1, e5, w5, g5⟩ => ?_
    subst e1
    have hg5 : s5[s3.length]? = some (Cell.lst [.d (.int (1 + v1)), .d (.int (10 ^ 13 + v2))]) := (g5.get _ hx.1 hx.2.1 hx.2.2 hl4).trans hg4
    have hk : PKey (kP a u i) := ⟨a, u, i, ha, hu, hi, rfl⟩
    have ga : Gr ip ic st s5 := g1.trans (g2.trans (g3.trans (g4.trans g5)))
    cases hb : (v3 == 0) with
    | false =>
      obtain ⟨s6, e6, w6, g6⟩ := w5.putP hn (v := 1 + v1) hk (by omega)
      have e6 : setF (.ref ip) (.d (.tuple [.str a, .str u, .int i])) (.d (.int (1 + v1))) s5 = some s6 := e6
      have e7 : getF (.ref s3.length) (.d (.int 0)) s5 = some (.d (.int (1 + v1)), s5) := ev_lget (i := 0) hg5 rfl rfl
      simp only [ev_eqI, hb, intF, e7, fits3, e6, truF, wp_some, wp_none, wp_bind, wp_sFor, mOp, mUn, mC, mVar, mTest, mTru, mAnd, mOr, mNot, mAndV, mOrV, mNotV, mIf, mNil, mCons, mCall, mTup, mLstD, mLst, mChain, mPart, mSl, mMeth, mIsi, sSeq, sNil, sIf, sRet, sRetN, sAsg, sExpr, sPar, sPar3, gN, gT, gsCons, gsNil, gIx, bodyM, retM, List.getElem?_cons_zero, List.getElem?_cons_succ, List.set_cons_zero, List.set_cons_succ, List.map_cons, List.map_nil, List.length_cons, List.length_nil, List.replicate, List.cons_append, List.nil_append, Option.bind_some, Option.map_some, if_true, if_false, reduceIte, Bool.false_eq_true, tyN, datas, iiF, addI, Bool.not_true, Bool.not_false, Nat.zero_add, Nat.reduceAdd, Nat.reduceSub, reduceCtorEq]
      exact ⟨trivial, w6, ga.trans g6⟩
    | true =>
      obtain ⟨s6, e6, w6, g6⟩ := w5.putP hn (v := 10 ^ 13 + v2) hk (by omega)
      have e6 : setF (.ref ip) (.d (.tuple [.str a, .str u, .int i])) (.d (.int (10 ^ 13 + v2))) s5 = some s6 := e6
      have e7 : getF (.ref s3.length) (.d (.int 1)) s5 = some (.d (.int (10 ^ 13 + v2)), s5) := ev_lget (i := 1) hg5 rfl rfl
      simp only [ev_eqI, hb, intF, e7, fits3, e6, truF, wp_some, wp_none, wp_bind, wp_sFor, mOp, mUn, mC, mVar, mTest, mTru, mAnd, mOr, mNot, mAndV, mOrV, mNotV, mIf, mNil, mCons, mCall, mTup, mLstD, mLst, mChain, mPart, mSl, mMeth, mIsi, sSeq, sNil, sIf, sRet, sRetN, sAsg, sExpr, sPar, sPar3, gN, gT, gsCons, gsNil, gIx, bodyM, retM, List.getElem?_cons_zero, List.getElem?_cons_succ, List.set_cons_zero, List.set_cons_succ, List.map_cons, List.map_nil, List.length_cons, List.length_nil, List.replicate, List.cons_append, List.nil_append, Option.bind_some, Option.map_some, if_true, if_false, reduceIte, Bool.false_eq_true, tyN, datas, iiF, addI, Bool.not_true, Bool.not_false, Nat.zero_add, Nat.reduceAdd, Nat.reduceSub, reduceCtorEq]
      exact ⟨trivial, w6, ga.trans g6⟩
end K34

set_option Elab.async false
set_option linter.all false
set_option maxRecDepth 100000
set_option autoImplicit false
namespace K34
open PySem PySem.Spec PyProof.Rows L2 PM
open Classical

theorem house_loop {ns : List Int} {ip ic : Nat} {st : Store} (h : WW ns ip ic st) (hn : Ne ip ic) {a u : Str} (ha : a ∈ accL) (hu : u ∈ unitL) (x5 x6 x7 x8 : Option PM.D) :
    wp (b__law_plain_book_4 (envB ip ic (some (.d (.str a))) (some (.d (.str u))) x5 x6 x7 x8) st) fun f s => (∃ x5', f = .nx (envB ip ic (some (.d (.str a))) (some (.d (.str u))) x5' x6 x7 x8)) ∧ WW ns ip ic s ∧ Gr ip ic st s := by
  unfold b__law_plain_book_4
  refine wp_seq ?_
  rw [wp_sFor]
  refine wp_of (mRange_at (j := ((4 : Nat) : Int)) (s := st) rfl (small62_of (by decide))) ?_
  refine wp_mono (wp_for (Q := fun f s => (∃ x5', f = .nx (envB ip ic (some (.d (.str a))) (some (.d (.str u))) x5' x6 x7 x8)) ∧ WW ns ip ic s ∧ Gr ip ic st s) (fun l env s => WW ns ip ic s ∧ Gr ip ic st s ∧ (∃ x5, env = envB ip ic (some (.d (.str a))) (some (.d (.str u))) x5 x6 x7 x8) ∧ ∀ y ∈ l, ∃ i : Int, (0 ≤ i ∧ i ≤ 7) ∧ y = .d (.int i)) (fun env s ⟨h1, h2, ⟨x5, h3⟩, _⟩ => ?_) (fun y l env s ⟨h1, h2, ⟨x5, h3⟩, h4⟩ => ?_) _ _ _ ⟨h, .refl, ⟨x5, rfl⟩, fun y hy => ?_⟩) fun f s ⟨⟨x5', e⟩, h2, h3⟩ => ?_
  · exact ⟨holds_none, ⟨x5, by rw [h3]⟩, h1, h2⟩
  · subst h3
    obtain ⟨i, hi, rfl⟩ := h4 y List.mem_cons_self
    refine ⟨holds_none, wp_some.mpr ?_⟩
    refine wp_mono (house_body h1 hn ha hu hi x6 x7 x8) fun f s' ⟨e1, e2, e3⟩ => ?_
    subst e1
    exact ⟨e2, h2.trans e3, ⟨_, rfl⟩, fun z hz => h4 z (List.mem_cons_of_mem _ hz)⟩
  · unfold rint at hy
    obtain ⟨i, hi, rfl⟩ := List.mem_map.mp hy
    have hi := List.mem_range.mp hi
    exact ⟨_, ⟨by omega, by omega⟩, rfl⟩
  · subst e
    exact wp_some.mpr ⟨⟨x5', rfl⟩, h2, h3⟩
theorem cut_mem {α : Type} {xs : List α} {lo hi : Option Int} {x : α} (h : x ∈ PM.cutD xs lo hi) : x ∈ xs := List.mem_of_mem_drop (List.mem_of_mem_take h)
theorem far {ns : List Int} {ip ic : Nat} {st : Store} (h : WW ns ip ic st) : st.length ≠ 1 ∧ st.length ≠ ip ∧ st.length ≠ ic := by
  obtain ⟨P, C, _, _, q1, q2⟩ := h.ex
  obtain ⟨_, _, _, _, q3⟩ := h.s0.one
  have := (List.getElem?_eq_some_iff.mp q1).1
  have := (List.getElem?_eq_some_iff.mp q2).1
  have := (List.getElem?_eq_some_iff.mp q3).1
  omega
structure GOk (ip ic : Nat) (s : Store) (g : Gd) : Prop where
  ex : ∃ n c, g = some (n, c) ∧ s[n]? = some c ∧ n ≠ 1 ∧ n ≠ ip ∧ n ≠ ic
theorem GOk.keep {ip ic : Nat} {s s' : Store} {g : Gd} (h : GOk ip ic s g) (k : Gr ip ic s s') : holds g s' := by
  obtain ⟨n, c, rfl, h2, h3, h4, h5⟩ := h.ex
  exact holds_of ((k.get n h3 h4 h5 (List.getElem?_eq_some_iff.mp h2).1).trans h2)
theorem slice_iter {ns : List Int} {ip ic : Nat} {st : Store} (h : WW ns ip ic st) (hn : Ne ip ic) {L : List Str} {As : PM.Env → M (List PM.D)} {env : PM.Env} {lim : Int} (hl : L.length ≤ 900) (hA : As env st = some (L.map (fun z => PM.D.d (.str z)), st)) (h0 : env[0]? = some (some (.ref 1))) (h1 : 0 < lim) (h2 : lim < 1073741824) :
    wp (mAny (mSl slF (mLst As) (mPart none) (mPart (some (mOp addF (mC (.int 1)) (mCall f__law_next (mCons (mVar 0) (mCons (mC (.int lim)) mNil))))))) env st) fun r s => (∀ y ∈ r.1, ∃ z ∈ L, y = .d (.str z)) ∧ WW ns ip ic s ∧ Gr ip ic st s ∧ GOk ip ic s r.2 := by
  have hf : fits L.length = true := smallB (by omega)
  simp only [mAny, hA, List.length_map, hf, h0, truF, wp_some, wp_none, wp_bind, wp_sFor, mOp, mUn, mC, mVar, mTest, mTru, mAnd, mOr, mNot, mAndV, mOrV, mNotV, mIf, mNil, mCons, mCall, mTup, mLstD, mLst, mChain, mPart, mSl, mMeth, mIsi, sSeq, sNil, sIf, sRet, sRetN, sAsg, sExpr, sPar, sPar3, gN, gT, gsCons, gsNil, gIx, bodyM, retM, List.getElem?_cons_zero, List.getElem?_cons_succ, List.set_cons_zero, List.set_cons_succ, List.map_cons, List.map_nil, List.length_cons, List.length_nil, List.replicate, List.cons_append, List.nil_append, Option.bind_some, Option.map_some, if_true, if_false, reduceIte, Bool.false_eq_true, tyN, datas, iiF, addI, Bool.not_true, Bool.not_false, Nat.zero_add, Nat.reduceAdd, Nat.reduceSub, reduceCtorEq]
  have w1 := h.pre (pre_app (t := [Cell.lst (L.map fun z => PM.D.d (.str z))]))
  have hg : (st ++ [Cell.lst (L.map fun z => PM.D.d (.str z))])[st.length]? = some (Cell.lst (L.map fun z => PM.D.d (.str z))) := last_get
  have g1 : Gr ip ic st (st ++ [Cell.lst (L.map fun z => PM.D.d (.str z))]) := gr_pre pre_app
  have hx := far h
  have hl1 : st.length < (st ++ [Cell.lst (L.map fun z => PM.D.d (.str z))]).length := by simp
  generalize st ++ [Cell.lst (L.map fun z => PM.D.d (.str z))] = s1 at w1 hg g1 hl1 ⊢
  refine wp_mono (next_W w1 hn h1 h2) fun c s2 ⟨v, e1, e2, w2, g2⟩ => ?_
  subst e1
  have hg2 := (g2.get _ hx.1 hx.2.1 hx.2.2 hl1).trans hg
  have e3 : slF (.ref st.length) none (some (1 + v)) s2 = some (.ref s2.length, s2 ++ [.lst (PM.cutD (L.map fun z => PM.D.d (.str z)) none (some (1 + v)))]) := by
    show (lstC s2[st.length]?).map _ = _
    rw [hg2]
    rfl
  simp only [addF, e3, last_get, truF, wp_some, wp_none, wp_bind, wp_sFor, mOp, mUn, mC, mVar, mTest, mTru, mAnd, mOr, mNot, mAndV, mOrV, mNotV, mIf, mNil, mCons, mCall, mTup, mLstD, mLst, mChain, mPart, mSl, mMeth, mIsi, sSeq, sNil, sIf, sRet, sRetN, sAsg, sExpr, sPar, sPar3, gN, gT, gsCons, gsNil, gIx, bodyM, retM, List.getElem?_cons_zero, List.getElem?_cons_succ, List.set_cons_zero, List.set_cons_succ, List.map_cons, List.map_nil, List.length_cons, List.length_nil, List.replicate, List.cons_append, List.nil_append, Option.bind_some, Option.map_some, if_true, if_false, reduceIte, Bool.false_eq_true, tyN, datas, iiF, addI, Bool.not_true, Bool.not_false, Nat.zero_add, Nat.reduceAdd, Nat.reduceSub, reduceCtorEq]
  have hx2 := far w2
  refine ⟨fun y hy => ?_, w2.pre pre_app, g1.trans (g2.trans (gr_pre pre_app)), ⟨_, _, rfl, last_get, hx2⟩⟩
  obtain ⟨z, hz, rfl⟩ := List.mem_map.mp (cut_mem hy)
  exact ⟨z, hz, rfl⟩
theorem unit_loop {ns : List Int} {ip ic : Nat} {st : Store} (h : WW ns ip ic st) (hn : Ne ip ic) {a : Str} (ha : a ∈ accL) (x4 x5 x6 x7 x8 : Option PM.D) :
    wp (b__law_plain_book_5 (envB ip ic (some (.d (.str a))) x4 x5 x6 x7 x8) st) fun f s => (∃ x4' x5', f = .nx (envB ip ic (some (.d (.str a))) x4' x5' x6 x7 x8)) ∧ WW ns ip ic s ∧ Gr ip ic st s := by
  unfold b__law_plain_book_5
  refine wp_seq ?_
  rw [wp_sFor]
  refine wp_mono (slice_iter h hn (L := unitL) (by decide) rfl rfl (by decide) (by decide)) fun r s1 ⟨q1, w1, g1, k1⟩ => ?_
  refine wp_mono (wp_for (Q := fun f s => (∃ x4' x5', f = .nx (envB ip ic (some (.d (.str a))) x4' x5' x6 x7 x8)) ∧ WW ns ip ic s ∧ Gr ip ic s1 s) (fun l env s => WW ns ip ic s ∧ Gr ip ic s1 s ∧ (∃ x4 x5, env = envB ip ic (some (.d (.str a))) x4 x5 x6 x7 x8) ∧ ∀ y ∈ l, ∃ u ∈ unitL, y = .d (.str u)) (fun env s ⟨h1, h2, ⟨x4, x5, h3⟩, _⟩ => ?_) (fun y l env s ⟨h1, h2, ⟨x4, x5, h3⟩, h4⟩ => ?_) _ _ _ ⟨w1, .refl, ⟨x4, x5, rfl⟩, q1⟩) fun f s ⟨⟨x4', x5', e⟩, h2, h3⟩ => ?_
  · exact ⟨k1.keep h2, ⟨x4, x5, by rw [h3]⟩, h1, h2⟩
  · subst h3
    obtain ⟨u, hu, rfl⟩ := h4 y List.mem_cons_self
    refine ⟨k1.keep h2, wp_some.mpr ?_⟩
    refine wp_mono (house_loop h1 hn ha hu x5 x6 x7 x8) fun f s' ⟨⟨x5', e1⟩, e2, e3⟩ => ?_
    subst e1
    exact ⟨e2, h2.trans e3, ⟨_, _, rfl⟩, fun z hz => h4 z (List.mem_cons_of_mem _ hz)⟩
  · subst e
    exact wp_some.mpr ⟨⟨x4', x5', rfl⟩, h2, g1.trans h3⟩
def acc4 : List Str := ["till", "kate", "omar", "zoe"]
theorem acc4_sub : ∀ a ∈ acc4, a ∈ accL := by decide +kernel
theorem acc_loop {ns : List Int} {ip ic : Nat} {st : Store} (h : WW ns ip ic st) (hn : Ne ip ic) (x3 x4 x5 x6 x7 x8 : Option PM.D) :
    wp (sFor (mAny (mSl slF (mLst (mCons (mC (.str ("till" : Str))) (mCons (mC (.str ("kate" : Str))) (mCons (mC (.str ("omar" : Str))) (mCons (mC (.str ("zoe" : Str))) mNil))))) (mPart none) (mPart (some (mOp addF (mC (.int 1)) (mCall f__law_next (mCons (mVar 0) (mCons (mC (.int 4)) mNil)))))))) (gN 3) b__law_plain_book_5 (envB ip ic x3 x4 x5 x6 x7 x8) st) fun f s => (∃ x3' x4' x5', f = .nx (envB ip ic x3' x4' x5' x6 x7 x8)) ∧ WW ns ip ic s := by
  rw [wp_sFor]
  refine wp_mono (slice_iter h hn (L := acc4) (by decide) rfl rfl (by decide) (by decide)) fun r s1 ⟨q1, w1, g1, k1⟩ => ?_
  refine wp_for (fun l env s => WW ns ip ic s ∧ Gr ip ic s1 s ∧ (∃ x3 x4 x5, env = envB ip ic x3 x4 x5 x6 x7 x8) ∧ ∀ y ∈ l, ∃ u ∈ acc4, y = .d (.str u)) (fun env s ⟨h1, h2, ⟨x3, x4, x5, h3⟩, _⟩ => ?_) (fun y l env s ⟨h1, h2, ⟨x3, x4, x5, h3⟩, h4⟩ => ?_) _ _ _ ⟨w1, .refl, ⟨x3, x4, x5, rfl⟩, q1⟩
  · exact ⟨k1.keep h2, ⟨x3, x4, x5, by rw [h3]⟩, h1⟩
  · subst h3
    obtain ⟨a, ha, rfl⟩ := h4 y List.mem_cons_self
    refine ⟨k1.keep h2, wp_some.mpr ?_⟩
    refine wp_mono (unit_loop h1 hn (acc4_sub a ha) x4 x5 x6 x7 x8) fun f s' ⟨⟨x4', x5', e1⟩, e2, e3⟩ => ?_
    subst e1
    exact ⟨e2, h2.trans e3, ⟨_, _, _, rfl⟩, fun z hz => h4 z (List.mem_cons_of_mem _ hz)⟩
/-! the cells -/
theorem pick_W {ns : List Int} {ip ic : Nat} {st : Store} (h : WW ns ip ic st) (hn : Ne ip ic) {L : List Str} {As : PM.Env → M (List PM.D)} {env : PM.Env} {lim : Int} (hl : L.length ≤ 900) (hA : As env st = some (L.map (fun z => PM.D.d (.str z)), st)) (h0 : env[0]? = some (some (.ref 1))) (h1 : 0 < lim) (h2 : lim < 1073741824) (h3 : lim = L.length) :
    wp (mOp getF (mLst As) (mCall f__law_next (mCons (mVar 0) (mCons (mC (.int lim)) mNil))) env st) fun a s => (∃ z ∈ L, a = .d (.str z)) ∧ WW ns ip ic s := by
  have hf : fits L.length = true := smallB (by omega)
  simp only [hA, List.length_map, hf, h0, truF, wp_some, wp_none, wp_bind, wp_sFor, mOp, mUn, mC, mVar, mTest, mTru, mAnd, mOr, mNot, mAndV, mOrV, mNotV, mIf, mNil, mCons, mCall, mTup, mLstD, mLst, mChain, mPart, mSl, mMeth, mIsi, sSeq, sNil, sIf, sRet, sRetN, sAsg, sExpr, sPar, sPar3, gN, gT, gsCons, gsNil, gIx, bodyM, retM, List.getElem?_cons_zero, List.getElem?_cons_succ, List.set_cons_zero, List.set_cons_succ, List.map_cons, List.map_nil, List.length_cons, List.length_nil, List.replicate, List.cons_append, List.nil_append, Option.bind_some, Option.map_some, if_true, if_false, reduceIte, Bool.false_eq_true, tyN, datas, iiF, addI, Bool.not_true, Bool.not_false, Nat.zero_add, Nat.reduceAdd, Nat.reduceSub, reduceCtorEq]
  have w1 := h.pre (pre_app (t := [Cell.lst (L.map fun z => PM.D.d (.str z))]))
  have hg : (st ++ [Cell.lst (L.map fun z => PM.D.d (.str z))])[st.length]? = some (Cell.lst (L.map fun z => PM.D.d (.str z))) := last_get
  have hx := far h
  have hl1 : st.length < (st ++ [Cell.lst (L.map fun z => PM.D.d (.str z))]).length := by simp
  generalize st ++ [Cell.lst (L.map fun z => PM.D.d (.str z))] = s1 at w1 hg hl1 ⊢
  refine wp_mono (next_W w1 hn h1 h2) fun c s2 ⟨v, e1, e2, w2, g2⟩ => ?_
  subst e1
  have hg2 := (g2.get _ hx.1 hx.2.1 hx.2.2 hl1).trans hg
  have hv : v.toNat < L.length := by omega
  refine wp_of (ev_lget (i := v.toNat) (x := .d (.str L[v.toNat])) hg2 (by omega) (by rw [List.getElem?_map, List.getElem?_eq_getElem hv]; rfl)) ⟨⟨_, List.getElem_mem hv, rfl⟩, w2⟩
def con3 : List Str := ["pay", "drawnp", "forge"]
def key3 : List Str := ["k", "m", "seen"]
theorem con3_sub : ∀ a ∈ con3, a ∈ conL := by decide +kernel
theorem key3_sub : ∀ a ∈ key3, a ∈ keyL := by decide +kernel
theorem cell_body {ns : List Int} {ip ic : Nat} {st : Store} (h : WW ns ip ic st) (hn : Ne ip ic) (x3 x4 x5 x6 x7 x8 : Option PM.D) :
    wp (b__law_plain_book_2 (envB ip ic x3 x4 x5 x6 x7 x8) st) fun f s => (∃ x5 x7 x8, f = .nx (envB ip ic x3 x4 x5 x6 x7 x8)) ∧ WW ns ip ic s := by
  unfold b__law_plain_book_2
  refine wp_seq ?_
  simp only [sPar3, mCons, mNil, wp_bind, wp_some]
  have a0 : (mCall f__law_next (mCons (mVar 0) (mCons (mC (.int 3)) mNil))) (envB ip ic x3 x4 x5 x6 x7 x8) st = f__law_next [.ref 1, .d (.int 3)] st := rfl
  have q0 := next_W h hn (lim := 3) (by decide) (by decide)
  rw [← a0] at q0
  refine wp_mono q0 fun c s1 ⟨v, e1, e2, w1, g1⟩ => ?_
  subst e1
  refine wp_mono (pick_W w1 hn (L := con3) (by decide) rfl rfl (by decide) (by decide) (by decide)) fun c s2 ⟨⟨cc, hc, e1⟩, w2⟩ => ?_
  subst e1
  refine wp_mono (pick_W w2 hn (L := key3) (by decide) rfl rfl (by decide) (by decide) (by decide)) fun c s3 ⟨⟨kk, hk, e1⟩, w3⟩ => ?_
  subst e1
  have hck : CKey (kC v cc kk) := ⟨v, cc, kk, ⟨by omega, by omega⟩, con3_sub cc hc, key3_sub kk hk, rfl⟩
  simp only [truF, wp_some, wp_none, wp_bind, wp_sFor, mOp, mUn, mC, mVar, mTest, mTru, mAnd, mOr, mNot, mAndV, mOrV, mNotV, mIf, mNil, mCons, mCall, mTup, mLstD, mLst, mChain, mPart, mSl, mMeth, mIsi, sSeq, sNil, sIf, sRet, sRetN, sAsg, sExpr, sPar, sPar3, gN, gT, gsCons, gsNil, gIx, bodyM, retM, List.getElem?_cons_zero, List.getElem?_cons_succ, List.set_cons_zero, List.set_cons_succ, List.map_cons, List.map_nil, List.length_cons, List.length_nil, List.replicate, List.cons_append, List.nil_append, Option.bind_some, Option.map_some, if_true, if_false, reduceIte, Bool.false_eq_true, tyN, datas, iiF, addI, Bool.not_true, Bool.not_false, Nat.zero_add, Nat.reduceAdd, Nat.reduceSub, reduceCtorEq]
  refine wp_mono (next_W w3 hn (by decide) (by decide)) fun c s4 ⟨v1, e1, e4, w4, g4⟩ => ?_
  subst e1
  simp only [addF, subF, truF, wp_some, wp_none, wp_bind, wp_sFor, mOp, mUn, mC, mVar, mTest, mTru, mAnd, mOr, mNot, mAndV, mOrV, mNotV, mIf, mNil, mCons, mCall, mTup, mLstD, mLst, mChain, mPart, mSl, mMeth, mIsi, sSeq, sNil, sIf, sRet, sRetN, sAsg, sExpr, sPar, sPar3, gN, gT, gsCons, gsNil, gIx, bodyM, retM, List.getElem?_cons_zero, List.getElem?_cons_succ, List.set_cons_zero, List.set_cons_succ, List.map_cons, List.map_nil, List.length_cons, List.length_nil, List.replicate, List.cons_append, List.nil_append, Option.bind_some, Option.map_some, if_true, if_false, reduceIte, Bool.false_eq_true, tyN, datas, iiF, addI, Bool.not_true, Bool.not_false, Nat.zero_add, Nat.reduceAdd, Nat.reduceSub, reduceCtorEq]
  refine wp_mono (next_W w4 hn (by decide) (by decide)) fun c s5 ⟨v2, e1, e5, w5, g5⟩ => ?_
  subst e1
  simp only [fits2, truF, wp_some, wp_none, wp_bind, wp_sFor, mOp, mUn, mC, mVar, mTest, mTru, mAnd, mOr, mNot, mAndV, mOrV, mNotV, mIf, mNil, mCons, mCall, mTup, mLstD, mLst, mChain, mPart, mSl, mMeth, mIsi, sSeq, sNil, sIf, sRet, sRetN, sAsg, sExpr, sPar, sPar3, gN, gT, gsCons, gsNil, gIx, bodyM, retM, List.getElem?_cons_zero, List.getElem?_cons_succ, List.set_cons_zero, List.set_cons_succ, List.map_cons, List.map_nil, List.length_cons, List.length_nil, List.replicate, List.cons_append, List.nil_append, Option.bind_some, Option.map_some, if_true, if_false, reduceIte, Bool.false_eq_true, tyN, datas, iiF, addI, Bool.not_true, Bool.not_false, Nat.zero_add, Nat.reduceAdd, Nat.reduceSub, reduceCtorEq]
  have w6 := w5.pre (pre_app (t := [Cell.lst [.d (.int (1 + v1)), .d (.int (0 - 1 - v2))]]))
  have hg : (s5 ++ [Cell.lst [.d (.int (1 + v1)), .d (.int (0 - 1 - v2))]])[s5.length]? = some (Cell.lst [.d (.int (1 + v1)), .d (.int (0 - 1 - v2))]) := last_get
  have hx := far w5
  have hl1 : s5.length < (s5 ++ [Cell.lst [.d (.int (1 + v1)), .d (.int (0 - 1 - v2))]]).length := by simp
  generalize s5 ++ [Cell.lst [.d (.int (1 + v1)), .d (.int (0 - 1 - v2))]] = s6 at w6 hg hl1 ⊢
  refine wp_mono (next_W w6 hn (by decide) (by decide)) fun c s7 ⟨v3, e1, e7, w7, g7⟩ => ?_
  subst e1
  have hg7 := (g7.get _ hx.1 hx.2.1 hx.2.2 hl1).trans hg
  have hv3 : v3 = 0 ∨ v3 = 1 := by omega
  rcases hv3 with rfl | rfl
  · obtain ⟨s8, f1, f2, f3⟩ := w7.putC hn (v := 1 + v1) hck (by omega)
    have f1 : setF (.ref ic) (.d (.tuple [.int v, .str cc, .str kk])) (.d (.int (1 + v1))) s7 = some s8 := f1
    have e8 : getF (.ref s5.length) (.d (.int 0)) s7 = some (.d (.int (1 + v1)), s7) := ev_lget (i := 0) hg7 rfl rfl
    simp only [e8, fits3, f1, truF, wp_some, wp_none, wp_bind, wp_sFor, mOp, mUn, mC, mVar, mTest, mTru, mAnd, mOr, mNot, mAndV, mOrV, mNotV, mIf, mNil, mCons, mCall, mTup, mLstD, mLst, mChain, mPart, mSl, mMeth, mIsi, sSeq, sNil, sIf, sRet, sRetN, sAsg, sExpr, sPar, sPar3, gN, gT, gsCons, gsNil, gIx, bodyM, retM, List.getElem?_cons_zero, List.getElem?_cons_succ, List.set_cons_zero, List.set_cons_succ, List.map_cons, List.map_nil, List.length_cons, List.length_nil, List.replicate, List.cons_append, List.nil_append, Option.bind_some, Option.map_some, if_true, if_false, reduceIte, Bool.false_eq_true, tyN, datas, iiF, addI, Bool.not_true, Bool.not_false, Nat.zero_add, Nat.reduceAdd, Nat.reduceSub, reduceCtorEq]
    exact ⟨⟨_, _, _, rfl⟩, f2⟩
  · obtain ⟨s8, f1, f2, f3⟩ := w7.putC hn (v := 0 - 1 - v2) hck (by omega)
    have f1 : setF (.ref ic) (.d (.tuple [.int v, .str cc, .str kk])) (.d (.int (0 - 1 - v2))) s7 = some s8 := f1
    have e8 : getF (.ref s5.length) (.d (.int 1)) s7 = some (.d (.int (0 - 1 - v2)), s7) := ev_lget (i := 1) hg7 rfl rfl
    simp only [e8, fits3, f1, truF, wp_some, wp_none, wp_bind, wp_sFor, mOp, mUn, mC, mVar, mTest, mTru, mAnd, mOr, mNot, mAndV, mOrV, mNotV, mIf, mNil, mCons, mCall, mTup, mLstD, mLst, mChain, mPart, mSl, mMeth, mIsi, sSeq, sNil, sIf, sRet, sRetN, sAsg, sExpr, sPar, sPar3, gN, gT, gsCons, gsNil, gIx, bodyM, retM, List.getElem?_cons_zero, List.getElem?_cons_succ, List.set_cons_zero, List.set_cons_succ, List.map_cons, List.map_nil, List.length_cons, List.length_nil, List.replicate, List.cons_append, List.nil_append, Option.bind_some, Option.map_some, if_true, if_false, reduceIte, Bool.false_eq_true, tyN, datas, iiF, addI, Bool.not_true, Bool.not_false, Nat.zero_add, Nat.reduceAdd, Nat.reduceSub, reduceCtorEq]
    exact ⟨⟨_, _, _, rfl⟩, f2⟩
end K34

set_option Elab.async false
set_option linter.all false
set_option maxRecDepth 100000
set_option autoImplicit false
namespace K34
open PySem PySem.Spec PyProof.Rows L2 PM
open Classical

theorem alike_ks : ∀ ks ks' : List L2.Key, ks.map Sum.isRight = ks'.map Sum.isRight → PySem.W.alikeAll (ks.map keyD) (ks'.map keyD) = true
  | [], [], _ => by simp [PySem.W.alikeAll]
  | k :: ks, k' :: ks', h => by
    rw [List.map_cons, List.map_cons] at h
    injection h with h1 h2
    rw [List.map_cons, List.map_cons, PySem.W.alikeAll, alike_ks ks ks' h2, Bool.and_true]
    exact alike_key h1
  | [], _ :: _, h => by cases h
  | _ :: _, [], h => by cases h
theorem sortB_keys {L : List Ent} {kd : List Bool} (hp : ∀ e ∈ L, e.1.map Sum.isRight = kd) (hg : ∀ e ∈ L, goodKey e.1 = true) (hl : L.length ≤ 902) : sortB (L.map fun e => tupK e.1) = true := by
  unfold sortB
  simp only [Bool.and_eq_true, Bool.or_eq_true, List.all_eq_true, decide_eq_true_eq]
  refine ⟨⟨⟨?_, .inl fun d hd => ?_⟩, fun d hd => ?_⟩, smallB (by rw [List.length_map]; exact hl)⟩
  · unfold alikeB
    refine List.all_eq_true.mpr fun d hd => List.all_eq_true.mpr fun d' hd' => ?_
    obtain ⟨x, hx, rfl⟩ := List.mem_map.mp hd
    obtain ⟨y, hy, rfl⟩ := List.mem_map.mp hd'
    unfold tupK
    rw [PySem.W.alike]
    exact alike_ks _ _ ((hp x hx).trans (hp y hy).symm)
  · obtain ⟨x, hx, rfl⟩ := List.mem_map.mp hd
    have := goodKey_len (hg x hx)
    unfold tupK
    cases q : x.1 with
    | nil =>
      rw [q] at this
      cases this
    | cons _ _ => rfl
  · obtain ⟨x, hx, rfl⟩ := List.mem_map.mp hd
    unfold tupK
    rw [PyData.depth, (lay_keys (gk_all (hg x hx))).2]
    decide
theorem one_fits : ∀ a ∈ accL, ∀ u ∈ unitL, (fits (("one." : Str).length + a.length) && (fits ((("one." : Str) ++ a).length + (("." : Str).length)) && fits ((("one." : Str) ++ a ++ ("." : Str)).length + u.length))) = true := by decide +kernel
theorem hold_con : ("hold" : Str) ∈ conL := by decide +kernel
theorem hold_body {ns : List Int} {ip ic : Nat} {st : Store} (h : WW ns ip ic st) (hn : Ne ip ic) {a u : Str} {i : Int} (ha : a ∈ accL) (hu : u ∈ unitL) (hi : 0 ≤ i ∧ i ≤ 7) (x6 x7 x8 : Option PM.D) :
    wp (b__law_plain_book_1 (envB ip ic (some (.d (.str a))) (some (.d (.str u))) (some (.d (.int i))) x6 x7 x8) st) fun f s => f = .nx (envB ip ic (some (.d (.str a))) (some (.d (.str u))) (some (.d (.int i))) x6 x7 x8) ∧ WW ns ip ic s ∧ Gr ip ic st s := by
  have hf := one_fits a ha u hu
  simp only [Bool.and_eq_true] at hf
  have hck : CKey (kC i ("hold" : Str) (oneS a u)) := ⟨i, _, _, hi, hold_con, one_mem ha hu, rfl⟩
  obtain ⟨s8, f1, f2, f3⟩ := h.putC hn (v := 1) hck (by decide)
  have f1 : setF (.ref ic) (.d (.tuple [.int i, .str ("hold" : Str), .str (("one." : Str) ++ a ++ ("." : Str) ++ u)])) (.d (.int 1)) st = some s8 := f1
  simp only [b__law_plain_book_1, addF, hf.1, hf.2.1, hf.2.2, fits3, f1, truF, wp_some, wp_none, wp_bind, wp_sFor, mOp, mUn, mC, mVar, mTest, mTru, mAnd, mOr, mNot, mAndV, mOrV, mNotV, mIf, mNil, mCons, mCall, mTup, mLstD, mLst, mChain, mPart, mSl, mMeth, mIsi, sSeq, sNil, sIf, sRet, sRetN, sAsg, sExpr, sPar, sPar3, gN, gT, gsCons, gsNil, gIx, bodyM, retM, List.getElem?_cons_zero, List.getElem?_cons_succ, List.set_cons_zero, List.set_cons_succ, List.map_cons, List.map_nil, List.length_cons, List.length_nil, List.replicate, List.cons_append, List.nil_append, Option.bind_some, Option.map_some, if_true, if_false, reduceIte, Bool.false_eq_true, tyN, datas, iiF, addI, Bool.not_true, Bool.not_false, Nat.zero_add, Nat.reduceAdd, Nat.reduceSub, reduceCtorEq]
  exact ⟨trivial, f2, f3⟩
theorem hold_loop {ns : List Int} {ip ic : Nat} {st : Store} (h : WW ns ip ic st) (hn : Ne ip ic) (x3 x4 x5 x6 x7 x8 : Option PM.D) :
    wp (sFor (mAny (mSl slF (mCall sortedF (mCons (mCall listAF (mCons (mVar 1) mNil)) mNil)) (mPart none) (mPart (some (mC (.int 2)))))) (gT (gsCons (gN 3) (gsCons (gN 4) (gsCons (gN 5) gsNil))) 3) b__law_plain_book_1 (envB ip ic x3 x4 x5 x6 x7 x8) st) fun f s => (∃ x3 x4 x5, f = .nx (envB ip ic x3 x4 x5 x6 x7 x8)) ∧ WW ns ip ic s := by
  obtain ⟨P, C, hP, hC, h3, h4⟩ := h.ex
  have e1 : listAF [.ref ip] st = some (.ref st.length, st ++ [.lst (P.map kD)]) := by
    show (match st[ip]? with
      | some (.dT _ k0) => some (PM.D.ref st.length, st ++ [Cell.lst (k0.map fun kv : List L2.Key × PM.D => PM.D.d (tupK kv.1))])
      | _ => listF [.ref ip] st) = _
    rw [h3]
    show some (PM.D.ref st.length, st ++ [Cell.lst ((kvs P).map fun kv : List L2.Key × PM.D => PM.D.d (tupK kv.1))]) = _
    unfold kvs
    rw [List.map_map]
    rfl
  have hs := sortB_keys hP.ok.pat hP.ok.good (by have := hP.ok.len; omega)
  have hd : datas (P.map kD) = some (P.map fun e => tupK e.1) := by
    have := datas_map (P.map fun e => tupK e.1)
    rw [List.map_map] at this
    exact this
  have w1 := h.pre (pre_app (t := [Cell.lst (P.map kD)]))
  have e2 : sortedF [.ref st.length] (st ++ [.lst (P.map kD)]) = some (.ref (st ++ [Cell.lst (P.map kD)]).length, st ++ [.lst (P.map kD)] ++ [.lst ((sortD (P.map fun e => tupK e.1)).map PM.D.d)]) := by
    unfold sortedF
    simp only [lstOf, last_get, lstC, Option.bind_some, hd, hs, if_true]
  generalize st ++ [Cell.lst (P.map kD)] = s1 at w1 e1 e2
  have w2 := w1.pre (pre_app (t := [Cell.lst ((sortD (P.map fun e => tupK e.1)).map PM.D.d)]))
  have e3 : slF (.ref s1.length) none (some 2) (s1 ++ [Cell.lst ((sortD (P.map fun e => tupK e.1)).map PM.D.d)]) = some (.ref (s1 ++ [Cell.lst ((sortD (P.map fun e => tupK e.1)).map PM.D.d)]).length, s1 ++ [Cell.lst ((sortD (P.map fun e => tupK e.1)).map PM.D.d)] ++ [.lst (PM.cutD ((sortD (P.map fun e => tupK e.1)).map PM.D.d) none (some 2))]) := by
    show (lstC (s1 ++ [Cell.lst ((sortD (P.map fun e => tupK e.1)).map PM.D.d)])[s1.length]?).map _ = _
    rw [last_get]
    rfl
  generalize s1 ++ [Cell.lst ((sortD (P.map fun e => tupK e.1)).map PM.D.d)] = s2 at w2 e2 e3
  have hx := far w2
  have w3 := w2.pre (pre_app (t := [Cell.lst (PM.cutD ((sortD (P.map fun e => tupK e.1)).map PM.D.d) none (some 2))]))
  have hg : (s2 ++ [Cell.lst (PM.cutD ((sortD (P.map fun e => tupK e.1)).map PM.D.d) none (some 2))])[s2.length]? = some (Cell.lst (PM.cutD ((sortD (P.map fun e => tupK e.1)).map PM.D.d) none (some 2))) := last_get
  rw [wp_sFor]
  simp only [mAny, e1, e2, e3, truF, wp_some, wp_none, wp_bind, wp_sFor, mOp, mUn, mC, mVar, mTest, mTru, mAnd, mOr, mNot, mAndV, mOrV, mNotV, mIf, mNil, mCons, mCall, mTup, mLstD, mLst, mChain, mPart, mSl, mMeth, mIsi, sSeq, sNil, sIf, sRet, sRetN, sAsg, sExpr, sPar, sPar3, gN, gT, gsCons, gsNil, gIx, bodyM, retM, List.getElem?_cons_zero, List.getElem?_cons_succ, List.set_cons_zero, List.set_cons_succ, List.map_cons, List.map_nil, List.length_cons, List.length_nil, List.replicate, List.cons_append, List.nil_append, Option.bind_some, Option.map_some, if_true, if_false, reduceIte, Bool.false_eq_true, tyN, datas, iiF, addI, Bool.not_true, Bool.not_false, Nat.zero_add, Nat.reduceAdd, Nat.reduceSub, reduceCtorEq]
  generalize s2 ++ [Cell.lst (PM.cutD ((sortD (P.map fun e => tupK e.1)).map PM.D.d) none (some 2))] = s3 at w3 hg ⊢
  simp only [hg, truF, wp_some, wp_none, wp_bind, wp_sFor, mOp, mUn, mC, mVar, mTest, mTru, mAnd, mOr, mNot, mAndV, mOrV, mNotV, mIf, mNil, mCons, mCall, mTup, mLstD, mLst, mChain, mPart, mSl, mMeth, mIsi, sSeq, sNil, sIf, sRet, sRetN, sAsg, sExpr, sPar, sPar3, gN, gT, gsCons, gsNil, gIx, bodyM, retM, List.getElem?_cons_zero, List.getElem?_cons_succ, List.set_cons_zero, List.set_cons_succ, List.map_cons, List.map_nil, List.length_cons, List.length_nil, List.replicate, List.cons_append, List.nil_append, Option.bind_some, Option.map_some, if_true, if_false, reduceIte, Bool.false_eq_true, tyN, datas, iiF, addI, Bool.not_true, Bool.not_false, Nat.zero_add, Nat.reduceAdd, Nat.reduceSub, reduceCtorEq]
  have k1 : GOk ip ic s3 (some (s2.length, Cell.lst (PM.cutD ((sortD (P.map fun e => tupK e.1)).map PM.D.d) none (some 2)))) := ⟨_, _, rfl, hg, hx⟩
  have q1 : ∀ y ∈ PM.cutD ((sortD (P.map fun e => tupK e.1)).map PM.D.d) none (some 2), ∃ a u i, a ∈ accL ∧ u ∈ unitL ∧ (0 ≤ i ∧ i ≤ 7) ∧ y = PM.D.d (.tuple [.str a, .str u, .int i]) := fun y hy => by
    obtain ⟨d, hd, rfl⟩ := List.mem_map.mp (cut_mem hy)
    have hd : d ∈ P.map fun e => tupK e.1 := (List.mergeSort_perm _ _).mem_iff.mp hd
    obtain ⟨e, he, rfl⟩ := List.mem_map.mp hd
    obtain ⟨a, u, i, ha, hu, hi, e1⟩ := (hP.key e he).1
    exact ⟨a, u, i, ha, hu, hi, by rw [e1]; rfl⟩
  refine wp_for (fun l env s => WW ns ip ic s ∧ Gr ip ic s3 s ∧ (∃ x3 x4 x5, env = envB ip ic x3 x4 x5 x6 x7 x8) ∧ ∀ y ∈ l, ∃ a u i, a ∈ accL ∧ u ∈ unitL ∧ (0 ≤ i ∧ i ≤ 7) ∧ y = PM.D.d (.tuple [.str a, .str u, .int i])) (fun env s ⟨h1, h2, ⟨x3, x4, x5, h3⟩, _⟩ => ?_) (fun y l env s ⟨h1, h2, ⟨x3, x4, x5, h3⟩, h4⟩ => ?_) _ _ _ ⟨w3, .refl, ⟨x3, x4, x5, rfl⟩, q1⟩
  · exact ⟨k1.keep h2, ⟨x3, x4, x5, by rw [h3]⟩, h1⟩
  · subst h3
    obtain ⟨a, u, i, ha, hu, hi, rfl⟩ := h4 y List.mem_cons_self
    refine ⟨k1.keep h2, ?_⟩
    simp only [truF, wp_some, wp_none, wp_bind, wp_sFor, mOp, mUn, mC, mVar, mTest, mTru, mAnd, mOr, mNot, mAndV, mOrV, mNotV, mIf, mNil, mCons, mCall, mTup, mLstD, mLst, mChain, mPart, mSl, mMeth, mIsi, sSeq, sNil, sIf, sRet, sRetN, sAsg, sExpr, sPar, sPar3, gN, gT, gsCons, gsNil, gIx, bodyM, retM, List.getElem?_cons_zero, List.getElem?_cons_succ, List.set_cons_zero, List.set_cons_succ, List.map_cons, List.map_nil, List.length_cons, List.length_nil, List.replicate, List.cons_append, List.nil_append, Option.bind_some, Option.map_some, if_true, if_false, reduceIte, Bool.false_eq_true, tyN, datas, iiF, addI, Bool.not_true, Bool.not_false, Nat.zero_add, Nat.reduceAdd, Nat.reduceSub, reduceCtorEq]
    refine wp_mono (hold_body h1 hn ha hu hi x6 x7 x8) fun f s' ⟨e1, e2, e3⟩ => ?_
    subst e1
    exact ⟨e2, h2.trans e3, ⟨_, _, _, rfl⟩, fun z hz => h4 z (List.mem_cons_of_mem _ hz)⟩
theorem cell_loop {ns : List Int} {ip ic : Nat} {st : Store} (h : WW ns ip ic st) (hn : Ne ip ic) (x3 x4 x5 x6 x7 x8 : Option PM.D) :
    wp (sFor (mRange (mCons (mCall f__law_next (mCons (mVar 0) (mCons (mC (.int 9)) mNil))) mNil)) (gN 6) b__law_plain_book_2 (envB ip ic x3 x4 x5 x6 x7 x8) st) fun f s => (∃ x5 x6 x7 x8, f = .nx (envB ip ic x3 x4 x5 x6 x7 x8)) ∧ WW ns ip ic s := by
  rw [wp_sFor]
  obtain ⟨⟨a, s1⟩, e0, v, e1, e2, w1, g1⟩ := next_W h hn (lim := 9) (by decide) (by decide)
  dsimp only at e1 w1
  subst e1
  have hv : small62 v = true := by
    have := small62_of (n := v.toNat) (by omega)
    rwa [show ((v.toNat : Nat) : Int) = v by omega] at this
  refine wp_of (mRange_at (j := v) (s := s1) (by simp only [e0, truF, wp_some, wp_none, wp_bind, wp_sFor, mOp, mUn, mC, mVar, mTest, mTru, mAnd, mOr, mNot, mAndV, mOrV, mNotV, mIf, mNil, mCons, mCall, mTup, mLstD, mLst, mChain, mPart, mSl, mMeth, mIsi, sSeq, sNil, sIf, sRet, sRetN, sAsg, sExpr, sPar, sPar3, gN, gT, gsCons, gsNil, gIx, bodyM, retM, List.getElem?_cons_zero, List.getElem?_cons_succ, List.set_cons_zero, List.set_cons_succ, List.map_cons, List.map_nil, List.length_cons, List.length_nil, List.replicate, List.cons_append, List.nil_append, Option.bind_some, Option.map_some, if_true, if_false, reduceIte, Bool.false_eq_true, tyN, datas, iiF, addI, Bool.not_true, Bool.not_false, Nat.zero_add, Nat.reduceAdd, Nat.reduceSub, reduceCtorEq]) hv) ?_
  refine wp_for (fun l env s => WW ns ip ic s ∧ ∃ x5 x6 x7 x8, env = envB ip ic x3 x4 x5 x6 x7 x8) (fun env s ⟨h1, x5, x6, x7, x8, h3⟩ => ⟨holds_none, ⟨x5, x6, x7, x8, by rw [h3]⟩, h1⟩) (fun y l env s ⟨h1, x5, x6, x7, x8, h3⟩ => ⟨holds_none, ?_⟩) _ _ _ ⟨w1, x5, x6, x7, x8, rfl⟩
  subst h3
  refine wp_some.mpr ?_
  refine wp_mono (cell_body h1 hn x3 x4 x5 (some y) x7 x8) fun f s' ⟨⟨y5, y7, y8, e1⟩, e2⟩ => ?_
  subst e1
  exact ⟨e2, _, _, _, _, rfl⟩
theorem ev_dispB {ip ic : Nat} {x3 x4 x5 x6 x7 x8 : Option PM.D} {st : Store} : ∃ t, mDisp (("parts", (mVar 1)) :: (("cells", (mVar 2)) :: [])) (envB ip ic x3 x4 x5 x6 x7 x8) st = some (.ref st.length, st ++ t) ∧ (st ++ t)[st.length]? = some (.dK false (wD (.ref ip) (.ref ic))) := by
  refine ⟨[.dK false (wD (.ref ip) (.ref ic))], ?_, last_get⟩
  unfold mDisp dispPs dispPs dispPs
  simp only [truF, wp_some, wp_none, wp_bind, wp_sFor, mOp, mUn, mC, mVar, mTest, mTru, mAnd, mOr, mNot, mAndV, mOrV, mNotV, mIf, mNil, mCons, mCall, mTup, mLstD, mLst, mChain, mPart, mSl, mMeth, mIsi, sSeq, sNil, sIf, sRet, sRetN, sAsg, sExpr, sPar, sPar3, gN, gT, gsCons, gsNil, gIx, bodyM, retM, List.getElem?_cons_zero, List.getElem?_cons_succ, List.set_cons_zero, List.set_cons_succ, List.map_cons, List.map_nil, List.length_cons, List.length_nil, List.replicate, List.cons_append, List.nil_append, Option.bind_some, Option.map_some, if_true, if_false, reduceIte, Bool.false_eq_true, tyN, datas, iiF, addI, Bool.not_true, Bool.not_false, Nat.zero_add, Nat.reduceAdd, Nat.reduceSub, reduceCtorEq]
  rw [if_pos ⟨last_get, by decide⟩]
  have : (st ++ [Cell.dK false []]).set st.length (.dK false (wD (.ref ip) (.ref ic))) = st ++ [.dK false (wD (.ref ip) (.ref ic))] := set_mid st [] _ _
  rw [← this]
  unfold wD
  congr 4
theorem ev_plain {ns : List Int} {st : Store} (h : Stt ns st) : wp (f__law_plain_book [.ref 1] st) fun a s => ∃ P C, PT P ∧ CT C ∧ a = .d (bookD P C) ∧ Stt ns s := by
  have hl : 1 < st.length := by
    obtain ⟨_, _, _, _, q⟩ := h.one
    exact (List.getElem?_eq_some_iff.mp q).1
  show wp (bodyM 1 9 s__law_plain_book [.ref 1] st) _
  rw [body_eq (n := 1) (xs := [.ref 1]) rfl]
  show wp ((s__law_plain_book [some (.ref 1), none, none, none, none, none, none, none, none] st).bind retM) _
  rw [wp_bind]
  unfold s__law_plain_book
  refine wp_seq ?_
  simp only [sPar, mCons, mNil, mNewT, wp_bind, wp_some]
  have hn : Ne st.length (st ++ [Cell.dT false []]).length := ⟨by omega, by rw [List.length_append, List.length_singleton]; omega, by rw [List.length_append, List.length_singleton]; omega⟩
  have w0 : WW ns st.length (st ++ [Cell.dT false []]).length (st ++ [Cell.dT false []] ++ [Cell.dT false []]) := by
    refine ⟨(h.pre pre_app).pre pre_app, [], [], PT.nil, CT.nil, ?_, last_get⟩
    rw [List.append_assoc]
    exact get_mid st _ _
  generalize st.length = ip at hn w0 ⊢
  generalize (st ++ [Cell.dT false []]).length = ic at hn w0 ⊢
  generalize st ++ [Cell.dT false []] ++ [Cell.dT false []] = s0 at w0 ⊢
  show wp (sSeq _ _ (envB ip ic none none none none none none) s0) _
  refine wp_seq (wp_mono (acc_loop w0 hn _ _ _ _ _ _) fun f s1 ⟨⟨x3, x4, x5, e⟩, w1⟩ => ?_)
  subst e
  dsimp only
  refine wp_seq (wp_mono (cell_loop w1 hn _ _ _ _ _ _) fun f s2 ⟨⟨x5, x6, x7, x8, e⟩, w2⟩ => ?_)
  subst e
  dsimp only
  refine wp_seq (wp_mono (hold_loop w2 hn _ _ _ _ _ _) fun f s3 ⟨⟨x3, x4, x5, e⟩, w3⟩ => ?_)
  subst e
  dsimp only
  obtain ⟨P, C, hP, hC, h3, h4⟩ := w3.ex
  obtain ⟨t2, d1, d2⟩ := ev_dispB (ip := ip) (ic := ic) (x3 := x3) (x4 := x4) (x5 := x5) (x6 := x6) (x7 := x7) (x8 := x8) (st := s3)
  obtain ⟨t3, d3⟩ := ev_law_book hP.ok hC.ok d2 (pre_get pre_app h3) (pre_get pre_app h4)
  simp only [d1, d3, truF, wp_some, wp_none, wp_bind, wp_sFor, mOp, mUn, mC, mVar, mTest, mTru, mAnd, mOr, mNot, mAndV, mOrV, mNotV, mIf, mNil, mCons, mCall, mTup, mLstD, mLst, mChain, mPart, mSl, mMeth, mIsi, sSeq, sNil, sIf, sRet, sRetN, sAsg, sExpr, sPar, sPar3, gN, gT, gsCons, gsNil, gIx, bodyM, retM, List.getElem?_cons_zero, List.getElem?_cons_succ, List.set_cons_zero, List.set_cons_succ, List.map_cons, List.map_nil, List.length_cons, List.length_nil, List.replicate, List.cons_append, List.nil_append, Option.bind_some, Option.map_some, if_true, if_false, reduceIte, Bool.false_eq_true, tyN, datas, iiF, addI, Bool.not_true, Bool.not_false, Nat.zero_add, Nat.reduceAdd, Nat.reduceSub, reduceCtorEq]
  exact ⟨P, C, hP, hC, rfl, (w3.s0.pre pre_app).pre pre_app⟩
end K34

set_option Elab.async false
set_option linter.all false
set_option maxRecDepth 100000
set_option autoImplicit false
namespace K34
open PySem PySem.Spec PyProof.Rows L2 PM
open Classical

theorem wp_seqK {S R : PM.Env → M Fl} {env : PM.Env} {st : Store} {Q : Fl → Store → Prop} {K : PM.Env → Store → Prop} (h1 : wp (S env st) fun f s => ∃ e, f = .nx e ∧ K e s) (h2 : ∀ e s, K e s → wp (R e s) Q) : wp (sSeq S R env st) Q :=
  wp_seq (wp_mono h1 fun f s ⟨e, q, k⟩ => by subst q; exact h2 e s k)
structure WP (ns : List Int) (ip ic : Nat) (P C : List Ent) (st : Store) : Prop where
  s0 : Stt ns st
  hp : st[ip]? = some (.dT false (kvs P))
  hc : st[ic]? = some (.dT false (kvs C))
section
variable {ns : List Int} {ip ic : Nat} {P C : List Ent} {st : Store}
theorem WP.pre {b : Store} (h : WP ns ip ic P C st) (p : st <+: b) : WP ns ip ic P C b := ⟨h.s0.pre p, pre_get p h.hp, pre_get p h.hc⟩
theorem next_P {lim : Int} (h : WP ns ip ic P C st) (hn : Ne ip ic) (h1 : 0 < lim) (h2 : lim < 1073741824) :
    wp (f__law_next [.ref 1, .d (.int lim)] st) fun a s => ∃ v, a = .d (.int v) ∧ (0 ≤ v ∧ v < lim) ∧ WP ns ip ic P C s ∧ Fr st s :=
  wp_mono (ev_next h.s0 h1 h2) fun a s ⟨v, e1, e2, e3, e4, e5⟩ => ⟨v, e1, ⟨e2, e3⟩, ⟨e4, (e5.get ip hn.a).trans h.hp, (e5.get ic hn.b).trans h.hc⟩, e5⟩
theorem pick_P (h : WP ns ip ic P C st) (hn : Ne ip ic) {L : List Str} {As : PM.Env → M (List PM.D)} {env : PM.Env} {lim : Int} (hl : L.length ≤ 900) (hA : As env st = some (L.map (fun z => PM.D.d (.str z)), st)) (h0 : env[1]? = some (some (.ref 1))) (h1 : 0 < lim) (h2 : lim < 1073741824) (h3 : lim = L.length) :
    wp (mOp getF (mLst As) (mCall f__law_next (mCons (mVar 1) (mCons (mC (.int lim)) mNil))) env st) fun a s => (∃ z ∈ L, a = .d (.str z)) ∧ WP ns ip ic P C s := by
  have hf : fits L.length = true := smallB (by omega)
  simp only [hA, List.length_map, hf, h0, truF, wp_some, wp_none, wp_bind, wp_sFor, mOp, mUn, mC, mVar, mTest, mTru, mAnd, mOr, mNot, mAndV, mOrV, mNotV, mIf, mNil, mCons, mCall, mTup, mLstD, mLst, mChain, mPart, mSl, mMeth, mIsi, sSeq, sNil, sIf, sRet, sRetN, sAsg, sExpr, sPar, sPar3, gN, gT, gsCons, gsNil, gIx, bodyM, retM, List.getElem?_cons_zero, List.getElem?_cons_succ, List.set_cons_zero, List.set_cons_succ, List.map_cons, List.map_nil, List.length_cons, List.length_nil, List.replicate, List.cons_append, List.nil_append, Option.bind_some, Option.map_some, if_true, if_false, reduceIte, Bool.false_eq_true, tyN, datas, iiF, addI, Bool.not_true, Bool.not_false, Nat.zero_add, Nat.reduceAdd, Nat.reduceSub, reduceCtorEq]
  have w1 := h.pre (pre_app (t := [Cell.lst (L.map fun z => PM.D.d (.str z))]))
  have hg : (st ++ [Cell.lst (L.map fun z => PM.D.d (.str z))])[st.length]? = some (Cell.lst (L.map fun z => PM.D.d (.str z))) := last_get
  have hx : st.length ≠ 1 := by
    obtain ⟨_, _, _, _, q⟩ := h.s0.one
    have := (List.getElem?_eq_some_iff.mp q).1
    omega
  generalize st ++ [Cell.lst (L.map fun z => PM.D.d (.str z))] = s1 at w1 hg ⊢
  refine wp_mono (next_P w1 hn h1 h2) fun c s2 ⟨v, e1, e2, w2, g2⟩ => ?_
  subst e1
  have hg2 := (g2.get _ hx).trans hg
  have hv : v.toNat < L.length := by omega
  refine wp_of (ev_lget (i := v.toNat) (x := .d (.str L[v.toNat])) hg2 (by omega) (by rw [List.getElem?_map, List.getElem?_eq_getElem hv]; rfl)) ⟨⟨_, List.getElem_mem hv, rfl⟩, w2⟩
theorem WP.putP (h : WP ns ip ic P C st) (hn : Ne ip ic) (hP : PT P) {k : List L2.Key} {v : Int} : ∃ s, setF (.ref ip) (.d (.tuple (k.map keyD))) (.d (.int v)) st = some s ∧ WP ns ip ic (putI P k v) C s := by
  have hl : ip < st.length := (List.getElem?_eq_some_iff.mp h.hp).1
  exact ⟨_, ev_dset h.hp hP.ok.len, h.s0.set (dT_ne h.s0 h.hp), List.getElem?_set_self hl, by rw [List.getElem?_set_ne hn.c]; exact h.hc⟩
theorem WP.putC (h : WP ns ip ic P C st) (hn : Ne ip ic) (hC : CT C) {k : List L2.Key} {v : Int} : ∃ s, setF (.ref ic) (.d (.tuple (k.map keyD))) (.d (.int v)) st = some s ∧ WP ns ip ic P (putI C k v) s := by
  have hl : ic < st.length := (List.getElem?_eq_some_iff.mp h.hc).1
  exact ⟨_, ev_dset h.hc hC.ok.len, h.s0.set (dT_ne h.s0 h.hc), by rw [List.getElem?_set_ne hn.c.symm]; exact h.hp, List.getElem?_set_self hl⟩
theorem ev_get2 {n i j : Nat} {T : List Ent} {k : List L2.Key} {env : PM.Env} (h : st[n]? = some (.dT false (kvs T))) (h1 : env[i]? = some (some (.ref n))) (h2 : env[j]? = some (some (.d (.tuple (k.map keyD))))) : mGet2 (mVar i) (mVar j) (mC (.int 0)) env st = some (.d (.int (getI T k)), st) := by
  unfold mGet2 mVar mC
  rw [h1]
  simp only [Option.bind_some]
  rw [dict_T h, if_pos rfl, h2]
  simp only [Option.bind_some]
  show ((lookC st[n]? (.tuple (k.map keyD))).map fun o => (o.getD (PM.D.d (.int 0)), st)) = _
  rw [h]
  show (((keysA (k.map keyD)).map fun k => look (kvs T) k).map fun o => (o.getD (PM.D.d (.int 0)), st)) = _
  rw [keysA_map, Option.map_some, Option.map_some, look_get]
end
abbrev envL (x0 x2 : Option PM.D) (b : PyData) (ip ic : Nat) (x6 x7 x8 x9 x10 x11 x12 x13 : Option PM.D) : PM.Env := [x0, some (.ref 1), x2, some (.d b), some (.ref ip), some (.ref ic), x6, x7, x8, x9, x10, x11, x12, x13]
def acc3 : List Str := ["till", "kate", "zed"]
def unit2 : List Str := ["gold", "gem"]
def con2 : List Str := ["pay", "hold"]
def key2 : List Str := ["k", "one.till.gold"]
theorem acc3_sub : ∀ a ∈ acc3, a ∈ accL := by decide +kernel
theorem unit2_sub : ∀ a ∈ unit2, a ∈ unitL := by decide +kernel
theorem con2_sub : ∀ a ∈ con2, a ∈ conL := by decide +kernel
theorem key2_sub : ∀ a ∈ key2, a ∈ keyL := by decide +kernel
structure LI (ns : List Int) (ip ic : Nat) (x0 x2 : Option PM.D) (env : PM.Env) (s : Store) : Prop where
  ex : ∃ P C x6 x7 x8 x9 x10 x11 x12 x13, env = envL x0 x2 (bookD P C) ip ic x6 x7 x8 x9 x10 x11 x12 x13 ∧ PT P ∧ CT C ∧ WP ns ip ic P C s
set_option maxHeartbeats 4000000 in
theorem law_body {ns : List Int} {ip ic : Nat} {x0 x2 : Option PM.D} {env : PM.Env} {st : Store} (hn : Ne ip ic) (h : LI ns ip ic x0 x2 env st) : wp (b_law_1 env st) fun f s => ∃ e, f = .nx e ∧ LI ns ip ic x0 x2 e s := by
  obtain ⟨P, C, x6, x7, x8, x9, x10, x11, x12, x13, rfl, hP, hC, hw⟩ := h.ex
  unfold b_law_1
  -- key
  refine wp_seqK (K := fun e s => ∃ a u i, a ∈ accL ∧ u ∈ unitL ∧ (0 ≤ i ∧ i ≤ 7) ∧ e = envL x0 x2 (bookD P C) ip ic x6 (some (.d (.tuple [.str a, .str u, .int i]))) x8 x9 x10 x11 x12 x13 ∧ WP ns ip ic P C s) ?_ fun e s ⟨a, u, i, ha, hu, hi, he, hw⟩ => ?_
  · simp only [sAsg, mTup, mCons, mNil, wp_bind, wp_some]
    refine wp_mono (pick_P hw hn (L := acc3) (by decide) rfl rfl (by decide) (by decide) (by decide)) fun c s1 ⟨⟨a, ha, e1⟩, w1⟩ => ?_
    subst e1
    refine wp_mono (pick_P w1 hn (L := unit2) (by decide) rfl rfl (by decide) (by decide) (by decide)) fun c s2 ⟨⟨u, hu, e1⟩, w2⟩ => ?_
    subst e1
    have q := next_P w2 hn (lim := 4) (by decide) (by decide)
    refine wp_mono (show wp ((mCall f__law_next (mCons (mVar 1) (mCons (mC (.int 4)) mNil))) (envL x0 x2 (bookD P C) ip ic x6 x7 x8 x9 x10 x11 x12 x13) s2) _ from q) fun c s3 ⟨v, e1, e2, w3, _⟩ => ?_
    subst e1
    simp only [fits3, truF, wp_some, wp_none, wp_bind, wp_sFor, mOp, mUn, mC, mVar, mTest, mTru, mAnd, mOr, mNot, mAndV, mOrV, mNotV, mIf, mNil, mCons, mCall, mTup, mLstD, mLst, mChain, mPart, mSl, mMeth, mIsi, sSeq, sNil, sIf, sRet, sRetN, sAsg, sExpr, sPar, sPar3, gN, gT, gsCons, gsNil, gIx, bodyM, retM, List.getElem?_cons_zero, List.getElem?_cons_succ, List.set_cons_zero, List.set_cons_succ, List.map_cons, List.map_nil, List.length_cons, List.length_nil, List.replicate, List.cons_append, List.nil_append, Option.bind_some, Option.map_some, if_true, if_false, reduceIte, Bool.false_eq_true, tyN, datas, iiF, addI, Bool.not_true, Bool.not_false, Nat.zero_add, Nat.reduceAdd, Nat.reduceSub, reduceCtorEq]
    exact ⟨_, rfl, a, u, v, acc3_sub a ha, unit2_sub u hu, ⟨by omega, by omega⟩, rfl, w3⟩
  subst he
  have hk : PKey (kP a u i) := ⟨a, u, i, ha, hu, hi, rfl⟩
  have hkt : PyData.tuple [.str a, .str u, .int i] = .tuple ((kP a u i).map keyD) := rfl
  -- number
  refine wp_seqK (K := fun e s => ∃ n : Int, e = envL x0 x2 (bookD P C) ip ic x6 (some (.d (.tuple [.str a, .str u, .int i]))) (some (.d (.int n))) x9 x10 x11 x12 x13 ∧ WP ns ip ic P C s) ?_ fun e s ⟨n, he, hw⟩ => ?_
  · simp only [truF, wp_some, wp_none, wp_bind, wp_sFor, mOp, mUn, mC, mVar, mTest, mTru, mAnd, mOr, mNot, mAndV, mOrV, mNotV, mIf, mNil, mCons, mCall, mTup, mLstD, mLst, mChain, mPart, mSl, mMeth, mIsi, sSeq, sNil, sIf, sRet, sRetN, sAsg, sExpr, sPar, sPar3, gN, gT, gsCons, gsNil, gIx, bodyM, retM, List.getElem?_cons_zero, List.getElem?_cons_succ, List.set_cons_zero, List.set_cons_succ, List.map_cons, List.map_nil, List.length_cons, List.length_nil, List.replicate, List.cons_append, List.nil_append, Option.bind_some, Option.map_some, if_true, if_false, reduceIte, Bool.false_eq_true, tyN, datas, iiF, addI, Bool.not_true, Bool.not_false, Nat.zero_add, Nat.reduceAdd, Nat.reduceSub, reduceCtorEq]
    refine wp_mono (next_P hw hn (by decide) (by decide)) fun c s3 ⟨v, e1, e2, w3, _⟩ => ?_
    subst e1
    simp only [subF, truF, wp_some, wp_none, wp_bind, wp_sFor, mOp, mUn, mC, mVar, mTest, mTru, mAnd, mOr, mNot, mAndV, mOrV, mNotV, mIf, mNil, mCons, mCall, mTup, mLstD, mLst, mChain, mPart, mSl, mMeth, mIsi, sSeq, sNil, sIf, sRet, sRetN, sAsg, sExpr, sPar, sPar3, gN, gT, gsCons, gsNil, gIx, bodyM, retM, List.getElem?_cons_zero, List.getElem?_cons_succ, List.set_cons_zero, List.set_cons_succ, List.map_cons, List.map_nil, List.length_cons, List.length_nil, List.replicate, List.cons_append, List.nil_append, Option.bind_some, Option.map_some, if_true, if_false, reduceIte, Bool.false_eq_true, tyN, datas, iiF, addI, Bool.not_true, Bool.not_false, Nat.zero_add, Nat.reduceAdd, Nat.reduceSub, reduceCtorEq]
    exact ⟨_, rfl, _, rfl, w3⟩
  subst he
  have i0 : ∀ st : Store, getF (.d (.tuple [.str a, .str u, .int i])) (.d (.int 0)) st = some (.d (.str a), st) := fun st => ev_ix (i := 0) rfl rfl
  have i1 : ∀ st : Store, getF (.d (.tuple [.str a, .str u, .int i])) (.d (.int 1)) st = some (.d (.str u), st) := fun st => ev_ix (i := 1) rfl rfl
  have i2 : ∀ st : Store, getF (.d (.tuple [.str a, .str u, .int i])) (.d (.int 2)) st = some (.d (.int i), st) := fun st => ev_ix (i := 2) rfl rfl
  -- later
  refine wp_seqK (K := fun e s => e = envL x0 x2 (bookD P C) ip ic x6 (some (.d (.tuple [.str a, .str u, .int i]))) (some (.d (.int n))) (some (if getI P (kP a u i) + n < 0 then .d .none else .d (bookD (putI P (kP a u i) (getI P (kP a u i) + n)) C))) x10 x11 x12 x13 ∧ WP ns ip ic P C s) ?_ fun e s ⟨he, hw⟩ => ?_
  · simp only [i0, i1, i2, truF, wp_some, wp_none, wp_bind, wp_sFor, mOp, mUn, mC, mVar, mTest, mTru, mAnd, mOr, mNot, mAndV, mOrV, mNotV, mIf, mNil, mCons, mCall, mTup, mLstD, mLst, mChain, mPart, mSl, mMeth, mIsi, sSeq, sNil, sIf, sRet, sRetN, sAsg, sExpr, sPar, sPar3, gN, gT, gsCons, gsNil, gIx, bodyM, retM, List.getElem?_cons_zero, List.getElem?_cons_succ, List.set_cons_zero, List.set_cons_succ, List.map_cons, List.map_nil, List.length_cons, List.length_nil, List.replicate, List.cons_append, List.nil_append, Option.bind_some, Option.map_some, if_true, if_false, reduceIte, Bool.false_eq_true, tyN, datas, iiF, addI, Bool.not_true, Bool.not_false, Nat.zero_add, Nat.reduceAdd, Nat.reduceSub, reduceCtorEq]
    refine wp_mono (ev_moved hP.ok hk.good.1) fun c s3 ⟨w3, e1⟩ => ?_
    subst e1
    exact ⟨_, rfl, rfl, hw.pre w3⟩
  subst he
  -- the check of later and of part_of
  refine wp_skipK (K := fun s => WP ns ip ic P C s) ?_ fun s hw => ?_
  · have e1 := ev_get2 (i := 4) (j := 7) (k := kP a u i) (env := envL x0 x2 (bookD P C) ip ic x6 (some (.d (.tuple [.str a, .str u, .int i]))) (some (.d (.int n))) (some (if getI P (kP a u i) + n < 0 then .d .none else .d (bookD (putI P (kP a u i) (getI P (kP a u i) + n)) C))) x10 x11 x12 x13) hw.hp rfl rfl
    have e2 := fun st => ev_part_of (P := P) (C := C) hP.ok (st := st) hk.good.1
    have e3 : ∀ s', f__law_same 6 [.d (.int (getI P (kP a u i))), .d (.int (getI P (kP a u i)))] s' = some (.d (.bool true), s') := fun s' => same_int s'
    by_cases q : getI P (kP a u i) + n < 0
    · simp only [if_pos q] at e1 ⊢
      have e4 : ∀ st, isF false (.d .none) (.d .none) st = some (.d (.bool true), st) := fun _ => rfl
      have e5 := fun st => ev_ne (x := .bool true) (y := .bool true) (st := st) (sh_bool _) (sh_bool _)
      simp only [e1, e4, addF, ltF, q, decide_true, e5, PyData.eqv, beq_self_eq_true, i0, i1, i2, e2, e3, truF, wp_some, wp_none, wp_bind, wp_sFor, mOp, mUn, mC, mVar, mTest, mTru, mAnd, mOr, mNot, mAndV, mOrV, mNotV, mIf, mNil, mCons, mCall, mTup, mLstD, mLst, mChain, mPart, mSl, mMeth, mIsi, sSeq, sNil, sIf, sRet, sRetN, sAsg, sExpr, sPar, sPar3, gN, gT, gsCons, gsNil, gIx, bodyM, retM, List.getElem?_cons_zero, List.getElem?_cons_succ, List.set_cons_zero, List.set_cons_succ, List.map_cons, List.map_nil, List.length_cons, List.length_nil, List.replicate, List.cons_append, List.nil_append, Option.bind_some, Option.map_some, if_true, if_false, reduceIte, Bool.false_eq_true, tyN, datas, iiF, addI, Bool.not_true, Bool.not_false, Nat.zero_add, Nat.reduceAdd, Nat.reduceSub, reduceCtorEq]
      exact ⟨trivial, hw⟩
    · simp only [if_neg q] at e1 ⊢
      have e4 : ∀ st, isF false (.d (bookD (putI P (kP a u i) (getI P (kP a u i) + n)) C)) (.d .none) st = some (.d (.bool false), st) := fun _ => rfl
      have e5 := fun st => ev_ne (x := .bool false) (y := .bool false) (st := st) (sh_bool _) (sh_bool _)
      simp only [e1, e4, addF, ltF, q, decide_false, e5, PyData.eqv, beq_self_eq_true, i0, i1, i2, e2, e3, truF, wp_some, wp_none, wp_bind, wp_sFor, mOp, mUn, mC, mVar, mTest, mTru, mAnd, mOr, mNot, mAndV, mOrV, mNotV, mIf, mNil, mCons, mCall, mTup, mLstD, mLst, mChain, mPart, mSl, mMeth, mIsi, sSeq, sNil, sIf, sRet, sRetN, sAsg, sExpr, sPar, sPar3, gN, gT, gsCons, gsNil, gIx, bodyM, retM, List.getElem?_cons_zero, List.getElem?_cons_succ, List.set_cons_zero, List.set_cons_succ, List.map_cons, List.map_nil, List.length_cons, List.length_nil, List.replicate, List.cons_append, List.nil_append, Option.bind_some, Option.map_some, if_true, if_false, reduceIte, Bool.false_eq_true, tyN, datas, iiF, addI, Bool.not_true, Bool.not_false, Nat.zero_add, Nat.reduceAdd, Nat.reduceSub, reduceCtorEq]
      exact ⟨trivial, hw⟩
  -- the move, where it is one
  refine wp_seqK (K := fun e s => ∃ P' y9, e = envL x0 x2 (bookD P' C) ip ic x6 (some (.d (.tuple [.str a, .str u, .int i]))) (some (.d (.int n))) y9 x10 x11 x12 x13 ∧ PT P' ∧ WP ns ip ic P' C s) ?_ fun e s ⟨P', y9, he, hP', hw⟩ => ?_
  · have e1 := ev_get2 (i := 4) (j := 7) (k := kP a u i) (env := envL x0 x2 (bookD P C) ip ic x6 (some (.d (.tuple [.str a, .str u, .int i]))) (some (.d (.int n))) (some (if getI P (kP a u i) + n < 0 then .d .none else .d (bookD (putI P (kP a u i) (getI P (kP a u i) + n)) C))) x10 x11 x12 x13) hw.hp rfl rfl
    by_cases q : getI P (kP a u i) + n < 0
    · simp only [if_pos q] at e1 ⊢
      have e4 : ∀ st, isF true (.d .none) (.d .none) st = some (.d (.bool false), st) := fun _ => rfl
      simp only [e4, truF, wp_some, wp_none, wp_bind, wp_sFor, mOp, mUn, mC, mVar, mTest, mTru, mAnd, mOr, mNot, mAndV, mOrV, mNotV, mIf, mNil, mCons, mCall, mTup, mLstD, mLst, mChain, mPart, mSl, mMeth, mIsi, sSeq, sNil, sIf, sRet, sRetN, sAsg, sExpr, sPar, sPar3, gN, gT, gsCons, gsNil, gIx, bodyM, retM, List.getElem?_cons_zero, List.getElem?_cons_succ, List.set_cons_zero, List.set_cons_succ, List.map_cons, List.map_nil, List.length_cons, List.length_nil, List.replicate, List.cons_append, List.nil_append, Option.bind_some, Option.map_some, if_true, if_false, reduceIte, Bool.false_eq_true, tyN, datas, iiF, addI, Bool.not_true, Bool.not_false, Nat.zero_add, Nat.reduceAdd, Nat.reduceSub, reduceCtorEq]
      exact ⟨_, rfl, P, _, rfl, hP, hw⟩
    · simp only [if_neg q] at e1 ⊢
      have e4 : ∀ st, isF true (.d (bookD (putI P (kP a u i) (getI P (kP a u i) + n)) C)) (.d .none) st = some (.d (.bool true), st) := fun _ => rfl
      obtain ⟨s', f1, f2⟩ := hw.putP hn hP (k := kP a u i) (v := getI P (kP a u i) + n)
      have f1 : setF (.ref ip) (.d (.tuple [.str a, .str u, .int i])) (.d (.int (getI P (kP a u i) + n))) s = some s' := f1
      simp only [e1, e4, addF, fits2, f1, truF, wp_some, wp_none, wp_bind, wp_sFor, mOp, mUn, mC, mVar, mTest, mTru, mAnd, mOr, mNot, mAndV, mOrV, mNotV, mIf, mNil, mCons, mCall, mTup, mLstD, mLst, mChain, mPart, mSl, mMeth, mIsi, sSeq, sNil, sIf, sRet, sRetN, sAsg, sExpr, sPar, sPar3, gN, gT, gsCons, gsNil, gIx, bodyM, retM, List.getElem?_cons_zero, List.getElem?_cons_succ, List.set_cons_zero, List.set_cons_succ, List.map_cons, List.map_nil, List.length_cons, List.length_nil, List.replicate, List.cons_append, List.nil_append, Option.bind_some, Option.map_some, if_true, if_false, reduceIte, Bool.false_eq_true, tyN, datas, iiF, addI, Bool.not_true, Bool.not_false, Nat.zero_add, Nat.reduceAdd, Nat.reduceSub, reduceCtorEq]
      exact ⟨_, rfl, _, _, rfl, hP.put hk (by omega), f2⟩
  subst he
  -- cell
  refine wp_seqK (K := fun e s => ∃ h c z, (0 ≤ h ∧ h ≤ 7) ∧ c ∈ conL ∧ z ∈ keyL ∧ e = envL x0 x2 (bookD P' C) ip ic x6 (some (.d (.tuple [.str a, .str u, .int i]))) (some (.d (.int n))) y9 (some (.d (.tuple [.int h, .str c, .str z]))) x11 x12 x13 ∧ WP ns ip ic P' C s) ?_ fun e s ⟨h, c, z, hh, hc, hz, he, hw⟩ => ?_
  · simp only [sAsg, mTup, mCons, mNil, wp_bind, wp_some]
    have q := next_P hw hn (lim := 3) (by decide) (by decide)
    refine wp_mono (show wp ((mCall f__law_next (mCons (mVar 1) (mCons (mC (.int 3)) mNil))) (envL x0 x2 (bookD P' C) ip ic x6 (some (.d (.tuple [.str a, .str u, .int i]))) (some (.d (.int n))) y9 x10 x11 x12 x13) s) _ from q) fun c s3 ⟨v, e1, e2, w3, _⟩ => ?_
    subst e1
    refine wp_mono (pick_P w3 hn (L := con2) (by decide) rfl rfl (by decide) (by decide) (by decide)) fun c s1 ⟨⟨cc, hc, e1⟩, w1⟩ => ?_
    subst e1
    refine wp_mono (pick_P w1 hn (L := key2) (by decide) rfl rfl (by decide) (by decide) (by decide)) fun c s2 ⟨⟨kk, hk, e1⟩, w2⟩ => ?_
    subst e1
    simp only [fits3, truF, wp_some, wp_none, wp_bind, wp_sFor, mOp, mUn, mC, mVar, mTest, mTru, mAnd, mOr, mNot, mAndV, mOrV, mNotV, mIf, mNil, mCons, mCall, mTup, mLstD, mLst, mChain, mPart, mSl, mMeth, mIsi, sSeq, sNil, sIf, sRet, sRetN, sAsg, sExpr, sPar, sPar3, gN, gT, gsCons, gsNil, gIx, bodyM, retM, List.getElem?_cons_zero, List.getElem?_cons_succ, List.set_cons_zero, List.set_cons_succ, List.map_cons, List.map_nil, List.length_cons, List.length_nil, List.replicate, List.cons_append, List.nil_append, Option.bind_some, Option.map_some, if_true, if_false, reduceIte, Bool.false_eq_true, tyN, datas, iiF, addI, Bool.not_true, Bool.not_false, Nat.zero_add, Nat.reduceAdd, Nat.reduceSub, reduceCtorEq]
    exact ⟨_, rfl, v, cc, kk, ⟨by omega, by omega⟩, con2_sub cc hc, key2_sub kk hk, rfl, w2⟩
  subst he
  have hck : CKey (kC h c z) := ⟨h, c, z, hh, hc, hz, rfl⟩
  have j0 : ∀ st : Store, getF (.d (.tuple [.int h, .str c, .str z])) (.d (.int 0)) st = some (.d (.int h), st) := fun st => ev_ix (i := 0) rfl rfl
  have j1 : ∀ st : Store, getF (.d (.tuple [.int h, .str c, .str z])) (.d (.int 1)) st = some (.d (.str c), st) := fun st => ev_ix (i := 1) rfl rfl
  have j2 : ∀ st : Store, getF (.d (.tuple [.int h, .str c, .str z])) (.d (.int 2)) st = some (.d (.str z), st) := fun st => ev_ix (i := 2) rfl rfl
  -- number
  refine wp_seqK (K := fun e s => ∃ m : Int, (-2 ≤ m ∧ m ≤ 2) ∧ e = envL x0 x2 (bookD P' C) ip ic x6 (some (.d (.tuple [.str a, .str u, .int i]))) (some (.d (.int m))) y9 (some (.d (.tuple [.int h, .str c, .str z]))) x11 x12 x13 ∧ WP ns ip ic P' C s) ?_ fun e s ⟨m, hm, he, hw⟩ => ?_
  · simp only [truF, wp_some, wp_none, wp_bind, wp_sFor, mOp, mUn, mC, mVar, mTest, mTru, mAnd, mOr, mNot, mAndV, mOrV, mNotV, mIf, mNil, mCons, mCall, mTup, mLstD, mLst, mChain, mPart, mSl, mMeth, mIsi, sSeq, sNil, sIf, sRet, sRetN, sAsg, sExpr, sPar, sPar3, gN, gT, gsCons, gsNil, gIx, bodyM, retM, List.getElem?_cons_zero, List.getElem?_cons_succ, List.set_cons_zero, List.set_cons_succ, List.map_cons, List.map_nil, List.length_cons, List.length_nil, List.replicate, List.cons_append, List.nil_append, Option.bind_some, Option.map_some, if_true, if_false, reduceIte, Bool.false_eq_true, tyN, datas, iiF, addI, Bool.not_true, Bool.not_false, Nat.zero_add, Nat.reduceAdd, Nat.reduceSub, reduceCtorEq]
    refine wp_mono (next_P hw hn (by decide) (by decide)) fun c s3 ⟨v, e1, e2, w3, _⟩ => ?_
    subst e1
    simp only [subF, truF, wp_some, wp_none, wp_bind, wp_sFor, mOp, mUn, mC, mVar, mTest, mTru, mAnd, mOr, mNot, mAndV, mOrV, mNotV, mIf, mNil, mCons, mCall, mTup, mLstD, mLst, mChain, mPart, mSl, mMeth, mIsi, sSeq, sNil, sIf, sRet, sRetN, sAsg, sExpr, sPar, sPar3, gN, gT, gsCons, gsNil, gIx, bodyM, retM, List.getElem?_cons_zero, List.getElem?_cons_succ, List.set_cons_zero, List.set_cons_succ, List.map_cons, List.map_nil, List.length_cons, List.length_nil, List.replicate, List.cons_append, List.nil_append, Option.bind_some, Option.map_some, if_true, if_false, reduceIte, Bool.false_eq_true, tyN, datas, iiF, addI, Bool.not_true, Bool.not_false, Nat.zero_add, Nat.reduceAdd, Nat.reduceSub, reduceCtorEq]
    exact ⟨_, rfl, _, ⟨by omega, by omega⟩, rfl, w3⟩
  subst he
  -- the check of cell_of
  refine wp_skipK (K := fun s => WP ns ip ic P' C s) ?_ fun s hw => ?_
  · have e1 := ev_get2 (i := 5) (j := 10) (k := kC h c z) (env := envL x0 x2 (bookD P' C) ip ic x6 (some (.d (.tuple [.str a, .str u, .int i]))) (some (.d (.int m))) y9 (some (.d (.tuple [.int h, .str c, .str z]))) x11 x12 x13) hw.hc rfl rfl
    have e2 := fun st => ev_cell_of (P := P') (C := C) hC.ok (st := st) hck.good.1
    have e3 : ∀ s', f__law_same 6 [.d (.int (getI C (kC h c z))), .d (.int (getI C (kC h c z)))] s' = some (.d (.bool true), s') := fun s' => same_int s'
    simp only [e1, j0, j1, j2, e2, e3, truF, wp_some, wp_none, wp_bind, wp_sFor, mOp, mUn, mC, mVar, mTest, mTru, mAnd, mOr, mNot, mAndV, mOrV, mNotV, mIf, mNil, mCons, mCall, mTup, mLstD, mLst, mChain, mPart, mSl, mMeth, mIsi, sSeq, sNil, sIf, sRet, sRetN, sAsg, sExpr, sPar, sPar3, gN, gT, gsCons, gsNil, gIx, bodyM, retM, List.getElem?_cons_zero, List.getElem?_cons_succ, List.set_cons_zero, List.set_cons_succ, List.map_cons, List.map_nil, List.length_cons, List.length_nil, List.replicate, List.cons_append, List.nil_append, Option.bind_some, Option.map_some, if_true, if_false, reduceIte, Bool.false_eq_true, tyN, datas, iiF, addI, Bool.not_true, Bool.not_false, Nat.zero_add, Nat.reduceAdd, Nat.reduceSub, reduceCtorEq]
    exact ⟨trivial, hw⟩
  -- the store
  refine wp_seqK (K := fun e s => e = envL x0 x2 (bookD P' (putI C (kC h c z) m)) ip ic x6 (some (.d (.tuple [.str a, .str u, .int i]))) (some (.d (.int m))) y9 (some (.d (.tuple [.int h, .str c, .str z]))) x11 x12 x13 ∧ WP ns ip ic P' (putI C (kC h c z) m) s) ?_ fun e s ⟨he, hw⟩ => ?_
  · simp only [j0, j1, j2, truF, wp_some, wp_none, wp_bind, wp_sFor, mOp, mUn, mC, mVar, mTest, mTru, mAnd, mOr, mNot, mAndV, mOrV, mNotV, mIf, mNil, mCons, mCall, mTup, mLstD, mLst, mChain, mPart, mSl, mMeth, mIsi, sSeq, sNil, sIf, sRet, sRetN, sAsg, sExpr, sPar, sPar3, gN, gT, gsCons, gsNil, gIx, bodyM, retM, List.getElem?_cons_zero, List.getElem?_cons_succ, List.set_cons_zero, List.set_cons_succ, List.map_cons, List.map_nil, List.length_cons, List.length_nil, List.replicate, List.cons_append, List.nil_append, Option.bind_some, Option.map_some, if_true, if_false, reduceIte, Bool.false_eq_true, tyN, datas, iiF, addI, Bool.not_true, Bool.not_false, Nat.zero_add, Nat.reduceAdd, Nat.reduceSub, reduceCtorEq]
    refine wp_mono (ev_with (P := P') hC.ok (n := m) hck.good.1) fun x s3 ⟨w3, e1⟩ => ?_
    subst e1
    obtain ⟨s', f1, f2⟩ := (hw.pre w3).putC hn hC (k := kC h c z) (v := m)
    have f1 : setF (.ref ic) (.d (.tuple [.int h, .str c, .str z])) (.d (.int m)) s3 = some s' := f1
    simp only [fits2, f1, truF, wp_some, wp_none, wp_bind, wp_sFor, mOp, mUn, mC, mVar, mTest, mTru, mAnd, mOr, mNot, mAndV, mOrV, mNotV, mIf, mNil, mCons, mCall, mTup, mLstD, mLst, mChain, mPart, mSl, mMeth, mIsi, sSeq, sNil, sIf, sRet, sRetN, sAsg, sExpr, sPar, sPar3, gN, gT, gsCons, gsNil, gIx, bodyM, retM, List.getElem?_cons_zero, List.getElem?_cons_succ, List.set_cons_zero, List.set_cons_succ, List.map_cons, List.map_nil, List.length_cons, List.length_nil, List.replicate, List.cons_append, List.nil_append, Option.bind_some, Option.map_some, if_true, if_false, reduceIte, Bool.false_eq_true, tyN, datas, iiF, addI, Bool.not_true, Bool.not_false, Nat.zero_add, Nat.reduceAdd, Nat.reduceSub, reduceCtorEq]
    exact ⟨_, rfl, rfl, f2⟩
  subst he
  have hC' : CT (putI C (kC h c z) m) := hC.put hck (by omega)
  obtain ⟨t, e9⟩ := ev_tells hP' hC' hw.hp hw.hc
  simp only [e9, truF, wp_some, wp_none, wp_bind, wp_sFor, mOp, mUn, mC, mVar, mTest, mTru, mAnd, mOr, mNot, mAndV, mOrV, mNotV, mIf, mNil, mCons, mCall, mTup, mLstD, mLst, mChain, mPart, mSl, mMeth, mIsi, sSeq, sNil, sIf, sRet, sRetN, sAsg, sExpr, sPar, sPar3, gN, gT, gsCons, gsNil, gIx, bodyM, retM, List.getElem?_cons_zero, List.getElem?_cons_succ, List.set_cons_zero, List.set_cons_succ, List.map_cons, List.map_nil, List.length_cons, List.length_nil, List.replicate, List.cons_append, List.nil_append, Option.bind_some, Option.map_some, if_true, if_false, reduceIte, Bool.false_eq_true, tyN, datas, iiF, addI, Bool.not_true, Bool.not_false, Nat.zero_add, Nat.reduceAdd, Nat.reduceSub, reduceCtorEq]
  exact ⟨_, rfl, P', _, _, _, _, _, _, _, _, _, rfl, hP', hC', hw.pre pre_app⟩
end K34

set_option Elab.async false
set_option linter.all false
set_option maxRecDepth 100000
set_option autoImplicit false
namespace K34
open PySem PySem.Spec PyProof.Rows L2 PM
open Classical

/-! ### the dicts out of a book -/
theorem putI_app {L : List Ent} {e : Ent} (h : ∀ x ∈ L, x.1 ≠ e.1) : putI L e.1 e.2 = L ++ [e] := by
  unfold putI
  rw [if_neg]
  intro z
  obtain ⟨x, hx, q⟩ := List.any_eq_true.mp z
  exact h x hx (of_decide_eq_true q)
theorem putAll_kvs : ∀ (M L : List Ent), ((L ++ M).map (·.1)).Nodup → putAll (kvs L) (kvs M) = kvs (L ++ M)
  | [], L, _ => by rw [List.append_nil]; rfl
  | e :: M, L, nd => by
    show putAll (putD (kvs L) e.1 (.d (.int e.2))) (kvs M) = _
    have hn : ∀ x ∈ L, x.1 ≠ e.1 := fun x hx z => by
      rw [List.map_append, List.nodup_append] at nd
      exact nd.2.2 x.1 (List.mem_map.mpr ⟨x, hx, rfl⟩) e.1 (List.mem_map.mpr ⟨e, List.mem_cons_self, rfl⟩) z
    rw [kvs_put, putI_app hn, putAll_kvs M (L ++ [e]) (by rw [List.append_assoc]; exact nd), List.append_assoc]
    rfl
theorem pairsOf_kvs : ∀ L : List Ent, pairsOf (L.map fun e => .tuple [tupK e.1, .int e.2]) = some (kvs L)
  | [] => rfl
  | e :: L => by
    show (keysA (e.1.map keyD)).bind (fun k => (pairsOf (L.map fun e => .tuple [tupK e.1, .int e.2])).map ((k, PM.D.d (.int e.2)) :: ·)) = _
    rw [keysA_map, pairsOf_kvs L]
    rfl
theorem ev_dict {L : List Ent} {n : Nat} {st : Store} (h : st[n]? = some (.lst (L.map fun e => PM.D.d (.tuple [tupK e.1, .int e.2])))) (nd : (L.map (·.1)).Nodup) (hl : L.length ≤ 900) : dictF [.ref n] st = some (.ref st.length, st ++ [.dT false (kvs L)]) := by
  have hd : datas (L.map fun e => PM.D.d (.tuple [tupK e.1, .int e.2])) = some (L.map fun e => .tuple [tupK e.1, .int e.2]) := by
    have := datas_map (L.map fun e => PyData.tuple [tupK e.1, .int e.2])
    rw [List.map_map] at this
    exact this
  have hf : fits (L.map fun e => PyData.tuple [tupK e.1, .int e.2]).length = true := smallB (by rw [List.length_map]; omega)
  unfold dictF
  simp only [lstOf, h, lstC, Option.bind_some, hd, pairsOf_kvs, hf, if_true]
  have := putAll_kvs L [] (by simpa using nd)
  rw [List.nil_append] at this
  rw [show putAll [] (kvs L) = kvs L from this]
theorem csort_nd {kd : List Bool} {T : List Ent} (ok : TOk kd T) : canon (csort T) = canon T := by
  have h1 : live (csort T) = csort T := List.filter_eq_self.mpr fun e he => ((csort_sub ok).1 e he).2
  have h3 : ∀ e ∈ T, e.1.length = 3 := fun e he => goodKey_len (ok.good e he)
  rw [← canon_of (csort_perm T) h3]
  rw [← canon_of (T := csort T) (L := csort T) (by rw [h1]) fun e he => h3 e ((csort_sub ok).1 e he).1]
theorem PT.sort {P : List Ent} (h : PT P) : PT (csort P) := ⟨(csort_sub h.ok).2.1, fun e he => h.key e ((csort_sub h.ok).1 e he).1⟩
theorem CT.sort {C : List Ent} (h : CT C) : CT (csort C) := ⟨(csort_sub h.ok).2.1, fun e he => h.key e ((csort_sub h.ok).1 e he).1⟩
theorem dict_lc {kd : List Bool} {T : List Ent} (ok : TOk kd T) {I : PM.Env → M (List PM.D × Gd)} {env : PM.Env} {st : Store} {v : Nat} {A : PM.Env → M PM.D} {Q : PM.D → Store → Prop} (hI : I env st = some (((canon T).map PM.D.d, none), st))
    (hA : ∀ e ∈ csort T, ∀ s, A ((wipeE env [v]).set v (some (dEnt e))) s = some (.d (.tuple [tupK e.1, .int e.2]), s)) (k : ∀ t, Q (.ref (st ++ t).length) (st ++ t ++ [.dT false (kvs (csort T))])) :
    wp (mLc [v] I (gN v) mYes A env st) fun a s => wp (dictF [a] s) Q := by
  obtain ⟨c1, c2, c3⟩ := csort_sub ok
  refine wp_map dEnt (fun e => PM.D.d (.tuple [tupK e.1, .int e.2])) (csort T) (g := none) (s0 := st) ?_ holds_none (small _ (by omega)) (fun s hs e he => ?_) fun t => ?_
  · rw [hI]
    unfold canon
    rw [dmap_ent]
  · refine wp_some.mpr (wp_some.mpr ?_)
    rw [if_pos rfl]
    exact wp_of (hA e he s) ⟨List.prefix_refl _, rfl⟩
  · exact wp_of (ev_dict (get_mid st t _) c2 (by omega)) (k _)
/-! ### what is no book, what is one -/
def part0 : PyData := .tuple [.str ("till" : Str), .str ("gold" : Str), .int 0, .int 5]
def cell0 : PyData := .tuple [.int 0, .str ("pay" : Str), .str ("k" : Str), .int 5]
def bkD (ps cs : List PyData) : PyData := .tuple [.str ("book" : Str), .tuple ps, .tuple cs]
def wrong1 : List PyData := [.none, .tuple [], .list [.str ("book" : Str), .tuple [], .tuple []], .tuple [.str ("book" : Str), .tuple []], .tuple [.str ("book" : Str), .list [], .tuple []], bkD [part0, part0] [], bkD [] [cell0, cell0], bkD [.tuple [.str ("till" : Str), .str ("gold" : Str), .int 0, .int 0]] []]
def wrong2 : List PyData := [bkD [.tuple [.str ("till" : Str), .str ("gold" : Str), .int 0, .int (-1)]] [], bkD [.tuple [.str ("Till" : Str), .str ("gold" : Str), .int 0, .int 5]] [], bkD [.tuple [.str ("till" : Str), .str ("gold" : Str), .int 8, .int 5]] [], bkD [.tuple [.str ("till" : Str), .str ("gold" : Str), .int 0, .bool true]] []]
def wrong3 : List PyData := [bkD [] [.tuple [.int 0, .str ("pay" : Str), .str ("k" : Str), .int 0]], bkD [] [.tuple [.int 0, .str ("pay" : Str), .str ("k." : Str), .int 5]], bkD [] [.tuple [.int 0, .str ("pay" : Str), .str ("k" : Str), .int (10 ^ 12 + 1)]], bkD [] [.tuple [.int 8, .str ("pay" : Str), .str ("k" : Str), .int 5]]]
def wrong4 : List PyData := [bkD [part0, .tuple [.str ("kate" : Str), .str ("gold" : Str), .int 0, .int 5]] []]
def right1 : List PyData := [bkD [part0] [cell0], bkD [.tuple [.str ("till" : Str), .str ("gold" : Str), .int 0, .int (10 ^ 20)]] [.tuple [.int 0, .str ("pay" : Str), .str ("k" : Str), .int (-1)]], bkD [] []]
theorem wrong_ok : ∀ x ∈ wrong1 ++ wrong2 ++ wrong3 ++ wrong4, (good x && !isBook x) = true := by decide +kernel
theorem right_ok : ∀ x ∈ right1, (good x && isBook x) = true := by decide +kernel
end K34

set_option Elab.async false
set_option linter.all false
set_option maxRecDepth 100000
set_option autoImplicit false
namespace K34
open PySem PySem.Spec PyProof.Rows L2 PM
open Classical

structure TI (ns : List Int) (x0 : Option PM.D) (env : PM.Env) (s : Store) : Prop where
  s0 : Stt ns s
  ex : ∃ x2 x3 x4 x5 x6 x7 x8 x9 x10 x11 x12 x13, env = [x0, some (.ref 1), x2, x3, x4, x5, x6, x7, x8, x9, x10, x11, x12, x13]
theorem ev_pow12 {st : Store} : powF (.d (.int 10)) (.d (.int 12)) st = some (.d (.int (10 ^ 12)), st) := by
  unfold powF iiF
  dsimp only
  rw [if_pos (show CPow 10 12 from ⟨by decide, by decide, by decide⟩)]
  rfl
theorem ev_pow20 {st : Store} : powF (.d (.int 10)) (.d (.int 20)) st = some (.d (.int (10 ^ 20)), st) := by
  unfold powF iiF
  dsimp only
  rw [if_pos (show CPow 10 20 from ⟨by decide, by decide, by decide⟩)]
  rfl
theorem p3 {st : Store} : slF (.d part0) none (some 3) st = some (.d (.tuple [.str ("till" : Str), .str ("gold" : Str), .int 0]), st) := rfl
theorem p2 {st : Store} : slF (.d part0) none (some 2) st = some (.d (.tuple [.str ("till" : Str), .str ("gold" : Str)]), st) := rfl
theorem p1 {st : Store} : slF (.d part0) (some 1) none st = some (.d (.tuple [.str ("gold" : Str), .int 0, .int 5]), st) := rfl
theorem c3 {st : Store} : slF (.d cell0) none (some 3) st = some (.d (.tuple [.int 0, .str ("pay" : Str), .str ("k" : Str)]), st) := rfl
theorem c2 {st : Store} : slF (.d cell0) none (some 2) st = some (.d (.tuple [.int 0, .str ("pay" : Str)]), st) := rfl
theorem c1 {st : Store} : slF (.d cell0) (some 1) none st = some (.d (.tuple [.str ("pay" : Str), .str ("k" : Str), .int 5]), st) := rfl
theorem f0 : fits 0 = true := smallB (by decide)
theorem f4 : fits 4 = true := smallB (by decide)
theorem f8 : fits 8 = true := smallB (by decide)
theorem f12 : fits 12 = true := smallB (by decide)
theorem f16 : fits 16 = true := smallB (by decide)
theorem f17 : fits 17 = true := smallB (by decide)
theorem ev_cat {n m : Nat} {xs ys : List PM.D} {st : Store} (h1 : st[n]? = some (.lst xs)) (h2 : st[m]? = some (.lst ys)) (hf : fits (xs.length + ys.length) = true) : addF (.ref n) (.ref m) st = some (.ref st.length, st ++ [.lst (xs ++ ys)]) := by
  unfold addF
  simp only [h1, h2, hf, if_true]
theorem ev_tcat {xs ys : List PyData} {st : Store} (hf : fits (xs.length + ys.length) = true) : addF (.d (.tuple xs)) (.d (.tuple ys)) st = some (.d (.tuple (xs ++ ys)), st) := by
  unfold addF
  simp only [hf, if_true]
def envW (x0 x2 x3 x4 x5 x6 x7 x8 x9 x12 x13 : Option PM.D) : PM.Env := [x0, some (.ref 1), x2, x3, x4, x5, x6, x7, x8, x9, some (.d cell0), some (.d part0), x12, x13]
/-- where no thing is left over -/
theorem none_left {I : PM.Env → M (List PM.D × Gd)} {c : Bool} {env : PM.Env} {st s1 : Store} {xs : List PyData} {g : Gd} (hI : I env st = some ((xs.map PM.D.d, g), s1)) (hg : holds g s1) (hl : xs.length ≤ 900) (hx : ∀ x ∈ xs, good x = true ∧ isBook x = c) (he : ∃ a0 a1 a2 a3 a4 a5 a6 a7 a8 a9 a10 a11 a12 a13, env = [a0, a1, a2, a3, a4, a5, a6, a7, a8, a9, a10, a11, a12, a13]) {Q : Bool → Store → Prop} (k : ∀ t, Q false (s1 ++ t)) :
    wp (mTest (mOp neF (mLc [13] I (gN 13) (mTest (mOp (isF true) (mCall f_is_book (mCons (mVar 13) mNil)) (mC (.bool c)))) (mVar 13)) (mLst mNil)) env st) Q := by
  obtain ⟨a0, a1, a2, a3, a4, a5, a6, a7, a8, a9, a10, a11, a12, a13, rfl⟩ := he
  simp only [mTest, mOp, wp_bind]
  refine wp_filter (fun x : PyData => PM.D.d x) (fun _ => false) (fun x => PM.D.d x) xs (g := g) (s0 := s1) hI hg (small _ (by omega)) (fun s hs x hxx => ?_) fun t => ?_
  · obtain ⟨h1, h2⟩ := hx x hxx
    obtain ⟨t1, e1⟩ := ev_book0 (x := x) (st := s) h1
    rw [h2] at e1
    have e2 : ∀ st, isF true (.d (.bool c)) (.d (.bool c)) st = some (.d (.bool false), st) := fun st => by
      cases c <;> rfl
    simp only [wipeE, e1, e2, truF, wp_some, wp_none, wp_bind, wp_sFor, mOp, mUn, mC, mVar, mTest, mTru, mAnd, mOr, mNot, mAndV, mOrV, mNotV, mIf, mNil, mCons, mCall, mTup, mLstD, mLst, mChain, mPart, mSl, mMeth, mIsi, sSeq, sNil, sIf, sRet, sRetN, sAsg, sExpr, sPar, sPar3, gN, gT, gsCons, gsNil, gIx, bodyM, retM, List.getElem?_cons_zero, List.getElem?_cons_succ, List.set_cons_zero, List.set_cons_succ, List.map_cons, List.map_nil, List.length_cons, List.length_nil, List.replicate, List.cons_append, List.nil_append, Option.bind_some, Option.map_some, if_true, if_false, reduceIte, Bool.false_eq_true, tyN, datas, iiF, addI, Bool.not_true, Bool.not_false, Nat.zero_add, Nat.reduceAdd, Nat.reduceSub, reduceCtorEq]
    exact ⟨trivial, pre_app⟩
  · have e3 : xs.filter (fun _ => false) = [] := List.filter_eq_nil_iff.mpr fun _ _ => Bool.false_ne_true
    rw [e3]
    simp only [f0, truF, wp_some, wp_none, wp_bind, wp_sFor, mOp, mUn, mC, mVar, mTest, mTru, mAnd, mOr, mNot, mAndV, mOrV, mNotV, mIf, mNil, mCons, mCall, mTup, mLstD, mLst, mChain, mPart, mSl, mMeth, mIsi, sSeq, sNil, sIf, sRet, sRetN, sAsg, sExpr, sPar, sPar3, gN, gT, gsCons, gsNil, gIx, bodyM, retM, List.getElem?_cons_zero, List.getElem?_cons_succ, List.set_cons_zero, List.set_cons_succ, List.map_cons, List.map_nil, List.length_cons, List.length_nil, List.replicate, List.cons_append, List.nil_append, Option.bind_some, Option.map_some, if_true, if_false, reduceIte, Bool.false_eq_true, tyN, datas, iiF, addI, Bool.not_true, Bool.not_false, Nat.zero_add, Nat.reduceAdd, Nat.reduceSub, reduceCtorEq]
    have hg1 : (s1 ++ Cell.lst [] :: t ++ [Cell.lst []])[s1.length]? = some (.lst []) := pre_get pre_app (get_mid s1 t _)
    have hg2 : (s1 ++ Cell.lst [] :: t ++ [Cell.lst []])[(s1 ++ Cell.lst [] :: t).length]? = some (.lst []) := last_get
    have sh : SeqAt.shaped (.list []) = true := by rfl
    have e4 : neF (.ref s1.length) (.ref (s1 ++ Cell.lst [] :: t).length) (s1 ++ Cell.lst [] :: t ++ [Cell.lst []]) = some (.d (.bool false), s1 ++ Cell.lst [] :: t ++ [Cell.lst []]) := by
      unfold neF
      simp only [pyOf, hg1, hg2, lstC, Option.bind_some, datas, Option.map_some, sh, and_self, if_true]
      rfl
    simp only [e4, truF, wp_some, wp_none, wp_bind, wp_sFor, mOp, mUn, mC, mVar, mTest, mTru, mAnd, mOr, mNot, mAndV, mOrV, mNotV, mIf, mNil, mCons, mCall, mTup, mLstD, mLst, mChain, mPart, mSl, mMeth, mIsi, sSeq, sNil, sIf, sRet, sRetN, sAsg, sExpr, sPar, sPar3, gN, gT, gsCons, gsNil, gIx, bodyM, retM, List.getElem?_cons_zero, List.getElem?_cons_succ, List.set_cons_zero, List.set_cons_succ, List.map_cons, List.map_nil, List.length_cons, List.length_nil, List.replicate, List.cons_append, List.nil_append, Option.bind_some, Option.map_some, if_true, if_false, reduceIte, Bool.false_eq_true, tyN, datas, iiF, addI, Bool.not_true, Bool.not_false, Nat.zero_add, Nat.reduceAdd, Nat.reduceSub, reduceCtorEq]
    rw [List.append_assoc]
    exact k _
set_option maxHeartbeats 4000000 in
theorem law_turn {ns : List Int} {x0 : Option PM.D} {env : PM.Env} {st : Store} (h : TI ns x0 env st) : wp (b_law_2 env st) fun f s => ∃ e, f = .nx e ∧ TI ns x0 e s := by
  obtain ⟨x2, x3, x4, x5, x6, x7, x8, x9, x10, x11, x12, x13, rfl⟩ := h.ex
  unfold b_law_2
  -- the book
  refine wp_seqK (K := fun e s => ∃ P C, PT P ∧ CT C ∧ e = [x0, some (.ref 1), x2, some (.d (bookD P C)), x4, x5, x6, x7, x8, x9, x10, x11, x12, x13] ∧ Stt ns s) ?_ fun e s ⟨P, C, hP, hC, he, hs⟩ => ?_
  · simp only [truF, wp_some, wp_none, wp_bind, wp_sFor, mOp, mUn, mC, mVar, mTest, mTru, mAnd, mOr, mNot, mAndV, mOrV, mNotV, mIf, mNil, mCons, mCall, mTup, mLstD, mLst, mChain, mPart, mSl, mMeth, mIsi, sSeq, sNil, sIf, sRet, sRetN, sAsg, sExpr, sPar, sPar3, gN, gT, gsCons, gsNil, gIx, bodyM, retM, List.getElem?_cons_zero, List.getElem?_cons_succ, List.set_cons_zero, List.set_cons_succ, List.map_cons, List.map_nil, List.length_cons, List.length_nil, List.replicate, List.cons_append, List.nil_append, Option.bind_some, Option.map_some, if_true, if_false, reduceIte, Bool.false_eq_true, tyN, datas, iiF, addI, Bool.not_true, Bool.not_false, Nat.zero_add, Nat.reduceAdd, Nat.reduceSub, reduceCtorEq]
    refine wp_mono (ev_plain h.s0) fun a s ⟨P, C, hP, hC, e1, hs⟩ => ?_
    subst e1
    exact ⟨_, rfl, P, C, hP, hC, rfl, hs⟩
  subst he
  -- parts, cells
  refine wp_seqK (K := fun e s => ∃ ip ic, Ne ip ic ∧ LI ns ip ic x0 x2 e s) ?_ fun e s ⟨ip, ic, hn, hL⟩ => ?_
  · have hl : 1 < s.length := by
      obtain ⟨_, _, _, _, q⟩ := hs.one
      exact (List.getElem?_eq_some_iff.mp q).1
    simp only [sPar, mCall, mCons, mNil, wp_bind, wp_some]
    refine dict_lc hP.ok (by simp only [mAny, bk1, truF, wp_some, wp_none, wp_bind, wp_sFor, mOp, mUn, mC, mVar, mTest, mTru, mAnd, mOr, mNot, mAndV, mOrV, mNotV, mIf, mNil, mCons, mCall, mTup, mLstD, mLst, mChain, mPart, mSl, mMeth, mIsi, sSeq, sNil, sIf, sRet, sRetN, sAsg, sExpr, sPar, sPar3, gN, gT, gsCons, gsNil, gIx, bodyM, retM, List.getElem?_cons_zero, List.getElem?_cons_succ, List.set_cons_zero, List.set_cons_succ, List.map_cons, List.map_nil, List.length_cons, List.length_nil, List.replicate, List.cons_append, List.nil_append, Option.bind_some, Option.map_some, if_true, if_false, reduceIte, Bool.false_eq_true, tyN, datas, iiF, addI, Bool.not_true, Bool.not_false, Nat.zero_add, Nat.reduceAdd, Nat.reduceSub, reduceCtorEq]) (fun e he s' => ?_) fun t1 => ?_
    · have hl := goodKey_len (hP.ok.good e ((csort_sub hP.ok).1 e he).1)
      have e1 := fun st => ev_e3 (e := e) (st := st) hl
      have e2 := fun st => ev_en (e := e) (st := st) hl
      simp only [wipeE, dEnt, e1, e2, fits2, tupK, truF, wp_some, wp_none, wp_bind, wp_sFor, mOp, mUn, mC, mVar, mTest, mTru, mAnd, mOr, mNot, mAndV, mOrV, mNotV, mIf, mNil, mCons, mCall, mTup, mLstD, mLst, mChain, mPart, mSl, mMeth, mIsi, sSeq, sNil, sIf, sRet, sRetN, sAsg, sExpr, sPar, sPar3, gN, gT, gsCons, gsNil, gIx, bodyM, retM, List.getElem?_cons_zero, List.getElem?_cons_succ, List.set_cons_zero, List.set_cons_succ, List.map_cons, List.map_nil, List.length_cons, List.length_nil, List.replicate, List.cons_append, List.nil_append, Option.bind_some, Option.map_some, if_true, if_false, reduceIte, Bool.false_eq_true, tyN, datas, iiF, addI, Bool.not_true, Bool.not_false, Nat.zero_add, Nat.reduceAdd, Nat.reduceSub, reduceCtorEq]
    · have p1 : s <+: s ++ t1 ++ [Cell.dT false (kvs (csort P))] := by rw [List.append_assoc]; exact pre_app
      have hg1 : (s ++ t1 ++ [Cell.dT false (kvs (csort P))])[(s ++ t1).length]? = some (.dT false (kvs (csort P))) := last_get
      have hl1 : s.length ≤ (s ++ t1).length := by rw [List.length_append]; exact Nat.le_add_right _ _
      have hl2 : (s ++ t1).length < (s ++ t1 ++ [Cell.dT false (kvs (csort P))]).length := by rw [List.length_append (as := s ++ t1), List.length_singleton]; exact Nat.lt_succ_self _
      generalize s ++ t1 ++ [Cell.dT false (kvs (csort P))] = s1 at p1 hg1 hl2 ⊢
      generalize (s ++ t1).length = ip at hg1 hl1 hl2 ⊢
      refine dict_lc hC.ok (by simp only [mAny, bk2, truF, wp_some, wp_none, wp_bind, wp_sFor, mOp, mUn, mC, mVar, mTest, mTru, mAnd, mOr, mNot, mAndV, mOrV, mNotV, mIf, mNil, mCons, mCall, mTup, mLstD, mLst, mChain, mPart, mSl, mMeth, mIsi, sSeq, sNil, sIf, sRet, sRetN, sAsg, sExpr, sPar, sPar3, gN, gT, gsCons, gsNil, gIx, bodyM, retM, List.getElem?_cons_zero, List.getElem?_cons_succ, List.set_cons_zero, List.set_cons_succ, List.map_cons, List.map_nil, List.length_cons, List.length_nil, List.replicate, List.cons_append, List.nil_append, Option.bind_some, Option.map_some, if_true, if_false, reduceIte, Bool.false_eq_true, tyN, datas, iiF, addI, Bool.not_true, Bool.not_false, Nat.zero_add, Nat.reduceAdd, Nat.reduceSub, reduceCtorEq]) (fun e he s' => ?_) fun t2 => ?_
      · have hl := goodKey_len (hC.ok.good e ((csort_sub hC.ok).1 e he).1)
        have e1 := fun st => ev_e3 (e := e) (st := st) hl
        have e2 := fun st => ev_en (e := e) (st := st) hl
        simp only [wipeE, dEnt, e1, e2, fits2, tupK, truF, wp_some, wp_none, wp_bind, wp_sFor, mOp, mUn, mC, mVar, mTest, mTru, mAnd, mOr, mNot, mAndV, mOrV, mNotV, mIf, mNil, mCons, mCall, mTup, mLstD, mLst, mChain, mPart, mSl, mMeth, mIsi, sSeq, sNil, sIf, sRet, sRetN, sAsg, sExpr, sPar, sPar3, gN, gT, gsCons, gsNil, gIx, bodyM, retM, List.getElem?_cons_zero, List.getElem?_cons_succ, List.set_cons_zero, List.set_cons_succ, List.map_cons, List.map_nil, List.length_cons, List.length_nil, List.replicate, List.cons_append, List.nil_append, Option.bind_some, Option.map_some, if_true, if_false, reduceIte, Bool.false_eq_true, tyN, datas, iiF, addI, Bool.not_true, Bool.not_false, Nat.zero_add, Nat.reduceAdd, Nat.reduceSub, reduceCtorEq]
      · have p2 : s1 <+: s1 ++ t2 ++ [Cell.dT false (kvs (csort C))] := by rw [List.append_assoc]; exact pre_app
        have hg2 : (s1 ++ t2 ++ [Cell.dT false (kvs (csort C))])[(s1 ++ t2).length]? = some (.dT false (kvs (csort C))) := last_get
        have hl3 : s1.length ≤ (s1 ++ t2).length := by rw [List.length_append]; exact Nat.le_add_right _ _
        have eb : bookD P C = bookD (csort P) (csort C) := by
          unfold bookD
          rw [csort_nd hP.ok, csort_nd hC.ok]
        refine ⟨_, rfl, ip, (s1 ++ t2).length, ⟨by omega, by omega, by omega⟩, csort P, csort C, x6, x7, x8, x9, x10, x11, x12, x13, ?_, hP.sort, hC.sort, (hs.pre p1).pre p2, pre_get p2 hg1, hg2⟩
        rw [eb]
        rfl
  -- the check
  obtain ⟨P, C, y6, y7, y8, y9, y10, y11, y12, y13, rfl, hP, hC, hw⟩ := hL.ex
  refine wp_skipK (K := fun s => WP ns ip ic P C s) ?_ fun s hw => ?_
  · obtain ⟨t, e9⟩ := ev_tells hP hC hw.hp hw.hc
    simp only [e9, truF, wp_some, wp_none, wp_bind, wp_sFor, mOp, mUn, mC, mVar, mTest, mTru, mAnd, mOr, mNot, mAndV, mOrV, mNotV, mIf, mNil, mCons, mCall, mTup, mLstD, mLst, mChain, mPart, mSl, mMeth, mIsi, sSeq, sNil, sIf, sRet, sRetN, sAsg, sExpr, sPar, sPar3, gN, gT, gsCons, gsNil, gIx, bodyM, retM, List.getElem?_cons_zero, List.getElem?_cons_succ, List.set_cons_zero, List.set_cons_succ, List.map_cons, List.map_nil, List.length_cons, List.length_nil, List.replicate, List.cons_append, List.nil_append, Option.bind_some, Option.map_some, if_true, if_false, reduceIte, Bool.false_eq_true, tyN, datas, iiF, addI, Bool.not_true, Bool.not_false, Nat.zero_add, Nat.reduceAdd, Nat.reduceSub, reduceCtorEq]
    exact ⟨trivial, hw.pre pre_app⟩
  -- twelve turns
  refine wp_seqK (K := fun e s => LI ns ip ic x0 x2 e s) ?_ fun e s hL => ?_
  · rw [wp_sFor]
    refine wp_of (mRange_at (j := ((12 : Nat) : Int)) (s := s) rfl (small62_of (by decide))) ?_
    refine wp_for (fun l env s => LI ns ip ic x0 x2 env s) (fun env s h => ⟨holds_none, _, rfl, h⟩) (fun y l env s h => ⟨holds_none, ?_⟩) _ _ _ ⟨P, C, _, _, _, _, _, _, _, _, rfl, hP, hC, hw⟩
    obtain ⟨P, C, y6, y7, y8, y9, y10, y11, y12, y13, rfl, hP, hC, hw⟩ := h.ex
    refine wp_some.mpr ?_
    refine wp_mono (law_body hn ⟨P, C, some y, y7, y8, y9, y10, y11, y12, y13, rfl, hP, hC, hw⟩) fun f s' ⟨e, q, r⟩ => ?_
    subst q
    exact r
  obtain ⟨P, C, y6, y7, y8, y9, y10, y11, y12, y13, rfl, hP, hC, hw⟩ := hL.ex
  have hs := hw.s0
  -- part, cell
  refine wp_seqK (K := fun e s' => e = envW x0 x2 (some (.d (bookD P C))) (some (.ref ip)) (some (.ref ic)) y6 y7 y8 y9 y12 y13 ∧ Stt ns s') ?_ fun e s ⟨he, hs⟩ => ?_
  · simp only [f4, fits2, truF, wp_some, wp_none, wp_bind, wp_sFor, mOp, mUn, mC, mVar, mTest, mTru, mAnd, mOr, mNot, mAndV, mOrV, mNotV, mIf, mNil, mCons, mCall, mTup, mLstD, mLst, mChain, mPart, mSl, mMeth, mIsi, sSeq, sNil, sIf, sRet, sRetN, sAsg, sExpr, sPar, sPar3, gN, gT, gsCons, gsNil, gIx, bodyM, retM, List.getElem?_cons_zero, List.getElem?_cons_succ, List.set_cons_zero, List.set_cons_succ, List.map_cons, List.map_nil, List.length_cons, List.length_nil, List.replicate, List.cons_append, List.nil_append, Option.bind_some, Option.map_some, if_true, if_false, reduceIte, Bool.false_eq_true, tyN, datas, iiF, addI, Bool.not_true, Bool.not_false, Nat.zero_add, Nat.reduceAdd, Nat.reduceSub, reduceCtorEq]
    exact ⟨_, rfl, rfl, hs⟩
  subst he
  -- wrong
  refine wp_seqK (K := fun e s' => ∃ n, e = envW x0 x2 (some (.d (bookD P C))) (some (.ref ip)) (some (.ref ic)) y6 y7 y8 y9 (some (.ref n)) y13 ∧ s'[n]? = some (.lst (wrong1.map PM.D.d)) ∧ s <+: s') ?_ fun e s1 ⟨n1, he, hg1, q1⟩ => ?_
  · simp only [envW, p3, addF, f0, fits1, fits2, fits3, f4, f8, truF, wp_some, wp_none, wp_bind, wp_sFor, mOp, mUn, mC, mVar, mTest, mTru, mAnd, mOr, mNot, mAndV, mOrV, mNotV, mIf, mNil, mCons, mCall, mTup, mLstD, mLst, mChain, mPart, mSl, mMeth, mIsi, sSeq, sNil, sIf, sRet, sRetN, sAsg, sExpr, sPar, sPar3, gN, gT, gsCons, gsNil, gIx, bodyM, retM, List.getElem?_cons_zero, List.getElem?_cons_succ, List.set_cons_zero, List.set_cons_succ, List.map_cons, List.map_nil, List.length_cons, List.length_nil, List.replicate, List.cons_append, List.nil_append, Option.bind_some, Option.map_some, if_true, if_false, reduceIte, Bool.false_eq_true, tyN, datas, iiF, addI, Bool.not_true, Bool.not_false, Nat.zero_add, Nat.reduceAdd, Nat.reduceSub, reduceCtorEq]
    exact ⟨_, rfl, _, rfl, last_get, pre_app⟩
  subst he
  refine wp_seqK (K := fun e s' => ∃ n, e = envW x0 x2 (some (.d (bookD P C))) (some (.ref ip)) (some (.ref ic)) y6 y7 y8 y9 (some (.ref n)) y13 ∧ s'[n]? = some (.lst ((wrong1 ++ wrong2).map PM.D.d)) ∧ s <+: s') ?_ fun e s2 ⟨n2, he, hg2, q2⟩ => ?_
  · have e1 : addF (.ref n1) (.ref s1.length) (s1 ++ [Cell.lst (wrong2.map PM.D.d)]) = some (.ref (s1 ++ [Cell.lst (wrong2.map PM.D.d)]).length, s1 ++ [Cell.lst (wrong2.map PM.D.d)] ++ [.lst (wrong1.map PM.D.d ++ wrong2.map PM.D.d)]) := ev_cat (pre_get pre_app hg1) last_get f12
    have a1 : ∀ st, addF (.d (.tuple [.str ("till" : Str), .str ("gold" : Str), .int 0])) (.d (.tuple [.int (-1)])) st = some (.d (.tuple [.str ("till" : Str), .str ("gold" : Str), .int 0, .int (-1)]), st) := fun st => ev_tcat f4
    have a2 : ∀ st, addF (.d (.tuple [.str ("Till" : Str)])) (.d (.tuple [.str ("gold" : Str), .int 0, .int 5])) st = some (.d (.tuple [.str ("Till" : Str), .str ("gold" : Str), .int 0, .int 5]), st) := fun st => ev_tcat f4
    have a3 : ∀ st, addF (.d (.tuple [.str ("till" : Str), .str ("gold" : Str)])) (.d (.tuple [.int 8, .int 5])) st = some (.d (.tuple [.str ("till" : Str), .str ("gold" : Str), .int 8, .int 5]), st) := fun st => ev_tcat f4
    have a4 : ∀ st, addF (.d (.tuple [.str ("till" : Str), .str ("gold" : Str), .int 0])) (.d (.tuple [.bool true])) st = some (.d (.tuple [.str ("till" : Str), .str ("gold" : Str), .int 0, .bool true]), st) := fun st => ev_tcat f4
    have e2 : addF (.ref n1) (.ref s1.length) (s1 ++ [Cell.lst [.d (bkD [.tuple [.str ("till" : Str), .str ("gold" : Str), .int 0, .int (-1)]] []), .d (bkD [.tuple [.str ("Till" : Str), .str ("gold" : Str), .int 0, .int 5]] []), .d (bkD [.tuple [.str ("till" : Str), .str ("gold" : Str), .int 8, .int 5]] []), .d (bkD [.tuple [.str ("till" : Str), .str ("gold" : Str), .int 0, .bool true]] [])]]) = _ := e1
    unfold bkD at e2
    simp only [envW, p3, p2, p1, a1, a2, a3, a4, negF, f0, fits1, fits2, fits3, f4, e2, truF, wp_some, wp_none, wp_bind, wp_sFor, mOp, mUn, mC, mVar, mTest, mTru, mAnd, mOr, mNot, mAndV, mOrV, mNotV, mIf, mNil, mCons, mCall, mTup, mLstD, mLst, mChain, mPart, mSl, mMeth, mIsi, sSeq, sNil, sIf, sRet, sRetN, sAsg, sExpr, sPar, sPar3, gN, gT, gsCons, gsNil, gIx, bodyM, retM, List.getElem?_cons_zero, List.getElem?_cons_succ, List.set_cons_zero, List.set_cons_succ, List.map_cons, List.map_nil, List.length_cons, List.length_nil, List.replicate, List.cons_append, List.nil_append, Option.bind_some, Option.map_some, if_true, if_false, reduceIte, Bool.false_eq_true, tyN, datas, iiF, addI, Bool.not_true, Bool.not_false, Nat.zero_add, Nat.reduceAdd, Nat.reduceSub, reduceCtorEq]
    exact ⟨_, rfl, _, rfl, last_get, q1.trans (by rw [List.append_assoc]; exact pre_app)⟩
  subst he
  refine wp_seqK (K := fun e s' => ∃ n, e = envW x0 x2 (some (.d (bookD P C))) (some (.ref ip)) (some (.ref ic)) y6 y7 y8 y9 (some (.ref n)) y13 ∧ s'[n]? = some (.lst ((wrong1 ++ wrong2 ++ wrong3).map PM.D.d)) ∧ s <+: s') ?_ fun e s3 ⟨n3, he, hg3, q3⟩ => ?_
  · have e1 : addF (.ref n2) (.ref s2.length) (s2 ++ [Cell.lst (wrong3.map PM.D.d)]) = some (.ref (s2 ++ [Cell.lst (wrong3.map PM.D.d)]).length, s2 ++ [Cell.lst (wrong3.map PM.D.d)] ++ [.lst ((wrong1 ++ wrong2).map PM.D.d ++ wrong3.map PM.D.d)]) := ev_cat (pre_get pre_app hg2) last_get f16
    have a1 : ∀ st, addF (.d (.tuple [.int 0, .str ("pay" : Str), .str ("k" : Str)])) (.d (.tuple [.int 0])) st = some (.d (.tuple [.int 0, .str ("pay" : Str), .str ("k" : Str), .int 0]), st) := fun st => ev_tcat f4
    have a2 : ∀ st, addF (.d (.tuple [.int 0, .str ("pay" : Str)])) (.d (.tuple [.str ("k." : Str), .int 5])) st = some (.d (.tuple [.int 0, .str ("pay" : Str), .str ("k." : Str), .int 5]), st) := fun st => ev_tcat f4
    have a3 : ∀ st, addF (.d (.tuple [.int 0, .str ("pay" : Str), .str ("k" : Str)])) (.d (.tuple [.int (10 ^ 12 + 1)])) st = some (.d (.tuple [.int 0, .str ("pay" : Str), .str ("k" : Str), .int (10 ^ 12 + 1)]), st) := fun st => ev_tcat f4
    have a4 : ∀ st, addF (.d (.tuple [.int 8])) (.d (.tuple [.str ("pay" : Str), .str ("k" : Str), .int 5])) st = some (.d (.tuple [.int 8, .str ("pay" : Str), .str ("k" : Str), .int 5]), st) := fun st => ev_tcat f4
    have a5 : ∀ st, addF (.d (.int (10 ^ 12))) (.d (.int 1)) st = some (.d (.int (10 ^ 12 + 1)), st) := fun st => rfl
    have e2 : addF (.ref n2) (.ref s2.length) (s2 ++ [Cell.lst [.d (bkD [] [.tuple [.int 0, .str ("pay" : Str), .str ("k" : Str), .int 0]]), .d (bkD [] [.tuple [.int 0, .str ("pay" : Str), .str ("k." : Str), .int 5]]), .d (bkD [] [.tuple [.int 0, .str ("pay" : Str), .str ("k" : Str), .int (10 ^ 12 + 1)]]), .d (bkD [] [.tuple [.int 8, .str ("pay" : Str), .str ("k" : Str), .int 5]])]]) = _ := e1
    unfold bkD at e2
    simp only [envW, c3, c2, c1, a1, a2, a3, a4, a5, ev_pow12, f0, fits1, fits2, fits3, f4, e2, truF, wp_some, wp_none, wp_bind, wp_sFor, mOp, mUn, mC, mVar, mTest, mTru, mAnd, mOr, mNot, mAndV, mOrV, mNotV, mIf, mNil, mCons, mCall, mTup, mLstD, mLst, mChain, mPart, mSl, mMeth, mIsi, sSeq, sNil, sIf, sRet, sRetN, sAsg, sExpr, sPar, sPar3, gN, gT, gsCons, gsNil, gIx, bodyM, retM, List.getElem?_cons_zero, List.getElem?_cons_succ, List.set_cons_zero, List.set_cons_succ, List.map_cons, List.map_nil, List.length_cons, List.length_nil, List.replicate, List.cons_append, List.nil_append, Option.bind_some, Option.map_some, if_true, if_false, reduceIte, Bool.false_eq_true, tyN, datas, iiF, addI, Bool.not_true, Bool.not_false, Nat.zero_add, Nat.reduceAdd, Nat.reduceSub, reduceCtorEq]
    exact ⟨_, rfl, _, rfl, by rw [last_get, List.map_append (l₁ := wrong1 ++ wrong2)], q2.trans (by rw [List.append_assoc]; exact pre_app)⟩
  subst he
  -- no wrong thing is a book
  refine wp_skip ?_
  have e1 : addF (.ref n3) (.ref s3.length) (s3 ++ [Cell.lst (wrong4.map PM.D.d)]) = some (.ref (s3 ++ [Cell.lst (wrong4.map PM.D.d)]).length, s3 ++ [Cell.lst (wrong4.map PM.D.d)] ++ [.lst ((wrong1 ++ wrong2 ++ wrong3).map PM.D.d ++ wrong4.map PM.D.d)]) := ev_cat (pre_get pre_app hg3) last_get f17
  have e2 : addF (.ref n3) (.ref s3.length) (s3 ++ [Cell.lst [.d (bkD [part0, .tuple [.str ("kate" : Str), .str ("gold" : Str), .int 0, .int 5]] [])]]) = _ := e1
  unfold bkD at e2
  refine none_left (s1 := s3 ++ [Cell.lst (wrong4.map PM.D.d)] ++ [.lst ((wrong1 ++ wrong2 ++ wrong3).map PM.D.d ++ wrong4.map PM.D.d)]) (xs := wrong1 ++ wrong2 ++ wrong3 ++ wrong4) (g := some ((s3 ++ [Cell.lst (wrong4.map PM.D.d)]).length, .lst ((wrong1 ++ wrong2 ++ wrong3).map PM.D.d ++ wrong4.map PM.D.d))) ?_ (holds_of last_get) (by decide) (fun x hx => ?_) ⟨_, _, _, _, _, _, _, _, _, _, _, _, _, _, rfl⟩ fun t => ⟨rfl, ?_⟩
  · simp only [mAny, envW, f0, fits1, fits2, fits3, f4, e2, last_get, truF, wp_some, wp_none, wp_bind, wp_sFor, mOp, mUn, mC, mVar, mTest, mTru, mAnd, mOr, mNot, mAndV, mOrV, mNotV, mIf, mNil, mCons, mCall, mTup, mLstD, mLst, mChain, mPart, mSl, mMeth, mIsi, sSeq, sNil, sIf, sRet, sRetN, sAsg, sExpr, sPar, sPar3, gN, gT, gsCons, gsNil, gIx, bodyM, retM, List.getElem?_cons_zero, List.getElem?_cons_succ, List.set_cons_zero, List.set_cons_succ, List.map_cons, List.map_nil, List.length_cons, List.length_nil, List.replicate, List.cons_append, List.nil_append, Option.bind_some, Option.map_some, if_true, if_false, reduceIte, Bool.false_eq_true, tyN, datas, iiF, addI, Bool.not_true, Bool.not_false, Nat.zero_add, Nat.reduceAdd, Nat.reduceSub, reduceCtorEq]
    rw [List.map_append (l₁ := wrong1 ++ wrong2 ++ wrong3)]
  · have := wrong_ok x hx
    rw [Bool.and_eq_true, Bool.not_eq_true'] at this
    exact this
  have q4 : s <+: s3 ++ [Cell.lst (wrong4.map PM.D.d)] ++ [.lst ((wrong1 ++ wrong2 ++ wrong3).map PM.D.d ++ wrong4.map PM.D.d)] ++ t := q3.trans (by rw [List.append_assoc, List.append_assoc]; exact pre_app)
  generalize s3 ++ [Cell.lst (wrong4.map PM.D.d)] ++ [.lst ((wrong1 ++ wrong2 ++ wrong3).map PM.D.d ++ wrong4.map PM.D.d)] ++ t = s4 at q4 ⊢
  -- each right thing is one
  refine wp_skip ?_
  refine none_left (s1 := s4 ++ [Cell.lst (right1.map PM.D.d)]) (xs := right1) (g := some (s4.length, .lst (right1.map PM.D.d))) ?_ (holds_of last_get) (by decide) (fun x hx => ?_) ⟨_, _, _, _, _, _, _, _, _, _, _, _, _, _, rfl⟩ fun t => ⟨rfl, ?_⟩
  · have a1 : ∀ st, addF (.d (.tuple [.str ("till" : Str), .str ("gold" : Str), .int 0])) (.d (.tuple [.int (10 ^ 20)])) st = some (.d (.tuple [.str ("till" : Str), .str ("gold" : Str), .int 0, .int (10 ^ 20)]), st) := fun st => ev_tcat f4
    have a2 : ∀ st, addF (.d (.tuple [.int 0, .str ("pay" : Str), .str ("k" : Str)])) (.d (.tuple [.int (-1)])) st = some (.d (.tuple [.int 0, .str ("pay" : Str), .str ("k" : Str), .int (-1)]), st) := fun st => ev_tcat f4
    simp only [mAny, envW, p3, c3, a1, a2, ev_pow20, negF, f0, fits1, fits2, fits3, f4, last_get, truF, wp_some, wp_none, wp_bind, wp_sFor, mOp, mUn, mC, mVar, mTest, mTru, mAnd, mOr, mNot, mAndV, mOrV, mNotV, mIf, mNil, mCons, mCall, mTup, mLstD, mLst, mChain, mPart, mSl, mMeth, mIsi, sSeq, sNil, sIf, sRet, sRetN, sAsg, sExpr, sPar, sPar3, gN, gT, gsCons, gsNil, gIx, bodyM, retM, List.getElem?_cons_zero, List.getElem?_cons_succ, List.set_cons_zero, List.set_cons_succ, List.map_cons, List.map_nil, List.length_cons, List.length_nil, List.replicate, List.cons_append, List.nil_append, Option.bind_some, Option.map_some, if_true, if_false, reduceIte, Bool.false_eq_true, tyN, datas, iiF, addI, Bool.not_true, Bool.not_false, Nat.zero_add, Nat.reduceAdd, Nat.reduceSub, reduceCtorEq]
    rfl
  · have := right_ok x hx
    rwa [Bool.and_eq_true] at this
  refine wp_some.mpr ⟨_, rfl, ⟨hs.pre (q4.trans (by rw [List.append_assoc]; exact pre_app)), _, _, _, _, _, _, _, _, _, _, _, _, rfl⟩⟩
theorem plain (ns : List Int) (h : ns.length ≤ 63) : ∃ st, f_law [.d (.list (ns.map PyData.int))] [] = some (.d (.bool true), st) := by
  have key : wp (f_law [.d (.list (ns.map PyData.int))] []) fun a s => a = .d (.bool true) := by
    show wp (bodyM 1 14 s_law [.d (.list (ns.map PyData.int))] []) _
    rw [body_eq (n := 1) (xs := [.d (.list (ns.map PyData.int))]) rfl]
    show wp ((s_law [some (.d (.list (ns.map PyData.int))), none, none, none, none, none, none, none, none, none, none, none, none, none] []).bind retM) _
    rw [wp_bind]
    unfold s_law
    refine wp_seqK (K := fun e s => TI ns (some (.d (.list (ns.map PyData.int)))) e s) ?_ fun e s hT => ?_
    · have e1 : listAF [.d (.list (ns.map PyData.int))] [] = some (.ref 0, [nCell ns]) := by
        show some (PM.D.ref 0, [Cell.lst ((ns.map PyData.int).map PM.D.d)]) = _
        unfold nCell
        rw [List.map_map]
        rfl
      simp only [e1, f4, truF, wp_some, wp_none, wp_bind, wp_sFor, mOp, mUn, mC, mVar, mTest, mTru, mAnd, mOr, mNot, mAndV, mOrV, mNotV, mIf, mNil, mCons, mCall, mTup, mLstD, mLst, mChain, mPart, mSl, mMeth, mIsi, sSeq, sNil, sIf, sRet, sRetN, sAsg, sExpr, sPar, sPar3, gN, gT, gsCons, gsNil, gIx, bodyM, retM, List.getElem?_cons_zero, List.getElem?_cons_succ, List.set_cons_zero, List.set_cons_succ, List.map_cons, List.map_nil, List.length_cons, List.length_nil, List.replicate, List.cons_append, List.nil_append, Option.bind_some, Option.map_some, if_true, if_false, reduceIte, Bool.false_eq_true, tyN, datas, iiF, addI, Bool.not_true, Bool.not_false, Nat.zero_add, Nat.reduceAdd, Nat.reduceSub, reduceCtorEq]
      exact ⟨_, rfl, ⟨rfl, 0, 0, 1, by decide, rfl⟩, none, none, none, none, none, none, none, none, none, none, none, none, rfl⟩
    refine wp_seqK (K := fun e s => TI ns (some (.d (.list (ns.map PyData.int)))) e s) ?_ fun e s hT => ?_
    · rw [wp_sFor]
      obtain ⟨x2, x3, x4, x5, x6, x7, x8, x9, x10, x11, x12, x13, rfl⟩ := hT.ex
      refine wp_of (mRange_at (j := ((3 : Nat) : Int)) (s := s) rfl (small62_of (by decide))) ?_
      refine wp_for (fun l env s => TI ns (some (.d (.list (ns.map PyData.int)))) env s) (fun env s h => ⟨holds_none, _, rfl, h⟩) (fun y l env s h => ⟨holds_none, ?_⟩) _ _ _ hT
      obtain ⟨x2, x3, x4, x5, x6, x7, x8, x9, x10, x11, x12, x13, rfl⟩ := h.ex
      refine wp_some.mpr ?_
      refine wp_mono (law_turn ⟨h.s0, some y, x3, x4, x5, x6, x7, x8, x9, x10, x11, x12, x13, rfl⟩) fun f s' ⟨e, q, r⟩ => ?_
      subst q
      exact r
    simp only [truF, wp_some, wp_none, wp_bind, wp_sFor, mOp, mUn, mC, mVar, mTest, mTru, mAnd, mOr, mNot, mAndV, mOrV, mNotV, mIf, mNil, mCons, mCall, mTup, mLstD, mLst, mChain, mPart, mSl, mMeth, mIsi, sSeq, sNil, sIf, sRet, sRetN, sAsg, sExpr, sPar, sPar3, gN, gT, gsCons, gsNil, gIx, bodyM, retM, List.getElem?_cons_zero, List.getElem?_cons_succ, List.set_cons_zero, List.set_cons_succ, List.map_cons, List.map_nil, List.length_cons, List.length_nil, List.replicate, List.cons_append, List.nil_append, Option.bind_some, Option.map_some, if_true, if_false, reduceIte, Bool.false_eq_true, tyN, datas, iiF, addI, Bool.not_true, Bool.not_false, Nat.zero_add, Nat.reduceAdd, Nat.reduceSub, reduceCtorEq]
  obtain ⟨⟨a, s⟩, e, q⟩ := key
  dsimp only at q
  subst q
  exact ⟨s, e⟩
end K34

set_option Elab.async false
set_option linter.all false
set_option maxRecDepth 100000
set_option autoImplicit false
/-! The end of the law, printed by wip/gen.py. -/
namespace K34
open PySem PySem.Spec PyProof.Rows L2 PM
theorem all_mk {l : PySem.W.OpenLaw} {w : World} {K : PySem.W.Frag} {h : Heap} {mg : Str → Option Value} {fa : Addr} (X : K.In h) (G : h.Ns mainGlobals mg) (hfa : mg "law" = some (.ref fa))
    {f0 : Addr} {od0 an0 : Option Addr} {sl0 : Array (Option Value)} {oc0 kV0 dc0 pm0 cd0 ct0 : Value}
    (a0 : PySem.W.nsIn K mainGlobals "is_whole" = some (some (.ref f0))) (l0 : K.lookup f0 = some ⟨oc0, od0, .func (PySem.W.fnOf "is_whole" "is_whole" (defArgs st_is_whole) (defBody st_is_whole) (defScope st_is_whole) .none kV0 dc0 pm0 an0 cd0 ct0), sl0⟩) (c0 : PySem.W.codeIn K cd0 "is_whole" = true) (k0 : PySem.W.keepIn K (.ref f0) = true)
    {f1 : Addr} {od1 an1 : Option Addr} {sl1 : Array (Option Value)} {oc1 kV1 dc1 pm1 cd1 ct1 : Value}
    (a1 : PySem.W.nsIn K mainGlobals "is_told" = some (some (.ref f1))) (l1 : K.lookup f1 = some ⟨oc1, od1, .func (PySem.W.fnOf "is_told" "is_told" (defArgs st_is_told) (defBody st_is_told) (defScope st_is_told) .none kV1 dc1 pm1 an1 cd1 ct1), sl1⟩) (c1 : PySem.W.codeIn K cd1 "is_told" = true) (k1 : PySem.W.keepIn K (.ref f1) = true)
    {f2 : Addr} {od2 an2 : Option Addr} {sl2 : Array (Option Value)} {oc2 kV2 dc2 pm2 cd2 ct2 : Value}
    (a2 : PySem.W.nsIn K mainGlobals "is_name" = some (some (.ref f2))) (l2 : K.lookup f2 = some ⟨oc2, od2, .func (PySem.W.fnOf "is_name" "is_name" (defArgs st_is_name) (defBody st_is_name) (defScope st_is_name) .none kV2 dc2 pm2 an2 cd2 ct2), sl2⟩) (c2 : PySem.W.codeIn K cd2 "is_name" = true) (k2 : PySem.W.keepIn K (.ref f2) = true)
    {f3 : Addr} {od3 an3 : Option Addr} {sl3 : Array (Option Value)} {oc3 kV3 dc3 pm3 cd3 ct3 : Value}
    (a3 : PySem.W.nsIn K mainGlobals "is_key" = some (some (.ref f3))) (l3 : K.lookup f3 = some ⟨oc3, od3, .func (PySem.W.fnOf "is_key" "is_key" (defArgs st_is_key) (defBody st_is_key) (defScope st_is_key) .none kV3 dc3 pm3 an3 cd3 ct3), sl3⟩) (c3 : PySem.W.codeIn K cd3 "is_key" = true) (k3 : PySem.W.keepIn K (.ref f3) = true)
    {f4 : Addr} {od4 an4 : Option Addr} {sl4 : Array (Option Value)} {oc4 kV4 dc4 pm4 cd4 ct4 : Value}
    (a4 : PySem.W.nsIn K mainGlobals "is_house" = some (some (.ref f4))) (l4 : K.lookup f4 = some ⟨oc4, od4, .func (PySem.W.fnOf "is_house" "is_house" (defArgs st_is_house) (defBody st_is_house) (defScope st_is_house) .none kV4 dc4 pm4 an4 cd4 ct4), sl4⟩) (c4 : PySem.W.codeIn K cd4 "is_house" = true) (k4 : PySem.W.keepIn K (.ref f4) = true)
    {f5 : Addr} {od5 an5 : Option Addr} {sl5 : Array (Option Value)} {oc5 kV5 dc5 pm5 cd5 ct5 : Value}
    (a5 : PySem.W.nsIn K mainGlobals "is_amount" = some (some (.ref f5))) (l5 : K.lookup f5 = some ⟨oc5, od5, .func (PySem.W.fnOf "is_amount" "is_amount" (defArgs st_is_amount) (defBody st_is_amount) (defScope st_is_amount) .none kV5 dc5 pm5 an5 cd5 ct5), sl5⟩) (c5 : PySem.W.codeIn K cd5 "is_amount" = true) (k5 : PySem.W.keepIn K (.ref f5) = true)
    {f6 : Addr} {od6 an6 : Option Addr} {sl6 : Array (Option Value)} {oc6 kV6 dc6 pm6 cd6 ct6 : Value}
    (a6 : PySem.W.nsIn K mainGlobals "is_number" = some (some (.ref f6))) (l6 : K.lookup f6 = some ⟨oc6, od6, .func (PySem.W.fnOf "is_number" "is_number" (defArgs st_is_number) (defBody st_is_number) (defScope st_is_number) .none kV6 dc6 pm6 an6 cd6 ct6), sl6⟩) (c6 : PySem.W.codeIn K cd6 "is_number" = true) (k6 : PySem.W.keepIn K (.ref f6) = true)
    {f7 : Addr} {od7 an7 : Option Addr} {sl7 : Array (Option Value)} {oc7 kV7 dc7 pm7 cd7 ct7 : Value}
    (a7 : PySem.W.nsIn K mainGlobals "is_part" = some (some (.ref f7))) (l7 : K.lookup f7 = some ⟨oc7, od7, .func (PySem.W.fnOf "is_part" "is_part" (defArgs st_is_part) (defBody st_is_part) (defScope st_is_part) .none kV7 dc7 pm7 an7 cd7 ct7), sl7⟩) (c7 : PySem.W.codeIn K cd7 "is_part" = true) (k7 : PySem.W.keepIn K (.ref f7) = true)
    {f8 : Addr} {od8 an8 : Option Addr} {sl8 : Array (Option Value)} {oc8 kV8 dc8 pm8 cd8 ct8 : Value}
    (a8 : PySem.W.nsIn K mainGlobals "is_cell" = some (some (.ref f8))) (l8 : K.lookup f8 = some ⟨oc8, od8, .func (PySem.W.fnOf "is_cell" "is_cell" (defArgs st_is_cell) (defBody st_is_cell) (defScope st_is_cell) .none kV8 dc8 pm8 an8 cd8 ct8), sl8⟩) (c8 : PySem.W.codeIn K cd8 "is_cell" = true) (k8 : PySem.W.keepIn K (.ref f8) = true)
    {f9 : Addr} {od9 an9 : Option Addr} {sl9 : Array (Option Value)} {oc9 kV9 dc9 pm9 cd9 ct9 : Value}
    (a9 : PySem.W.nsIn K mainGlobals "rise" = some (some (.ref f9))) (l9 : K.lookup f9 = some ⟨oc9, od9, .func (PySem.W.fnOf "rise" "rise" (defArgs st_rise) (defBody st_rise) (defScope st_rise) .none kV9 dc9 pm9 an9 cd9 ct9), sl9⟩) (c9 : PySem.W.codeIn K cd9 "rise" = true) (k9 : PySem.W.keepIn K (.ref f9) = true)
    {f10 : Addr} {od10 an10 : Option Addr} {sl10 : Array (Option Value)} {oc10 kV10 dc10 pm10 cd10 ct10 : Value}
    (a10 : PySem.W.nsIn K mainGlobals "is_book" = some (some (.ref f10))) (l10 : K.lookup f10 = some ⟨oc10, od10, .func (PySem.W.fnOf "is_book" "is_book" (defArgs st_is_book) (defBody st_is_book) (defScope st_is_book) .none kV10 dc10 pm10 an10 cd10 ct10), sl10⟩) (c10 : PySem.W.codeIn K cd10 "is_book" = true) (k10 : PySem.W.keepIn K (.ref f10) = true)
    {f11 : Addr} {od11 an11 : Option Addr} {sl11 : Array (Option Value)} {oc11 kV11 dc11 pm11 cd11 ct11 : Value}
    (a11 : PySem.W.nsIn K mainGlobals "told_of" = some (some (.ref f11))) (l11 : K.lookup f11 = some ⟨oc11, od11, .func (PySem.W.fnOf "told_of" "told_of" (defArgs st_told_of) (defBody st_told_of) (defScope st_told_of) .none kV11 dc11 pm11 an11 cd11 ct11), sl11⟩) (c11 : PySem.W.codeIn K cd11 "told_of" = true) (k11 : PySem.W.keepIn K (.ref f11) = true)
    {f12 : Addr} {od12 an12 : Option Addr} {sl12 : Array (Option Value)} {oc12 kV12 dc12 pm12 cd12 ct12 : Value}
    (a12 : PySem.W.nsIn K mainGlobals "part_of" = some (some (.ref f12))) (l12 : K.lookup f12 = some ⟨oc12, od12, .func (PySem.W.fnOf "part_of" "part_of" (defArgs st_part_of) (defBody st_part_of) (defScope st_part_of) .none kV12 dc12 pm12 an12 cd12 ct12), sl12⟩) (c12 : PySem.W.codeIn K cd12 "part_of" = true) (k12 : PySem.W.keepIn K (.ref f12) = true)
    {f13 : Addr} {od13 an13 : Option Addr} {sl13 : Array (Option Value)} {oc13 kV13 dc13 pm13 cd13 ct13 : Value}
    (a13 : PySem.W.nsIn K mainGlobals "cell_of" = some (some (.ref f13))) (l13 : K.lookup f13 = some ⟨oc13, od13, .func (PySem.W.fnOf "cell_of" "cell_of" (defArgs st_cell_of) (defBody st_cell_of) (defScope st_cell_of) .none kV13 dc13 pm13 an13 cd13 ct13), sl13⟩) (c13 : PySem.W.codeIn K cd13 "cell_of" = true) (k13 : PySem.W.keepIn K (.ref f13) = true)
    {f14 : Addr} {od14 an14 : Option Addr} {sl14 : Array (Option Value)} {oc14 kV14 dc14 pm14 cd14 ct14 : Value}
    (a14 : PySem.W.nsIn K mainGlobals "amount_of" = some (some (.ref f14))) (l14 : K.lookup f14 = some ⟨oc14, od14, .func (PySem.W.fnOf "amount_of" "amount_of" (defArgs st_amount_of) (defBody st_amount_of) (defScope st_amount_of) .none kV14 dc14 pm14 an14 cd14 ct14), sl14⟩) (c14 : PySem.W.codeIn K cd14 "amount_of" = true) (k14 : PySem.W.keepIn K (.ref f14) = true)
    {f15 : Addr} {od15 an15 : Option Addr} {sl15 : Array (Option Value)} {oc15 kV15 dc15 pm15 cd15 ct15 : Value}
    (a15 : PySem.W.nsIn K mainGlobals "supply" = some (some (.ref f15))) (l15 : K.lookup f15 = some ⟨oc15, od15, .func (PySem.W.fnOf "supply" "supply" (defArgs st_supply) (defBody st_supply) (defScope st_supply) .none kV15 dc15 pm15 an15 cd15 ct15), sl15⟩) (c15 : PySem.W.codeIn K cd15 "supply" = true) (k15 : PySem.W.keepIn K (.ref f15) = true)
    {f16 : Addr} {od16 an16 : Option Addr} {sl16 : Array (Option Value)} {oc16 kV16 dc16 pm16 cd16 ct16 : Value}
    (a16 : PySem.W.nsIn K mainGlobals "accounts" = some (some (.ref f16))) (l16 : K.lookup f16 = some ⟨oc16, od16, .func (PySem.W.fnOf "accounts" "accounts" (defArgs st_accounts) (defBody st_accounts) (defScope st_accounts) .none kV16 dc16 pm16 an16 cd16 ct16), sl16⟩) (c16 : PySem.W.codeIn K cd16 "accounts" = true) (k16 : PySem.W.keepIn K (.ref f16) = true)
    {f17 : Addr} {od17 an17 : Option Addr} {sl17 : Array (Option Value)} {oc17 kV17 dc17 pm17 cd17 ct17 : Value}
    (a17 : PySem.W.nsIn K mainGlobals "units" = some (some (.ref f17))) (l17 : K.lookup f17 = some ⟨oc17, od17, .func (PySem.W.fnOf "units" "units" (defArgs st_units) (defBody st_units) (defScope st_units) .none kV17 dc17 pm17 an17 cd17 ct17), sl17⟩) (c17 : PySem.W.codeIn K cd17 "units" = true) (k17 : PySem.W.keepIn K (.ref f17) = true)
    {f18 : Addr} {od18 an18 : Option Addr} {sl18 : Array (Option Value)} {oc18 kV18 dc18 pm18 cd18 ct18 : Value}
    (a18 : PySem.W.nsIn K mainGlobals "supplies" = some (some (.ref f18))) (l18 : K.lookup f18 = some ⟨oc18, od18, .func (PySem.W.fnOf "supplies" "supplies" (defArgs st_supplies) (defBody st_supplies) (defScope st_supplies) .none kV18 dc18 pm18 an18 cd18 ct18), sl18⟩) (c18 : PySem.W.codeIn K cd18 "supplies" = true) (k18 : PySem.W.keepIn K (.ref f18) = true)
    {f19 : Addr} {od19 an19 : Option Addr} {sl19 : Array (Option Value)} {oc19 kV19 dc19 pm19 cd19 ct19 : Value}
    (a19 : PySem.W.nsIn K mainGlobals "set_entry" = some (some (.ref f19))) (l19 : K.lookup f19 = some ⟨oc19, od19, .func (PySem.W.fnOf "set_entry" "set_entry" (defArgs st_set_entry) (defBody st_set_entry) (defScope st_set_entry) .none kV19 dc19 pm19 an19 cd19 ct19), sl19⟩) (c19 : PySem.W.codeIn K cd19 "set_entry" = true) (k19 : PySem.W.keepIn K (.ref f19) = true)
    {f20 : Addr} {od20 an20 : Option Addr} {sl20 : Array (Option Value)} {oc20 kV20 dc20 pm20 cd20 ct20 : Value}
    (a20 : PySem.W.nsIn K mainGlobals "moved" = some (some (.ref f20))) (l20 : K.lookup f20 = some ⟨oc20, od20, .func (PySem.W.fnOf "moved" "moved" (defArgs st_moved) (defBody st_moved) (defScope st_moved) .none kV20 dc20 pm20 an20 cd20 ct20), sl20⟩) (c20 : PySem.W.codeIn K cd20 "moved" = true) (k20 : PySem.W.keepIn K (.ref f20) = true)
    {f21 : Addr} {od21 an21 : Option Addr} {sl21 : Array (Option Value)} {oc21 kV21 dc21 pm21 cd21 ct21 : Value}
    (a21 : PySem.W.nsIn K mainGlobals "with_cell" = some (some (.ref f21))) (l21 : K.lookup f21 = some ⟨oc21, od21, .func (PySem.W.fnOf "with_cell" "with_cell" (defArgs st_with_cell) (defBody st_with_cell) (defScope st_with_cell) .none kV21 dc21 pm21 an21 cd21 ct21), sl21⟩) (c21 : PySem.W.codeIn K cd21 "with_cell" = true) (k21 : PySem.W.keepIn K (.ref f21) = true)
    {f22 : Addr} {od22 an22 : Option Addr} {sl22 : Array (Option Value)} {oc22 kV22 dc22 pm22 cd22 ct22 : Value}
    (a22 : PySem.W.nsIn K mainGlobals "_law_next" = some (some (.ref f22))) (l22 : K.lookup f22 = some ⟨oc22, od22, .func (PySem.W.fnOf "_law_next" "_law_next" (defArgs st__law_next) (defBody st__law_next) (defScope st__law_next) .none kV22 dc22 pm22 an22 cd22 ct22), sl22⟩) (c22 : PySem.W.codeIn K cd22 "_law_next" = true) (k22 : PySem.W.keepIn K (.ref f22) = true)
    {f23 : Addr} {od23 an23 : Option Addr} {sl23 : Array (Option Value)} {oc23 kV23 dc23 pm23 cd23 ct23 : Value}
    (a23 : PySem.W.nsIn K mainGlobals "_law_same" = some (some (.ref f23))) (l23 : K.lookup f23 = some ⟨oc23, od23, .func (PySem.W.fnOf "_law_same" "_law_same" (defArgs st__law_same) (defBody st__law_same) (defScope st__law_same) .none kV23 dc23 pm23 an23 cd23 ct23), sl23⟩) (c23 : PySem.W.codeIn K cd23 "_law_same" = true) (k23 : PySem.W.keepIn K (.ref f23) = true)
    {f24 : Addr} {od24 an24 : Option Addr} {sl24 : Array (Option Value)} {oc24 kV24 dc24 pm24 cd24 ct24 : Value}
    (a24 : PySem.W.nsIn K mainGlobals "_law_book" = some (some (.ref f24))) (l24 : K.lookup f24 = some ⟨oc24, od24, .func (PySem.W.fnOf "_law_book" "_law_book" (defArgs st__law_book) (defBody st__law_book) (defScope st__law_book) .none kV24 dc24 pm24 an24 cd24 ct24), sl24⟩) (c24 : PySem.W.codeIn K cd24 "_law_book" = true) (k24 : PySem.W.keepIn K (.ref f24) = true)
    {f25 : Addr} {od25 an25 : Option Addr} {sl25 : Array (Option Value)} {oc25 kV25 dc25 pm25 cd25 ct25 : Value}
    (a25 : PySem.W.nsIn K mainGlobals "_law_plain_book" = some (some (.ref f25))) (l25 : K.lookup f25 = some ⟨oc25, od25, .func (PySem.W.fnOf "_law_plain_book" "_law_plain_book" (defArgs st__law_plain_book) (defBody st__law_plain_book) (defScope st__law_plain_book) .none kV25 dc25 pm25 an25 cd25 ct25), sl25⟩) (c25 : PySem.W.codeIn K cd25 "_law_plain_book" = true) (k25 : PySem.W.keepIn K (.ref f25) = true)
    {f26 : Addr} {od26 an26 : Option Addr} {sl26 : Array (Option Value)} {oc26 kV26 dc26 pm26 cd26 ct26 : Value}
    (a26 : PySem.W.nsIn K mainGlobals "_law_tells" = some (some (.ref f26))) (l26 : K.lookup f26 = some ⟨oc26, od26, .func (PySem.W.fnOf "_law_tells" "_law_tells" (defArgs st__law_tells) (defBody st__law_tells) (defScope st__law_tells) .none kV26 dc26 pm26 an26 cd26 ct26), sl26⟩) (c26 : PySem.W.codeIn K cd26 "_law_tells" = true) (k26 : PySem.W.keepIn K (.ref f26) = true)
    {f27 : Addr} {od27 an27 : Option Addr} {sl27 : Array (Option Value)} {oc27 kV27 dc27 pm27 cd27 ct27 : Value}
    (a27 : PySem.W.nsIn K mainGlobals "law" = some (some (.ref f27))) (l27 : K.lookup f27 = some ⟨oc27, od27, .func (PySem.W.fnOf "law" "law" (defArgs st_law) (defBody st_law) (defScope st_law) .none kV27 dc27 pm27 an27 cd27 ct27), sl27⟩) (c27 : PySem.W.codeIn K cd27 "law" = true) (k27 : PySem.W.keepIn K (.ref f27) = true)
    (z0 : PySem.W.nsIn K mainGlobals "bool" = some none)
    (z1 : PySem.W.nsIn K mainGlobals "dict" = some none)
    (z2 : PySem.W.nsIn K mainGlobals "int" = some none)
    (z3 : PySem.W.nsIn K mainGlobals "isinstance" = some none)
    (z4 : PySem.W.nsIn K mainGlobals "len" = some none)
    (z5 : PySem.W.nsIn K mainGlobals "list" = some none)
    (z6 : PySem.W.nsIn K mainGlobals "range" = some none)
    (z7 : PySem.W.nsIn K mainGlobals "set" = some none)
    (z8 : PySem.W.nsIn K mainGlobals "sorted" = some none)
    (z9 : PySem.W.nsIn K mainGlobals "str" = some none)
    (z10 : PySem.W.nsIn K mainGlobals "sum" = some none)
    (z11 : PySem.W.nsIn K mainGlobals "tuple" = some none)
    {t0 : Tok} (d0 : PySem.W.nsIn K mainGlobals "FIRST_SIGNS" = some (some (.str ("abcdefghijklmnopqrstuvwxyz" : Str) t0)))
    {t1 : Tok} (d1 : PySem.W.nsIn K mainGlobals "MOST_HOUSE" = some (some (.int 7 t1)))
    {t2 : Tok} (d2 : PySem.W.nsIn K mainGlobals "MOST_NUMBER" = some (some (.int 1000000000000 t2)))
    {t3 : Tok} (d3 : PySem.W.nsIn K mainGlobals "SIGNS" = some (some (.str ("abcdefghijklmnopqrstuvwxyz0123456789_" : Str) t3)))
    : ∃ fd : FuncData, (∀ (s : Shared) (v : Value), BindsTo s fd ⟨[v], []⟩ [("script", v)]) ∧ ∀ base : Heap, K.In base → base.Ns mainGlobals mg → FnOk l.prog w K mg base CX0 9 fa fd ["script"] (spM K f_law) := by
  have e := hfa.symm.trans (PySem.W.mg_of X G a27)
  cases e
  have B : Blt mg := ⟨PySem.W.mg_none_of X G z0, PySem.W.mg_none_of X G z1, PySem.W.mg_none_of X G z2, PySem.W.mg_none_of X G z3, PySem.W.mg_none_of X G z4, PySem.W.mg_none_of X G z5, PySem.W.mg_none_of X G z6, PySem.W.mg_none_of X G z7, PySem.W.mg_none_of X G z8, PySem.W.mg_none_of X G z9, PySem.W.mg_none_of X G z10, PySem.W.mg_none_of X G z11, ⟨_, PySem.W.mg_of X G d0⟩, ⟨_, PySem.W.mg_of X G d1⟩, ⟨_, PySem.W.mg_of X G d2⟩, ⟨_, PySem.W.mg_of X G d3⟩⟩
  have F0 := fun_mk (st := st_is_whole) l0 c0 k0
  have F1 := fun_mk (st := st_is_told) l1 c1 k1
  have F2 := fun_mk (st := st_is_name) l2 c2 k2
  have F3 := fun_mk (st := st_is_key) l3 c3 k3
  have F4 := fun_mk (st := st_is_house) l4 c4 k4
  have F5 := fun_mk (st := st_is_amount) l5 c5 k5
  have F6 := fun_mk (st := st_is_number) l6 c6 k6
  have F7 := fun_mk (st := st_is_part) l7 c7 k7
  have F8 := fun_mk (st := st_is_cell) l8 c8 k8
  have F9 := fun_mk (st := st_rise) l9 c9 k9
  have F10 := fun_mk (st := st_is_book) l10 c10 k10
  have F11 := fun_mk (st := st_told_of) l11 c11 k11
  have F12 := fun_mk (st := st_part_of) l12 c12 k12
  have F13 := fun_mk (st := st_cell_of) l13 c13 k13
  have F14 := fun_mk (st := st_amount_of) l14 c14 k14
  have F15 := fun_mk (st := st_supply) l15 c15 k15
  have F16 := fun_mk (st := st_accounts) l16 c16 k16
  have F17 := fun_mk (st := st_units) l17 c17 k17
  have F18 := fun_mk (st := st_supplies) l18 c18 k18
  have F19 := fun_mk (st := st_set_entry) l19 c19 k19
  have F20 := fun_mk (st := st_moved) l20 c20 k20
  have F21 := fun_mk (st := st_with_cell) l21 c21 k21
  have F22 := fun_mk (st := st__law_next) l22 c22 k22
  have F23 := fun_mk (st := st__law_same) l23 c23 k23
  have F24 := fun_mk (st := st__law_book) l24 c24 k24
  have F25 := fun_mk (st := st__law_plain_book) l25 c25 k25
  have F26 := fun_mk (st := st__law_tells) l26 c26 k26
  have F27 := fun_mk (st := st_law) l27 c27 k27
  refine ⟨PySem.W.fnOf "law" "law" (defArgs st_law) (defBody st_law) (defScope st_law) .none kV27 dc27 pm27 an27 cd27 ct27, fun s v => .of_eq rfl, fun base _ _ => ?_⟩
  have G_is_whole := fn_is_whole (P := l.prog) (w := w) (base := base) F0 (PySem.W.mg_of X G a0) B 
  have G_is_told := fn_is_told (P := l.prog) (w := w) (base := base) F1 (PySem.W.mg_of X G a1) B 
  have G_is_name := fn_is_name (P := l.prog) (w := w) (base := base) F2 (PySem.W.mg_of X G a2) B 
  have G_is_key := fn_is_key (P := l.prog) (w := w) (base := base) F3 (PySem.W.mg_of X G a3) B G_is_name
  have G_is_house := fn_is_house (P := l.prog) (w := w) (base := base) F4 (PySem.W.mg_of X G a4) B G_is_whole
  have G_is_amount := fn_is_amount (P := l.prog) (w := w) (base := base) F5 (PySem.W.mg_of X G a5) B G_is_whole
  have G_is_number := fn_is_number (P := l.prog) (w := w) (base := base) F6 (PySem.W.mg_of X G a6) B G_is_whole
  have G_is_part := fn_is_part (P := l.prog) (w := w) (base := base) F7 (PySem.W.mg_of X G a7) B G_is_name G_is_house G_is_amount
  have G_is_cell := fn_is_cell (P := l.prog) (w := w) (base := base) F8 (PySem.W.mg_of X G a8) B G_is_house G_is_name G_is_key G_is_number
  have G_rise := fn_rise (P := l.prog) (w := w) (base := base) F9 (PySem.W.mg_of X G a9) B 
  have G_is_book := fn_is_book (P := l.prog) (w := w) (base := base) F10 (PySem.W.mg_of X G a10) B G_rise G_is_told G_is_part G_is_cell
  have G_told_of := fn_told_of (P := l.prog) (w := w) (base := base) F11 (PySem.W.mg_of X G a11) B 
  have G_part_of := fn_part_of (P := l.prog) (w := w) (base := base) F12 (PySem.W.mg_of X G a12) B G_told_of
  have G_cell_of := fn_cell_of (P := l.prog) (w := w) (base := base) F13 (PySem.W.mg_of X G a13) B G_told_of
  have G_amount_of := fn_amount_of (P := l.prog) (w := w) (base := base) F14 (PySem.W.mg_of X G a14) B 
  have G_supply := fn_supply (P := l.prog) (w := w) (base := base) F15 (PySem.W.mg_of X G a15) B 
  have G_accounts := fn_accounts (P := l.prog) (w := w) (base := base) F16 (PySem.W.mg_of X G a16) B 
  have G_units := fn_units (P := l.prog) (w := w) (base := base) F17 (PySem.W.mg_of X G a17) B 
  have G_supplies := fn_supplies (P := l.prog) (w := w) (base := base) F18 (PySem.W.mg_of X G a18) B G_supply G_units
  have G_set_entry := fn_set_entry (P := l.prog) (w := w) (base := base) F19 (PySem.W.mg_of X G a19) B 
  have G_moved := fn_moved (P := l.prog) (w := w) (base := base) F20 (PySem.W.mg_of X G a20) B G_part_of G_set_entry
  have G_with_cell := fn_with_cell (P := l.prog) (w := w) (base := base) F21 (PySem.W.mg_of X G a21) B G_set_entry
  have G__law_next := fn__law_next (P := l.prog) (w := w) (base := base) F22 (PySem.W.mg_of X G a22) B 
  have G__law_same := fn__law_same (P := l.prog) (w := w) (base := base) F23 (PySem.W.mg_of X G a23) B  6
  have G__law_book := fn__law_book (P := l.prog) (w := w) (base := base) F24 (PySem.W.mg_of X G a24) B 
  have G__law_plain_book := fn__law_plain_book (P := l.prog) (w := w) (base := base) F25 (PySem.W.mg_of X G a25) B G__law_book G__law_next
  have G__law_tells := fn__law_tells (P := l.prog) (w := w) (base := base) F26 (PySem.W.mg_of X G a26) B G__law_same G_is_book G_supplies G_supply G__law_book G_accounts G_units G_amount_of
  exact ok_law F27 B G__law_plain_book G__law_tells G_moved G__law_next G__law_same G_with_cell G_cell_of G_part_of G_is_book
theorem sp_law {K : PySem.W.Frag} {H : Hp} {a : Addr} {ns : List Int} (hS : SqL K H a (ns.map V.int)) (h : ∃ st, f_law [.d (.list (ns.map PyData.int))] [] = some (.d (.bool true), st)) : spM K f_law [.ref a] H (fun v _ => v = .bl true) fun _ _ _ => False := by
  obtain ⟨st, h⟩ := h
  have dv : ∀ l : List Int, DVs K [] H (l.map V.int) (l.map PyData.int) := by
    intro l
    induction l with
    | nil => exact .nil
    | cons x l ih => exact .cons (.int x) ih
  refine ⟨[], [], [.d (.list (ns.map PyData.int))], .d (.bool true), st, .cons (.d (.lst (LstAt.of_sq hS (by simp)) (dv ns))) .nil, ⟨List.Pairwise.nil, rfl, fun i a c h => by simp at h⟩, h, fun v H' ρ' _ _ r => ?_⟩
  cases r with
  | d r =>
    cases r
    rfl
end K34
open PySem PySem.W PyProof.Rows
set_option maxHeartbeats 0 in
theorem PySem.Challenge.cw_sumsheld_k34_books_that_change_holds : PySem.Challenge.rw_sumsheld_k34_books_that_change.Holds := by
  w_on; o_law; k_head; (case hw => w_witness2)
  k_fill
  refine L2.walk_of (l := PySem.Challenge.rw_sumsheld_k34_books_that_change) (n := 63) (k := 9) (x := "script") (CX := fun _ => L2.CX0) (sp := fun w => PM.spM _ K34.f_law) rfl (by decide) rfl ⟨rfl, by decide, by decide⟩ (fun w h Y => PySem.W.kIn_of Y) ?F (fun _ _ a ns hl _ hS => K34.sp_law hS (K34.plain ns hl)) (fun _ _ _ _ _ h => h)
  case F =>
    intro w mg fa h KX G hmg
    refine' K34.all_mk KX G hmg ?a0 ?l0 ?c0 ?k0 ?a1 ?l1 ?c1 ?k1 ?a2 ?l2 ?c2 ?k2 ?a3 ?l3 ?c3 ?k3 ?a4 ?l4 ?c4 ?k4 ?a5 ?l5 ?c5 ?k5 ?a6 ?l6 ?c6 ?k6 ?a7 ?l7 ?c7 ?k7 ?a8 ?l8 ?c8 ?k8 ?a9 ?l9 ?c9 ?k9 ?a10 ?l10 ?c10 ?k10 ?a11 ?l11 ?c11 ?k11 ?a12 ?l12 ?c12 ?k12 ?a13 ?l13 ?c13 ?k13 ?a14 ?l14 ?c14 ?k14 ?a15 ?l15 ?c15 ?k15 ?a16 ?l16 ?c16 ?k16 ?a17 ?l17 ?c17 ?k17 ?a18 ?l18 ?c18 ?k18 ?a19 ?l19 ?c19 ?k19 ?a20 ?l20 ?c20 ?k20 ?a21 ?l21 ?c21 ?k21 ?a22 ?l22 ?c22 ?k22 ?a23 ?l23 ?c23 ?k23 ?a24 ?l24 ?c24 ?k24 ?a25 ?l25 ?c25 ?k25 ?a26 ?l26 ?c26 ?k26 ?a27 ?l27 ?c27 ?k27 ?z0 ?z1 ?z2 ?z3 ?z4 ?z5 ?z6 ?z7 ?z8 ?z9 ?z10 ?z11 ?d0 ?d1 ?d2 ?d3
    (case a0 => k_is); (case l0 => k_is); (case c0 => k_is); (case k0 => k_is); (case a1 => k_is); (case l1 => k_is); (case c1 => k_is); (case k1 => k_is); (case a2 => k_is); (case l2 => k_is); (case c2 => k_is); (case k2 => k_is); (case a3 => k_is); (case l3 => k_is); (case c3 => k_is); (case k3 => k_is); (case a4 => k_is); (case l4 => k_is); (case c4 => k_is); (case k4 => k_is); (case a5 => k_is); (case l5 => k_is); (case c5 => k_is); (case k5 => k_is); (case a6 => k_is); (case l6 => k_is); (case c6 => k_is); (case k6 => k_is); (case a7 => k_is); (case l7 => k_is); (case c7 => k_is); (case k7 => k_is); (case a8 => k_is); (case l8 => k_is); (case c8 => k_is); (case k8 => k_is); (case a9 => k_is); (case l9 => k_is); (case c9 => k_is); (case k9 => k_is); (case a10 => k_is); (case l10 => k_is); (case c10 => k_is); (case k10 => k_is); (case a11 => k_is); (case l11 => k_is); (case c11 => k_is); (case k11 => k_is); (case a12 => k_is); (case l12 => k_is); (case c12 => k_is); (case k12 => k_is); (case a13 => k_is); (case l13 => k_is); (case c13 => k_is); (case k13 => k_is); (case a14 => k_is); (case l14 => k_is); (case c14 => k_is); (case k14 => k_is); (case a15 => k_is); (case l15 => k_is); (case c15 => k_is); (case k15 => k_is); (case a16 => k_is); (case l16 => k_is); (case c16 => k_is); (case k16 => k_is); (case a17 => k_is); (case l17 => k_is); (case c17 => k_is); (case k17 => k_is); (case a18 => k_is); (case l18 => k_is); (case c18 => k_is); (case k18 => k_is); (case a19 => k_is); (case l19 => k_is); (case c19 => k_is); (case k19 => k_is); (case a20 => k_is); (case l20 => k_is); (case c20 => k_is); (case k20 => k_is); (case a21 => k_is); (case l21 => k_is); (case c21 => k_is); (case k21 => k_is); (case a22 => k_is); (case l22 => k_is); (case c22 => k_is); (case k22 => k_is); (case a23 => k_is); (case l23 => k_is); (case c23 => k_is); (case k23 => k_is); (case a24 => k_is); (case l24 => k_is); (case c24 => k_is); (case k24 => k_is); (case a25 => k_is); (case l25 => k_is); (case c25 => k_is); (case k25 => k_is); (case a26 => k_is); (case l26 => k_is); (case c26 => k_is); (case k26 => k_is); (case a27 => k_is); (case l27 => k_is); (case c27 => k_is); (case k27 => k_is); (case z0 => k_is); (case z1 => k_is); (case z2 => k_is); (case z3 => k_is); (case z4 => k_is); (case z5 => k_is); (case z6 => k_is); (case z7 => k_is); (case z8 => k_is); (case z9 => k_is); (case z10 => k_is); (case z11 => k_is); (case d0 => k_is); (case d1 => k_is); (case d2 => k_is); (case d3 => k_is)

