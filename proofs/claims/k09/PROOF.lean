import PyProof.Rows.All
import Wide.All
import OpenK.AllK
import Wide.FinOn
import PyProof.EqAt
import PyProof.EqKinds
import PyProof.TupleCall
import HandS.ForMost
import HandS.ForExc
import HandS.Lambda
import HandS.ExcInit
import HandS.ExcValue
import HandS.ExcIs
import HandS.Wide
import HandS.IsInst
import HandS.Zip
import HandS.Star
import HandS.DictComp
import HandS.DictTup
import HandS.NoneIn
import HandS.TupSets
import PySem.Challenge.RW_toldbyrest_k09_errors_of_fillings
import KE.KEqNest
import KE.DataEq
import KE.SortData
import PyProof.ReprReads
import PyProof.ReprRoads
import HandS.Walk
import HandS.ExcOwn
import HandS.Words
import PyProof.ExcBaseAll.ValueError
import HandS.Conv
import PyProof.Rows.SortWalk
import HandS.Property
import HandS.Small
import KE.OsSortAny
import KE.SortLaws
import KE.SortKeyed
import HandS.Deep
import PyProof.RulesMatch
import KE.GoesZip
import KE.GoesMore
import KE.GoesEnumKw
import HandS.SetIn
import HandS.Strs
import KE.KDictPairs
import KE.KLam
import PyProof.ReprLoop
import HandS.EndTab
import HandS.EndOwn
import KE.KNestM
import PyProof.TableCode
set_option Elab.async false
set_option linter.all false
set_option maxRecDepth 100000
set_option maxHeartbeats 4000000
/-! TB: a small value semantics of the program's language, and how it is held over the abstract heap. -/
namespace TB
open PySem PySem.Spec PyProof.Rows L2

/-- what a container is -/
inductive Tag where
  | tup | lst | ktp | klst
  | dK (ks : List Key) | dT (ks : List (List Key))
  | ins (C : Addr) (ns : List Str)
  | exn (C : Addr)
  deriving DecidableEq
/-- the built-in classes that the program names -/
inductive Ty where
  | non | bl | int | str | tup | lst | dct | set | flt | obj | ve
  deriving DecidableEq
def Ty.name : Ty → String
  | .non => "NoneType" | .bl => "bool" | .int => "int" | .str => "str" | .tup => "tuple" | .lst => "list" | .dct => "dict" | .set => "set" | .flt => "float" | .obj => "object" | .ve => "ValueError"
/-- data: immediate, a container that nobody changes, or a cell of the small memory -/
inductive D where
  | non | bl (b : Bool) | int (i : Int) | str (s : Str) | ty (t : Ty) | cls (C : Addr)
  | node (t : Tag) (xs : List D)
  | obj (n : Nat)
/-- the small memory: what may be changed, each thing with its parts (data, or other things of the memory) -/
abbrev Mem := List (Tag × List D)
/-- .. with the addresses; z: what is hidden from all (a comprehension's new list) -/
structure AM where
  c : List (Addr × Tag × List D)
  z : List Addr := []
def AM.ers (A : AM) : Mem := A.c.map (·.2)
def AM.adr (A : AM) : List Addr := A.c.map (·.1)
def AM.adrs (A : AM) : List Addr := A.adr ++ A.z

/-- nothing is known but what is frozen -/
def ExtT : HO := .ext fun _ => True
/-- what an abstract object is -/
def IsNode : HO → Tag → List V → Prop
  | .tup us, .tup, vs => us = vs
  | .lst us, .lst, vs => us = vs
  | .lst us, .klst, vs => us = vs
  | .dK kvs, .dK ks, vs => kvs = ks.zip vs ∧ ks.length = vs.length
  | .dT kvs, .dT ks, vs => kvs = ks.zip vs ∧ ks.length = vs.length
  | .ins C _ fs, .ins C' ns, vs => C = C' ∧ fs = ns.zip vs ∧ ns.length = vs.length
  | .frz o u, .exn C, vs => u = ExtT ∧ vs = [] ∧ o.cls = .ref C ∧ o.dict = none ∧ ∃ ws, o.data = .fields ws
  | .frz o u, .klst, vs => u = .lst vs
  | .frz o u, .ktp, vs => u = .tup vs ∧ o.cls = .type "tuple" ∧ o.dict = none
  | _, _, _ => False
/-- an object of the module -/
def KNode (K : PySem.W.Frag) (a : Addr) : Tag → List V → Prop
  | .klst, vs => ∀ H, SqL K H a vs
  | .ktp, vs => (∀ H, SqT K H a vs) ∧ ∃ o, K.lookup a = some o ∧ o.cls = .type "tuple" ∧ o.dict = none
  | _, _ => False
/-- a dict may be walked -/
def Rq (H : Hp) (a : Addr) (u : HO) : Prop :=
  match u with
  | .dK _ => Rd H a u
  | .dT _ => Rd H a u
  | _ => H a = some u
def NodeAt (K : PySem.W.Frag) (ρ : List Addr) (H : Hp) (a : Addr) (t : Tag) (vs : List V) : Prop :=
  (∃ u, a ∉ ρ ∧ Rq H a u ∧ IsNode u t vs) ∨ KNode K a t vs

section
variable (K : PySem.W.Frag) (ρ : List Addr) (H : Hp)
mutual
/-- v shows d -/
def DP : D → V → Prop
  | .non, v => v = .non
  | .bl b, v => v = .bl b
  | .int i, v => v = .int i
  | .str s, v => v = .str s
  | .ty t, v => v = .ty t.name
  | .cls C, v => v = .ref C
  | .obj _, _ => False
  | .node t xs, v => ∃ a vs, v = .ref a ∧ NodeAt K ρ H a t vs ∧ DPs xs vs
def DPs : List D → List V → Prop
  | [], vs => vs = []
  | x :: xs, vs => ∃ v r, vs = v :: r ∧ DP x v ∧ DPs xs r
end
end
def DV (K : PySem.W.Frag) (A : AM) (H : Hp) : D → V → Prop
  | .obj n, v => ∃ a, A.adr[n]? = some a ∧ v = .ref a
  | d, v => DP K A.adrs H d v
abbrev DVl (K : PySem.W.Frag) (A : AM) (H : Hp) : List D → List V → Prop := Paired (DV K A H)
/-- none of ours that leans on others -/
def Own1 (u : HO) : Prop := (∀ xs, u ≠ .tup xs) ∧ (∀ ps, u ≠ .tbl ps) ∧ ∀ c q, u ≠ LamX.CodeO c q
structure MemOk (K : PySem.W.Frag) (A : AM) (H : Hp) : Prop where
  nd : A.adrs.Nodup
  ok : ∀ (n : Nat) (a : Addr) (t : Tag) (xs : List D), A.c[n]? = some (a, t, xs) → ∃ u vs, H a = some u ∧ IsNode u t vs ∧ t ≠ .tup ∧ DVl K A H xs vs
  zt : ∀ a ∈ A.z, ∃ u, H a = some u ∧ Own1 u
/-- names hold data and cells -/
def EnvOk (K : PySem.W.Frag) (A : AM) (H : Hp) (env : List (Option D)) (σ : L2.St) : Prop :=
  env.length = σ.length ∧ ∀ (i : Nat) (d : D), env[i]? = some (some d) → ∃ v, σ[i]? = some (some v) ∧ DV K A H d v
/-- what stays -/
structure Ext (T : List (Addr × Str)) (A : AM) (H : Hp) (A' : AM) (H' : Hp) : Prop where
  pre : ∀ (n : Nat) (a : Addr), A.adr[n]? = some a → A'.adr[n]? = some a
  new : ∀ a, a ∈ A'.adr → a ∈ A.adr ∨ H a = none
  zz : A'.z = A.z
  keep : ∀ a w, a ∉ A.adr → H a = some w → (∀ ps, w ≠ .tbl ps) → H' a = some w
  tabs : LamX.Tabs T H → LamX.Tabs T H'
  there : ∀ a, H' a = none → H a = none
structure At (T : List (Addr × Str)) (K : PySem.W.Frag) (A : AM) (H : Hp) (env : List (Option D)) (σ : L2.St) : Prop where
  mem : MemOk K A H
  env : EnvOk K A H env σ
  tabs : LamX.Tabs T H

theorem isNode_ntbl {u : HO} {t : Tag} {vs : List V} (h : IsNode u t vs) : ∀ ps, u ≠ .tbl ps := by
  rintro ps rfl
  cases t <;> exact h
theorem isNode_own {u : HO} {t : Tag} {vs : List V} (h : IsNode u t vs) (nt : t ≠ .tup) : Own1 u := by
  refine ⟨?_, isNode_ntbl h, ?_⟩
  · rintro xs rfl
    cases t <;> first | exact nt rfl | exact h
  · rintro c q rfl
    cases t <;> exact h
theorem Rq.has {H : Hp} {a : Addr} {u : HO} (h : Rq H a u) : ∃ w, H a = some w ∧ (w = u ∨ ∃ o, w = .frz o u) := by
  unfold Rq at h
  split at h
  · rcases h with h | ⟨o, h⟩
    · exact ⟨_, h, .inl rfl⟩
    · exact ⟨_, h, .inr ⟨o, rfl⟩⟩
  · rcases h with h | ⟨o, h⟩
    · exact ⟨_, h, .inl rfl⟩
    · exact ⟨_, h, .inr ⟨o, rfl⟩⟩
  · exact ⟨_, h, .inl rfl⟩
theorem Rq.of {H : Hp} {a : Addr} {u : HO} (h : H a = some u) : Rq H a u := by
  unfold Rq
  split
  · exact .inl h
  · exact .inl h
  · exact h
theorem Rq.keep {H H' : Hp} {a : Addr} {u : HO} (h : Rq H a u) (nt : ∀ ps, u ≠ .tbl ps) (k : ∀ w, H a = some w → (∀ ps, w ≠ .tbl ps) → H' a = some w) : Rq H' a u := by
  unfold Rq at h ⊢
  split at h
  · rcases h with h | ⟨o, h⟩
    · exact .inl (k _ h nt)
    · exact .inr ⟨o, k _ h (by simp)⟩
  · rcases h with h | ⟨o, h⟩
    · exact .inl (k _ h nt)
    · exact .inr ⟨o, k _ h (by simp)⟩
  · exact k _ h nt
theorem AM.ers_get (A : AM) (i : Nat) : A.ers[i]? = A.c[i]?.map (·.2) := by unfold AM.ers; rw [List.getElem?_map]
theorem AM.adr_get (A : AM) (i : Nat) : A.adr[i]? = A.c[i]?.map (·.1) := by unfold AM.adr; rw [List.getElem?_map]
theorem AM.ers_len (A : AM) : A.ers.length = A.c.length := by simp [AM.ers]
theorem AM.adr_len (A : AM) : A.adr.length = A.c.length := by simp [AM.adr]
/-- a cell, by its address -/
theorem AM.cell {A : AM} {n : Nat} {a : Addr} (h : A.adr[n]? = some a) : ∃ t xs, A.c[n]? = some (a, t, xs) := by
  rw [A.adr_get] at h
  cases q : A.c[n]? with
  | none => rw [q] at h; cases h
  | some o =>
    obtain ⟨b, t, xs⟩ := o
    rw [q] at h
    cases h
    exact ⟨t, xs, rfl⟩
theorem AM.adr_at {A : AM} {n : Nat} {a : Addr} {t : Tag} {xs : List D} (h : A.c[n]? = some (a, t, xs)) : A.adr[n]? = some a := by rw [A.adr_get, h]; rfl
theorem AM.adr_mem {A : AM} {n : Nat} {a : Addr} (h : A.adr[n]? = some a) : a ∈ A.adrs := List.mem_append_left _ (List.mem_of_getElem? h)

section
variable {K : PySem.W.Frag} {T : List (Addr × Str)} {A A' : AM} {H H' : Hp}
theorem Ext.refl : Ext T A H A H := ⟨fun _ _ h => h, fun a h => .inl h, rfl, fun _ _ _ h _ => h, id, fun _ h => h⟩
theorem Ext.notin (e : Ext T A H A' H') {a : Addr} {w : HO} (n : a ∉ A.adrs) (h : H a = some w) : a ∉ A'.adrs := fun z => by
  rcases List.mem_append.mp z with z | z
  · rcases e.new a z with z | z
    · exact n (List.mem_append_left _ z)
    · rw [h] at z; cases z
  · rw [e.zz] at z
    exact n (List.mem_append_right _ z)
theorem Ext.keep' (e : Ext T A H A' H') (a : Addr) (w : HO) (n : a ∉ A.adrs) : H a = some w → (∀ ps, w ≠ .tbl ps) → H' a = some w := e.keep a w fun z => n (List.mem_append_left _ z)
theorem NodeAt.keep {ρ ρ' : List Addr} {a : Addr} {t : Tag} {vs : List V} (h : NodeAt K ρ H a t vs) (n : ∀ a w, a ∉ ρ → H a = some w → a ∉ ρ') (k : ∀ a w, a ∉ ρ → H a = some w → (∀ ps, w ≠ .tbl ps) → H' a = some w) : NodeAt K ρ' H' a t vs := by
  rcases h with ⟨u, m, r, i⟩ | h
  · obtain ⟨w, hw, _⟩ := r.has
    exact .inl ⟨u, n a w m hw, r.keep (isNode_ntbl i) (fun w => k a w m), i⟩
  · exact .inr h
mutual
theorem DP.keep {ρ ρ' : List Addr} (n : ∀ a w, a ∉ ρ → H a = some w → a ∉ ρ') (k : ∀ a w, a ∉ ρ → H a = some w → (∀ ps, w ≠ .tbl ps) → H' a = some w) : ∀ {d : D} {v : V}, DP K ρ H d v → DP K ρ' H' d v
  | .non, _, h => h
  | .bl _, _, h => h
  | .int _, _, h => h
  | .str _, _, h => h
  | .ty _, _, h => h
  | .cls _, _, h => h
  | .obj _, _, h => h.elim
  | .node t xs, v, h => by
    obtain ⟨a, vs, ea, na, ds⟩ := h
    exact ⟨a, vs, ea, na.keep n k, DPs.keep n k ds⟩
theorem DPs.keep {ρ ρ' : List Addr} (n : ∀ a w, a ∉ ρ → H a = some w → a ∉ ρ') (k : ∀ a w, a ∉ ρ → H a = some w → (∀ ps, w ≠ .tbl ps) → H' a = some w) : ∀ {xs : List D} {vs : List V}, DPs K ρ H xs vs → DPs K ρ' H' xs vs
  | [], _, h => h
  | x :: xs, vs, h => by
    obtain ⟨v, r, ev, d, ds⟩ := h
    exact ⟨v, r, ev, DP.keep n k d, DPs.keep n k ds⟩
end
theorem DP.ext (e : Ext T A H A' H') {d : D} {v : V} (h : DP K A.adrs H d v) : DP K A'.adrs H' d v := h.keep (fun a w n q => e.notin n q) e.keep'
theorem DPs.ext (e : Ext T A H A' H') {d : List D} {v : List V} (h : DPs K A.adrs H d v) : DPs K A'.adrs H' d v := h.keep (fun a w n q => e.notin n q) e.keep'
theorem Ext.trans {A1 H1} (e : Ext T A H A1 H1) (f : Ext T A1 H1 A' H') : Ext T A H A' H' := by
  refine ⟨fun n a h => f.pre n a (e.pre n a h), fun a h => ?_, f.zz.trans e.zz, fun a w n h q => f.keep a w (fun z => ?_) (e.keep a w n h q) q, fun t => f.tabs (e.tabs t), fun a h => e.there a (f.there a h)⟩
  · rcases f.new a h with z | z
    · exact e.new a z
    · exact .inr (e.there a z)
  · rcases e.new a z with z | z
    · exact n z
    · rw [h] at z; cases z
/-- data that is no cell -/
theorem DV.dp {d : D} {v : V} (h : DV K A H d v) (n : ∀ k, d ≠ .obj k) : DP K A.adrs H d v := by
  cases d with
  | obj k => exact absurd rfl (n k)
  | _ => exact h
theorem DP.dv {d : D} {v : V} (h : DP K A.adrs H d v) : DV K A H d v := by
  cases d with
  | obj k => exact h.elim
  | _ => exact h
/-- from one memory to another -/
theorem DV.mono {d : D} {v : V} (h : DV K A H d v) (p : ∀ (n : Nat) (a : Addr), A.adr[n]? = some a → A'.adr[n]? = some a) (q : ∀ {d v}, DP K A.adrs H d v → DP K A'.adrs H' d v) : DV K A' H' d v := by
  by_cases z : ∃ n, d = .obj n
  · obtain ⟨n, rfl⟩ := z
    obtain ⟨a, h1, h2⟩ := h
    exact ⟨a, p n a h1, h2⟩
  · exact (q (h.dp fun k e => z ⟨k, e⟩)).dv
theorem DV.ext (e : Ext T A H A' H') {d : D} {v : V} (h : DV K A H d v) : DV K A' H' d v := h.mono e.pre fun q => q.ext e
theorem Paired.imp {α β : Type} {F G : α → β → Prop} (i : ∀ a b, F a b → G a b) : ∀ {xs : List α} {vs : List β}, Paired F xs vs → Paired G xs vs
  | _, _, .nil => .nil
  | _, _, .cons r t => .cons (i _ _ r) (Paired.imp i t)
theorem DVl.mono {xs : List D} {vs : List V} (h : DVl K A H xs vs) (p : ∀ (n : Nat) (a : Addr), A.adr[n]? = some a → A'.adr[n]? = some a) (q : ∀ {d v}, DP K A.adrs H d v → DP K A'.adrs H' d v) : DVl K A' H' xs vs := Paired.imp (fun _ _ r => DV.mono r p q) h
theorem DVl.ext (e : Ext T A H A' H') {xs : List D} {vs : List V} (h : DVl K A H xs vs) : DVl K A' H' xs vs := Paired.imp (fun _ _ q => DV.ext e q) h
theorem EnvOk.ext {env : List (Option D)} {σ : L2.St} (e : Ext T A H A' H') (h : EnvOk K A H env σ) : EnvOk K A' H' env σ :=
  ⟨h.1, fun i d q => let ⟨v, q1, q2⟩ := h.2 i d q; ⟨v, q1, q2.ext e⟩⟩
theorem At.ext {env : List (Option D)} {σ : L2.St} (a : At T K A H env σ) (e : Ext T A H A' H') (m : MemOk K A' H') : At T K A' H' env σ :=
  ⟨m, a.env.ext e, e.tabs a.tabs⟩
theorem MemOk.has (m : MemOk K A H) {a : Addr} (h : a ∈ A.adrs) : ∃ u, H a = some u ∧ Own1 u := by
  rcases List.mem_append.mp h with h | h
  · obtain ⟨n, hn⟩ := List.mem_iff_getElem?.mp h
    obtain ⟨t, xs, q⟩ := AM.cell hn
    obtain ⟨u, vs, hu, i, nt, _⟩ := m.ok n a t xs q
    exact ⟨u, hu, isNode_own i nt⟩
  · exact m.zt a h
theorem MemOk.out (m : MemOk K A H) {a : Addr} (h : H a = none) : a ∉ A.adrs := fun z => by
  obtain ⟨u, q, _⟩ := m.has z
  rw [q] at h; cases h
/-- a new thing that is no cell -/
theorem Ext.laid {p : Addr} {u : HO} (h : H p = none) : Ext T A H A (upd H p u) := by
  have nn : ∀ a o, H a = some o → a ≠ p := fun a o q z => by subst z; rw [h] at q; cases q
  refine ⟨fun _ _ h => h, fun a h => .inl h, rfl, fun a w n q _ => by rw [upd_ne (nn _ _ q)]; exact q, fun t => t.ext fun b o q => by rw [upd_ne (nn b o q)]; exact q, fun a q => ?_⟩
  by_cases z : a = p
  · subst z; exact h
  · rw [upd_ne z] at q; exact q
/-- the cells stand where nothing of theirs was touched -/
theorem MemOk.keep (m : MemOk K A H) (k : ∀ a w, H a = some w → (∀ ps, w ≠ .tbl ps) → H' a = some w) : MemOk K A H' := by
  refine ⟨m.nd, fun n a t xs q => ?_, fun a ha => ?_⟩
  · obtain ⟨u, vs, hu, i, nt, dv⟩ := m.ok n a t xs q
    exact ⟨u, vs, k a u hu (isNode_ntbl i), i, nt, Paired.imp (fun _ _ q => DV.mono q (fun _ _ h => h) fun q => q.keep (fun _ _ n _ => n) fun a w _ => k a w) dv⟩
  · obtain ⟨u, hu, ow⟩ := m.zt a ha
    exact ⟨u, k a u hu ow.2.1, ow⟩
theorem MemOk.laid {p : Addr} {u : HO} (m : MemOk K A H) (h : H p = none) : MemOk K A (upd H p u) :=
  m.keep fun a w q _ => by rw [upd_ne (fun z => by subst z; rw [h] at q; cases q)]; exact q
/-- a new container -/
theorem DP.laid {p : Addr} {u : HO} {t : Tag} {xs : List D} {vs : List V} (m : MemOk K A H) (h : H p = none) (i : IsNode u t vs) (d : DPs K A.adrs H xs vs) : DP K A.adrs (upd H p u) (.node t xs) (.ref p) :=
  ⟨p, vs, rfl, .inl ⟨u, m.out h, Rq.of upd_same, i⟩, d.ext (Ext.laid (T := []) h)⟩
end

/-! ### outcomes -/
/-- an exception: its class, what is kept of it -/
structure Ex where
  C : Addr
  d : Option D := none
inductive R (α : Type) where
  | ok (a : α) (M : Mem)
  | exc (x : Ex) (M : Mem)
  | stuck
def R.bind {α β : Type} : R α → (α → Mem → R β) → R β
  | .ok a M, k => k a M
  | .exc x M, _ => .exc x M
  | .stuck, _ => .stuck
/-- where no exception is wanted -/
def R.calm {α : Type} : R α → R α
  | .ok a M => .ok a M
  | _ => .stuck
abbrev Env := List (Option D)
abbrev Ev := Env → Mem → R D
def ExcOk (K : PySem.W.Frag) (A : AM) (H : Hp) (x : Ex) (cls : Value) (dd : Option Addr) : Prop :=
  cls = .ref x.C ∧ (x.d = none → dd = none) ∧ ∀ d, x.d = some d → ∃ q v, dd = some q ∧ H q = some (.xd [("line", v)]) ∧ DP K A.adrs H d v
/-- what follows of an outcome -/
def Po (W : XK) (T : List (Addr × Str)) (K : PySem.W.Frag) (A : AM) (H : Hp) (r : R D) (Q : VK) : Prop :=
  match r with
  | .ok d M' => ∀ A' H' v, M' = A'.ers → Ext T A H A' H' → MemOk K A' H' → DV K A' H' d v → Q v H'
  | .exc x M' => ∀ A' H' cls dd, M' = A'.ers → Ext T A H A' H' → MemOk K A' H' → ExcOk K A' H' x cls dd → W cls dd H'
  | .stuck => False
/-- the reading of an expression -/
def RdE (W : XK) (T : List (Addr × Str)) (K : PySem.W.Frag) (m : Ev) : TE := fun σ H Q => ∃ A env, At T K A H env σ ∧ Po W T K A H (m env A.ers) Q
def W0 : XK := fun _ _ _ => False
theorem _root_.L2.PE.imp {X : Cx} {e : Expr} {t t' : TE} (h : PE X e t) (i : ∀ σ H Q, t' σ H Q → t σ H Q) : PE X e t' := ⟨fun pins s σ H Q I q => h.run pins s σ H Q I (i σ H Q q)⟩
theorem _root_.L2.PT.imp {X : Cx} {e : Expr} {t t' : TT} (h : PT X e t) (i : ∀ σ H Q, t' σ H Q → t σ H Q) : PT X e t' := ⟨fun pins s σ H Q I q => h.run pins s σ H Q I (i σ H Q q)⟩
theorem _root_.L2.PA.imp {X : Cx} {e : List Expr} {t t' : TA} (h : PA X e t) (i : ∀ σ H Q, t' σ H Q → t σ H Q) : PA X e t' := ⟨fun pos pins s σ H Q I q => h.run pos pins s σ H Q I (i σ H Q q)⟩
theorem _root_.L2.PS.imp {X : Cx} {e : Stmt} {t t' : TS} (h : PS X e t) (i : ∀ D σ H, t' D σ H → t D σ H) : PS X e t' := ⟨fun pins s σ H D I q => h.run pins s σ H D I (i D σ H q)⟩
theorem _root_.L2.PSs.imp {X : Cx} {e : List Stmt} {t t' : TS} (h : PSs X e t) (i : ∀ D σ H, t' D σ H → t D σ H) : PSs X e t' := ⟨fun pins s σ H D I q => h.run pins s σ H D I (i D σ H q)⟩

section
variable {W : XK} {T : List (Addr × Str)} {K : PySem.W.Frag} {A A' : AM} {H H' : Hp} {env : Env} {σ : L2.St} {Q : VK} {m : Ev} {k : D → Mem → R D} {r : R D}
theorem Po.ext (e : Ext T A H A' H') (h : Po W T K A H r Q) : Po W T K A' H' r Q := by
  cases r with
  | ok d M' => exact fun A2 H2 v q e2 => h A2 H2 v q (e.trans e2)
  | exc x M' => exact fun A2 H2 c d q e2 => h A2 H2 c d q (e.trans e2)
  | stuck => exact h
theorem Po.fin {d : D} {v : V} (h : Po W T K A H (.ok d A.ers) Q) (a : MemOk K A H) (dv : DV K A H d v) : Q v H := h A H v rfl Ext.refl a dv
/-- one expression, then what is done with its value -/
theorem Po.step (a : At T K A H env σ) (h : Po W T K A H ((m env A.ers).bind k) Q) :
    RdE W T K m σ H fun v H1 => ∃ A1 d, Ext T A H A1 H1 ∧ At T K A1 H1 env σ ∧ DV K A1 H1 d v ∧ Po W T K A1 H1 (k d A1.ers) Q := by
  refine ⟨A, env, a, ?_⟩
  cases q : m env A.ers with
  | ok d M' =>
    rw [q] at h
    intro A1 H1 v eM e mo dv
    refine ⟨A1, d, e, a.ext e mo, dv, ?_⟩
    have h' : Po W T K A H (k d M') Q := h
    rw [← eM]
    exact h'.ext e
  | exc x M' =>
    rw [q] at h
    exact h
  | stuck =>
    rw [q] at h
    exact h
theorem Po.mono {Q' : VK} (h : Po W T K A H r Q) (i : ∀ v H, Q v H → Q' v H) : Po W T K A H r Q' := by
  cases r with
  | ok d M' => exact fun A2 H2 v q e2 m dv => i _ _ (h A2 H2 v q e2 m dv)
  | exc x M' => exact h
  | stuck => exact h
theorem RdE.mono {Q' : VK} (h : RdE W T K m σ H Q) (i : ∀ v H, Q v H → Q' v H) : RdE W T K m σ H Q' :=
  let ⟨A, env, a, p⟩ := h
  ⟨A, env, a, p.mono i⟩
/-- a value that is laid new -/
theorem Po.node {p : Addr} {u : HO} {t : Tag} {xs : List D} {vs : List V} (h : Po W T K A H (.ok (.node t xs) A.ers) Q) (a : MemOk K A H) (n : H p = none) (i : IsNode u t vs) (d : DPs K A.adrs H xs vs) : Q (.ref p) (upd H p u) :=
  h A _ _ rfl (Ext.laid n) (a.laid n) (DP.laid a n i d).dv
end
end TB

set_option Elab.async false
set_option linter.all false
set_option maxRecDepth 100000
set_option maxHeartbeats 4000000
namespace TB
open PySem PySem.Spec PyProof.Rows L2

/-- what every rule asks of the context -/
structure Cok (X : Cx) (W : XK) (T : List (Addr × Str)) : Prop where
  calm : X.calm = true
  nd : X.N.Nodup
  un : X.A.units + 200 < cLine
  gd : X.A.guards = some []
  tk : L2.Takes X (fun c d _ H => W c d H)

/-! ### looking into a container -/
def look (M : Mem) : D → Option (Tag × List D)
  | .node t xs => some (t, xs)
  | .obj n => M[n]?
  | _ => none
/-- a value that shows a container -/
def ReadAt (K : PySem.W.Frag) (H : Hp) (a : Addr) (t : Tag) (vs : List V) : Prop := (∃ u, Rq H a u ∧ IsNode u t vs) ∨ KNode K a t vs
section
variable {K : PySem.W.Frag} {T : List (Addr × Str)} {A A' : AM} {H H' : Hp}
theorem DPs.dvl : ∀ {xs : List D} {vs : List V}, DPs K A.adrs H xs vs → DVl K A H xs vs
  | [], _, h => by cases (show _ = [] from h); exact .nil
  | x :: xs, _, h => by
    obtain ⟨v, r, rfl, d, ds⟩ := h
    exact .cons d.dv (DPs.dvl ds)
theorem look_at (m : MemOk K A H) {d : D} {v : V} (h : DV K A H d v) {t : Tag} {xs : List D} (e : look A.ers d = some (t, xs)) : ∃ a vs, v = .ref a ∧ ReadAt K H a t vs ∧ DVl K A H xs vs := by
  cases d with
  | node t' xs' =>
    cases e
    obtain ⟨a, vs, ea, na, ds⟩ := h
    refine ⟨a, vs, ea, ?_, ds.dvl⟩
    rcases na with ⟨u, _, r, i⟩ | k
    · exact .inl ⟨u, r, i⟩
    · exact .inr k
  | obj n =>
    obtain ⟨a, h1, rfl⟩ := h
    obtain ⟨t', xs', h2⟩ := AM.cell h1
    have e : A.ers[n]? = some (t, xs) := e
    rw [A.ers_get, h2] at e
    cases e
    obtain ⟨u, vs, hu, i, nt, dv⟩ := m.ok n a _ _ h2
    exact ⟨a, vs, rfl, .inl ⟨u, Rq.of hu, i⟩, dv⟩
  | _ => cases e
theorem ReadAt.tupH {a : Addr} {vs : List V} (h : ReadAt K H a .tup vs) : H a = some (.tup vs) := by
  rcases h with ⟨u, r, i⟩ | k
  · cases u <;> first | exact i.elim | skip
    cases (show _ = vs from i)
    exact r
  · exact k.elim
theorem ReadAt.tup {a : Addr} {vs : List V} (h : ReadAt K H a .tup vs) : SqT K H a vs := .inl (.inl h.tupH)
theorem ReadAt.ktp {a : Addr} {vs : List V} (h : ReadAt K H a .ktp vs) : SqT K H a vs := by
  rcases h with ⟨u, r, i⟩ | k
  · cases u <;> first | exact i.elim | skip
    obtain ⟨i, _, _⟩ := i
    subst i
    exact .inl (.inr ⟨_, r⟩)
  · exact k.1 H
theorem ReadAt.klst {a : Addr} {vs : List V} (h : ReadAt K H a .klst vs) : SqL K H a vs := by
  rcases h with ⟨u, r, i⟩ | k
  · cases u <;> first | exact i.elim | skip
    · cases (show _ = vs from i)
      exact .inl (.inl r)
    · cases (show _ = HO.lst vs from i)
      exact .inl (.inr ⟨_, r⟩)
  · exact k H
theorem ReadAt.lst {a : Addr} {vs : List V} (h : ReadAt K H a .lst vs) : SqL K H a vs := by
  rcases h with ⟨u, r, i⟩ | k
  · cases u <;> first | exact i.elim | skip
    cases (show _ = vs from i)
    exact .inl (.inl r)
  · exact k.elim
theorem ReadAt.lstH {a : Addr} {vs : List V} (h : ReadAt K H a .lst vs) : H a = some (.lst vs) := by
  rcases h with ⟨u, r, i⟩ | k
  · cases u <;> first | exact i.elim | skip
    cases (show _ = vs from i)
    exact r
  · exact k.elim
theorem ReadAt.dK {a : Addr} {ks : List Key} {vs : List V} (h : ReadAt K H a (.dK ks) vs) : Rd H a (.dK (ks.zip vs)) ∧ ks.length = vs.length := by
  rcases h with ⟨u, r, i⟩ | k
  · cases u <;> first | exact i.elim | skip
    obtain ⟨rfl, l⟩ := i
    exact ⟨r, l⟩
  · exact k.elim
theorem ReadAt.dT {a : Addr} {ks : List (List Key)} {vs : List V} (h : ReadAt K H a (.dT ks) vs) : Rd H a (.dT (ks.zip vs)) ∧ ks.length = vs.length := by
  rcases h with ⟨u, r, i⟩ | k
  · cases u <;> first | exact i.elim | skip
    obtain ⟨rfl, l⟩ := i
    exact ⟨r, l⟩
  · exact k.elim
theorem ReadAt.ins {a C : Addr} {ns : List Str} {vs : List V} (h : ReadAt K H a (.ins C ns) vs) : ∃ dx, H a = some (.ins C dx (ns.zip vs)) ∧ ns.length = vs.length := by
  rcases h with ⟨u, r, i⟩ | k
  · cases u <;> first | exact i.elim | skip
    obtain ⟨rfl, rfl, l⟩ := i
    exact ⟨_, r, l⟩
  · exact k.elim
theorem Paired.get {α β : Type} {F : α → β → Prop} : ∀ {xs : List α} {vs : List β} {i : Nat} {x : α}, Paired F xs vs → xs[i]? = some x → ∃ v, vs[i]? = some v ∧ F x v
  | _, _, _, _, .nil, e => by simp at e
  | _, _, 0, _, .cons r _, e => by simp at e; subst e; exact ⟨_, rfl, r⟩
  | _, _, i + 1, x, .cons _ t, e => by
    obtain ⟨u, h1, h2⟩ := Paired.get (i := i) (x := x) t (by simpa using e)
    exact ⟨u, by simpa using h1, h2⟩
theorem Paired.len {α β : Type} {F : α → β → Prop} : ∀ {xs : List α} {vs : List β}, Paired F xs vs → xs.length = vs.length
  | _, _, .nil => rfl
  | _, _, .cons _ t => by simp [Paired.len t]
/-- data that may be put into a container -/
def still : D → Bool
  | .obj _ => false
  | _ => true
theorem still_n {d : D} (h : still d = true) : ∀ k, d ≠ .obj k := by
  rintro k rfl
  cases h
theorem dps_of : ∀ {xs : List D} {vs : List V}, DVl K A H xs vs → xs.all still = true → DPs K A.adrs H xs vs
  | _, _, .nil, _ => rfl
  | x :: xs, _, .cons r t, h => by
    rw [List.all_cons, Bool.and_eq_true] at h
    exact ⟨_, _, rfl, r.dp (still_n h.1), dps_of t h.2⟩
end

/-! ### names, constants -/
section
variable {X : Cx} {W : XK} {T : List (Addr × Str)} {a b c : Expr} {pos : Pos}
def mVar (i : Nat) : Ev := fun env M => match env[i]? with
  | some (some d) => .ok d M
  | _ => .stuck
theorem e_var {i : Nat} {x : Str} (h : PE X (.Name x pos) (tVar i)) : PE X (.Name x pos) (RdE W T X.K (mVar i)) := h.imp fun σ H Q ⟨A, env, a, p⟩ => by
  unfold mVar at p
  split at p
  · rename_i d e
    obtain ⟨v, h1, h2⟩ := a.env.2 i d e
    exact ⟨v, h1, p.fin a.mem h2⟩
  · exact p.elim
def mC (d : D) : Ev := fun _ M => .ok d M
theorem e_con {e : Expr} {v : V} {d : D} (h : PE X e (tC v)) (hd : ∀ ρ H, DP X.K ρ H d v) : PE X e (RdE W T X.K (mC d)) := h.imp fun σ H Q ⟨A, env, a, p⟩ => p.fin a.mem (hd _ _).dv
theorem e_int {i : Int} {j} : PE X (.Constant (.int i) j pos) (RdE W T X.K (mC (.int i))) := e_con pe_int fun _ _ => rfl
theorem e_bl {i : Bool} {j} : PE X (.Constant (.bool i) j pos) (RdE W T X.K (mC (.bl i))) := e_con pe_bl fun _ _ => rfl
theorem e_non {j} : PE X (.Constant .none j pos) (RdE W T X.K (mC .non)) := e_con pe_non fun _ _ => rfl
theorem e_str {i : Str} {j} : PE X (.Constant (.str i) j pos) (RdE W T X.K (mC (.str i))) := e_con pe_str fun _ _ => rfl

/-! ### operators -/
abbrev Op2 := D → D → Mem → R D
def Rd2 (W : XK) (T : List (Addr × Str)) (K : PySem.W.Frag) (g : Op2) : R2 := fun x y H Q => ∃ A d e, MemOk K A H ∧ LamX.Tabs T H ∧ DV K A H d x ∧ DV K A H e y ∧ Po W T K A H (g d e A.ers) Q
def mOp (g : Op2) (ma mb : Ev) : Ev := fun env M => (ma env M).bind fun d M1 => (mb env M1).bind fun e M2 => g d e M2
theorem op_bind {ma mb : Ev} {g : Op2} {σ : L2.St} {H : Hp} {Q : VK} (h : RdE W T X.K (mOp g ma mb) σ H Q) :
    RdE W T X.K ma σ H fun x H1 => RdE W T X.K mb σ H1 fun y H2 => Rd2 W T X.K g x y H2 Q := by
  obtain ⟨A, env, a, p⟩ := h
  refine (Po.step a p).mono fun x H1 ⟨A1, d, e, a1, dv, p1⟩ => ?_
  exact (Po.step a1 p1).mono fun y H2 ⟨A2, d2, e2, a2, dv2, p2⟩ => ⟨A2, d, d2, a2.mem, a2.tabs, dv.ext e2, dv2, p2⟩
theorem e_op {op : Operator} {ma mb : Ev} {g : Op2} (ho : OpR X (binaryOp op) (Rd2 W T X.K g)) (ha : PE X a (RdE W T X.K ma)) (hb : PE X b (RdE W T X.K mb)) : PE X (.BinOp a op b pos) (RdE W T X.K (mOp g ma mb)) :=
  (pe_op ho ha hb).imp fun _ _ _ h => op_bind h
theorem e_cmp {op : CmpOp} {ma mb : Ev} {g : Op2} (ho : OpR X (compareOp op) (Rd2 W T X.K g)) (ha : PE X a (RdE W T X.K ma)) (hb : PE X b (RdE W T X.K mb)) (hm : behindInMarks op b = false) : PE X (.Compare a [op] [b] pos) (RdE W T X.K (mOp g ma mb)) :=
  (pe_cmpR ho ha hb hm).imp fun _ _ _ h => op_bind h
/-- a1 op b op' c -/
def mChain (g g' : Op2) (ma mb mc : Ev) : Ev := fun env M => (ma env M).bind fun d M1 => (mb env M1).bind fun e M2 => (g d e M2).bind fun z M3 => match z with
  | .bl true => (mc env M3).bind fun f M4 => g' e f M4
  | .bl false => .ok (.bl false) M3
  | _ => .stuck
/-- the operator's own outcome -/
theorem po_bind {A : AM} {H : Hp} {Q : VK} {r : R D} {k : D → Mem → R D} (h : Po W T X.K A H (r.bind k) Q) :
    Po W T X.K A H r fun v H1 => ∃ A1 d, Ext T A H A1 H1 ∧ MemOk X.K A1 H1 ∧ DV X.K A1 H1 d v ∧ Po W T X.K A1 H1 (k d A1.ers) Q := by
  cases r with
  | ok d M' =>
    intro A1 H1 v eM e mo dv
    refine ⟨A1, d, e, mo, dv, ?_⟩
    rw [← eM]
    exact Po.ext e h
  | exc x M' => exact h
  | stuck => exact h
theorem e_chain {op op' : CmpOp} {ma mb mc : Ev} {g g' : Op2} (ho : OpR X (compareOp op) (Rd2 W T X.K g)) (ho' : OpR X (compareOp op') (Rd2 W T X.K g')) (ha : PE X a (RdE W T X.K ma)) (hb : PE X b (RdE W T X.K mb)) (hc : PE X c (RdE W T X.K mc))
    (hm : lastMarks [op, op'] [b, c] = false := by with_unfolding_all rfl) : PE X (.Compare a [op, op'] [b, c] pos) (RdE W T X.K (mChain g g' ma mb mc)) := by
  refine (pe_chain ho ho' ha hb hc hm).imp fun σ H Q h => ?_
  obtain ⟨A, env, at0, p⟩ := h
  refine (Po.step at0 p).mono fun x H1 ⟨A1, d, e, a1, dv, p1⟩ => ?_
  refine (Po.step a1 p1).mono fun y H2 ⟨A2, d2, e2, a2, dv2, p2⟩ => ?_
  refine ⟨A2, d, d2, a2.mem, a2.tabs, dv.ext e2, dv2, (po_bind p2).mono fun z H3 ⟨A3, d3, e3, m3, dv3, p3⟩ => ?_⟩
  have a3 := a2.ext e3 m3
  cases d3 with
  | bl k =>
    cases (show z = V.bl k from dv3)
    refine ⟨k, rfl, ?_⟩
    cases k with
    | true =>
      rw [if_pos rfl]
      exact (Po.step a3 p3).mono fun y4 H4 ⟨A4, d4, e4, a4, dv4, p4⟩ => ⟨A4, d2, d4, a4.mem, a4.tabs, (dv2.ext e3).ext e4, dv4, p4⟩
    | false =>
      rw [if_neg (by decide)]
      exact p3.fin m3 rfl
  | _ => exact p3.elim
end
end TB

set_option Elab.async false
set_option linter.all false
set_option maxRecDepth 100000
set_option maxHeartbeats 4000000
namespace TB
open PySem PySem.Spec PyProof.Rows L2
section
variable {X : Cx} {W : XK} {T : List (Addr × Str)} {a b c : Expr} {pos : Pos} {ma mb mc : Ev} {rest : List Expr}
/-! ### tests, and, or, not, if -/
def RdT (W : XK) (T : List (Addr × Str)) (K : PySem.W.Frag) (m : Ev) : TT := fun σ H Q => RdE W T K m σ H fun v H' => ∃ k, v = .bl k ∧ Q k H'
theorem t_val (h : PE X a (RdE W T X.K ma)) (he : ∀ whole, isTrue a X.env whole = (do let v ← whole; standAt a.pos; holding [v] (truthy v)) := by intro _; rfl) : PT X a (RdT W T X.K ma) := pt_val h he
theorem t_cmp {op : CmpOp} {g : Op2} (ho : OpR X (compareOp op) (Rd2 W T X.K g)) (ha : PE X a (RdE W T X.K ma)) (hb : PE X b (RdE W T X.K mb)) (hm : behindInMarks op b = false) : PT X (.Compare a [op] [b] pos) (RdT W T X.K (mOp g ma mb)) :=
  (pt_cmpR ho ha hb hm).imp fun _ _ _ h => op_bind h
theorem t_chain {op op' : CmpOp} {g g' : Op2} (ho : OpR X (compareOp op) (Rd2 W T X.K g)) (ho' : OpR X (compareOp op') (Rd2 W T X.K g')) (ha : PE X a (RdE W T X.K ma)) (hb : PE X b (RdE W T X.K mb)) (hc : PE X c (RdE W T X.K mc))
    (hm : lastMarks [op, op'] [b, c] = false := by with_unfolding_all rfl) : PT X (.Compare a [op, op'] [b, c] pos) (RdT W T X.K (mChain g g' ma mb mc)) := by
  refine (pt_chain ho ho' ha hb hc hm).imp fun σ H Q h => ?_
  obtain ⟨A, env, at0, p⟩ := h
  refine (Po.step at0 p).mono fun x H1 ⟨A1, d, e, a1, dv, p1⟩ => ?_
  refine (Po.step a1 p1).mono fun y H2 ⟨A2, d2, e2, a2, dv2, p2⟩ => ?_
  refine ⟨A2, d, d2, a2.mem, a2.tabs, dv.ext e2, dv2, (po_bind p2).mono fun z H3 ⟨A3, d3, e3, m3, dv3, p3⟩ => ?_⟩
  have a3 := a2.ext e3 m3
  cases d3 with
  | bl k =>
    cases (show z = V.bl k from dv3)
    refine ⟨k, rfl, ?_⟩
    cases k with
    | true =>
      rw [if_pos rfl]
      exact (Po.step a3 p3).mono fun y4 H4 ⟨A4, d4, e4, a4, dv4, p4⟩ => ⟨A4, d2, d4, a4.mem, a4.tabs, (dv2.ext e3).ext e4, dv4, p4⟩
    | false =>
      rw [if_neg (by decide)]
      exact p3.fin m3 rfl
  | _ => exact p3.elim
def mAnd (ma mb : Ev) : Ev := fun env M => (ma env M).bind fun d M1 => match d with
  | .bl true => mb env M1
  | .bl false => .ok (.bl false) M1
  | _ => .stuck
def mOr (ma mb : Ev) : Ev := fun env M => (ma env M).bind fun d M1 => match d with
  | .bl true => .ok (.bl true) M1
  | .bl false => mb env M1
  | _ => .stuck
def mNot (ma : Ev) : Ev := fun env M => (ma env M).bind fun d M1 => match d with
  | .bl k => .ok (.bl (!k)) M1
  | _ => .stuck
def mIf (mc ma mb : Ev) : Ev := fun env M => (mc env M).bind fun d M1 => match d with
  | .bl true => ma env M1
  | .bl false => mb env M1
  | _ => .stuck
/-- a test, then what is done -/
theorem po_test {A : AM} {H : Hp} {Q : VK} {env : Env} {σ : L2.St} {k : D → Mem → R D} (a : At T X.K A H env σ) (h : Po W T X.K A H ((ma env A.ers).bind k) Q) (nb : ∀ d M, (∀ b, d ≠ .bl b) → k d M = .stuck) :
    RdT W T X.K ma σ H fun b H1 => ∃ A1, Ext T A H A1 H1 ∧ At T X.K A1 H1 env σ ∧ Po W T X.K A1 H1 (k (.bl b) A1.ers) Q := by
  refine (Po.step a h).mono fun x H1 ⟨A1, d, e, a1, dv, p1⟩ => ?_
  by_cases hd : ∃ b, d = .bl b
  · obtain ⟨b, rfl⟩ := hd
    exact ⟨b, dv, A1, e, a1, p1⟩
  · rw [nb d _ fun b e => hd ⟨b, e⟩] at p1
    exact p1.elim
theorem RdT.mono {σ : L2.St} {H : Hp} {Q Q' : Bool → Hp → Prop} (h : RdT W T X.K ma σ H Q) (i : ∀ b H, Q b H → Q' b H) : RdT W T X.K ma σ H Q' :=
  RdE.mono h fun _ _ ⟨k, e, q⟩ => ⟨k, e, i _ _ q⟩
theorem w_and1 (ha : PT X a (RdT W T X.K ma)) : PW X (.BoolOp .And [a] pos) (RdT W T X.K ma) := pw_and1 ha
theorem w_or1 (ha : PT X a (RdT W T X.K ma)) : PW X (.BoolOp .Or [a] pos) (RdT W T X.K ma) := pw_or1 ha
theorem _root_.L2.PW.imp {X : Cx} {e : Expr} {t t' : TT} (h : PW X e t) (i : ∀ σ H Q, t' σ H Q → t σ H Q) : PW X e t' := ⟨fun w pins s σ H Q I q => h.run w pins s σ H Q I (i σ H Q q)⟩
theorem and_bind {σ : L2.St} {H : Hp} {Q : Bool → Hp → Prop} (h : RdT W T X.K (mAnd ma mb) σ H Q) : tAnd (RdT W T X.K ma) (RdT W T X.K mb) σ H Q := by
  obtain ⟨A, env, a, p⟩ := h
  refine (po_test a p fun d M n => by cases d <;> first | rfl | exact absurd rfl (n _)).mono fun b H1 ⟨A1, e, a1, p1⟩ => ?_
  cases b with
  | true => rw [if_pos rfl]; exact ⟨A1, env, a1, p1⟩
  | false =>
    rw [if_neg (by decide)]
    obtain ⟨k, e, q⟩ := p1.fin a1.mem (v := .bl false) rfl
    cases e
    exact q
theorem or_bind {σ : L2.St} {H : Hp} {Q : Bool → Hp → Prop} (h : RdT W T X.K (mOr ma mb) σ H Q) : tOr (RdT W T X.K ma) (RdT W T X.K mb) σ H Q := by
  obtain ⟨A, env, a, p⟩ := h
  refine (po_test a p fun d M n => by cases d <;> first | rfl | exact absurd rfl (n _)).mono fun b H1 ⟨A1, e, a1, p1⟩ => ?_
  cases b with
  | false => rw [if_neg (by decide)]; exact ⟨A1, env, a1, p1⟩
  | true =>
    rw [if_pos rfl]
    obtain ⟨k, e, q⟩ := p1.fin a1.mem (v := .bl true) rfl
    cases e
    exact q
theorem w_and (ha : PT X a (RdT W T X.K ma)) (hb : PW X (.BoolOp .And (b :: rest) pos) (RdT W T X.K mb)) : PW X (.BoolOp .And (a :: b :: rest) pos) (RdT W T X.K (mAnd ma mb)) := (pw_and ha hb).imp fun _ _ _ h => and_bind h
theorem w_or (ha : PT X a (RdT W T X.K ma)) (hb : PW X (.BoolOp .Or (b :: rest) pos) (RdT W T X.K mb)) : PW X (.BoolOp .Or (a :: b :: rest) pos) (RdT W T X.K (mOr ma mb)) := (pw_or ha hb).imp fun _ _ _ h => or_bind h
theorem t_not (ha : PT X a (RdT W T X.K ma)) : PT X (.UnaryOp .Not a pos) (RdT W T X.K (mNot ma)) := (pt_not ha).imp fun σ H Q h => by
  obtain ⟨A, env, at0, p⟩ := h
  refine (po_test at0 p fun d M n => by cases d <;> first | rfl | exact absurd rfl (n _)).mono fun b H1 ⟨A1, e, a1, p1⟩ => ?_
  obtain ⟨k, e, q⟩ := p1.fin a1.mem (v := .bl (!b)) rfl
  cases e
  exact q
/-- .. as values -/
theorem e_one {op} (ha : PE X a (RdE W T X.K ma)) : PE X (.BoolOp op [a] pos) (RdE W T X.K ma) := pe_one ha
theorem e_and (ha : PE X a (RdE W T X.K ma)) (hb : PE X (.BoolOp .And (b :: rest) pos) (RdE W T X.K mb)) : PE X (.BoolOp .And (a :: b :: rest) pos) (RdE W T X.K (mAnd ma mb)) := (pe_and ha hb).imp fun σ H Q h => by
  obtain ⟨A, env, at0, p⟩ := h
  refine (po_test at0 p fun d M n => by cases d <;> first | rfl | exact absurd rfl (n _)).mono fun v H1 ⟨A1, e, a1, p1⟩ => ?_
  cases v with
  | true => rw [if_pos rfl]; exact ⟨A1, env, a1, p1⟩
  | false => rw [if_neg (by decide)]; exact p1.fin a1.mem rfl
theorem e_or (ha : PE X a (RdE W T X.K ma)) (hb : PE X (.BoolOp .Or (b :: rest) pos) (RdE W T X.K mb)) : PE X (.BoolOp .Or (a :: b :: rest) pos) (RdE W T X.K (mOr ma mb)) := (pe_or ha hb).imp fun σ H Q h => by
  obtain ⟨A, env, at0, p⟩ := h
  refine (po_test at0 p fun d M n => by cases d <;> first | rfl | exact absurd rfl (n _)).mono fun v H1 ⟨A1, e, a1, p1⟩ => ?_
  cases v with
  | false => rw [if_neg (by decide)]; exact ⟨A1, env, a1, p1⟩
  | true => rw [if_pos rfl]; exact p1.fin a1.mem rfl
theorem e_not (ha : PE X a (RdE W T X.K ma)) : PE X (.UnaryOp .Not a pos) (RdE W T X.K (mNot ma)) := (pe_not ha).imp fun σ H Q h => by
  obtain ⟨A, env, at0, p⟩ := h
  exact (po_test at0 p fun d M n => by cases d <;> first | rfl | exact absurd rfl (n _)).mono fun v H1 ⟨A1, e, a1, p1⟩ => p1.fin a1.mem rfl
theorem e_if (hc : PT X c (RdT W T X.K mc)) (ha : PE X a (RdE W T X.K ma)) (hb : PE X b (RdE W T X.K mb)) : PE X (.IfExp c a b pos) (RdE W T X.K (mIf mc ma mb)) := (pe_ifExp hc ha hb).imp fun σ H Q h => by
  obtain ⟨A, env, at0, p⟩ := h
  refine (po_test at0 p fun d M n => by cases d <;> first | rfl | exact absurd rfl (n _)).mono fun v H1 ⟨A1, e, a1, p1⟩ => ?_
  cases v with
  | true => rw [if_pos rfl]; exact ⟨A1, env, a1, p1⟩
  | false => rw [if_neg (by decide)]; exact ⟨A1, env, a1, p1⟩

/-! ### argument lists -/
/-- what follows of several values -/
def Pl (W : XK) (T : List (Addr × Str)) (K : PySem.W.Frag) (A : AM) (H : Hp) (r : R (List D)) (Q : List V → Hp → Prop) : Prop :=
  match r with
  | .ok ds M' => ∀ A' H' vs, M' = A'.ers → Ext T A H A' H' → MemOk K A' H' → DVl K A' H' ds vs → Q vs H'
  | .exc x M' => ∀ A' H' cls dd, M' = A'.ers → Ext T A H A' H' → MemOk K A' H' → ExcOk K A' H' x cls dd → W cls dd H'
  | .stuck => False
abbrev Evs := Env → Mem → R (List D)
def RdA (W : XK) (T : List (Addr × Str)) (K : PySem.W.Frag) (m : Evs) : TA := fun σ H Q => ∃ A env, At T K A H env σ ∧ Pl W T K A H (m env A.ers) Q
theorem Pl.mono {A : AM} {H : Hp} {r : R (List D)} {Q Q' : List V → Hp → Prop} (h : Pl W T X.K A H r Q) (i : ∀ v H, Q v H → Q' v H) : Pl W T X.K A H r Q' := by
  cases r with
  | ok d M' => exact fun A2 H2 v q e2 m dv => i _ _ (h A2 H2 v q e2 m dv)
  | exc x M' => exact h
  | stuck => exact h
theorem RdA.mono {m : Evs} {σ : L2.St} {H : Hp} {Q Q' : List V → Hp → Prop} (h : RdA W T X.K m σ H Q) (i : ∀ v H, Q v H → Q' v H) : RdA W T X.K m σ H Q' :=
  let ⟨A, env, a, p⟩ := h
  ⟨A, env, a, p.mono i⟩
/-- from one expression into several -/
theorem Pl.step {A : AM} {H : Hp} {Q : List V → Hp → Prop} {env : Env} {σ : L2.St} {k : D → Mem → R (List D)} (a : At T X.K A H env σ) (h : Pl W T X.K A H ((ma env A.ers).bind k) Q) :
    RdE W T X.K ma σ H fun v H1 => ∃ A1 d, Ext T A H A1 H1 ∧ At T X.K A1 H1 env σ ∧ DV X.K A1 H1 d v ∧ Pl W T X.K A1 H1 (k d A1.ers) Q := by
  refine ⟨A, env, a, ?_⟩
  cases q : ma env A.ers with
  | ok d M' =>
    rw [q] at h
    intro A1 H1 v eM e mo dv
    refine ⟨A1, d, e, a.ext e mo, dv, ?_⟩
    have h' : Pl W T X.K A H (k d M') Q := h
    rw [← eM]
    cases hr : k d M' with
    | ok ds M2 => rw [hr] at h'; exact fun A2 H2 vs q e2 => h' A2 H2 vs q (e.trans e2)
    | exc x M2 => rw [hr] at h'; exact fun A2 H2 c dd q e2 => h' A2 H2 c dd q (e.trans e2)
    | stuck => rw [hr] at h'; exact h'
  | exc x M' =>
    rw [q] at h
    exact h
  | stuck =>
    rw [q] at h
    exact h
/-- from several expressions on -/
theorem Po.steps {A : AM} {H : Hp} {Q : VK} {env : Env} {σ : L2.St} {ms : Evs} {k : List D → Mem → R D} (a : At T X.K A H env σ) (h : Po W T X.K A H ((ms env A.ers).bind k) Q) :
    RdA W T X.K ms σ H fun vs H1 => ∃ A1 ds, Ext T A H A1 H1 ∧ At T X.K A1 H1 env σ ∧ DVl X.K A1 H1 ds vs ∧ Po W T X.K A1 H1 (k ds A1.ers) Q := by
  refine ⟨A, env, a, ?_⟩
  cases q : ms env A.ers with
  | ok d M' =>
    rw [q] at h
    intro A1 H1 v eM e mo dv
    refine ⟨A1, d, e, a.ext e mo, dv, ?_⟩
    have h' : Po W T X.K A H (k d M') Q := h
    rw [← eM]
    exact h'.ext e
  | exc x M' =>
    rw [q] at h
    exact h
  | stuck =>
    rw [q] at h
    exact h
theorem Pl.steps {A : AM} {H : Hp} {Q : List V → Hp → Prop} {env : Env} {σ : L2.St} {ms : Evs} {k : List D → Mem → R (List D)} (a : At T X.K A H env σ) (h : Pl W T X.K A H ((ms env A.ers).bind k) Q) :
    RdA W T X.K ms σ H fun vs H1 => ∃ A1 ds, Ext T A H A1 H1 ∧ At T X.K A1 H1 env σ ∧ DVl X.K A1 H1 ds vs ∧ Pl W T X.K A1 H1 (k ds A1.ers) Q := by
  refine ⟨A, env, a, ?_⟩
  cases q : ms env A.ers with
  | ok d M' =>
    rw [q] at h
    intro A1 H1 v eM e mo dv
    refine ⟨A1, d, e, a.ext e mo, dv, ?_⟩
    have h' : Pl W T X.K A H (k d M') Q := h
    rw [← eM]
    cases hr : k d M' with
    | ok ds M2 => rw [hr] at h'; exact fun A2 H2 vs q e2 => h' A2 H2 vs q (e.trans e2)
    | exc x M2 => rw [hr] at h'; exact fun A2 H2 c dd q e2 => h' A2 H2 c dd q (e.trans e2)
    | stuck => rw [hr] at h'; exact h'
  | exc x M' =>
    rw [q] at h
    exact h
  | stuck =>
    rw [q] at h
    exact h
def mNil : Evs := fun _ M => .ok [] M
def mCons (m : Ev) (ms : Evs) : Evs := fun env M => (m env M).bind fun d M1 => (ms env M1).bind fun ds M2 => .ok (d :: ds) M2
/-- *m -/
def mStar (m : Ev) (ms : Evs) : Evs := fun env M => (m env M).bind fun d M1 => match look M1 d with
  | some (.tup, xs) => (ms env M1).bind fun ds M2 => .ok (xs ++ ds) M2
  | some (.ktp, xs) => (ms env M1).bind fun ds M2 => .ok (xs ++ ds) M2
  | some (.lst, xs) => (ms env M1).bind fun ds M2 => .ok (xs ++ ds) M2
  | _ => .stuck
theorem a_nil : PA X [] (RdA W T X.K mNil) := pa_nil.imp fun σ H Q ⟨A, env, a, p⟩ => p A H [] rfl Ext.refl a.mem .nil
theorem a_cons {e : Expr} {es : List Expr} {m : Ev} {ms : Evs} (ha : PE X e (RdE W T X.K m)) (hr : PA X es (RdA W T X.K ms)) (hs : starEach (e :: es) X.env = (false, eval e X.env) :: starEach es X.env := by rfl) : PA X (e :: es) (RdA W T X.K (mCons m ms)) :=
  (pa_cons ha hr hs).imp fun σ H Q h => by
    obtain ⟨A, env, at0, p⟩ := h
    refine (Pl.step at0 p).mono fun v H1 ⟨A1, d, e, a1, dv, p1⟩ => ?_
    exact (Pl.steps a1 p1).mono fun vs H2 ⟨A2, ds, e2, a2, dvs, p2⟩ => p2 A2 H2 _ rfl Ext.refl a2.mem (.cons (dv.ext e2) dvs)
theorem Paired.app {α β : Type} {F : α → β → Prop} : ∀ {xs xs' : List α} {vs vs' : List β}, Paired F xs vs → Paired F xs' vs' → Paired F (xs ++ xs') (vs ++ vs')
  | _, _, _, _, .nil, s => s
  | _, _, _, _, .cons r t, s => .cons r (Paired.app t s)
theorem a_star {e : Expr} {es : List Expr} {m : Ev} {ms : Evs} {p : Pos} (ha : PE X e (RdE W T X.K m)) (hr : PA X es (RdA W T X.K ms)) (hs : starEach (.Starred e p :: es) X.env = (true, eval e X.env) :: starEach es X.env := by rfl) : PA X (.Starred e p :: es) (RdA W T X.K (mStar m ms)) :=
  (StX.pa_star ha hr hs).imp fun σ H Q h => by
    obtain ⟨A, env, at0, p⟩ := h
    refine (Pl.step at0 p).mono fun v H1 ⟨A1, d, e, a1, dv, p1⟩ => ?_
    cases hl : look A1.ers d with
    | none => rw [hl] at p1; exact p1.elim
    | some tx =>
      obtain ⟨t, xs⟩ := tx
      rw [hl] at p1
      obtain ⟨q, vs, rfl, ra, ds⟩ := look_at a1.mem dv hl
      have key : (SqT X.K H1 q vs ∨ SqL X.K H1 q vs) ∧ Pl W T X.K A1 H1 ((ms env A1.ers).bind fun ds M2 => .ok (xs ++ ds) M2) Q := by
        cases t with
        | tup => exact ⟨.inl ra.tup, p1⟩
        | ktp => exact ⟨.inl ra.ktp, p1⟩
        | lst => exact ⟨.inr ra.lst, p1⟩
        | _ => exact p1.elim
      obtain ⟨hq, p1⟩ := key
      exact ⟨q, vs, rfl, hq, (Pl.steps a1 p1).mono fun ws H2 ⟨A2, es, e2, a2, dvs, p2⟩ => p2 A2 H2 _ rfl Ext.refl a2.mem (Paired.app (DVl.ext e2 ds) dvs)⟩
end
end TB

set_option Elab.async false
set_option linter.all false
set_option maxRecDepth 100000
set_option maxHeartbeats 4000000
namespace TB
open PySem PySem.Spec PyProof.Rows L2

/-! ### what is read -/
section
variable (K : PySem.W.Frag) (H : Hp)
mutual
/-- v may be read as d -/
def RP : D → V → Prop
  | .non, v => v = .non
  | .bl b, v => v = .bl b
  | .int i, v => v = .int i
  | .str s, v => v = .str s
  | .ty t, v => v = .ty t.name
  | .cls C, v => v = .ref C
  | .obj _, _ => False
  | .node t xs, v => ∃ a vs, v = .ref a ∧ ReadAt K H a t vs ∧ RPs xs vs
def RPs : List D → List V → Prop
  | [], vs => vs = []
  | x :: xs, vs => ∃ v r, vs = v :: r ∧ RP x v ∧ RPs xs r
end
end
def viewL (f : D → Option D) : List D → Option (List D)
  | [] => some []
  | x :: xs => match f x with
    | some y => match viewL f xs with
      | some ys => some (y :: ys)
      | none => none
    | none => none
/-- a value, seen through, n deep -/
def vw : Nat → Mem → D → Option D
  | n, M, d => match d with
    | .obj k => match n with
      | 0 => none
      | n + 1 => match M[k]? with
        | some (t, xs) => match viewL (vw n M) xs with
          | some ys => some (.node t ys)
          | none => none
        | none => none
    | d => some d
abbrev view (M : Mem) (d : D) : Option D := vw 24 M d
section
variable {K : PySem.W.Frag} {A : AM} {H : Hp}
mutual
theorem DP.rp {ρ : List Addr} : ∀ {d : D} {v : V}, DP K ρ H d v → RP K H d v
  | .non, _, h => h
  | .bl _, _, h => h
  | .int _, _, h => h
  | .str _, _, h => h
  | .ty _, _, h => h
  | .cls _, _, h => h
  | .obj _, _, h => h.elim
  | .node t xs, v, h => by
    obtain ⟨a, vs, ea, na, ds⟩ := h
    refine ⟨a, vs, ea, ?_, DPs.rps ds⟩
    rcases na with ⟨u, _, r, i⟩ | k
    · exact .inl ⟨u, r, i⟩
    · exact .inr k
theorem DPs.rps {ρ : List Addr} : ∀ {xs : List D} {vs : List V}, DPs K ρ H xs vs → RPs K H xs vs
  | [], _, h => h
  | x :: xs, vs, h => by
    obtain ⟨v, r, ev, d, ds⟩ := h
    exact ⟨v, r, ev, DP.rp d, DPs.rps ds⟩
end
theorem vw_node {n : Nat} {M : Mem} {d : D} (h : ∀ k, d ≠ .obj k) : vw n M d = some d := by
  cases d with
  | obj k => exact absurd rfl (h k)
  | _ => unfold vw; rfl
theorem vw_obj {n : Nat} {M : Mem} {k : Nat} {e : D} (h : vw n M (.obj k) = some e) : ∃ n' t xs ys, n = n' + 1 ∧ M[k]? = some (t, xs) ∧ viewL (vw n' M) xs = some ys ∧ e = .node t ys := by
  unfold vw at h
  cases n with
  | zero => cases h
  | succ n' =>
    simp only at h
    cases q : M[k]? with
    | none => rw [q] at h; cases h
    | some o =>
      obtain ⟨t, xs⟩ := o
      rw [q] at h
      simp only at h
      cases q2 : viewL (vw n' M) xs with
      | none => rw [q2] at h; cases h
      | some ys =>
        rw [q2] at h
        cases h
        exact ⟨n', t, xs, ys, rfl, rfl, q2, rfl⟩
theorem viewL_at {f : D → Option D} {F : D → V → Prop} {G : D → V → Prop} (k : ∀ d e v, F d v → f d = some e → G e v) : ∀ {xs ys : List D} {vs : List V}, Paired F xs vs → viewL f xs = some ys → Paired G ys vs
  | _, _, _, .nil, h => by cases h; exact .nil
  | x :: xs, _, _, .cons r t, h => by
    unfold viewL at h
    cases q : f x with
    | none => rw [q] at h; cases h
    | some y =>
      rw [q] at h
      simp only at h
      cases q2 : viewL f xs with
      | none => rw [q2] at h; cases h
      | some ys =>
        rw [q2] at h
        cases h
        exact .cons (k _ _ _ r q) (viewL_at k t q2)
theorem RPs.of : ∀ {xs : List D} {vs : List V}, Paired (RP K H) xs vs → RPs K H xs vs
  | _, _, .nil => rfl
  | _, _, .cons r t => ⟨_, _, rfl, r, RPs.of t⟩
theorem vw_at (m : MemOk K A H) : ∀ (n : Nat) {d e : D} {v : V}, DV K A H d v → vw n A.ers d = some e → RP K H e v := by
  intro n
  induction n with
  | zero =>
    intro d e v h q
    by_cases z : ∃ k, d = .obj k
    · obtain ⟨k, rfl⟩ := z
      obtain ⟨n', _, _, _, h0, _⟩ := vw_obj q
      cases h0
    · have n : ∀ k, d ≠ .obj k := fun k e => z ⟨k, e⟩
      rw [vw_node n] at q; cases q
      exact (h.dp n).rp
  | succ n ih =>
    intro d e v h q
    by_cases z : ∃ k, d = .obj k
    · obtain ⟨k, rfl⟩ := z
      obtain ⟨n', t, xs, ys, h0, h1, h2, rfl⟩ := vw_obj q
      cases h0
      obtain ⟨a, ha, rfl⟩ := h
      obtain ⟨t', xs', hc⟩ := AM.cell ha
      rw [A.ers_get, hc] at h1
      cases h1
      obtain ⟨u, vs, hu, i, nt, dv⟩ := m.ok k a _ _ hc
      exact ⟨a, vs, rfl, .inl ⟨u, Rq.of hu, i⟩, RPs.of (viewL_at (f := vw n A.ers) (F := DV K A H) (G := RP K H) (fun d e v h q => ih h q) dv h2)⟩
    · have n : ∀ k, d ≠ .obj k := fun k e => z ⟨k, e⟩
      rw [vw_node n] at q; cases q
      exact (h.dp n).rp
theorem view_at (m : MemOk K A H) {d e : D} {v : V} (h : DV K A H d v) (q : view A.ers d = some e) : RP K H e v := vw_at m 24 h q
theorem RPs.len : ∀ {xs : List D} {vs : List V}, RPs K H xs vs → xs.length = vs.length
  | [], _, h => by cases (show _ = [] from h); rfl
  | x :: xs, _, h => by
    obtain ⟨v, r, rfl, _, ds⟩ := h
    simp [RPs.len ds]
theorem RPs.get : ∀ {xs : List D} {vs : List V} {i : Nat} {x : D}, RPs K H xs vs → xs[i]? = some x → ∃ v, vs[i]? = some v ∧ RP K H x v
  | [], _, _, _, _, e => by simp at e
  | y :: xs, _, 0, x, h, e => by
    obtain ⟨v, r, rfl, d, _⟩ := h
    simp at e; subst e
    exact ⟨v, rfl, d⟩
  | y :: xs, _, i + 1, x, h, e => by
    obtain ⟨v, r, rfl, _, ds⟩ := h
    obtain ⟨u, h1, h2⟩ := RPs.get (i := i) (x := x) ds (by simpa using e)
    exact ⟨u, by simpa using h1, h2⟩
end

/-! ### equality -/
def seq (x y : Str) : Bool := x.cps.toList == y.cps.toList
theorem seq_eq (x y : Str) : seq x y = (x == y) := SeqAt.str_beq x y
def keq : Key → Key → Bool
  | .inl i, .inl j => i == j
  | .inr x, .inr y => seq x y
  | _, _ => false
theorem keq_eq (a b : Key) : keq a b = decide (a = b) := by
  cases a <;> cases b
  · show (_ == _) = _
    rw [key_ll]
  · rw [key_lr]; rfl
  · rw [key_rl]; rfl
  · show seq _ _ = _
    rw [seq_eq, key_rr]
    exact Bool.beq_eq_decide_eq _ _
/-- the value at a key -/
def dget {α β : Type} (eq : α → α → Bool) : List α → List β → α → Option β
  | k :: ks, x :: xs, j => if eq k j then some x else dget eq ks xs j
  | _, _, _ => none
def allB : List (Option Bool) → Option Bool
  | [] => some true
  | none :: _ => none
  | some b :: r => match allB r with
    | some c => some (b && c)
    | none => none
def isSeq : Tag → Bool
  | .tup => true
  | .lst => true
  | _ => false
def deqL (f : D → D → Option Bool) : List D → List D → List (Option Bool)
  | x :: xs, y :: ys => f x y :: deqL f xs ys
  | _, _ => []
def deqK (f : D → D → Option Bool) (ls : List Key) (ys : List D) : List Key → List D → List (Option Bool)
  | k :: ks, x :: xs => (match dget keq ls ys k with
    | some y => f x y
    | none => some false) :: deqK f ls ys ks xs
  | _, _ => []
/-- d == e, nested below n -/
def deq (n : Nat) (d e : D) : Option Bool :=
  match d, e with
  | .non, .non => some true
  | .non, .bl _ => some false
  | .non, .int _ => some false
  | .non, .str _ => some false
  | .bl _, .non => some false
  | .bl a, .bl b => some (a == b)
  | .bl a, .int j => some ((if a then 1 else 0) == j)
  | .bl _, .str _ => some false
  | .int _, .non => some false
  | .int i, .bl b => some (i == (if b then 1 else 0))
  | .int i, .int j => some (i == j)
  | .int _, .str _ => some false
  | .str _, .non => some false
  | .str _, .bl _ => some false
  | .str _, .int _ => some false
  | .str x, .str y => some (seq x y)
  | .non, .node .tup _ => some false
  | .non, .node .lst _ => some false
  | .bl _, .node .tup _ => some false
  | .bl _, .node .lst _ => some false
  | .int _, .node .tup _ => some false
  | .int _, .node .lst _ => some false
  | .str _, .node .tup _ => some false
  | .str _, .node .lst _ => some false
  | .node .tup _, .non => some false
  | .node .lst _, .non => some false
  | .node .tup _, .bl _ => some false
  | .node .lst _, .bl _ => some false
  | .node .tup _, .int _ => some false
  | .node .lst _, .int _ => some false
  | .node .tup _, .str _ => some false
  | .node .lst _, .str _ => some false
  | .node .tup _, .node .lst _ => some false
  | .node .lst _, .node .tup _ => some false
  | .node .tup xs, .node .tup ys => match n with
    | 0 => none
    | n + 1 => (allB (deqL (deq n) xs ys)).map fun b => b && xs.length == ys.length
  | .node .lst xs, .node .lst ys => match n with
    | 0 => none
    | n + 1 => if xs.length == ys.length then allB (deqL (deq n) xs ys) else some false
  | .node (.dK ks) xs, .node (.dK ls) ys => match n with
    | 0 => none
    | n + 1 => (allB (deqK (deq n) ls ys ks xs)).map fun b => ks.length == ls.length && b
  | _, _ => none
theorem zip_inj {α β : Type} : ∀ {ks ks' : List α} {vs vs' : List β}, ks.length = vs.length → ks'.length = vs'.length → ks.zip vs = ks'.zip vs' → ks = ks' ∧ vs = vs'
  | [], [], [], [], _, _, _ => ⟨rfl, rfl⟩
  | [], _ :: _, [], _ :: _, _, _, e => by cases e
  | _ :: _, [], _ :: _, [], _, _, e => by cases e
  | a :: ks, b :: ks', v :: vs, w :: vs', h, h', e => by
    simp only [List.zip_cons_cons, List.cons.injEq, Prod.mk.injEq] at e
    obtain ⟨h1, h2⟩ := zip_inj (by simpa using h) (by simpa using h') e.2
    exact ⟨by rw [e.1.1, h1], by rw [e.1.2, h2]⟩
  | [], _, _ :: _, _, h, _, _ => by simp at h
  | _ :: _, _, [], _, h, _, _ => by simp at h
  | _, [], _, _ :: _, _, h, _ => by simp at h
  | _, _ :: _, _, [], _, h, _ => by simp at h
theorem allB_get : ∀ {l : List (Option Bool)} {b : Bool}, allB l = some b → (∀ (i : Nat) (x : Option Bool), l[i]? = some x → ∃ c, x = some c) ∧ b = l.all fun x => x.getD false
  | [], b, h => by cases h; exact ⟨fun i x e => by simp at e, rfl⟩
  | none :: _, b, h => by cases h
  | some c :: r, b, h => by
    have h : (match allB r with | some d => some (c && d) | none => none) = some b := h
    cases q : allB r with
    | none => rw [q] at h; cases h
    | some d =>
      rw [q] at h; cases h
      obtain ⟨h1, h2⟩ := allB_get q
      refine ⟨fun i x e => ?_, by rw [h2]; rfl⟩
      cases i with
      | zero => cases e; exact ⟨c, rfl⟩
      | succ i => exact h1 i x e
theorem deqL_get {f : D → D → Option Bool} : ∀ {xs ys : List D} {i : Nat} {x y : D}, xs[i]? = some x → ys[i]? = some y → (deqL f xs ys)[i]? = some (f x y)
  | a :: xs, b :: ys, 0, x, y, h1, h2 => by cases h1; cases h2; rfl
  | a :: xs, b :: ys, i + 1, x, y, h1, h2 => by
    show (deqL f xs ys)[i]? = _
    exact deqL_get (by simpa using h1) (by simpa using h2)
  | [], _, _, _, _, h1, _ => by simp at h1
  | _ :: _, [], _, _, _, _, h2 => by simp at h2
theorem deqL_len {f : D → D → Option Bool} : ∀ (xs ys : List D), (deqL f xs ys).length = min xs.length ys.length
  | [], _ => by simp [deqL]
  | _ :: _, [] => by simp [deqL]
  | _ :: xs, _ :: ys => by simp [deqL, deqL_len xs ys]
theorem all_range {l : List (Option Bool)} : (List.range l.length).all (fun j => (l[j]?.getD none).getD false) = l.all fun x => x.getD false := by
  induction l with
  | nil => rfl
  | cons a l ih =>
    rw [List.length_cons, List.range_succ_eq_map, List.all_cons, List.all_map, List.all_cons, ← ih]
    rfl
section
variable {X : Cx} {pins : List (Addr × Obj)} {σ : L2.St} {H : Hp} {s : Shared}
theorem ReadAt.uniq (I : Inv X pins σ H s) {a : Addr} {t : Tag} {vs ws : List V} (h : ReadAt X.K H a t vs) (h' : ReadAt X.K H a t ws) (ht : isSeq t = true) : vs = ws := by
  cases t with
  | tup => exact I.tuple_inj h.tup h'.tup
  | lst => exact I.list_inj h.lst h'.lst
  | _ => cases ht
theorem seq_apart (I : Inv X pins σ H s) {a : Addr} {vs ws : List V} (h : SqT X.K H a vs) (h' : SqL X.K H a ws) : False := by
  obtain ⟨its, _, ⟨o, e, c, _⟩, _⟩ := I.tuple h
  obtain ⟨its', _, ⟨o', _, e', c', _⟩, _⟩ := I.list h'
  rw [e] at e'; cases e'
  rw [c] at c'
  exact absurd (Value.type.inj c') (by decide)
theorem rd_uniq {a : Addr} {ks ls : List (Key × V)} (h : Rd H a (.dK ks)) (h' : Rd H a (.dK ls)) : ks = ls := by
  rcases h with h | ⟨o, h⟩ <;> rcases h' with h' | ⟨o', h'⟩ <;> rw [h] at h' <;> cases h' <;> rfl
theorem dget_zip {ks : List Key} : ∀ {xs : List D} {vs : List V} {k : Key}, RPs X.K H xs vs → (∀ x, dget keq ks xs k = some x → ∃ v, valV (ks.zip vs) k = some v ∧ RP X.K H x v) ∧ (ks.length = xs.length → dget keq ks xs k = none → valV (ks.zip vs) k = none) := by
  induction ks with
  | nil => intro xs vs k h; exact ⟨fun x e => by simp [dget] at e, fun _ _ => by simp [valV]⟩
  | cons j ks ih =>
    intro xs vs k h
    cases xs with
    | nil => exact ⟨fun x e => by simp [dget] at e, fun l => by simp at l⟩
    | cons x xs =>
      obtain ⟨v, r, rfl, d, ds⟩ := h
      have ih := ih (k := k) ds
      unfold dget
      rw [keq_eq]
      by_cases hk : j = k
      · subst hk
        simp only [decide_true, if_true]
        refine ⟨fun y e => ?_, fun _ e => by cases e⟩
        cases e
        exact ⟨v, valV_pos rfl, d⟩
      · simp only [hk, decide_false, Bool.false_eq_true, if_false]
        refine ⟨fun y e => ?_, fun l e => ?_⟩
        · obtain ⟨w, h1, h2⟩ := ih.1 y e
          exact ⟨w, by rw [List.zip_cons_cons, valV_neg hk]; exact h1, h2⟩
        · rw [List.zip_cons_cons, valV_neg hk]
          exact ih.2 (by simpa using l) e
theorem items_same {f : D → D → Option Bool} (hf : ∀ (x y : D) (v : V) (b : Bool), RP X.K H x v → RP X.K H y v → f x y = some b → b = true) :
    ∀ {xs ys : List D} {vs : List V} {b : Bool}, RPs X.K H xs vs → RPs X.K H ys vs → allB (deqL f xs ys) = some b → b = true
  | [], _, _, _, _, _, h => by cases h; rfl
  | x :: xs, [], _, _, _, _, h => by cases h; rfl
  | x :: xs, y :: ys, _, b, h1, h2, h => by
    obtain ⟨v, r, rfl, d1, ds1⟩ := h1
    obtain ⟨v', r', e, d2, ds2⟩ := h2
    cases e
    have h : allB (f x y :: deqL f xs ys) = some b := h
    cases hq : f x y with
    | none => rw [hq] at h; cases h
    | some c =>
      rw [hq] at h
      have h : (match allB (deqL f xs ys) with | some d => some (c && d) | none => none) = some b := h
      cases q : allB (deqL f xs ys) with
      | none => rw [q] at h; cases h
      | some d =>
        rw [q] at h; cases h
        rw [hf x y v c d1 d2 hq, items_same hf ds1 ds2 q]
        rfl
theorem valV_mem {kvs : List (Key × V)} {k : Key} {v : V} (nd : (kvs.map (·.1)).Nodup) (h : (k, v) ∈ kvs) : valV kvs k = some v := by
  induction kvs with
  | nil => cases h
  | cons p r ih =>
    rw [List.map_cons, List.nodup_cons] at nd
    rcases List.mem_cons.mp h with e | h
    · subst e; exact valV_pos rfl
    · rw [valV_neg, ih nd.2 h]
      intro e
      exact nd.1 (List.mem_map.mpr ⟨(k, v), h, e.symm⟩)
theorem keys_same {f : D → D → Option Bool} (hf : ∀ (x y : D) (v : V) (b : Bool), RP X.K H x v → RP X.K H y v → f x y = some b → b = true) {ls : List Key} {ys : List D} {ws : List V} (hy : RPs X.K H ys ws) (hl : ls.length = ws.length)
    (nd : ((ls.zip ws).map (·.1)).Nodup) :
    ∀ {ks : List Key} {xs : List D} {vs : List V} {b : Bool}, (∀ p ∈ ks.zip vs, p ∈ ls.zip ws) → RPs X.K H xs vs → allB (deqK f ls ys ks xs) = some b → b = true
  | [], _, _, _, _, _, h => by cases h; rfl
  | k :: ks, [], _, _, _, _, h => by cases h; rfl
  | k :: ks, x :: xs, _, b, hm, h1, h => by
    obtain ⟨v, r, rfl, d1, ds1⟩ := h1
    have hv : valV (ls.zip ws) k = some v := valV_mem nd (hm (k, v) (by simp))
    have h : allB ((match dget keq ls ys k with | some y => f x y | none => some false) :: deqK f ls ys ks xs) = some b := h
    obtain ⟨g1, g2⟩ := dget_zip (ks := ls) (k := k) hy
    cases hg : dget keq ls ys k with
    | none =>
      have := g2 (by rw [hl, hy.len]) hg
      rw [hv] at this; cases this
    | some y =>
      rw [hg] at h
      obtain ⟨w, hw, dw⟩ := g1 y hg
      rw [hv] at hw; cases hw
      have h : allB (f x y :: deqK f ls ys ks xs) = some b := h
      cases hq : f x y with
      | none => rw [hq] at h; cases h
      | some c =>
        rw [hq] at h
        have h : (match allB (deqK f ls ys ks xs) with | some d => some (c && d) | none => none) = some b := h
        cases q : allB (deqK f ls ys ks xs) with
        | none => rw [q] at h; cases h
        | some d =>
          rw [q] at h; cases h
          rw [hf x y v c d1 dw hq, keys_same hf hy hl nd (fun p hp => hm p (by rw [List.zip_cons_cons]; exact List.mem_cons_of_mem _ hp)) ds1 q]
          rfl
theorem keys_nodup (I : Inv X pins σ H s) {a : Addr} {kvs : List (Key × V)} (h : Rd H a (.dK kvs)) : (kvs.map (·.1)).Nodup := by
  obtain ⟨_, _, vs, kv, _, _, _, _, _, _, _, _, nd⟩ := dk_rd I.hok h
  rw [kv.keys]
  exact nd
/-- the same thing, read twice: equal -/
theorem deq_same (I : Inv X pins σ H s) : ∀ (n : Nat) (d e : D) (v : V) (b : Bool), RP X.K H d v → RP X.K H e v → deq n d e = some b → b = true := by
  intro n
  induction n with
  | zero =>
    intro d e v b hd he h
    cases d <;> cases e <;> first
      | (cases h; done)
      | (cases hd; cases he <;> (cases h; simp [seq_eq]); done)
      | skip
    all_goals first
      | (rename_i t xs; obtain ⟨a, vs, ea, _⟩ := he; rw [ea] at hd; cases hd; done)
      | (rename_i t xs; obtain ⟨a, vs, ea, _⟩ := hd; rw [ea] at he; cases he; done)
      | (rename_i t xs C; cases t <;> (cases h; done); done)
      | skip
    rename_i t xs t' ys
    obtain ⟨a, vs, ea, ra, rs⟩ := hd
    obtain ⟨a', ws, ea', ra', rs'⟩ := he
    rw [ea] at ea'; cases ea'
    cases t <;> cases t' <;> first
      | (cases h; done)
      | exact (seq_apart I ra.tup ra'.lst).elim
      | exact (seq_apart I ra'.tup ra.lst).elim
  | succ n ih =>
    intro d e v b hd he h
    cases d <;> cases e <;> first
      | (cases h; done)
      | (cases hd; cases he <;> (cases h; simp [seq_eq]); done)
      | skip
    all_goals first
      | (rename_i t xs; obtain ⟨a, vs, ea, _⟩ := he; rw [ea] at hd; cases hd; done)
      | (rename_i t xs; obtain ⟨a, vs, ea, _⟩ := hd; rw [ea] at he; cases he; done)
      | (rename_i t xs C; cases t <;> (cases h; done); done)
      | skip
    rename_i t xs t' ys
    obtain ⟨a, vs, ea, ra, rs⟩ := hd
    obtain ⟨a', ws, ea', ra', rs'⟩ := he
    rw [ea] at ea'; cases ea'
    cases t <;> cases t' <;> first
      | (cases h; done)
      | exact (seq_apart I ra.tup ra'.lst).elim
      | exact (seq_apart I ra'.tup ra.lst).elim
      | skip
    · obtain rfl := ra.uniq I ra' rfl
      have h : (allB (deqL (deq n) xs ys)).map (fun b => b && xs.length == ys.length) = some b := h
      obtain ⟨c, hc, rfl⟩ := Option.map_eq_some_iff.mp h
      rw [items_same ih rs rs' hc, rs.len, rs'.len]
      simp
    · obtain rfl := ra.uniq I ra' rfl
      have h : (if xs.length == ys.length then allB (deqL (deq n) xs ys) else some false) = some b := h
      rw [if_pos (by rw [rs.len, rs'.len]; simp)] at h
      exact items_same ih rs rs' h
    · rename_i ks ls
      obtain ⟨r1, l1⟩ := ra.dK
      obtain ⟨r2, l2⟩ := ra'.dK
      obtain ⟨rfl, rfl⟩ := zip_inj l1 l2 (rd_uniq r1 r2)
      have h : (allB (deqK (deq n) ks ys ks xs)).map (fun b => ks.length == ks.length && b) = some b := h
      obtain ⟨c, hc, rfl⟩ := Option.map_eq_some_iff.mp h
      rw [keys_same ih rs' l1 (keys_nodup I r1) (fun p hp => hp) rs hc]
      simp
end
end TB

set_option Elab.async false
set_option linter.all false
set_option maxRecDepth 100000
set_option maxHeartbeats 4000000
namespace TB
open PySem PySem.Spec PyProof.Rows L2
section
variable {X : Cx} {pins : List (Addr × Obj)} {σ : L2.St} {H : Hp} {s : Shared}
theorem len2 {xs ys : List D} {vs ws : List V} {us us' : List Value} (h1 : RPs X.K H xs vs) (h2 : RPs X.K H ys ws) (r1 : Vals vs us) (r2 : Vals ws us') : xs.length = us.length ∧ ys.length = us'.length :=
  ⟨h1.len.trans r1.length, h2.len.trans r2.length⟩
/-- the items' trees -/
theorem items_tree {f : D → D → Option Bool} {n : Nat} (hf : ∀ (x y : D) (v w : V) (u u' : Value) (b : Bool), RP X.K H x v → RP X.K H y w → RelV v u → RelV w u' → f x y = some b → PySem.W.EqTree X.prog X.w s n u u' b)
    {xs ys : List D} {vs ws : List V} {us us' : List Value} {b : Bool} (h1 : RPs X.K H xs vs) (h2 : RPs X.K H ys ws) (r1 : Vals vs us) (r2 : Vals ws us') (h : allB (deqL f xs ys) = some b) :
    (∀ j (h1 : j < us.toArray.size) (h2 : j < us'.toArray.size), PySem.W.EqTree X.prog X.w s n us.toArray[j] us'.toArray[j] (((deqL f xs ys)[j]?.getD none).getD false)) ∧ (List.range (min us.length us'.length)).all (fun j => ((deqL f xs ys)[j]?.getD none).getD false) = b := by
  obtain ⟨l1, l2⟩ := len2 h1 h2 r1 r2
  obtain ⟨a1, a2⟩ := allB_get h
  refine ⟨fun j q1 q2 => ?_, ?_⟩
  · have q1' : j < xs.length := by rw [l1]; simpa using q1
    have q2' : j < ys.length := by rw [l2]; simpa using q2
    obtain ⟨v, hv, dv⟩ := h1.get (i := j) (x := xs[j]) (by simp [q1'])
    obtain ⟨w, hw, dw⟩ := h2.get (i := j) (x := ys[j]) (by simp [q2'])
    obtain ⟨u, hu, ru⟩ := r1.get hv
    obtain ⟨u', hu', ru'⟩ := r2.get hw
    have e1 : us.toArray[j] = u := by
      have := List.getElem?_eq_some_iff.mp hu
      obtain ⟨_, e⟩ := this
      simpa using e
    have e2 : us'.toArray[j] = u' := by
      have := List.getElem?_eq_some_iff.mp hu'
      obtain ⟨_, e⟩ := this
      simpa using e
    have g := deqL_get (f := f) (xs := xs) (ys := ys) (i := j) (x := xs[j]) (y := ys[j]) (by simp [q1']) (by simp [q2'])
    obtain ⟨c, hc⟩ := a1 j _ g
    rw [g, e1, e2]
    show PySem.W.EqTree X.prog X.w s n u u' ((f xs[j] ys[j]).getD false)
    rw [hc]
    exact hf _ _ _ _ _ _ _ dv dw ru ru' hc
  · rw [a2, ← all_range, deqL_len, l1, l2]
theorem all_eq {α : Type} {F G : α → Bool} : ∀ {l : List α}, (∀ p ∈ l, F p = G p) → l.all F = l.all G
  | [], _ => rfl
  | a :: l, h => by
    rw [List.all_cons, List.all_cons, h a List.mem_cons_self, all_eq fun p hp => h p (List.mem_cons_of_mem _ hp)]
theorem keys_tree {f : D → D → Option Bool} {n : Nat} (hf : ∀ (x y : D) (v w : V) (u u' : Value) (b : Bool), RP X.K H x v → RP X.K H y w → RelV v u → RelV w u' → f x y = some b → PySem.W.EqTree X.prog X.w s n u u' b)
    {ls : List Key} {ys : List D} {ws : List V} {lw : List (Key × Value)} (hy : RPs X.K H ys ws) (hl : ls.length = ws.length) (rw' : KV (ls.zip ws) lw) :
    ∀ {ks : List Key} {xs : List D} {vs : List V} {kv : List (Key × Value)} {b : Bool}, RPs X.K H xs vs → ks.length = vs.length → KV (ks.zip vs) kv → (kv.map (·.1)).Nodup → allB (deqK f ls ys ks xs) = some b →
      ∃ e : Key → Bool, (∀ k v y, (k, v) ∈ kv → valueAt lw k = some y → PySem.W.EqTree X.prog X.w s n v y (e k)) ∧ (kv.all fun p => (valueAt lw p.1).isSome && e p.1) = b
  | [], [], [], kv, b, h1, hk, r, nd, h => by
    cases h
    cases (show KV [] kv from r)
    exact ⟨fun _ => true, ⟨fun k v y hm => (by cases hm), rfl⟩⟩
  | [], [], _ :: _, kv, b, h1, hk, r, nd, h => by cases hk
  | [], _ :: _, vs, kv, b, h1, hk, r, nd, h => by
    obtain ⟨_, _, rfl, _⟩ := h1
    cases hk
  | _ :: _, [], vs, kv, b, h1, hk, r, nd, h => by
    cases (show vs = [] from h1)
    cases hk
  | k :: ks, x :: xs, _, kv, b, h1, hk, r, nd, h => by
    obtain ⟨v, vr, rfl, d1, ds1⟩ := h1
    rw [List.zip_cons_cons] at r
    cases r with
    | @cons _ q _ qs hq r =>
      obtain ⟨qk, qu⟩ := q
      obtain ⟨eq1, ru⟩ := hq
      simp only at eq1 ru
      subst eq1
      have h : allB ((match dget keq ls ys k with | some y => f x y | none => some false) :: deqK f ls ys ks xs) = some b := h
      rw [List.map_cons, List.nodup_cons] at nd
      obtain ⟨g1, g2⟩ := dget_zip (ks := ls) (k := k) hy
      have fin : ∀ (c d : Bool), allB (deqK f ls ys ks xs) = some d → (c && d) = b → (∀ y, valueAt lw k = some y → PySem.W.EqTree X.prog X.w s n qu y c) → ((valueAt lw k).isSome && c) = c →
          ∃ e : Key → Bool, (∀ k' v' y, (k', v') ∈ (k, qu) :: qs → valueAt lw k' = some y → PySem.W.EqTree X.prog X.w s n v' y (e k')) ∧ (((k, qu) :: qs).all fun p => (valueAt lw p.1).isSome && e p.1) = b := by
        intro c d hd hb t1 t2
        obtain ⟨e, e1, e2⟩ := keys_tree hf hy hl rw' ds1 (by simpa using hk) r nd.2 hd
        have nk : ∀ p ∈ qs, p.1 ≠ k := fun p hp z => nd.1 (List.mem_map.mpr ⟨p, hp, z⟩)
        refine ⟨fun j => if j = k then c else e j, fun k' v' y hm hv => ?_, ?_⟩
        · show PySem.W.EqTree X.prog X.w s n v' y (if k' = k then c else e k')
          rcases List.mem_cons.mp hm with z | hm
          · cases z
            rw [if_pos rfl]
            exact t1 y hv
          · rw [if_neg (nk _ hm)]
            exact e1 k' v' y hm hv
        · rw [List.all_cons]
          have : (qs.all fun p => (valueAt lw p.1).isSome && if p.1 = k then c else e p.1) = d := by
            rw [← e2]
            exact all_eq fun p hp => by rw [if_neg (nk p hp)]
          rw [this]
          show ((valueAt lw k).isSome && (if k = k then c else e k) && d) = b
          rw [if_pos rfl, t2]
          exact hb
      cases hg : dget keq ls ys k with
      | none =>
        rw [hg] at h
        have h : (match allB (deqK f ls ys ks xs) with | some d => some (false && d) | none => none) = some b := h
        cases q : allB (deqK f ls ys ks xs) with
        | none => rw [q] at h; cases h
        | some d =>
          rw [q] at h; cases h
          have z := g2 (by rw [hl, hy.len]) hg
          have z' := rw'.val k
          rw [z] at z'
          have z2 := z'.none_of
          exact fin false d q rfl (fun y hv => by rw [z2] at hv; cases hv) (by simp)
      | some y =>
        rw [hg] at h
        have h : allB (f x y :: deqK f ls ys ks xs) = some b := h
        cases hq : f x y with
        | none => rw [hq] at h; cases h
        | some c =>
          rw [hq] at h
          have h : (match allB (deqK f ls ys ks xs) with | some d => some (c && d) | none => none) = some b := h
          cases q : allB (deqK f ls ys ks xs) with
          | none => rw [q] at h; cases h
          | some d =>
            rw [q] at h; cases h
            obtain ⟨w, hw, dw⟩ := g1 y hg
            have z' := rw'.val k
            rw [hw] at z'
            obtain ⟨u', z2, rz⟩ := z'.some_of
            exact fin c d q rfl (fun y' hv => by rw [z2] at hv; cases hv; exact hf _ _ _ _ _ _ _ d1 dw ru rz hq) (by rw [z2]; rfl)
inductive SV : D → Value → Prop where
  | non : SV .non .none
  | bl (b : Bool) : SV (.bl b) (.bool b)
  | int (i : Int) (t : Tok) : SV (.int i) (.int i t)
  | str (x : Str) (t : Tok) : SV (.str x) (.str x t)
open PySem.SeqAt (EqAt) in
theorem eq_ss {A : Around} {n : Nat} {d e : D} {u u' : Value} {b : Bool} (h1 : SV d u) (h2 : SV e u') (h : deq n d e = some b) : EqAt A s u u' b := by
  cases n with
  | zero =>
    cases h1 <;> cases h2 <;> cases h
    · exact .same _
    · exact .none_bool _
    · exact .none_int _ _
    · exact .none_str _ _
    · exact .bool_none _
    · exact .bool_bool _ _
    · exact .bool_int _ _ _
    · exact .bool_str _ _ _
    · exact .int_none _ _
    · exact .int_bool _ _ _
    · exact .int_int _ _ _ _
    · exact .int_str _ _ _ _
    · exact .str_none _ _
    · exact .str_bool _ _ _
    · exact .str_int _ _ _ _
    · rw [seq_eq]; exact .str_str _ _ _ _
  | succ n =>
    cases h1 <;> cases h2 <;> cases h
    · exact .same _
    · exact .none_bool _
    · exact .none_int _ _
    · exact .none_str _ _
    · exact .bool_none _
    · exact .bool_bool _ _
    · exact .bool_int _ _ _
    · exact .bool_str _ _ _
    · exact .int_none _ _
    · exact .int_bool _ _ _
    · exact .int_int _ _ _ _
    · exact .int_str _ _ _ _
    · exact .str_none _ _
    · exact .str_bool _ _ _
    · exact .str_int _ _ _ _
    · rw [seq_eq]; exact .str_str _ _ _ _
open PySem.SeqAt (EqAt) in
theorem eq_sn {A : Around} {n : Nat} {d : D} {u : Value} {a : Addr} {t : Tag} {xs : List D} {b : Bool} (hu : A.units < cLine) (h1 : SV d u) (ht : t = .tup → ∃ its, s.heap.IsTuple a its) (hl : t = .lst → ∃ its, s.heap.IsList a its)
    (h : deq n d (.node t xs) = some b) : EqAt A s u (.ref a) b := by
  cases t with
  | tup =>
    obtain ⟨its, q⟩ := ht rfl
    cases n with
    | zero =>
      cases h1 <;> cases h
      · exact .none_tuple q hu
      · exact .bool_tuple _ q hu
      · exact .int_tuple _ _ q hu
      · exact .str_tuple _ _ q hu
    | succ n =>
      cases h1 <;> cases h
      · exact .none_tuple q hu
      · exact .bool_tuple _ q hu
      · exact .int_tuple _ _ q hu
      · exact .str_tuple _ _ q hu
  | lst =>
    obtain ⟨its, q⟩ := hl rfl
    cases n with
    | zero =>
      cases h1 <;> cases h
      · exact .none_list q hu
      · exact .bool_list _ q hu
      · exact .int_list _ _ q hu
      · exact .str_list _ _ q hu
    | succ n =>
      cases h1 <;> cases h
      · exact .none_list q hu
      · exact .bool_list _ q hu
      · exact .int_list _ _ q hu
      · exact .str_list _ _ q hu
  | _ => cases n <;> cases h1 <;> cases h
open PySem.SeqAt (EqAt) in
theorem eq_ns {A : Around} {n : Nat} {d : D} {u : Value} {a : Addr} {t : Tag} {xs : List D} {b : Bool} (hu : A.units < cLine) (h1 : SV d u) (ht : t = .tup → ∃ its, s.heap.IsTuple a its) (hl : t = .lst → ∃ its, s.heap.IsList a its)
    (h : deq n (.node t xs) d = some b) : EqAt A s (.ref a) u b := by
  cases t with
  | tup =>
    obtain ⟨its, q⟩ := ht rfl
    cases n with
    | zero =>
      cases h1 <;> cases h
      · exact .tuple_none q hu
      · exact .tuple_bool _ q hu
      · exact .tuple_int _ _ q hu
      · exact .tuple_str _ _ q hu
    | succ n =>
      cases h1 <;> cases h
      · exact .tuple_none q hu
      · exact .tuple_bool _ q hu
      · exact .tuple_int _ _ q hu
      · exact .tuple_str _ _ q hu
  | lst =>
    obtain ⟨its, q⟩ := hl rfl
    cases n with
    | zero =>
      cases h1 <;> cases h
      · exact .list_none q hu
      · exact .list_bool _ q hu
      · exact .list_int _ _ q hu
      · exact .list_str _ _ q hu
    | succ n =>
      cases h1 <;> cases h
      · exact .list_none q hu
      · exact .list_bool _ q hu
      · exact .list_int _ _ q hu
      · exact .list_str _ _ q hu
  | _ => cases n <;> cases h1 <;> cases h
theorem is_tup (I : Inv X pins σ H s) {a : Addr} {vs : List V} (h : SqT X.K H a vs) : ∃ its, s.heap.IsTuple a its :=
  let ⟨its, _, p, _⟩ := I.tuple h
  ⟨_, p⟩
theorem is_lst (I : Inv X pins σ H s) {a : Addr} {vs : List V} (h : SqL X.K H a vs) : ∃ its, s.heap.IsList a its :=
  let ⟨its, _, p, _⟩ := I.list h
  ⟨_, p.isList⟩
theorem sv_of {d : D} {v : V} {u : Value} (h : RP X.K H d v) (r : RelV v u) : SV d u ∨ (∃ t xs, d = .node t xs) ∨ (∃ t, d = .ty t) ∨ (∃ C, d = .cls C) := by
  cases d with
  | non => cases h; cases r; exact .inl .non
  | bl b => cases h; cases r; exact .inl (.bl b)
  | int i => cases h; obtain ⟨t, rfl⟩ := r; exact .inl (.int i t)
  | str x => cases h; obtain ⟨t, rfl⟩ := r; exact .inl (.str x t)
  | ty t => exact .inr (.inr (.inl ⟨t, rfl⟩))
  | cls C => exact .inr (.inr (.inr ⟨C, rfl⟩))
  | node t xs => exact .inr (.inl ⟨t, xs, rfl⟩)
  | obj n => exact h.elim
/-- the tree of an equality -/
theorem deq_tree (I : Inv X pins σ H s) : ∀ (n : Nat) (d e : D) (v w : V) (u u' : Value) (b : Bool), RP X.K H d v → RP X.K H e w → RelV v u → RelV w u' → deq n d e = some b → PySem.W.EqTree X.prog X.w s (n + 1) u u' b := by
  intro n
  induction n with
  | zero =>
    intro d e v w u u' b hd he rv rw' h
    rcases sv_of hd rv with s1 | ⟨t, xs, rfl⟩ | ⟨t, rfl⟩ | ⟨C, rfl⟩
    · rcases sv_of he rw' with s2 | ⟨t, ys, rfl⟩ | ⟨t, rfl⟩ | ⟨C, rfl⟩
      · exact .leaf fun A _ => eq_ss s1 s2 h
      · obtain ⟨a, ws, rfl, ra, rs⟩ := he
        cases (show u' = Value.ref a from rw')
        exact .leaf fun A hu => eq_sn (by omega) s1 (by rintro rfl; exact is_tup I ra.tup) (by rintro rfl; exact is_lst I ra.lst) h
      · cases s1 <;> cases h
      · cases s1 <;> cases h
    · rcases sv_of he rw' with s2 | ⟨t', ys, rfl⟩ | ⟨t', rfl⟩ | ⟨C, rfl⟩
      · obtain ⟨a, ws, rfl, ra, rs⟩ := hd
        cases (show u = Value.ref a from rv)
        exact .leaf fun A hu => eq_ns (by omega) s2 (by rintro rfl; exact is_tup I ra.tup) (by rintro rfl; exact is_lst I ra.lst) h
      · obtain ⟨a, vs, rfl, ra, rs⟩ := hd
        obtain ⟨a', ws, rfl, ra', rs'⟩ := he
        cases (show u = Value.ref a from rv)
        cases (show u' = Value.ref a' from rw')
        cases t <;> cases t' <;> first
          | (cases h; done)
          | skip
        · cases h
          obtain ⟨_, q1⟩ := is_tup I ra.tup
          obtain ⟨_, q2⟩ := is_lst I ra'.lst
          exact .leaf fun A hu => .tuple_list q1 q2 (by omega)
        · cases h
          obtain ⟨_, q1⟩ := is_lst I ra.lst
          obtain ⟨_, q2⟩ := is_tup I ra'.tup
          exact .leaf fun A hu => .list_tuple q1 q2 (by omega)
      · cases t <;> cases h
      · cases t <;> cases h
    · cases e <;> cases h
    · cases e <;> cases h
  | succ n ih =>
    intro d e v w u u' b hd he rv rw' h
    by_cases hsame : ∃ a, v = .ref a ∧ w = .ref a
    · obtain ⟨a, rfl, rfl⟩ := hsame
      cases (show u = Value.ref a from rv)
      cases (show u' = Value.ref a from rw')
      rw [deq_same I _ _ _ _ _ hd he h]
      exact .same
    rcases sv_of hd rv with s1 | ⟨t, xs, rfl⟩ | ⟨t, rfl⟩ | ⟨C, rfl⟩
    · rcases sv_of he rw' with s2 | ⟨t, ys, rfl⟩ | ⟨t, rfl⟩ | ⟨C, rfl⟩
      · exact .leaf fun A _ => eq_ss s1 s2 h
      · obtain ⟨a, ws, rfl, ra, rs⟩ := he
        cases (show u' = Value.ref a from rw')
        exact .leaf fun A hu => eq_sn (by omega) s1 (by rintro rfl; exact is_tup I ra.tup) (by rintro rfl; exact is_lst I ra.lst) h
      · cases s1 <;> cases h
      · cases s1 <;> cases h
    · rcases sv_of he rw' with s2 | ⟨t', ys, rfl⟩ | ⟨t', rfl⟩ | ⟨C, rfl⟩
      · obtain ⟨a, ws, rfl, ra, rs⟩ := hd
        cases (show u = Value.ref a from rv)
        exact .leaf fun A hu => eq_ns (by omega) s2 (by rintro rfl; exact is_tup I ra.tup) (by rintro rfl; exact is_lst I ra.lst) h
      · obtain ⟨a, vs, rfl, ra, rs⟩ := hd
        obtain ⟨a', ws, rfl, ra', rs'⟩ := he
        cases (show u = Value.ref a from rv)
        cases (show u' = Value.ref a' from rw')
        have hne : a ≠ a' := fun z => hsame ⟨a, rfl, by rw [z]⟩
        cases t <;> cases t' <;> first
          | (cases h; done)
          | skip
        · have h : (allB (deqL (deq n) xs ys)).map (fun b => b && xs.length == ys.length) = some b := h
          obtain ⟨c, hc, rfl⟩ := Option.map_eq_some_iff.mp h
          obtain ⟨its, r1, p1, _⟩ := I.tuple ra.tup
          obtain ⟨its', r2, p2, _⟩ := I.tuple ra'.tup
          obtain ⟨i1, i2⟩ := items_tree ih rs rs' r1 r2 hc
          obtain ⟨l1, l2⟩ := len2 rs rs' r1 r2
          have t := PySem.W.EqTree.tuples hne p1 p2 i1
          have e1 : ((List.range (min its.toArray.size its'.toArray.size)).all (fun j => ((deqL (deq n) xs ys)[j]?.getD none).getD false) && its.toArray.size == its'.toArray.size) = (c && xs.length == ys.length) := by
            rw [l1, l2, ← i2]; simp
          rw [e1] at t
          exact t
        · cases h
          obtain ⟨_, q1⟩ := is_tup I ra.tup
          obtain ⟨_, q2⟩ := is_lst I ra'.lst
          exact .leaf fun A hu => .tuple_list q1 q2 (by omega)
        · cases h
          obtain ⟨_, q1⟩ := is_lst I ra.lst
          obtain ⟨_, q2⟩ := is_tup I ra'.tup
          exact .leaf fun A hu => .list_tuple q1 q2 (by omega)
        · have h : (if xs.length == ys.length then allB (deqL (deq n) xs ys) else some false) = some b := h
          obtain ⟨its, r1, p1, _⟩ := I.list ra.lst
          obtain ⟨its', r2, p2, _⟩ := I.list ra'.lst
          obtain ⟨l1, l2⟩ := len2 rs rs' r1 r2
          by_cases hl : xs.length = ys.length
          · rw [if_pos (by simpa using hl)] at h
            obtain ⟨i1, i2⟩ := items_tree ih rs rs' r1 r2 h
            have t := PySem.W.EqTree.lists hne p1.isList p2.isList (by simp; omega) i1
            have e1 : (List.range its.toArray.size).all (fun j => ((deqL (deq n) xs ys)[j]?.getD none).getD false) = b := by
              rw [← i2]
              have : min its.length its'.length = its.length := by omega
              rw [this]; simp
            rw [e1] at t
            exact t
          · rw [if_neg (by simpa using hl)] at h
            cases h
            exact .listsLen hne p1.isList p2.isList (by simp; omega)
        · rename_i ks ls
          have h : (allB (deqK (deq n) ls ys ks xs)).map (fun b => ks.length == ls.length && b) = some b := h
          obtain ⟨c, hc, rfl⟩ := Option.map_eq_some_iff.mp h
          obtain ⟨d1, l1⟩ := ra.dK
          obtain ⟨d2, l2⟩ := ra'.dK
          obtain ⟨_, m1, kv1, k1, dd1⟩ := dk_rd I.hok d1
          obtain ⟨_, m2, kv2, k2, dd2⟩ := dk_rd I.hok d2
          have nd : (kv1.map (·.1)).Nodup := by rw [← k1.keys]; exact keys_nodup I d1
          obtain ⟨e, e1, e2⟩ := keys_tree ih rs' l2 k2 rs l1 k1 nd hc
          have t := PySem.W.EqTree.dicts hne m1 m2 dd1 dd2 e1
          have z1 : kv1.length = ks.length := by rw [← k1.length, List.length_zip]; omega
          have z2 : kv2.length = ls.length := by rw [← k2.length, List.length_zip]; omega
          rw [e2, z1, z2] at t
          exact t
      · cases t <;> cases h
      · cases t <;> cases h
    · cases e <;> cases h
    · cases e <;> cases h
end
end TB

set_option Elab.async false
set_option linter.all false
set_option maxRecDepth 100000
set_option maxHeartbeats 4000000
namespace TB
open PySem PySem.Spec PyProof.Rows L2
section
variable {s : Shared}
open PySem.SeqAt (RcAt) in
theorem rc_ss {A : Around} {n : Nat} {d e : D} {u u' : Value} {b : Bool} (h1 : SV d u) (h2 : SV e u') (h : deq (n + 1) d e = some b) : RcAt A s u u' b := by
  cases h1 <;> cases h2 <;> cases h
  · exact .none_none
  · exact .none_bool _
  · exact .none_int _ _
  · exact .none_str _ _
  · exact .bool_none _
  · exact .bool_bool _ _
  · exact .bool_int _ _ _
  · exact .bool_str _ _ _
  · exact .int_none _ _
  · exact .int_bool _ _ _
  · exact .int_int _ _ _ _
  · exact .int_str _ _ _ _
  · exact .str_none _ _
  · exact .str_bool _ _ _
  · exact .str_int _ _ _ _
  · rw [seq_eq]; exact .str_str _ _ _ _
open PySem.SeqAt (RcAt) in
theorem rc_sn {A : Around} {n : Nat} {d : D} {u : Value} {a : Addr} {t : Tag} {xs : List D} {b : Bool} (hu : A.units < cLine) (h1 : SV d u) (ht : t = .tup → ∃ its, s.heap.IsTuple a its) (hl : t = .lst → ∃ its, s.heap.IsList a its)
    (h : deq (n + 1) d (.node t xs) = some b) : RcAt A s u (.ref a) b := by
  cases t with
  | tup =>
    obtain ⟨its, q⟩ := ht rfl
    cases h1 <;> cases h
    · exact .none_tuple q hu
    · exact .bool_tuple _ q hu
    · exact .int_tuple _ _ q hu
    · exact .str_tuple _ _ q hu
  | lst =>
    obtain ⟨its, q⟩ := hl rfl
    cases h1 <;> cases h
    · exact .none_list q hu
    · exact .bool_list _ q hu
    · exact .int_list _ _ q hu
    · exact .str_list _ _ q hu
  | _ => cases h1 <;> cases h
open PySem.SeqAt (RcAt) in
theorem rc_ns {A : Around} {n : Nat} {d : D} {u : Value} {a : Addr} {t : Tag} {xs : List D} {b : Bool} (hu : A.units < cLine) (h1 : SV d u) (ht : t = .tup → ∃ its, s.heap.IsTuple a its) (hl : t = .lst → ∃ its, s.heap.IsList a its)
    (h : deq (n + 1) (.node t xs) d = some b) : RcAt A s (.ref a) u b := by
  cases t with
  | tup =>
    obtain ⟨its, q⟩ := ht rfl
    cases h1 <;> cases h
    · exact .tuple_none q hu
    · exact .tuple_bool _ q hu
    · exact .tuple_int _ _ q hu
    · exact .tuple_str _ _ q hu
  | lst =>
    obtain ⟨its, q⟩ := hl rfl
    cases h1 <;> cases h
    · exact .list_none q hu
    · exact .list_bool _ q hu
    · exact .list_int _ _ q hu
    · exact .list_str _ _ q hu
  | _ => cases h1 <;> cases h
end
section
variable {X : Cx} {W : XK} {T : List (Addr × Str)} {pins : List (Addr × Obj)} {σ : L2.St} {H : Hp} {s : Shared}
/-- d == e -/
theorem deq_rc (I : Inv X pins σ H s) {n : Nat} {A : Around} {E : Value → Shared → Prop} (hu : A.units + (n + 10) < cLine) {d e : D} {v w : V} {u u' : Value} {b : Bool} {Q : Value → Shared → Prop} (hd : RP X.K H d v) (he : RP X.K H e w) (rv : RelV v u) (rw' : RelV w u')
    (h : deq (n + 1) d e = some b) (hQ : Q (.bool b) s) : wpAny (model X.prog X.w) A (compareOp .Eq u u') Q E s := by
  rcases sv_of hd rv with s1 | ⟨t, xs, rfl⟩ | ⟨t, rfl⟩ | ⟨C, rfl⟩
  · rcases sv_of he rw' with s2 | ⟨t, ys, rfl⟩ | ⟨t, rfl⟩ | ⟨C, rfl⟩
    · exact rc_ss s1 s2 h _ _ _ _ hQ
    · obtain ⟨a, ws, rfl, ra, rs⟩ := he
      cases (show u' = Value.ref a from rw')
      exact rc_sn (by omega) s1 (by rintro rfl; exact is_tup I ra.tup) (by rintro rfl; exact is_lst I ra.lst) h _ _ _ _ hQ
    · cases s1 <;> cases h
    · cases s1 <;> cases h
  · rcases sv_of he rw' with s2 | ⟨t', ys, rfl⟩ | ⟨t', rfl⟩ | ⟨C, rfl⟩
    · obtain ⟨a, ws, rfl, ra, rs⟩ := hd
      cases (show u = Value.ref a from rv)
      exact rc_ns (by omega) s2 (by rintro rfl; exact is_tup I ra.tup) (by rintro rfl; exact is_lst I ra.lst) h _ _ _ _ hQ
    · obtain ⟨a, vs, rfl, ra, rs⟩ := hd
      obtain ⟨a', ws, rfl, ra', rs'⟩ := he
      cases (show u = Value.ref a from rv)
      cases (show u' = Value.ref a' from rw')
      cases t <;> cases t' <;> first
        | (cases h; done)
        | skip
      · have h : (allB (deqL (deq n) xs ys)).map (fun b => b && xs.length == ys.length) = some b := h
        obtain ⟨c, hc, rfl⟩ := Option.map_eq_some_iff.mp h
        obtain ⟨its, r1, p1, _⟩ := I.tuple ra.tup
        obtain ⟨its', r2, p2, _⟩ := I.tuple ra'.tup
        obtain ⟨i1, i2⟩ := items_tree (deq_tree I n) rs rs' r1 r2 hc
        obtain ⟨l1, l2⟩ := len2 rs rs' r1 r2
        refine PySem.W.eq_tuplesT p1 p2 i1 (by omega) ?_
        have e1 : ((List.range (min its.toArray.size its'.toArray.size)).all (fun j => ((deqL (deq n) xs ys)[j]?.getD none).getD false) && its.toArray.size == its'.toArray.size) = (c && xs.length == ys.length) := by
          rw [l1, l2, ← i2]; simp
        rw [e1]
        exact hQ
      · cases h
        obtain ⟨_, q1⟩ := is_tup I ra.tup
        obtain ⟨_, q2⟩ := is_lst I ra'.lst
        exact (PySem.SeqAt.RcAt.tuple_list q1 q2 (by omega)) _ _ _ _ hQ
      · cases h
        obtain ⟨_, q1⟩ := is_lst I ra.lst
        obtain ⟨_, q2⟩ := is_tup I ra'.tup
        exact (PySem.SeqAt.RcAt.list_tuple q1 q2 (by omega)) _ _ _ _ hQ
      · have h : (if xs.length == ys.length then allB (deqL (deq n) xs ys) else some false) = some b := h
        obtain ⟨its, r1, p1, _⟩ := I.list ra.lst
        obtain ⟨its', r2, p2, _⟩ := I.list ra'.lst
        obtain ⟨l1, l2⟩ := len2 rs rs' r1 r2
        by_cases hl : xs.length = ys.length
        · rw [if_pos (by simpa using hl)] at h
          obtain ⟨i1, i2⟩ := items_tree (deq_tree I n) rs rs' r1 r2 h
          refine PySem.W.eq_listsT p1.isList p2.isList (by simp; omega) i1 (by omega) ?_
          have e1 : (List.range its.toArray.size).all (fun j => ((deqL (deq n) xs ys)[j]?.getD none).getD false) = b := by
            rw [← i2]
            have : min its.length its'.length = its.length := by omega
            rw [this]; simp
          rw [e1]
          exact hQ
        · rw [if_neg (by simpa using hl)] at h
          cases h
          exact PySem.SeqAt.eq_list_lengthsAt p1.isList p2.isList (by simp; omega) (by omega) hQ
      · rename_i ks ls
        have h : (allB (deqK (deq n) ls ys ks xs)).map (fun b => ks.length == ls.length && b) = some b := h
        obtain ⟨c, hc, rfl⟩ := Option.map_eq_some_iff.mp h
        obtain ⟨d1, l1⟩ := ra.dK
        obtain ⟨d2, l2⟩ := ra'.dK
        obtain ⟨_, m1, kv1, k1, dd1⟩ := dk_rd I.hok d1
        obtain ⟨_, m2, kv2, k2, dd2⟩ := dk_rd I.hok d2
        have nd : (kv1.map (·.1)).Nodup := by rw [← k1.keys]; exact keys_nodup I d1
        obtain ⟨e, e1, e2⟩ := keys_tree (deq_tree I n) rs' l2 k2 rs l1 k1 nd hc
        have z1 : kv1.length = ks.length := by rw [← k1.length, List.length_zip]; omega
        have z2 : kv2.length = ls.length := by rw [← k2.length, List.length_zip]; omega
        refine PySem.W.eq_dictsT m1 m2 dd1 dd2 e1 (by omega) ?_
        rw [e2, z1, z2]
        exact hQ
    · cases t <;> cases h
    · cases t <;> cases h
  · cases e <;> cases h
  · cases e <;> cases h
end

/-! ### data of the library -/
def kPy : Key → PyData
  | .inl i => .int i
  | .inr x => .str x
mutual
def pyD : D → PyData
  | .non => .none
  | .bl b => .bool b
  | .int i => .int i
  | .str s => .str s
  | .node .tup xs => .tuple (pyDs xs)
  | .node .lst xs => .list (pyDs xs)
  | .node (.dK ks) xs => .dict ((ks.map kPy).zip (pyDs xs))
  | _ => .none
def pyDs : List D → List PyData
  | [] => []
  | x :: xs => pyD x :: pyDs xs
end
mutual
/-- no classes, no instances, no cells; dicts only of plain keys -/
def datB : D → Bool
  | .non => true
  | .bl _ => true
  | .int _ => true
  | .str _ => true
  | .node .tup xs => datBs xs
  | .node .lst xs => datBs xs
  | .node (.dK _) xs => datBs xs
  | _ => false
def datBs : List D → Bool
  | [] => true
  | x :: xs => datB x && datBs xs
end
mutual
/-- .. and no dicts -/
def flB : D → Bool
  | .non => true
  | .bl _ => true
  | .int _ => true
  | .str _ => true
  | .node .tup xs => flBs xs
  | .node .lst xs => flBs xs
  | _ => false
def flBs : List D → Bool
  | [] => true
  | x :: xs => flB x && flBs xs
end
section
variable {X : Cx} {pins : List (Addr × Obj)} {σ : L2.St} {H : Hp} {s : Shared}
theorem keys_reads {P : Program} {w : World} : ∀ {es : List DictEntry} {kv : List (Key × Value)}, Pairs (mixKind P w) es kv → ∃ as, ReadsAll s.heap (es.map (·.key)) (kv.map fun p => kPy p.1) as ∧ as = []
  | _, _, .nil => ⟨[], .nil, rfl⟩
  | _, _, .cons (e := e) (kv := kv) h _ r => by
    obtain ⟨as, q, rfl⟩ := keys_reads r
    have h : keyIs kv.1 e.key = true := h
    rcases keyIs_shape h with ⟨i, t, e1, e2⟩ | ⟨x, t, e1, e2⟩
    · refine ⟨[], ?_, rfl⟩
      have : ReadsAll s.heap (e.key :: _) (kPy kv.1 :: _) ([] ++ []) := .cons (by rw [e1, e2]; exact .int i t) q
      exact this
    · refine ⟨[], ?_, rfl⟩
      have : ReadsAll s.heap (e.key :: _) (kPy kv.1 :: _) ([] ++ []) := .cons (by rw [e1, e2]; exact .str x t) q
      exact this
theorem vals_pairs {P : Program} {w : World} : ∀ {es : List DictEntry} {kv : List (Key × Value)}, Pairs (mixKind P w) es kv → es.map (·.val) = kv.map (·.2)
  | _, _, .nil => rfl
  | _, _, .cons _ h r => by rw [List.map_cons, List.map_cons, h, vals_pairs r]
theorem kv_vals : ∀ {ks : List Key} {vs : List V} {kv : List (Key × Value)}, ks.length = vs.length → KV (ks.zip vs) kv → Vals vs (kv.map (·.2)) ∧ kv.map (·.1) = ks
  | [], [], _, _, r => by cases r; exact ⟨.nil, rfl⟩
  | k :: ks, v :: vs, _, l, r => by
    rw [List.zip_cons_cons] at r
    cases r with
    | cons h r =>
      obtain ⟨h1, h2⟩ := kv_vals (by simpa using l) r
      exact ⟨.cons h.2 h1, by rw [List.map_cons, h2, ← h.1]⟩
theorem not_sys {a : Addr} (sm : ∃ o es ep, X.base.get? sysModules = some o ∧ o.data = .dict es ep) (I : Inv X pins σ H s) {o : Obj} {vs : Array Value} {n : Nat} (h : s.heap.get? a = some o) (hd : o.data = .seq vs n) : sysModules ≠ a := by
  rintro rfl
  obtain ⟨o', es, ep, h1, h2⟩ := sm
  rw [I.bk _ _ h1] at h; cases h
  rw [h2] at hd
  cases hd
mutual
/-- what is read, as the library reads it -/
theorem rp_reads (sm : ∃ o es ep, X.base.get? sysModules = some o ∧ o.data = .dict es ep) (I : Inv X pins σ H s) : ∀ (d : D) (v : V) (u : Value), RP X.K H d v → RelV v u → datB d = true → ∃ as, Reads s.heap u (pyD d) as ∧ sysModules ∉ as
  | .non, _, _, h, r, _ => by cases h; cases r; exact ⟨_, .none, by simp⟩
  | .bl b, _, _, h, r, _ => by cases h; cases r; exact ⟨_, .bool b, by simp⟩
  | .int i, _, _, h, r, _ => by cases h; obtain ⟨t, rfl⟩ := r; exact ⟨_, .int i t, by simp⟩
  | .str x, _, _, h, r, _ => by cases h; obtain ⟨t, rfl⟩ := r; exact ⟨_, .str x t, by simp⟩
  | .ty _, _, _, _, _, k => by cases k
  | .cls _, _, _, _, _, k => by cases k
  | .obj _, _, _, _, _, k => by cases k
  | .node .tup xs, _, _, h, r, k => by
    obtain ⟨a, vs, rfl, ra, rs⟩ := h
    cases r
    obtain ⟨its, rv, ⟨o, ho, hc, n, hd⟩, _⟩ := I.tuple ra.tup
    obtain ⟨as, hr, hn⟩ := rps_reads sm I xs vs its rs rv k
    exact ⟨_, .tuple ho hc hd hr, hn⟩
  | .node .lst xs, _, _, h, r, k => by
    obtain ⟨a, vs, rfl, ra, rs⟩ := h
    cases r
    obtain ⟨its, rv, ⟨o, n, ho, hc, _, hd⟩, _⟩ := I.list ra.lst
    obtain ⟨as, hr, hn⟩ := rps_reads sm I xs vs its rs rv k
    exact ⟨_, .list ho hc hd hr, by simp [not_sys sm I ho hd, hn]⟩
  | .node (.dK ks) xs, _, _, h, r, k => by
    obtain ⟨a, vs, rfl, ra, rs⟩ := h
    cases r
    obtain ⟨d1, l1⟩ := ra.dK
    obtain ⟨_, m1, kv, k1, o, es, ep, ho, hx, hd, _, hp, _⟩ := dk_rd I.hok d1
    obtain ⟨v1, v2⟩ := kv_vals l1 k1
    obtain ⟨as, hk, rfl⟩ := keys_reads (s := s) hp
    obtain ⟨bs, hv, hn⟩ := rps_reads sm I xs vs _ rs v1 k
    have lz : (ks.map kPy).length = (pyDs xs).length := by
      have : ∀ xs : List D, (pyDs xs).length = xs.length := fun xs => by induction xs <;> simp_all [pyDs]
      rw [this, List.length_map, l1, rs.len]
    refine ⟨_, .dict (kvs := (ks.map kPy).zip (pyDs xs)) ho hx.1 hd (as := []) (bs := bs) ?_ ?_, ?_⟩
    · rw [List.map_fst_zip (by omega)]
      have : kv.map (fun p => kPy p.1) = ks.map kPy := by rw [← v2, List.map_map]; rfl
      rw [this] at hk
      exact hk
    · rw [List.map_snd_zip (by omega), vals_pairs hp]
      exact hv
    · intro z
      rcases List.mem_append.mp z with z | z
      · rcases List.mem_cons.mp z with z | z
        · rw [← z] at m1; simp at m1
        · cases z
      · exact hn z
  | .node .ktp _, _, _, _, _, k => by cases k
  | .node .klst _, _, _, _, _, k => by cases k
  | .node (.dT _) _, _, _, _, _, k => by cases k
  | .node (.ins _ _) _, _, _, _, _, k => by cases k
  | .node (.exn _) _, _, _, _, _, k => by cases k
theorem rps_reads (sm : ∃ o es ep, X.base.get? sysModules = some o ∧ o.data = .dict es ep) (I : Inv X pins σ H s) : ∀ (ds : List D) (vs : List V) (us : List Value), RPs X.K H ds vs → Vals vs us → datBs ds = true → ∃ as, ReadsAll s.heap us (pyDs ds) as ∧ sysModules ∉ as
  | [], _, _, h, r, _ => by cases (show _ = [] from h); cases r; exact ⟨_, .nil, by simp⟩
  | d :: ds, _, _, h, r, k => by
    obtain ⟨v, vr, rfl, h1, h2⟩ := h
    cases r with
    | cons r1 r2 =>
      have k : (datB d && datBs ds) = true := k
      rw [Bool.and_eq_true] at k
      obtain ⟨as, q1, n1⟩ := rp_reads sm I d _ _ h1 r1 k.1
      obtain ⟨bs, q2, n2⟩ := rps_reads sm I ds _ _ h2 r2 k.2
      exact ⟨_, .cons q1 q2, by simp [n1, n2]⟩
end
end
end TB

set_option Elab.async false
set_option linter.all false
set_option maxRecDepth 100000
set_option maxHeartbeats 4000000
namespace TB
open PySem PySem.Spec PyProof.Rows L2
section
variable {X : Cx} {W : XK} {T : List (Addr × Str)}
/-- an outcome that is laid now -/
theorem fin1 {pins : List (Addr × Obj)} {σ : L2.St} {H : Hp} {s : Shared} {Q : VK} {A : AM} {d : D} {v : V} {u : Value} (I : Inv X pins σ H s) (p : Po W T X.K A H (.ok d A.ers) Q) (m : MemOk X.K A H) (dv : DV X.K A H d v) (r : RelV v u) : EP X pins σ Q u s :=
  ⟨v, H, I, r, p.fin m dv⟩

/-! ### comparisons -/
def gEq : Op2 := fun d e M => match view M d, view M e with
  | some d', some e' => match deq 24 d' e' with
    | some b => .ok (.bl b) M
    | none => .stuck
  | _, _ => .stuck
theorem op_gEq (c : Cok X W T) : OpR X (compareOp .Eq) (Rd2 W T X.K gEq) := by
  rintro pins s σ H x y v u Q I rx ry ⟨A, d, e, m, _, dx, dy, p⟩
  unfold gEq at p
  split at p
  · rename_i d' e' h1 h2
    split at p
    · rename_i b hb
      exact deq_rc I (n := 23) (by have := c.un; omega) (view_at m dx h1) (view_at m dy h2) rx ry hb ⟨.bl b, H, I, rfl, p.fin m rfl⟩
    · exact p.elim
  · exact p.elim
def gNe : Op2 := fun d e M => match view M d, view M e with
  | some d', some e' => match flB d' && flB e' && (SeqAt.shaped (pyD d') && SeqAt.shaped (pyD e')) with
    | true => .ok (.bl (!PyData.eqv (pyD d') (pyD e'))) M
    | false => .stuck
  | _, _ => .stuck
mutual
theorem flB_dp {K : PySem.W.Frag} {H : Hp} : ∀ {d : D} {v : V}, RP K H d v → flB d = true → Dp K H v (pyD d)
  | .non, _, h, _ => by cases h; exact .non
  | .bl b, _, h, _ => by cases h; exact .bl b
  | .int i, _, h, _ => by cases h; exact .int i
  | .str x, _, h, _ => by cases h; exact .str x
  | .ty _, _, _, k => by cases k
  | .cls _, _, _, k => by cases k
  | .obj _, _, _, k => by cases k
  | .node .tup xs, _, h, k => by
    obtain ⟨a, vs, rfl, ra, rs⟩ := h
    exact .tup ra.tup (flBs_dp rs k)
  | .node .lst xs, _, h, k => by
    obtain ⟨a, vs, rfl, ra, rs⟩ := h
    exact .lst ra.lst (flBs_dp rs k)
  | .node (.dK _) _, _, _, k => by cases k
  | .node .ktp _, _, _, k => by cases k
  | .node .klst _, _, _, k => by cases k
  | .node (.dT _) _, _, _, k => by cases k
  | .node (.ins _ _) _, _, _, k => by cases k
  | .node (.exn _) _, _, _, k => by cases k
theorem flBs_dp {K : PySem.W.Frag} {H : Hp} : ∀ {ds : List D} {vs : List V}, RPs K H ds vs → flBs ds = true → DpAll K H vs (pyDs ds)
  | [], _, h, _ => by cases (show _ = [] from h); exact .nil
  | d :: ds, _, h, k => by
    obtain ⟨v, r, rfl, h1, h2⟩ := h
    have k : (flB d && flBs ds) = true := k
    rw [Bool.and_eq_true] at k
    exact .cons (flB_dp h1 k.1) (flBs_dp h2 k.2)
end
theorem op_gNe (c : Cok X W T) : OpR X (compareOp .NotEq) (Rd2 W T X.K gNe) := by
  rintro pins s σ H x y v u Q I rx ry ⟨A, d, e, m, _, dx, dy, p⟩
  unfold gNe at p
  split at p
  · rename_i d' e' h1 h2
    split at p
    · rename_i hb
      simp only [Bool.and_eq_true] at hb
      obtain ⟨⟨f1, f2⟩, s1, s2⟩ := hb
      exact op_neD (by have := c.un; omega) pins s σ H x y v u Q I rx ry ⟨_, _, flB_dp (view_at m dx h1) f1, flB_dp (view_at m dy h2) f2, s1, s2, p.fin m rfl⟩
    · exact p.elim
  · exact p.elim
def isNon : D → Bool
  | .non => true
  | _ => false
theorem isNon_at {K : PySem.W.Frag} {A : AM} {H : Hp} {d : D} {v : V} (h : DV K A H d v) : isNon d = decide (v = .non) := by
  cases d with
  | non => cases (show v = .non from h); rfl
  | bl b => cases (show v = _ from h); rfl
  | int b => cases (show v = _ from h); rfl
  | str b => cases (show v = _ from h); rfl
  | ty b => cases (show v = _ from h); rfl
  | cls b => cases (show v = _ from h); rfl
  | node t xs => obtain ⟨a, vs, rfl, _⟩ := h; rfl
  | obj n => obtain ⟨a, _, rfl⟩ := h; rfl
def gIs : Op2 := fun d e M => match e with
  | .non => .ok (.bl (isNon d)) M
  | _ => .stuck
def gIsnt : Op2 := fun d e M => match e with
  | .non => .ok (.bl (!isNon d)) M
  | _ => .stuck
theorem op_gIs : OpR X (compareOp .Is) (Rd2 W T X.K gIs) := by
  rintro pins s σ H x y v u Q I rx ry ⟨A, d, e, m, _, dx, dy, p⟩
  cases e with
  | non => exact op_isN pins s σ H x y v u Q I rx ry ⟨dy, by rw [← isNon_at dx]; exact p.fin m rfl⟩
  | _ => exact p.elim
theorem op_gIsnt : OpR X (compareOp .IsNot) (Rd2 W T X.K gIsnt) := by
  rintro pins s σ H x y v u Q I rx ry ⟨A, d, e, m, _, dx, dy, p⟩
  cases e with
  | non => exact op_notN pins s σ H x y v u Q I rx ry ⟨dy, by rw [← isNon_at dx]; exact p.fin m rfl⟩
  | _ => exact p.elim
/-- two ints -/
def gII (f : Int → Int → D) (cond : Int → Int → Bool := fun _ _ => true) : Op2 := fun d e M => match d, e with
  | .int i, .int j => match cond i j with
    | true => .ok (f i j) M
    | false => .stuck
  | _, _ => .stuck
theorem op_gII {f : Value → Value → Sem Value} {g : Int → Int → D} {cond : Int → Int → Bool} {C : Int → Int → Prop} {gv : Int → Int → V} (ho : OpR X f (rI C gv)) (hC : ∀ i j, cond i j = true → C i j) (hv : ∀ A H i j, DV X.K A H (g i j) (gv i j)) :
    OpR X f (Rd2 W T X.K (gII g cond)) := by
  rintro pins s σ H x y v u Q I rx ry ⟨A, d, e, m, _, dx, dy, p⟩
  unfold gII at p
  split at p
  · rename_i i j
    split at p
    · rename_i hc
      cases (show x = V.int i from dx)
      cases (show y = V.int j from dy)
      exact ho pins s σ H _ _ v u Q I rx ry ⟨i, j, rfl, rfl, hC i j hc, p.fin m (hv A H i j)⟩
    · exact p.elim
  · exact p.elim
theorem rI_of0 {f : Value → Value → Sem Value} {g : Int → Int → V} (h : OpR X f (rI0 g)) : OpR X f (rI (fun _ _ => True) g) :=
  fun pins s σ H x y v u Q I rx ry ⟨i, j, e1, e2, _, q⟩ => h pins s σ H x y v u Q I rx ry ⟨i, j, e1, e2, q⟩
def gLt : Op2 := gII fun i j => .bl (decide (i < j))
def gLe : Op2 := gII fun i j => .bl (decide (i ≤ j))
def gGt : Op2 := gII fun i j => .bl (decide (j < i))
def gGe : Op2 := gII fun i j => .bl (decide (j ≤ i))
theorem op_gLt : OpR X (compareOp .Lt) (Rd2 W T X.K gLt) := op_gII (rI_of0 op_lt) (fun _ _ _ => trivial) fun _ _ _ _ => rfl
theorem op_gLe : OpR X (compareOp .LtE) (Rd2 W T X.K gLe) := op_gII (rI_of0 op_le) (fun _ _ _ => trivial) fun _ _ _ _ => rfl
theorem op_gGt : OpR X (compareOp .Gt) (Rd2 W T X.K gGt) := op_gII (rI_of0 op_gt) (fun _ _ _ => trivial) fun _ _ _ _ => rfl
theorem op_gGe : OpR X (compareOp .GtE) (Rd2 W T X.K gGe) := op_gII (rI_of0 op_ge) (fun _ _ _ => trivial) fun _ _ _ _ => rfl
/-! ### arithmetic -/
def gSub : Op2 := gII fun i j => .int (i - j)
def gMulI : Op2 := gII (fun i j => .int (i * j)) fun i j => (decide (-(2 ^ 64) < i) && decide (i < 2 ^ 64)) || (decide (-(2 ^ 64) < j) && decide (j < 2 ^ 64))
def gDiv : Op2 := gII (fun i j => .int (i / j)) fun _ j => decide (0 < j) && decide (j < 1073741824)
def gMod : Op2 := gII (fun i j => .int (i % j)) fun _ j => decide (0 < j)
def gPow : Op2 := gII (fun i j => .int (i ^ j.toNat)) fun i j => decide (0 ≤ j) && (decide (j ≤ 1000000) && decide (i.natAbs < 2 ^ 64))
theorem op_gSub : OpR X (binaryOp .Sub) (Rd2 W T X.K gSub) := op_gII (rI_of0 op_sub) (fun _ _ _ => trivial) fun _ _ _ _ => rfl
theorem op_gMulI : OpR X (binaryOp .Mult) (Rd2 W T X.K gMulI) := op_gII op_mul (fun i j h => by simpa [CMul] using h) fun _ _ _ _ => rfl
theorem op_gDiv : OpR X (binaryOp .FloorDiv) (Rd2 W T X.K gDiv) := op_gII op_fdiv (fun i j h => by simpa [CDiv] using h) fun _ _ _ _ => rfl
theorem op_gMod : OpR X (binaryOp .Mod) (Rd2 W T X.K gMod) := op_gII op_mod (fun i j h => by simpa using h) fun _ _ _ _ => rfl
theorem op_gPow : OpR X (binaryOp .Pow) (Rd2 W T X.K gPow) := op_gII op_pow (fun i j h => by simpa [CPow] using h) fun _ _ _ _ => rfl
def szB (n : Nat) : Bool := Nat.ble n 1000000
theorem szB_le {n : Nat} (h : szB n = true) : n ≤ sizeLine := Nat.le_trans (Nat.le_of_ble_eq_true h) (by rw [sizeLine_eq]; decide)
/-- ints, texts, lists, tuples -/
def gAdd : Op2 := fun d e M => match d, e with
  | .int i, .int j => .ok (.int (i + j)) M
  | .str x, .str y => match szB (x.length + y.length) with
    | true => .ok (.str (x ++ y)) M
    | false => .stuck
  | .node .lst xs, .node .lst ys => match szB (xs.length + ys.length) with
    | true => .ok (.node .lst (xs ++ ys)) M
    | false => .stuck
  | _, _ => .stuck
theorem DPs.app {K : PySem.W.Frag} {ρ : List Addr} {H : Hp} : ∀ {xs ys : List D} {vs ws : List V}, DPs K ρ H xs vs → DPs K ρ H ys ws → DPs K ρ H (xs ++ ys) (vs ++ ws)
  | [], _, _, _, h, h' => by cases (show _ = [] from h); exact h'
  | x :: xs, ys, _, ws, h, h' => by
    obtain ⟨v, r, rfl, d, ds⟩ := h
    exact ⟨v, r ++ ws, rfl, d, DPs.app ds h'⟩
theorem DPs.len {K : PySem.W.Frag} {ρ : List Addr} {H : Hp} : ∀ {xs : List D} {vs : List V}, DPs K ρ H xs vs → xs.length = vs.length
  | [], _, h => by cases (show _ = [] from h); rfl
  | x :: xs, _, h => by
    obtain ⟨v, r, rfl, _, ds⟩ := h
    simp [DPs.len ds]
theorem DV.node_at {K : PySem.W.Frag} {A : AM} {H : Hp} {t : Tag} {xs : List D} {v : V} (h : DV K A H (.node t xs) v) : ∃ a vs, v = .ref a ∧ ReadAt K H a t vs ∧ DPs K A.adrs H xs vs := by
  obtain ⟨a, vs, e, na, ds⟩ := h
  refine ⟨a, vs, e, ?_, ds⟩
  rcases na with ⟨u, _, r, i⟩ | k
  · exact .inl ⟨u, r, i⟩
  · exact .inr k
theorem op_gAdd : OpR X (binaryOp .Add) (Rd2 W T X.K gAdd) := by
  rintro pins s σ H x y v u Q I rx ry ⟨A, d, e, m, _, dx, dy, p⟩
  unfold gAdd at p
  split at p
  · rename_i i j
    cases (show x = V.int i from dx)
    cases (show y = V.int j from dy)
    exact op_add pins s σ H _ _ v u Q I rx ry ⟨i, j, rfl, rfl, p.fin m rfl⟩
  · rename_i i j
    cases (show x = V.str i from dx)
    cases (show y = V.str j from dy)
    split at p
    · rename_i hz
      exact op_add_str pins s σ H _ _ v u Q I rx ry ⟨i, j, rfl, rfl, szB_le hz, p.fin m rfl⟩
    · exact p.elim
  · rename_i xs ys
    split at p
    · rename_i hz
      obtain ⟨a, vs, rfl, ra, ds⟩ := dx.node_at
      obtain ⟨b, ws, rfl, rb, es⟩ := dy.node_at
      exact op_cat pins s σ H _ _ v u Q I rx ry ⟨a, b, vs, ws, rfl, rfl, ra.lstH, rb.lstH, by rw [← ds.len, ← es.len]; exact szB_le hz, fun q hq => p.node m hq rfl (ds.app es)⟩
    · exact p.elim
  · exact p.elim
/-- [x] * n -/
def rep (k : Nat) (xs : List D) : List D := match k with
  | 0 => []
  | k + 1 => xs ++ rep k xs
def gRep : Op2 := fun d e M => match d, e with
  | .node .lst xs, .int k => match decide (-1000 ≤ k) && decide (k ≤ 100000) && szB (xs.length * k.toNat) with
    | true => .ok (.node .lst (rep k.toNat xs)) M
    | false => .stuck
  | _, _ => .stuck
theorem rep_ok {K : PySem.W.Frag} {ρ : List Addr} {H : Hp} {xs : List D} {vs : List V} (h : DPs K ρ H xs vs) : ∀ k, DPs K ρ H (rep k xs) (List.replicate k vs).flatten
  | 0 => rfl
  | k + 1 => by
    rw [List.replicate_succ, List.flatten_cons]
    exact h.app (rep_ok h k)
theorem op_gRep : OpR X (binaryOp .Mult) (Rd2 W T X.K gRep) := by
  rintro pins s σ H x y v u Q I rx ry ⟨A, d, e, m, _, dx, dy, p⟩
  unfold gRep at p
  split at p
  · rename_i xs k
    split at p
    · rename_i hz
      simp only [Bool.and_eq_true, decide_eq_true_eq] at hz
      obtain ⟨a, vs, rfl, ra, ds⟩ := dx.node_at
      cases (show y = V.int k from dy)
      exact op_rep pins s σ H _ _ v u Q I rx ry ⟨a, k, vs, rfl, rfl, ra.lstH, by omega, by omega, by rw [← ds.len]; exact szB_le hz.2, fun q hq => p.node m hq rfl (rep_ok ds _)⟩
    · exact p.elim
  · exact p.elim

/-! ### in -/
def strIn (x z : Str) : Bool := !(Builtin.Str.occurrences z x 0 z.length 1).isEmpty
def keyOf : D → Option Key
  | .int i => some (.inl i)
  | .str x => some (.inr x)
  | _ => none
def keysOf : List D → Option (List Key)
  | [] => some []
  | x :: xs => match keyOf x with
    | some k => match keysOf xs with
      | some ks => some (k :: ks)
      | none => none
    | none => none
def keqs : List Key → List Key → Bool
  | [], [] => true
  | a :: as, b :: bs => keq a b && keqs as bs
  | _, _ => false
/-- x in c -/
def isIn (M : Mem) (d e : D) : Option Bool := match d, e with
  | .str x, .str z => some (strIn x z)
  | _, _ => match view M e with
    | some (.node .tup xs) => match view M d with
      | some d' => match flB d' && flBs xs && (Nat.ble (pyD d').depth 60) with
        | true => some (xs.any fun y => PyData.eqv (pyD y) (pyD d'))
        | false => none
      | none => none
    | some (.node .ktp xs) => match view M d with
      | some d' => match flB d' && flBs xs && (Nat.ble (pyD d').depth 60) with
        | true => some (xs.any fun y => PyData.eqv (pyD y) (pyD d'))
        | false => none
      | none => none
    | some (.node .lst xs) => match view M d with
      | some d' => match flB d' && flBs xs && (Nat.ble (pyD d').depth 60) with
        | true => some (xs.any fun y => PyData.eqv (pyD y) (pyD d'))
        | false => none
      | none => none
    | some (.node (.dK ks) xs) => match d with
      | .non => some false
      | _ => match keyOf d with
        | some k => some (dget keq ks xs k).isSome
        | none => none
    | some (.node (.dT ks) xs) => match d with
      | .node .tup js => match keysOf js with
        | some k => some (dget keqs ks xs k).isSome
        | none => none
      | _ => none
    | _ => none
def gIn : Op2 := fun d e M => match isIn M d e with
  | some b => .ok (.bl b) M
  | none => .stuck
def gNin : Op2 := fun d e M => match isIn M d e with
  | some b => .ok (.bl (!b)) M
  | none => .stuck
theorem keyOf_at {K : PySem.W.Frag} {A : AM} {H : Hp} {d : D} {v : V} {k : Key} (h : DV K A H d v) (e : keyOf d = some k) : v = kV k := by
  cases d <;> cases e <;> exact h
theorem keysOf_at {K : PySem.W.Frag} {ρ : List Addr} {H : Hp} : ∀ {ds : List D} {vs : List V} {ks : List Key}, DPs K ρ H ds vs → keysOf ds = some ks → vs = ks.map kV
  | [], _, _, h, e => by cases (show _ = [] from h); cases e; rfl
  | d :: ds, _, ks, h, e => by
    obtain ⟨v, r, rfl, d1, ds1⟩ := h
    have e : (match keyOf d with | some k => (match keysOf ds with | some ks => some (k :: ks) | none => none) | none => none) = some ks := e
    cases q : keyOf d with
    | none => rw [q] at e; cases e
    | some k =>
      rw [q] at e
      cases q2 : keysOf ds with
      | none => rw [q2] at e; cases e
      | some ks' =>
        rw [q2] at e
        cases e
        rw [keysOf_at ds1 q2]
        have : v = kV k := by cases d <;> cases q <;> exact d1
        rw [this]; rfl
theorem keqs_eq : ∀ (a b : List Key), keqs a b = decide (a = b)
  | [], [] => rfl
  | [], _ :: _ => rfl
  | _ :: _, [] => rfl
  | a :: as, b :: bs => by
    show (keq a b && keqs as bs) = _
    rw [keq_eq, keqs_eq as bs]
    by_cases h1 : a = b <;> by_cases h2 : as = bs <;> simp [h1, h2]
theorem dget_val {κ : Type} [DecidableEq κ] {eq : κ → κ → Bool} (he : ∀ a b, eq a b = decide (a = b)) {K : PySem.W.Frag} {ρ : List Addr} {H : Hp} {ks : List κ} : ∀ {xs : List D} {vs : List V} {k : κ}, ks.length = vs.length → DPs K ρ H xs vs →
    (∀ x, dget eq ks xs k = some x → ∃ v, valV (ks.zip vs) k = some v ∧ DP K ρ H x v) ∧ (dget eq ks xs k = none → valV (ks.zip vs) k = none) := by
  induction ks with
  | nil => intro xs vs k hl h; exact ⟨fun x e => by simp [dget] at e, fun _ => by simp [valV]⟩
  | cons j ks ih =>
    intro xs vs k hl h
    cases xs with
    | nil => cases (show vs = [] from h); simp at hl
    | cons x xs =>
      obtain ⟨v, r, rfl, d, ds⟩ := h
      have ih := ih (k := k) (by simpa using hl) ds
      unfold dget
      rw [he]
      by_cases hk : j = k
      · subst hk
        simp only [decide_true, if_true]
        refine ⟨fun y e => ?_, fun e => by cases e⟩
        cases e
        exact ⟨v, valV_pos rfl, d⟩
      · simp only [hk, decide_false, Bool.false_eq_true, if_false]
        refine ⟨fun y e => ?_, fun e => ?_⟩
        · obtain ⟨w, h1, h2⟩ := ih.1 y e
          exact ⟨w, by rw [List.zip_cons_cons, valV_neg hk]; exact h1, h2⟩
        · rw [List.zip_cons_cons, valV_neg hk]
          exact ih.2 e
theorem isSome_val {κ : Type} [DecidableEq κ] {eq : κ → κ → Bool} (he : ∀ a b, eq a b = decide (a = b)) {K : PySem.W.Frag} {H : Hp} {ks : List κ} : ∀ {xs : List D} {vs : List V} {k : κ}, ks.length = vs.length → RPs K H xs vs →
    (dget eq ks xs k).isSome = (valV (ks.zip vs) k).isSome := by
  induction ks with
  | nil => intro xs vs k hl h; simp [dget, valV]
  | cons j ks ih =>
    intro xs vs k hl h
    cases xs with
    | nil => cases (show vs = [] from h); simp at hl
    | cons x xs =>
      obtain ⟨v, r, rfl, d, ds⟩ := h
      unfold dget
      rw [he]
      by_cases hk : j = k
      · subst hk
        simp only [decide_true, if_true]
        rw [List.zip_cons_cons, valV_pos rfl]
        rfl
      · simp only [hk, decide_false, Bool.false_eq_true, if_false]
        rw [List.zip_cons_cons, valV_neg hk]
        exact ih (by simpa using hl) ds
end
end TB

set_option Elab.async false
set_option linter.all false
set_option maxRecDepth 100000
set_option maxHeartbeats 4000000
namespace TB
open PySem PySem.Spec PyProof.Rows L2
section
variable {X : Cx} {W : XK} {T : List (Addr × Str)}
section
variable {pins : List (Addr × Obj)} {σ : L2.St} {H : Hp} {s : Shared}
mutual
theorem flB_reads (I : Inv X pins σ H s) {d : D} {v : V} {u : Value} (h : RP X.K H d v) (r : RelV v u) (k : flB d = true) : ∃ as, Reads s.heap u (pyD d) as := Dp.reads I _ _ _ (flB_dp h k) r
end
mutual
theorem flB_plain : ∀ {d : D}, flB d = true → (pyD d).plain = true
  | .non, _ => rfl
  | .bl _, _ => rfl
  | .int _, _ => rfl
  | .str _, _ => rfl
  | .ty _, k => by cases k
  | .cls _, k => by cases k
  | .obj _, k => by cases k
  | .node .tup xs, k => by
    show PyData.plain (.tuple (pyDs xs)) = true
    rw [PyData.plain]; exact flBs_plain k
  | .node .lst xs, k => by
    show PyData.plain (.list (pyDs xs)) = true
    rw [PyData.plain]; exact flBs_plain k
  | .node .ktp _, k => by cases k
  | .node .klst _, k => by cases k
  | .node (.dK _) _, k => by cases k
  | .node (.dT _) _, k => by cases k
  | .node (.ins _ _) _, k => by cases k
  | .node (.exn _) _, k => by cases k
theorem flBs_plain : ∀ {d : List D}, flBs d = true → PyData.plainAll (pyDs d) = true
  | [], _ => rfl
  | x :: xs, k => by
    have k : (flB x && flBs xs) = true := k
    rw [Bool.and_eq_true] at k
    show PyData.plainAll (pyD x :: pyDs xs) = true
    rw [PyData.plainAll, flB_plain k.1, flBs_plain k.2]
    rfl
end
theorem pyDs_map (xs : List D) : pyDs xs = xs.map pyD := by
  induction xs with
  | nil => rfl
  | cons x xs ih => show pyD x :: pyDs xs = _; rw [ih]; rfl
/-- the answer of `in`, over either spelling -/
theorem in_run (c : Cok X W T) (I : Inv X pins σ H s) {A : AM} {d e : D} {x y : V} {v u : Value} {b : Bool} (m : MemOk X.K A H) (dx : DV X.K A H d x) (dy : DV X.K A H e y) (rx : RelV x v) (ry : RelV y u) (h : isIn A.ers d e = some b) {Q : VK} :
    (Q (.bl b) H → wpAny (model X.prog X.w) X.A (compareOp .In v u) (EP X pins σ Q) X.xe s) ∧ (Q (.bl (!b)) H → wpAny (model X.prog X.w) X.A (compareOp .NotIn v u) (EP X pins σ Q) X.xe s) := by
  have hun := c.un
  have seqs : ∀ (xs : List D) (d' : D) (its : List Value) (a : Addr) (vs : List V), view A.ers d = some d' → (flB d' && flBs xs && Nat.ble (pyD d').depth 60) = true → RPs X.K H xs vs → Vals vs its → u = .ref a →
      (s.heap.IsList a its.toArray ∨ s.heap.IsTuple a its.toArray) → b = (xs.any fun y => PyData.eqv (pyD y) (pyD d')) →
      (Q (.bl b) H → wpAny (model X.prog X.w) X.A (compareOp .In v u) (EP X pins σ Q) X.xe s) ∧ (Q (.bl (!b)) H → wpAny (model X.prog X.w) X.A (compareOp .NotIn v u) (EP X pins σ Q) X.xe s) := by
    intro xs d' its a vs hv hf rs rv eu hit hb
    subst eu
    simp only [Bool.and_eq_true] at hf
    obtain ⟨⟨f1, f2⟩, f3⟩ := hf
    obtain ⟨as, r1⟩ := flB_reads I (view_at m dx hv) rx f1
    obtain ⟨bs, r2⟩ := Dp.readsAll I _ _ _ (flBs_dp rs f2) rv
    have hu : X.A.units + 1 + min (PyData.depthAll (pyDs xs)) (pyD d').depth < cLine := by
      have := Nat.le_of_ble_eq_true f3
      have := Nat.min_le_right (PyData.depthAll (pyDs xs)) (pyD d').depth
      omega
    have ea : ((pyDs xs).any fun y => PyData.eqv y (pyD d')) = b := by rw [hb, pyDs_map, List.any_map]; rfl
    have it := SeqAt.items_plain (A := X.A) (vs := its.toArray) (by simpa using r2) r1 (flBs_plain f2) (flB_plain f1) hu
    have an := SeqAt.any_plain (s := s) (vs := its.toArray) (d := pyD d') (by simpa using r2) (flBs_plain f2)
    rcases hit with hl | ht
    · exact ⟨fun q => SeqAt.in_listAt _ hl it ⟨.bl _, H, I, rfl, by rw [an, ea]; exact q⟩, fun q => SeqAt.notIn_listAt _ hl it ⟨.bl _, H, I, rfl, by rw [an, ea]; exact q⟩⟩
    · exact ⟨fun q => SeqAt.in_tupleAt _ ht it ⟨.bl _, H, I, rfl, by rw [an, ea]; exact q⟩, fun q => SeqAt.notIn_tupleAt _ ht it ⟨.bl _, H, I, rfl, by rw [an, ea]; exact q⟩⟩
  unfold isIn at h
  split at h
  · rename_i i j
    cases h
    cases (show x = V.str i from dx)
    cases (show y = V.str j from dy)
    exact ⟨fun q => op_in_str pins s σ H _ _ v u Q I rx ry ⟨i, j, rfl, rfl, q⟩, fun q => op_notin_str pins s σ H _ _ v u Q I rx ry ⟨i, j, rfl, rfl, q⟩⟩
  · split at h
    · rename_i xs hv
      obtain ⟨a, vs, rfl, ra, rs⟩ := view_at m dy hv
      cases (show u = Value.ref a from ry)
      obtain ⟨its, rv, p, _⟩ := I.tuple ra.tup
      split at h
      · rename_i d' hd
        split at h
        · rename_i hf
          exact seqs xs d' its a vs hd hf rs rv rfl (.inr p) (Option.some.inj h).symm
        · cases h
      · cases h
    · rename_i xs hv
      obtain ⟨a, vs, rfl, ra, rs⟩ := view_at m dy hv
      cases (show u = Value.ref a from ry)
      obtain ⟨its, rv, p, _⟩ := I.tuple ra.ktp
      split at h
      · rename_i d' hd
        split at h
        · rename_i hf
          exact seqs xs d' its a vs hd hf rs rv rfl (.inr p) (Option.some.inj h).symm
        · cases h
      · cases h
    · rename_i xs hv
      obtain ⟨a, vs, rfl, ra, rs⟩ := view_at m dy hv
      cases (show u = Value.ref a from ry)
      obtain ⟨its, rv, p, _⟩ := I.list ra.lst
      split at h
      · rename_i d' hd
        split at h
        · rename_i hf
          exact seqs xs d' its a vs hd hf rs rv rfl (.inl p.isList) (Option.some.inj h).symm
        · cases h
      · cases h
    · rename_i ks xs hv
      obtain ⟨a, vs, rfl, ra, rs⟩ := view_at m dy hv
      cases (show u = Value.ref a from ry)
      obtain ⟨rd, hl⟩ := ra.dK
      split at h
      · cases h
        cases (show x = V.non from dx)
        cases (show v = Value.none from rx)
        exact ⟨fun q => d_inNone I rd fun s' I' => ⟨.bl false, H, I', rfl, q⟩, fun q => d_notInNone I rd fun s' I' => ⟨.bl true, H, I', rfl, q⟩⟩
      · split at h
        · rename_i k hk
          cases h
          have ex := keyOf_at dx hk
          subst ex
          have g : DGet H a (kV k) (valV (ks.zip vs) k) := .inl ⟨_, k, rd, rfl, rfl⟩
          have e := isSome_val keq_eq (k := k) hl rs
          exact ⟨fun q => d_in (by omega) I g rx fun s' I' => ⟨.bl _, H, I', rfl, by rw [← e]; exact q⟩, fun q => d_notIn (by omega) I g rx fun s' I' => ⟨.bl _, H, I', rfl, by rw [← e]; exact q⟩⟩
        · cases h
    · rename_i ks xs hv
      obtain ⟨a, vs, rfl, ra, rs⟩ := view_at m dy hv
      cases (show u = Value.ref a from ry)
      obtain ⟨rd, hl⟩ := ra.dT
      split at h
      · rename_i js
        split at h
        · rename_i k hk
          cases h
          obtain ⟨b', ws, rfl, rb, ds⟩ := dx.node_at
          have ew := keysOf_at ds hk
          subst ew
          have g : DGet H a (.ref b') (valV (ks.zip vs) k) := .inr ⟨_, k, b', rd, rfl, rb.tupH, rfl⟩
          have e := isSome_val keqs_eq (k := k) hl rs
          exact ⟨fun q => d_in (by omega) I g rx fun s' I' => ⟨.bl _, H, I', rfl, by rw [← e]; exact q⟩, fun q => d_notIn (by omega) I g rx fun s' I' => ⟨.bl _, H, I', rfl, by rw [← e]; exact q⟩⟩
        · cases h
      · cases h
    · cases h
end
theorem op_gIn (c : Cok X W T) : OpR X (compareOp .In) (Rd2 W T X.K gIn) := by
  rintro pins s σ H x y v u Q I rx ry ⟨A, d, e, m, _, dx, dy, p⟩
  unfold gIn at p
  split at p
  · rename_i b hb
    exact (in_run c I m dx dy rx ry hb).1 (p.fin m rfl)
  · exact p.elim
theorem op_gNin (c : Cok X W T) : OpR X (compareOp .NotIn) (Rd2 W T X.K gNin) := by
  rintro pins s σ H x y v u Q I rx ry ⟨A, d, e, m, _, dx, dy, p⟩
  unfold gNin at p
  split at p
  · rename_i b hb
    exact (in_run c I m dx dy rx ry hb).2 (p.fin m rfl)
  · exact p.elim

/-! ### subscripts -/
def gIx : Op2 := fun d e M => match d with
  | .str z => match e with
    | .int i => match szB z.length, atI z.cps.toList i with
      | true, some c => .ok (.str ⟨#[c]⟩) M
      | _, _ => .stuck
    | _ => .stuck
  | _ => match look M d with
    | some (.tup, xs) => match e with
      | .int i => match atI xs i with
        | some x => .ok x M
        | none => .stuck
      | _ => .stuck
    | some (.ktp, xs) => match e with
      | .int i => match atI xs i with
        | some x => .ok x M
        | none => .stuck
      | _ => .stuck
    | some (.lst, xs) => match e with
      | .int i => match atI xs i with
        | some x => .ok x M
        | none => .stuck
      | _ => .stuck
    | some (.dK ks, xs) => match keyOf e with
      | some k => match dget keq ks xs k with
        | some x => .ok x M
        | none => .stuck
      | none => .stuck
    | some (.dT ks, xs) => match e with
      | .node .tup js => match keysOf js with
        | some k => match dget keqs ks xs k with
          | some x => .ok x M
          | none => .stuck
        | none => .stuck
      | _ => .stuck
    | _ => .stuck
theorem atI_dvl {K : PySem.W.Frag} {A : AM} {H : Hp} {xs : List D} {vs : List V} {i : Int} {x : D} (h : DVl K A H xs vs) (e : atI xs i = some x) : ∃ v, atI vs i = some v ∧ DV K A H x v := by
  unfold atI at e ⊢
  rw [← Paired.len h]
  cases q : ixN xs.length i with
  | none => rw [q] at e; cases e
  | some j =>
    rw [q] at e
    obtain ⟨v, h1, h2⟩ := Paired.get h e
    exact ⟨v, h1, h2⟩
theorem dget_dvl {κ : Type} [DecidableEq κ] {eq : κ → κ → Bool} (he : ∀ a b, eq a b = decide (a = b)) {K : PySem.W.Frag} {A : AM} {H : Hp} {ks : List κ} : ∀ {xs : List D} {vs : List V} {k : κ} {x : D}, DVl K A H xs vs → dget eq ks xs k = some x →
    ∃ v, valV (ks.zip vs) k = some v ∧ DV K A H x v := by
  induction ks with
  | nil => intro xs vs k x _ e; simp [dget] at e
  | cons j ks ih =>
    intro xs vs k x h e
    cases h with
    | nil => simp [dget] at e
    | cons r t =>
      unfold dget at e
      rw [he] at e
      by_cases hk : j = k
      · subst hk
        simp only [decide_true, if_true] at e
        cases e
        exact ⟨_, valV_pos rfl, r⟩
      · simp only [hk, decide_false, Bool.false_eq_true, if_false] at e
        obtain ⟨w, h1, h2⟩ := ih t e
        exact ⟨w, by rw [List.zip_cons_cons, valV_neg hk]; exact h1, h2⟩
theorem ix_dict (c : Cok X W T) : IxR X (fun x y H Q => ∃ a v, x = .ref a ∧ DGet H a y (some v) ∧ Q v H) := by
  intro value slice pins s σ H x y v u Q I rx ry ⟨a, w, ex, g, q⟩ hs
  subst ex
  cases (show v = Value.ref a from rx)
  exact tail_any (dict_typeIs I g) PySem.F.slot_dict_getitem.lookup (d_getItem (by have := c.un; omega) I g ry fun w' s3 I3 rw' => ⟨w, H, I3, rw', q⟩) hs
theorem ix_gIx (c : Cok X W T) : IxR X (Rd2 W T X.K gIx) := by
  rintro value slice pins s σ H x y v u Q I rx ry ⟨A, d, e, m, _, dx, dy, p⟩ hs
  unfold gIx at p
  split at p
  · rename_i z
    split at p
    · rename_i i
      split at p
      · rename_i cc hz hc
        cases (show x = V.str z from dx)
        cases (show y = V.int i from dy)
        exact ix_str value slice pins s σ H _ _ v u Q I rx ry ⟨z, i, cc, rfl, rfl, szB_le hz, hc, p.fin m rfl⟩ hs
      · exact p.elim
    · exact p.elim
  · have sq : ∀ (xs : List D) (a : Addr) (vs : List V) (i : Int) (x' : D), DVl X.K A H xs vs → x = .ref a → y = .int i → atI xs i = some x' → Po W T X.K A H (.ok x' A.ers) Q → (SqT X.K H a vs ∨ SqL X.K H a vs) →
        wpAny (model X.prog X.w) X.A (subscriptTail value slice v u) (EP X pins σ Q) X.xe s := by
      intro xs a vs i x' ds ex ey hi p hq
      obtain ⟨w, hw, dw⟩ := atI_dvl ds hi
      rcases hq with hq | hq
      · exact ix_tup value slice pins s σ H _ _ v u Q I rx ry ⟨a, vs, i, w, ex, ey, hq, hw, p.fin m dw⟩ hs
      · exact ix_list value slice pins s σ H _ _ v u Q I rx ry ⟨a, vs, i, w, ex, ey, hq, hw, p.fin m dw⟩ hs
    split at p
    · rename_i xs hl
      obtain ⟨a, vs, ex, ra, ds⟩ := look_at m dx hl
      split at p
      · split at p
        · rename_i hx; exact sq xs a vs _ _ ds ex dy hx p (.inl ra.tup)
        · exact p.elim
      · exact p.elim
    · rename_i xs hl
      obtain ⟨a, vs, ex, ra, ds⟩ := look_at m dx hl
      split at p
      · split at p
        · rename_i hx; exact sq xs a vs _ _ ds ex dy hx p (.inl ra.ktp)
        · exact p.elim
      · exact p.elim
    · rename_i xs hl
      obtain ⟨a, vs, ex, ra, ds⟩ := look_at m dx hl
      split at p
      · split at p
        · rename_i hx; exact sq xs a vs _ _ ds ex dy hx p (.inr ra.lst)
        · exact p.elim
      · exact p.elim
    · rename_i ks xs hl
      obtain ⟨a, vs, ex, ra, ds⟩ := look_at m dx hl
      obtain ⟨rd, _⟩ := ra.dK
      split at p
      · rename_i k hk
        split at p
        · rename_i x' hg
          obtain ⟨w, hw, dw⟩ := dget_dvl keq_eq ds hg
          have ey := keyOf_at dy hk
          subst ey
          exact ix_dict c value slice pins s σ H _ _ v u Q I rx ry ⟨a, w, ex, .inl ⟨_, k, rd, rfl, hw.symm⟩, p.fin m dw⟩ hs
        · exact p.elim
      · exact p.elim
    · rename_i ks xs hl
      obtain ⟨a, vs, ex, ra, ds⟩ := look_at m dx hl
      obtain ⟨rd, _⟩ := ra.dT
      split at p
      · rename_i js
        split at p
        · rename_i k hk
          split at p
          · rename_i x' hg
            obtain ⟨w, hw, dw⟩ := dget_dvl keqs_eq ds hg
            obtain ⟨b', ws, ey, rb, es⟩ := dy.node_at
            have ew := keysOf_at es hk
            subst ew
            exact ix_dict c value slice pins s σ H _ _ v u Q I rx ry ⟨a, w, ex, .inr ⟨_, k, b', rd, ey, rb.tupH, hw.symm⟩, p.fin m dw⟩ hs
          · exact p.elim
        · exact p.elim
      · exact p.elim
    · exact p.elim
theorem e_ix {a b : Expr} {ma mb : Ev} {pos : Pos} (c : Cok X W T) (ha : PE X a (RdE W T X.K ma)) (hb : PE X b (RdE W T X.K mb)) (hs : PlainIx b) : PE X (.Subscript a b pos) (RdE W T X.K (mOp gIx ma mb)) :=
  (pe_ix (ix_gIx c) ha hb hs).imp fun _ _ _ h => op_bind h
end
end TB

set_option Elab.async false
set_option linter.all false
set_option maxRecDepth 100000
set_option maxHeartbeats 4000000
namespace TB
open PySem PySem.Spec PyProof.Rows L2
section
variable {X : Cx} {W : XK} {T : List (Addr × Str)} {a b c e : Expr} {es : List Expr} {pos : Pos} {ma mb mc : Ev} {ms : Evs}
/-! ### displays -/
def mSeq (t : Tag) (ms : Evs) : Ev := fun env M => (ms env M).bind fun ds M1 => match ds.all still && szB ds.length with
  | true => .ok (.node t ds) M1
  | false => .stuck
theorem e_tup {x1} (h : PA X es (RdA W T X.K ms)) : PE X (.Tuple es x1 pos) (RdE W T X.K (mSeq .tup ms)) := (pe_tup h).imp fun σ H Q ⟨A, env, at0, p⟩ =>
  (Po.steps at0 p).mono fun vs H1 ⟨A1, ds, _, a1, dv, p1⟩ => by
    split at p1
    · rename_i hz
      rw [Bool.and_eq_true] at hz
      have dp := dps_of dv hz.1
      exact ⟨by rw [← dp.len]; exact szB_le hz.2, fun q hq => p1.node a1.mem hq rfl dp⟩
    · exact p1.elim
theorem e_lst (h : PA X es (RdA W T X.K ms)) : PE X (.List es pos) (RdE W T X.K (mSeq .lst ms)) := (pe_lst h).imp fun σ H Q ⟨A, env, at0, p⟩ =>
  (Po.steps at0 p).mono fun vs H1 ⟨A1, ds, _, a1, dv, p1⟩ => by
    split at p1
    · rename_i hz
      rw [Bool.and_eq_true] at hz
      have dp := dps_of dv hz.1
      exact ⟨by rw [← dp.len]; exact szB_le hz.2, fun q hq => p1.node a1.mem hq rfl dp⟩
    · exact p1.elim
/-- {} with plain keys -/
theorem e_dict0 : PE X (.Dict [] [] pos) (RdE W T X.K (mC (.node (.dK []) []))) := pe_dnewK.imp fun σ H Q ⟨A, env, at0, p⟩ q hq => p.node (vs := []) at0.mem hq ⟨rfl, rfl⟩ rfl
/-- {} with tuples as keys -/
theorem e_dict0T : PE X (.Dict [] [] pos) (RdE W T X.K (mC (.node (.dT []) []))) := pe_dnewT.imp fun σ H Q ⟨A, env, at0, p⟩ q hq => p.node (vs := []) at0.mem hq ⟨rfl, rfl⟩ rfl

/-! ### slices -/
structure PartOk (X : Cx) (W : XK) (T : List (Addr × Str)) (o : Option Expr) (m : Option Ev) (t : TO) : Prop where
  po : PO X o t
  rd : match m with
    | none => t = tNoPart
    | some m => t = tPart (RdE W T X.K m)
theorem part_none : PartOk X W T none none tNoPart := ⟨po_none, rfl⟩
theorem part_some (h : PE X e (RdE W T X.K ma)) : PartOk X W T (some e) (some ma) (tPart (RdE W T X.K ma)) := ⟨po_some h, rfl⟩
def mPart (m : Option Ev) (env : Env) (M : Mem) (k : Option Int → Mem → R D) : R D := match m with
  | none => k none M
  | some m => (m env M).bind fun d M1 => match d with
    | .int i => k (some i) M1
    | _ => .stuck
def cutD (xs : List D) (lo hi : Option Int) : List D := (xs.drop (HT.sIx xs.length 0 lo)).take (HT.sIx xs.length xs.length hi - HT.sIx xs.length 0 lo)
/-- d[lo:hi] of a list or a tuple that is cut -/
def gSl (d : D) (lo hi : Option Int) (M : Mem) : R D := match look M d with
  | some (.lst, xs) => match xs.all still with
    | true => .ok (.node .lst (cutD xs lo hi)) M
    | false => .stuck
  | some (.klst, xs) => match xs.all still with
    | true => .ok (.node .lst (cutD xs lo hi)) M
    | false => .stuck
  | some (.tup, xs) => match HT.sIx xs.length 0 lo == 0 && HT.sIx xs.length xs.length hi == xs.length with
    | true => .stuck
    | false => .ok (.node .tup (cutD xs lo hi)) M
  | _ => .stuck
def mSl (m : Ev) (lo hi : Option Ev) : Ev := fun env M => (m env M).bind fun d M1 => mPart lo env M1 fun l M2 => mPart hi env M2 fun h M3 => gSl d l h M3
theorem part_bind {o : Option Expr} {m : Option Ev} {t : TO} (h : PartOk X W T o m t) {A : AM} {H : Hp} {env : Env} {σ : L2.St} {Q : VK} {k : Option Int → Mem → R D} (a : At T X.K A H env σ) (p : Po W T X.K A H (mPart m env A.ers k) Q) :
    t σ H fun l H1 => ∃ A1, Ext T A H A1 H1 ∧ At T X.K A1 H1 env σ ∧ Po W T X.K A1 H1 (k l A1.ers) Q := by
  have r := h.rd
  cases m with
  | none =>
    rw [show t = tNoPart from r]
    exact ⟨A, Ext.refl, a, p⟩
  | some m =>
    rw [show t = tPart (RdE W T X.K m) from r]
    refine (Po.step a p).mono fun v H1 ⟨A1, d, e1, a1, dv, p1⟩ => ?_
    cases d with
    | int i => exact ⟨i, dv, A1, e1, a1, p1⟩
    | _ => exact p1.elim
theorem DPs.take {K : PySem.W.Frag} {ρ : List Addr} {H : Hp} : ∀ (n : Nat) {xs : List D} {vs : List V}, DPs K ρ H xs vs → DPs K ρ H (xs.take n) (vs.take n)
  | 0, _, _, _ => rfl
  | n + 1, [], _, h => by cases (show _ = [] from h); rfl
  | n + 1, x :: xs, _, h => by
    obtain ⟨v, r, rfl, d, ds⟩ := h
    exact ⟨v, _, rfl, d, DPs.take n ds⟩
theorem DPs.drop {K : PySem.W.Frag} {ρ : List Addr} {H : Hp} : ∀ (n : Nat) {xs : List D} {vs : List V}, DPs K ρ H xs vs → DPs K ρ H (xs.drop n) (vs.drop n)
  | 0, _, _, h => h
  | n + 1, [], _, h => by cases (show _ = [] from h); rfl
  | n + 1, x :: xs, _, h => by
    obtain ⟨v, r, rfl, d, ds⟩ := h
    exact DPs.drop n ds
theorem DPs.cut {K : PySem.W.Frag} {ρ : List Addr} {H : Hp} {xs : List D} {vs : List V} (h : DPs K ρ H xs vs) (lo hi : Option Int) : DPs K ρ H (cutD xs lo hi) (cutV vs lo hi) := by
  unfold cutD cutV
  rw [h.len]
  exact (h.drop _).take _
/-- the items of a tuple are data -/
theorem tup_still {K : PySem.W.Frag} {A : AM} {H : Hp} (m : MemOk K A H) {d : D} {v : V} (h : DV K A H d v) {xs : List D} (e : look A.ers d = some (.tup, xs)) : d = .node .tup xs := by
  cases d with
  | node t ys => cases e; rfl
  | obj n =>
    obtain ⟨a, h1, rfl⟩ := h
    obtain ⟨t', xs', h2⟩ := AM.cell h1
    have e : A.ers[n]? = some (.tup, xs) := e
    rw [A.ers_get, h2] at e
    cases e
    obtain ⟨u, vs, hu, i, nt, _⟩ := m.ok n a _ _ h2
    exact absurd rfl nt
  | _ => cases e
theorem e_sl {lo hi : Option Expr} {ml mh : Option Ev} {tl th : TO} {p2 : Pos} (ha : PE X e (RdE W T X.K ma)) (hl : PartOk X W T lo ml tl) (hh : PartOk X W T hi mh th) : PE X (.Subscript e (.Slice lo hi none p2) pos) (RdE W T X.K (mSl ma ml mh)) :=
  (pe_slice (SlR.or sl_list sl_tup) ha hl.po hh.po).imp fun σ H Q ⟨A, env, at0, p⟩ =>
  (Po.step at0 p).mono fun v H1 ⟨A1, d, _, a1, dv, p1⟩ => by
    have r1 := part_bind hl a1 p1
    have mono : ∀ {o : Option Expr} {m : Option Ev} {t : TO}, PartOk X W T o m t → ∀ {σ : L2.St} {H : Hp} {Q Q' : Option Int → Hp → Prop}, t σ H Q → (∀ l H, Q l H → Q' l H) → t σ H Q' := by
      intro o m t h σ H Q Q' q i
      have r := h.rd
      cases m with
      | none => rw [show t = tNoPart from r] at q ⊢; exact i _ _ q
      | some m =>
        rw [show t = tPart (RdE W T X.K m) from r] at q ⊢
        exact RdE.mono q fun v H ⟨j, ej, qj⟩ => ⟨j, ej, i _ _ qj⟩
    refine mono hl r1 fun l H2 ⟨A2, e2, a2, p2⟩ => ?_
    refine mono hh (part_bind hh a2 p2) fun h H3 ⟨A3, e3, a3, p3⟩ => ?_
    have dv3 := (dv.ext e2).ext e3
    unfold gSl at p3
    split at p3
    · rename_i xs hk
      split at p3
      · rename_i hs
        obtain ⟨q, vs, rfl, ra, ds⟩ := look_at a3.mem dv3 hk
        exact .inl ⟨q, vs, rfl, ra.lst, fun z hz => p3.node a3.mem hz rfl ((dps_of ds hs).cut l h)⟩
      · exact p3.elim
    · rename_i xs hk
      split at p3
      · rename_i hs
        obtain ⟨q, vs, rfl, ra, ds⟩ := look_at a3.mem dv3 hk
        exact .inl ⟨q, vs, rfl, ra.klst, fun z hz => p3.node a3.mem hz rfl ((dps_of ds hs).cut l h)⟩
      · exact p3.elim
    · rename_i xs hk
      split at p3
      · exact p3.elim
      · rename_i hs
        obtain rfl := tup_still a3.mem dv3 hk
        obtain ⟨q, vs, rfl, ra, ds⟩ := dv3.node_at
        refine .inr ⟨q, vs, rfl, ra.tup, fun z => ?_, fun z hz => p3.node a3.mem hz rfl (ds.cut l h)⟩
        rw [← ds.len] at z
        simp [z.1, z.2] at hs
    · exact p3.elim

/-! ### calls of built-ins -/
abbrev OpN := List D → Mem → R D
def RdN (W : XK) (T : List (Addr × Str)) (K : PySem.W.Frag) (g : OpN) : List V → Hp → VK → Prop := fun vs H Q => ∃ A ds, MemOk K A H ∧ LamX.Tabs T H ∧ DVl K A H ds vs ∧ Po W T K A H (g ds A.ers) Q
def mCall (g : OpN) (ms : Evs) : Ev := fun env M => (ms env M).bind g
theorem calls_bind {g : OpN} {σ : L2.St} {H : Hp} {Q : VK} (h : RdE W T X.K (mCall g ms) σ H Q) : RdA W T X.K ms σ H fun vs H1 => RdN W T X.K g vs H1 Q :=
  let ⟨_, _, at0, p⟩ := h
  (Po.steps at0 p).mono fun _ _ ⟨A1, ds, _, a1, dv, p1⟩ => ⟨A1, ds, a1.mem, a1.tabs, dv, p1⟩
theorem e_callB {x : Str} {id : String} {p : Pos} {g : OpN} (hc : CallR X (.builtin id) (RdN W T X.K g)) (hg : Gl X x) (hm : X.mg x = none) (hv : bootBuiltins x = some (.builtin id)) (ha : PA X (e :: es) (RdA W T X.K ms)) (hn : x ≠ "__name__" := by decide) (hdb : (x == ("__debug__" : Str)) = false := by decide)
    (he : starEach (e :: es) X.env = (false, eval e X.env) :: starEach es X.env := by rfl) (hpl : (backTo pos (starEach es X.env)).any (·.1) = false := by rfl) : PE X (.Call (.Name x p) (e :: es) [] pos) (RdE W T X.K (mCall g ms)) :=
  (pe_callB hc hg hm hv ha hn hdb he hpl).imp fun _ _ _ h => calls_bind h
theorem e_callTy {x : Str} {TN : String} {p : Pos} {g : OpN} (hc : CallR X (.type TN) (RdN W T X.K g)) (hg : Gl X x) (hm : X.mg x = none) (hv : bootBuiltins x = some (.type TN)) (ha : PA X (e :: es) (RdA W T X.K ms)) (hn : x ≠ "__name__" := by decide) (hdb : (x == ("__debug__" : Str)) = false := by decide)
    (he : starEach (e :: es) X.env = (false, eval e X.env) :: starEach es X.env := by rfl) (hpl : (backTo pos (starEach es X.env)).any (·.1) = false := by rfl) : PE X (.Call (.Name x p) (e :: es) [] pos) (RdE W T X.K (mCall g ms)) :=
  (pe_callTy hc hg hm hv ha hn hdb he hpl).imp fun _ _ _ h => calls_bind h
theorem e_bltn {x : Str} {t : Ty} {u : Value} (hg : Gl X x) (hm : X.mg x = none) (hv : bootBuiltins x = some u) (r : u = .type t.name) (hn : x ≠ "__name__" := by decide) (hd : (x == ("__debug__" : Str)) = false := by decide) : PE X (.Name x pos) (RdE W T X.K (mC (.ty t))) :=
  e_con (v := .ty t.name) (pe_bltn hg hm hv r hn hd) fun _ _ => rfl
theorem e_clsn {x : Str} {C : Addr} (hg : Gl X x) (hm : X.mg x = some (.ref C)) (hd : (x == ("__debug__" : Str)) = false := by decide) : PE X (.Name x pos) (RdE W T X.K (mC (.cls C))) :=
  e_con (v := .ref C) (pe_glob hg hm rfl hd) fun _ _ => rfl
/-- one value -/
theorem dvl1 {K : PySem.W.Frag} {A : AM} {H : Hp} {d : D} {vs : List V} (h : DVl K A H [d] vs) : ∃ v, vs = [v] ∧ DV K A H d v := by
  cases h with
  | cons r t => cases t; exact ⟨_, rfl, r⟩
theorem dvl2 {K : PySem.W.Frag} {A : AM} {H : Hp} {d e : D} {vs : List V} (h : DVl K A H [d, e] vs) : ∃ v w, vs = [v, w] ∧ DV K A H d v ∧ DV K A H e w := by
  cases h with
  | cons r t =>
    obtain ⟨w, rfl, q⟩ := dvl1 t
    exact ⟨_, _, rfl, r, q⟩
def gLen : OpN := fun ds M => match ds with
  | [d] => match d with
    | .str s => match szB s.length with
      | true => .ok (.int s.length) M
      | false => .stuck
    | _ => match look M d with
      | some (.tup, xs) => .ok (.int xs.length) M
      | some (.ktp, xs) => .ok (.int xs.length) M
      | some (.lst, xs) => .ok (.int xs.length) M
      | some (.dK ks, _) => .ok (.int ks.length) M
      | _ => .stuck
  | _ => .stuck
theorem call_gLen : CallR X (.builtin "len") (RdN W T X.K gLen) := by
  rintro pins s σ H vs us Q I r ⟨A, ds, m, _, dv, p⟩
  unfold gLen at p
  split at p
  · rename_i d
    obtain ⟨v, rfl, dx⟩ := dvl1 dv
    split at p
    · rename_i z
      split at p
      · rename_i hz
        cases (show v = V.str z from dx)
        exact call_len pins s σ H _ us Q I r ⟨_, _, rfl, ⟨szB_le hz, rfl⟩, p.fin m rfl⟩
      · exact p.elim
    · split at p
      · rename_i xs hl
        obtain ⟨a, ws, rfl, ra, ds⟩ := look_at m dx hl
        exact call_len pins s σ H _ us Q I r ⟨_, _, rfl, .inr ⟨ws, ra.tup, rfl⟩, by rw [← Paired.len ds]; exact p.fin m rfl⟩
      · rename_i xs hl
        obtain ⟨a, ws, rfl, ra, ds⟩ := look_at m dx hl
        exact call_len pins s σ H _ us Q I r ⟨_, _, rfl, .inr ⟨ws, ra.ktp, rfl⟩, by rw [← Paired.len ds]; exact p.fin m rfl⟩
      · rename_i xs hl
        obtain ⟨a, ws, rfl, ra, ds⟩ := look_at m dx hl
        exact call_len pins s σ H _ us Q I r ⟨_, _, rfl, .inl ⟨ws, ra.lst, rfl⟩, by rw [← Paired.len ds]; exact p.fin m rfl⟩
      · rename_i ks xs hl
        obtain ⟨a, ws, rfl, ra, ds⟩ := look_at m dx hl
        obtain ⟨rd, l⟩ := ra.dK
        have e := Vals.ref1 r
        subst e
        refine d_len I rd fun t s' I' => ⟨.int _, H, I', ⟨t, rfl⟩, ?_⟩
        rw [List.length_zip, ← l, Nat.min_self]
        exact p.fin m rfl
      · exact p.elim
  · exact p.elim
def bools : List D → Option (List Bool)
  | [] => some []
  | .bl b :: r => match bools r with
    | some bs => some (b :: bs)
    | none => none
  | _ => none
theorem bools_at {K : PySem.W.Frag} {A : AM} {H : Hp} : ∀ {xs : List D} {vs : List V} {bs : List Bool}, DVl K A H xs vs → bools xs = some bs → vs = bs.map V.bl
  | _, _, _, .nil, e => by cases e; rfl
  | .bl b :: r, _, bs, .cons h t, e => by
    have e : (match bools r with | some bs => some (b :: bs) | none => none) = some bs := e
    cases q : bools r with
    | none => rw [q] at e; cases e
    | some cs =>
      rw [q] at e; cases e
      rw [bools_at t q, show _ = V.bl b from h]
      rfl
  | .non :: _, _, _, .cons _ _, e => by cases e
  | .int _ :: _, _, _, .cons _ _, e => by cases e
  | .str _ :: _, _, _, .cons _ _, e => by cases e
  | .ty _ :: _, _, _, .cons _ _, e => by cases e
  | .cls _ :: _, _, _, .cons _ _, e => by cases e
  | .node _ _ :: _, _, _, .cons _ _, e => by cases e
  | .obj _ :: _, _, _, .cons _ _, e => by cases e
def gAll : OpN := fun ds M => match ds with
  | [d] => match look M d with
    | some (.lst, xs) => match bools xs with
      | some bs => .ok (.bl (bs.all id)) M
      | none => .stuck
    | _ => .stuck
  | _ => .stuck
def gAny : OpN := fun ds M => match ds with
  | [d] => match look M d with
    | some (.lst, xs) => match bools xs with
      | some bs => .ok (.bl (bs.any id)) M
      | none => .stuck
    | _ => .stuck
  | _ => .stuck
theorem call_gAll (c : Cok X W T) : CallR X (.builtin "all") (RdN W T X.K gAll) := by
  rintro pins s σ H vs us Q I r ⟨A, ds, m, _, dv, p⟩
  unfold gAll at p
  split at p
  · rename_i d
    obtain ⟨v, rfl, dx⟩ := dvl1 dv
    split at p
    · rename_i xs hl
      split at p
      · rename_i bs hb
        obtain ⟨a, ws, rfl, ra, ds⟩ := look_at m dx hl
        obtain rfl := bools_at ds hb
        exact cr_all c.calm pins s σ H _ us Q I r ⟨a, bs, rfl, ra.lst, p.fin m rfl⟩
      · exact p.elim
    · exact p.elim
  · exact p.elim
theorem call_gAny (c : Cok X W T) : CallR X (.builtin "any") (RdN W T X.K gAny) := by
  rintro pins s σ H vs us Q I r ⟨A, ds, m, _, dv, p⟩
  unfold gAny at p
  split at p
  · rename_i d
    obtain ⟨v, rfl, dx⟩ := dvl1 dv
    split at p
    · rename_i xs hl
      split at p
      · rename_i bs hb
        obtain ⟨a, ws, rfl, ra, ds⟩ := look_at m dx hl
        obtain rfl := bools_at ds hb
        exact cr_any c.calm pins s σ H _ us Q I r ⟨a, bs, rfl, ra.lst, p.fin m rfl⟩
      · exact p.elim
    · exact p.elim
  · exact p.elim
end
end TB

set_option Elab.async false
set_option linter.all false
set_option maxRecDepth 100000
set_option maxHeartbeats 4000000
namespace TB
open PySem PySem.Spec PyProof.Rows L2
/-! ### a dict that is walked -/
/-- a may be unlocked: it was not known as locked at the entry -/
def Unl (X : Cx) (a : Addr) : Prop := ∀ o u, X.H_0 a ≠ some (.frz o u)
/-- it holds here, or where one thing is unlocked -/
def UL (X : Cx) (P : Hp → Prop) (H : Hp) : Prop := P H ∨ ∃ a o u, H a = some (.frz o u) ∧ Unl X a ∧ P (upd H a u)
section
variable {X : Cx}
theorem pe_ul {e : Expr} {t : TE} (h : PE X e t) : PE X e (fun σ H Q => t σ H fun v H' => UL X (Q v) H') := ⟨fun pins s σ H Q I hw => thn (h.run pins s σ H _ I hw) fun u s1 ⟨v, H1, I1, r, q⟩ => by
  rcases q with q | ⟨a, o, u', h1, hn, q⟩
  · exact ⟨v, H1, I1, r, q⟩
  · exact ⟨v, _, I1.unlock h1 hn, r, q⟩⟩
theorem ps_ul {e : Stmt} {t : TS} (h : PS X e t) : PS X e (fun D σ H => t ⟨fun σ' H' => UL X (D.nx σ') H', fun v H' => UL X (D.rt v) H', fun σ' H' => UL X (D.bk σ') H', fun σ' H' => UL X (D.ct σ') H'⟩ σ H) := ⟨fun pins s σ H D I hw => thn (h.run pins s σ H _ I hw) fun f s1 q => by
  cases f with
  | next =>
    obtain ⟨σ', H1, I1, q⟩ := q
    rcases q with q | ⟨a, o, u', h1, hn, q⟩
    · exact ⟨σ', H1, I1, q⟩
    · exact ⟨σ', _, I1.unlock h1 hn, q⟩
  | brk =>
    obtain ⟨σ', H1, I1, q⟩ := q
    rcases q with q | ⟨a, o, u', h1, hn, q⟩
    · exact ⟨σ', H1, I1, q⟩
    · exact ⟨σ', _, I1.unlock h1 hn, q⟩
  | cont =>
    obtain ⟨σ', H1, I1, q⟩ := q
    rcases q with q | ⟨a, o, u', h1, hn, q⟩
    · exact ⟨σ', H1, I1, q⟩
    · exact ⟨σ', _, I1.unlock h1 hn, q⟩
  | ret v =>
    obtain ⟨v, σ', H1, I1, r, q⟩ := q
    rcases q with q | ⟨a, o, u', h1, hn, q⟩
    · exact ⟨v, σ', H1, I1, r, q⟩
    · exact ⟨v, σ', _, I1.unlock h1 hn, r, q⟩⟩
/-- the value may be locked -/
theorem pe_lock {e : Expr} {t : TE} (h : PE X e t) : PE X e (fun σ H Q => t σ H fun v H' => Q v H' ∨ ∃ a kvs, v = .ref a ∧ H' a = some (.dK kvs) ∧ (Unl X a → ∀ o, Q v (upd H' a (.frz o (.dK kvs))))) := ⟨fun pins s σ H Q I hw => thn (h.run pins s σ H _ I hw) fun u s1 ⟨v, H1, I1, r, q⟩ => by
  rcases q with q | ⟨a, kvs, ev, ha, q⟩
  · exact ⟨v, H1, I1, r, q⟩
  · obtain ⟨od, I2⟩ := I1.lock ha True.intro
    exact ⟨v, _, I2, r, q (fun o u => I1.nofrz ha True.intro o u) od⟩⟩
end
section
variable {K : PySem.W.Frag} {T : List (Addr × Str)} {A : AM} {H H' : Hp}
/-- H and H' differ in a dict's lock alone -/
structure Same1 (H H' : Hp) (a : Addr) (kvs : List (Key × V)) : Prop where
  off : ∀ b, b ≠ a → H' b = H b
  h : Rd H a (.dK kvs)
  h' : Rd H' a (.dK kvs)
theorem Same1.symm {a : Addr} {kvs : List (Key × V)} (s : Same1 H H' a kvs) : Same1 H' H a kvs := ⟨fun b n => (s.off b n).symm, s.h', s.h⟩
theorem rd_dk {H : Hp} {a : Addr} {kvs : List (Key × V)} {u : HO} (h : Rd H a (.dK kvs)) (r : Rq H a u) : u = .dK kvs ∨ ∃ o, u = .frz o (.dK kvs) := by
  obtain ⟨w, hw, e⟩ := r.has
  rcases h with h | ⟨o, h⟩
  · rw [h] at hw; cases hw
    rcases e with e | ⟨o, e⟩
    · exact .inl e.symm
    · cases e
  · rw [h] at hw; cases hw
    rcases e with e | ⟨o', e⟩
    · exact .inr ⟨o, e.symm⟩
    · cases e; exact .inl rfl
theorem Same1.node {ρ : List Addr} {a b : Addr} {kvs : List (Key × V)} {t : Tag} {vs : List V} (s : Same1 H H' a kvs) (h : NodeAt K ρ H b t vs) : NodeAt K ρ H' b t vs := by
  rcases h with ⟨u, n, r, i⟩ | h
  · refine .inl ⟨u, n, ?_, i⟩
    by_cases z : b = a
    · subst z
      rcases rd_dk s.h r with rfl | ⟨o, rfl⟩
      · exact s.h'
      · cases t <;> first | exact i.elim | exact nomatch i.1 | exact nomatch i
    · unfold Rq at r ⊢
      split at r
      · unfold Rd at r ⊢; rw [s.off b z]; exact r
      · unfold Rd at r ⊢; rw [s.off b z]; exact r
      · rw [s.off b z]; exact r
  · exact .inr h
mutual
theorem Same1.dp {ρ : List Addr} {a : Addr} {kvs : List (Key × V)} (s : Same1 H H' a kvs) : ∀ {d : D} {v : V}, DP K ρ H d v → DP K ρ H' d v
  | .non, _, h => h
  | .bl _, _, h => h
  | .int _, _, h => h
  | .str _, _, h => h
  | .ty _, _, h => h
  | .cls _, _, h => h
  | .obj _, _, h => h.elim
  | .node t xs, v, h => by
    obtain ⟨a, vs, ea, na, ds⟩ := h
    exact ⟨a, vs, ea, s.node na, Same1.dps s ds⟩
theorem Same1.dps {ρ : List Addr} {a : Addr} {kvs : List (Key × V)} (s : Same1 H H' a kvs) : ∀ {xs : List D} {vs : List V}, DPs K ρ H xs vs → DPs K ρ H' xs vs
  | [], _, h => h
  | x :: xs, vs, h => by
    obtain ⟨v, r, ev, d, ds⟩ := h
    exact ⟨v, r, ev, Same1.dp s d, Same1.dps s ds⟩
end
theorem Same1.dv {a : Addr} {kvs : List (Key × V)} (s : Same1 H H' a kvs) {d : D} {v : V} (h : DV K A H d v) : DV K A H' d v := h.mono (fun _ _ h => h) fun q => s.dp q
theorem Same1.mem {a : Addr} {kvs : List (Key × V)} (s : Same1 H H' a kvs) (n : a ∉ A.adrs) (m : MemOk K A H) : MemOk K A H' :=
  ⟨m.nd, fun k b t xs q => let ⟨u, vs, hu, i, nt, dv⟩ := m.ok k b t xs q; ⟨u, vs, by rw [s.off b fun z => n (by rw [← z]; exact AM.adr_mem (AM.adr_at q))]; exact hu, i, nt, Paired.imp (fun _ _ q => s.dv q) dv⟩, fun b hb => by
    rw [s.off b fun z => n (List.mem_append_right _ (z ▸ hb))]
    exact m.zt b hb⟩
theorem Same1.env {a : Addr} {kvs : List (Key × V)} (s : Same1 H H' a kvs) {env : Env} {σ : L2.St} (h : EnvOk K A H env σ) : EnvOk K A H' env σ :=
  ⟨h.1, fun i d q => let ⟨v, q1, q2⟩ := h.2 i d q; ⟨v, q1, s.dv q2⟩⟩
theorem Same1.tabs {a : Addr} {kvs : List (Key × V)} (s : Same1 H H' a kvs) (t : LamX.Tabs T H) : LamX.Tabs T H' := by
  have ne : ∀ b u, H b = some u → (∀ kv, u ≠ .dK kv) → (∀ o kv, u ≠ .frz o (.dK kv)) → H' b = some u := fun b u hb n1 n2 => by
    rw [s.off b]
    · exact hb
    · rintro rfl
      rcases s.h with z | ⟨o, z⟩
      · rw [z] at hb; exact n1 _ (Option.some.inj hb).symm
      · rw [z] at hb; exact n2 _ _ (Option.some.inj hb).symm
  intro p hp
  obtain ⟨ps, h1, h2, h3⟩ := t p hp
  refine ⟨ps, ne _ _ h1 (by simp) (by simp), h2, fun pos cv q => ?_⟩
  obtain ⟨c, e1, e2⟩ := h3 pos cv q
  exact ⟨c, e1, ne _ _ e2 (by intro kv z; cases z) (by intro o kv z; cases z)⟩
theorem Same1.at_ {a : Addr} {kvs : List (Key × V)} (s : Same1 H H' a kvs) {env : Env} {σ : L2.St} (n : a ∉ A.adrs) (h : At T K A H env σ) : At T K A H' env σ := ⟨s.mem n h.mem, s.env h.env, s.tabs h.tabs⟩
/-- there and back -/
theorem Same1.ext {A1 : AM} {H1 H1' : Hp} {a : Addr} {kvs : List (Key × V)} (s : Same1 H H' a kvs) (e : Ext T A H' A1 H1) (s1 : Same1 H1 H1' a kvs) (ha : H1' a = H a) : Ext T A H A1 H1' := by
  refine ⟨e.pre, fun b q => ?_, e.zz, fun b w n q nt => ?_, fun t => s1.tabs (e.tabs (s.tabs t)), fun b q => ?_⟩
  · rcases e.new b q with z | z
    · exact .inl z
    · refine .inr ?_
      by_cases hb : b = a
      · subst hb
        rcases s.h' with y | ⟨o, y⟩ <;> rw [y] at z <;> cases z
      · rw [← s.off b hb]; exact z
  · by_cases hb : b = a
    · subst hb; rw [ha]; exact q
    · rw [s1.off b hb]
      exact e.keep b w n (by rw [s.off b hb]; exact q) nt
  · by_cases hb : b = a
    · subst hb; rw [← ha]; exact q
    · rw [s1.off b hb] at q
      rw [← s.off b hb]
      exact e.there b q
end
end TB

set_option Elab.async false
set_option linter.all false
set_option maxRecDepth 100000
set_option maxHeartbeats 4000000
namespace TB
open PySem PySem.Spec PyProof.Rows L2
/-! ### what a loop walks -/
/-- what was data stays -/
structure Ke (A0 : AM) (H0 : Hp) (A : AM) (H : Hp) : Prop where
  n : ∀ a w, a ∉ A0.adrs → H0 a = some w → a ∉ A.adrs
  k : ∀ a w, a ∉ A0.adrs → H0 a = some w → (∀ ps, w ≠ .tbl ps) → H a = some w
  th : ∀ a, H a = none → H0 a = none
theorem Ke.refl {A : AM} {H : Hp} : Ke A H A H := ⟨fun _ _ n _ => n, fun _ _ _ h _ => h, fun _ h => h⟩
theorem Ke.trans {A B C : AM} {H H' H'' : Hp} (x : Ke A H B H') (y : Ke B H' C H'') : Ke A H C H'' := ⟨fun a w n h => by
  cases q : H' a with
  | none => rw [x.th a q] at h; cases h
  | some w' => exact y.n a w' (x.n a w n h) q, fun a w n h t => y.k a w (x.n a w n h) (x.k a w n h t) t, fun a h => x.th a (y.th a h)⟩
def IterOk (K : PySem.W.Frag) (T : List (Addr × Str)) (J : It) (items : List D) (A0 : AM) (H0 : Hp) : Prop :=
  ∃ (n : Nat) (G : Hp → Prop) (Y : Nat → Hp → V → Hp → Prop), Walk J n G Y ∧ items.length = n ∧ ∀ A H, Ke A0 H0 A H → MemOk K A H →
    G H ∧ ∀ i x H', i < n → Y i H x H' → ∃ d, items[i]? = some d ∧ still d = true ∧ Ext T A H A H' ∧ MemOk K A H' ∧ DV K A H' d x
theorem Ext.notinZ {T : List (Addr × Str)} {A A0 : AM} {H H0 : Hp} (e : Ext T A0 H0 ⟨A.c, A0.z⟩ H) (z : ∀ p ∈ A.z, p ∈ A0.z ∨ H0 p = none) {a : Addr} {w : HO} (n : a ∉ A0.adrs) (h : H0 a = some w) : a ∉ A.adrs := fun q => by
  have n1 := e.notin n h
  rcases List.mem_append.mp q with q | q
  · exact n1 (List.mem_append_left _ q)
  · rcases z a q with q | q
    · exact n (List.mem_append_right _ q)
    · rw [h] at q; cases q
theorem Ext.ke {T : List (Addr × Str)} {A A0 : AM} {H H0 : Hp} (e : Ext T A0 H0 ⟨A.c, A0.z⟩ H) (z : ∀ p ∈ A.z, p ∈ A0.z ∨ H0 p = none) : Ke A0 H0 A H := ⟨fun a w n q => e.notinZ z n q, e.keep', e.there⟩
/-- H' is H, or a dict of it is locked -/
def Lk (X : Cx) (A : AM) (H H' : Hp) : Prop := H' = H ∨ ∃ a kvs o, H a = some (.dK kvs) ∧ Unl X a ∧ a ∉ A.adrs ∧ H' = upd H a (.frz o (.dK kvs))
def PoI (X : Cx) (W : XK) (T : List (Addr × Str)) (b : Bool) (A : AM) (H : Hp) (r : R (List D)) (Q : It → Hp → Prop) : Prop :=
  match r with
  | .ok ds M' => ∀ A' H1 H' J, M' = A'.ers → Ext T A H A' H1 → MemOk X.K A' H1 → Lk X A' H1 H' ∧ (b = false → H' = H1) → IterOk X.K T J ds A' H' → Q J H'
  | .exc x M' => ∀ A' H' cls dd, M' = A'.ers → Ext T A H A' H' → MemOk X.K A' H' → ExcOk X.K A' H' x cls dd → W cls dd H'
  | .stuck => False
def RdI (X : Cx) (W : XK) (T : List (Addr × Str)) (b : Bool) (m : Evs) : TI := fun σ H Q => ∃ A env, At T X.K A H env σ ∧ PoI X W T b A H (m env A.ers) Q
section
variable {X : Cx} {W : XK} {T : List (Addr × Str)} {lb : Bool}
theorem _root_.L2.PI.imp {tg iter : Expr} {w w' : TI} (h : PI X tg iter w) (i : ∀ σ H Q, w' σ H Q → w σ H Q) : PI X tg iter w' := ⟨fun pins s σ H R I q => h.run pins s σ H R I (i σ H R q)⟩
theorem PoI.ext {A A' : AM} {H H' : Hp} {r : R (List D)} {Q : It → Hp → Prop} (e : Ext T A H A' H') (h : PoI X W T lb A H r Q) : PoI X W T lb A' H' r Q := by
  cases r with
  | ok ds M => exact fun A2 H1 H2 J q e2 => h A2 H1 H2 J q (e.trans e2)
  | exc x M => exact fun A2 H2 c dd q e2 => h A2 H2 c dd q (e.trans e2)
  | stuck => exact h
/-- one expression, then what is walked -/
theorem PoI.step {ma : Ev} {A : AM} {H : Hp} {Q : It → Hp → Prop} {env : Env} {σ : L2.St} {k : D → Mem → R (List D)} (a : At T X.K A H env σ) (h : PoI X W T lb A H ((ma env A.ers).bind k) Q) :
    RdE W T X.K ma σ H fun v H1 => ∃ A1 d, Ext T A H A1 H1 ∧ At T X.K A1 H1 env σ ∧ DV X.K A1 H1 d v ∧ PoI X W T lb A1 H1 (k d A1.ers) Q := by
  refine ⟨A, env, a, ?_⟩
  cases q : ma env A.ers with
  | ok d M' =>
    rw [q] at h
    intro A1 H1 v eM e mo dv
    refine ⟨A1, d, e, a.ext e mo, dv, ?_⟩
    have h' : PoI X W T lb A H (k d M') Q := h
    rw [← eM]
    exact h'.ext e
  | exc x M' => rw [q] at h; exact h
  | stuck => rw [q] at h; exact h
theorem PoI.steps {ma : Evs} {A : AM} {H : Hp} {Q : It → Hp → Prop} {env : Env} {σ : L2.St} {k : List D → Mem → R (List D)} (a : At T X.K A H env σ) (h : PoI X W T lb A H ((ma env A.ers).bind k) Q) :
    RdA W T X.K ma σ H fun v H1 => ∃ A1 d, Ext T A H A1 H1 ∧ At T X.K A1 H1 env σ ∧ DVl X.K A1 H1 d v ∧ PoI X W T lb A1 H1 (k d A1.ers) Q := by
  refine ⟨A, env, a, ?_⟩
  cases q : ma env A.ers with
  | ok d M' =>
    rw [q] at h
    intro A1 H1 v eM e mo dv
    refine ⟨A1, d, e, a.ext e mo, dv, ?_⟩
    have h' : PoI X W T lb A H (k d M') Q := h
    rw [← eM]
    exact h'.ext e
  | exc x M' => rw [q] at h; exact h
  | stuck => rw [q] at h; exact h
theorem DPs.still {K : PySem.W.Frag} {ρ : List Addr} {H : Hp} : ∀ {xs : List D} {vs : List V}, DPs K ρ H xs vs → ∀ x ∈ xs, TB.still x = true
  | [], _, _, x, hx => by cases hx
  | y :: xs, _, h, x, hx => by
    obtain ⟨v, r, rfl, d, ds⟩ := h
    rcases List.mem_cons.mp hx with e | hx
    · subst e
      cases x <;> first | rfl | exact d.elim
    · exact DPs.still ds x hx
theorem DPs.get {K : PySem.W.Frag} {ρ : List Addr} {H : Hp} : ∀ {xs : List D} {vs : List V} {i : Nat} {v : V}, DPs K ρ H xs vs → vs[i]? = some v → ∃ x, xs[i]? = some x ∧ DP K ρ H x v
  | [], _, i, v, h, e => by cases (show _ = [] from h); simp at e
  | y :: xs, _, 0, v, h, e => by
    obtain ⟨w, r, rfl, d, ds⟩ := h
    simp at e; subst e
    exact ⟨y, rfl, d⟩
  | y :: xs, _, i + 1, v, h, e => by
    obtain ⟨w, r, rfl, d, ds⟩ := h
    obtain ⟨x, h1, h2⟩ := DPs.get (i := i) ds (by simpa using e)
    exact ⟨x, by simpa using h1, h2⟩
theorem nodeAt_read {K : PySem.W.Frag} {ρ : List Addr} {H : Hp} {a : Addr} {t : Tag} {vs : List V} (h : NodeAt K ρ H a t vs) : ReadAt K H a t vs := by
  rcases h with ⟨u, _, r, i⟩ | k
  · exact .inl ⟨u, r, i⟩
  · exact .inr k
/-- a container of data, walked -/
theorem iter_of {J : It} {a : Addr} {t : Tag} {vs : List V} {items : List D} {A0 : AM} {H0 : Hp} (w : ∀ (A : AM) (H : Hp), NodeAt X.K A.adrs H a t vs → Walk J vs.length (fun H => ReadAt X.K H a t vs) (YAt vs)) (na : NodeAt X.K A0.adrs H0 a t vs) (ds : DPs X.K A0.adrs H0 items vs) : IterOk X.K T J items A0 H0 := by
  refine ⟨vs.length, _, _, w A0 H0 na, ds.len, fun A H e m => ⟨nodeAt_read (na.keep e.n e.k), fun i x H' hi y => ?_⟩⟩
  obtain ⟨rfl, hx⟩ := y
  obtain ⟨d, h1, h2⟩ := (ds.keep e.n e.k).get hx
  exact ⟨d, h1, ds.still d (List.mem_of_getElem? h1), Ext.refl, m, h2.dv⟩
def itLst (m : Ev) : Evs := fun env M => (m env M).bind fun d M1 => match d with
  | .node .lst xs => .ok xs M1
  | _ => .stuck
def itTup (m : Ev) : Evs := fun env M => (m env M).bind fun d M1 => match d with
  | .node .tup xs => .ok xs M1
  | _ => .stuck
theorem i_lst {tg e : Expr} {ma : Ev} (h : PE X e (RdE W T X.K ma)) : PI X tg e (RdI X W T lb (itLst ma)) := (pi_list h).imp fun σ H Q ⟨A, env, at0, p⟩ =>
  (PoI.step at0 p).mono fun v H1 ⟨A1, d, _, a1, dv, p1⟩ => by
    split at p1
    · rename_i xs
      obtain ⟨a, vs, rfl, na, ds⟩ := dv
      have ra := nodeAt_read na
      exact ⟨a, rfl, ⟨vs, ra.lst⟩, p1 A1 H1 H1 _ rfl Ext.refl a1.mem ⟨.inl rfl, fun _ => rfl⟩ (iter_of (fun _ _ _ => walk_list.mono (fun H h => ReadAt.lst h) fun _ _ _ _ _ _ y => y) na ds)⟩
    · exact p1.elim
def itKtp (m : Ev) : Evs := fun env M => (m env M).bind fun d M1 => match d with
  | .node .ktp xs => .ok xs M1
  | _ => .stuck
theorem i_ktp {tg e : Expr} {ma : Ev} (h : PE X e (RdE W T X.K ma)) : PI X tg e (RdI X W T lb (itKtp ma)) := (pi_tup h).imp fun σ H Q ⟨A, env, at0, p⟩ =>
  (PoI.step at0 p).mono fun v H1 ⟨A1, d, _, a1, dv, p1⟩ => by
    split at p1
    · rename_i xs
      obtain ⟨a, vs, rfl, na, ds⟩ := dv
      have ra := nodeAt_read na
      exact ⟨a, rfl, ⟨vs, ra.ktp⟩, p1 A1 H1 H1 _ rfl Ext.refl a1.mem ⟨.inl rfl, fun _ => rfl⟩ (iter_of (fun _ _ _ => walk_tup.mono (fun H h => ReadAt.ktp h) fun _ _ _ _ _ _ y => y) na ds)⟩
    · exact p1.elim
theorem i_tup {tg e : Expr} {ma : Ev} (h : PE X e (RdE W T X.K ma)) : PI X tg e (RdI X W T lb (itTup ma)) := (pi_tup h).imp fun σ H Q ⟨A, env, at0, p⟩ =>
  (PoI.step at0 p).mono fun v H1 ⟨A1, d, _, a1, dv, p1⟩ => by
    split at p1
    · rename_i xs
      obtain ⟨a, vs, rfl, na, ds⟩ := dv
      have ra := nodeAt_read na
      exact ⟨a, rfl, ⟨vs, ra.tup⟩, p1 A1 H1 H1 _ rfl Ext.refl a1.mem ⟨.inl rfl, fun _ => rfl⟩ (iter_of (fun _ _ _ => walk_tup.mono (fun H h => ReadAt.tup h) fun _ _ _ _ _ _ y => y) na ds)⟩
    · exact p1.elim
def chars : List Nat → List D
  | [] => []
  | c :: r => .str ⟨#[c]⟩ :: chars r
theorem chars_get : ∀ {l : List Nat} {i : Nat} {c : Nat}, l[i]? = some c → (chars l)[i]? = some (.str ⟨#[c]⟩)
  | _ :: _, 0, _, e => by simp at e; subst e; rfl
  | _ :: r, i + 1, c, e => by
    show (chars r)[i]? = _
    exact chars_get (by simpa using e)
theorem chars_len : ∀ l : List Nat, (chars l).length = l.length
  | [] => rfl
  | _ :: r => by simp [chars, chars_len r]
def itStr (m : Ev) : Evs := fun env M => (m env M).bind fun d M1 => match d with
  | .str z => .ok (chars z.cps.toList) M1
  | _ => .stuck
theorem i_str {tg e : Expr} {ma : Ev} (h : PE X e (RdE W T X.K ma)) : PI X tg e (RdI X W T lb (itStr ma)) := (pi_str h).imp fun σ H Q ⟨A, env, at0, p⟩ =>
  (PoI.step at0 p).mono fun v H1 ⟨A1, d, _, a1, dv, p1⟩ => by
    split at p1
    · rename_i z
      refine ⟨z, dv, p1 A1 H1 H1 _ rfl Ext.refl a1.mem ⟨.inl rfl, fun _ => rfl⟩ ⟨_, _, _, walk_str, by rw [chars_len]; simp, fun A H e m => ⟨trivial, fun i x H' hi y => ?_⟩⟩⟩
      obtain ⟨rfl, c, hc, rfl⟩ := y
      exact ⟨_, chars_get (c := c) (by simpa using hc), rfl, Ext.refl, m, rfl⟩
    · exact p1.elim
def upto (lo : Int) : Nat → List D
  | 0 => []
  | n + 1 => .int lo :: upto (lo + 1) n
theorem upto_len : ∀ (n : Nat) (lo : Int), (upto lo n).length = n
  | 0, _ => rfl
  | n + 1, lo => by simp [upto, upto_len n]
theorem upto_get : ∀ (n : Nat) (lo : Int) (i : Nat), i < n → (upto lo n)[i]? = some (.int (lo + i))
  | 0, _, _, h => by omega
  | n + 1, lo, 0, _ => by simp [upto]
  | n + 1, lo, i + 1, h => by
    show (upto (lo + 1) n)[i]? = _
    rw [upto_get n (lo + 1) i (by omega)]
    congr 2
    push_cast
    omega
theorem iter_range {lo : Int} {n : Nat} {A0 : AM} {H0 : Hp} : IterOk X.K T (Itr lo n) (upto lo n) A0 H0 :=
  ⟨n, _, _, walk_range, upto_len n lo, fun A H e m => ⟨trivial, fun i x H' hi y => by
    obtain ⟨rfl, rfl⟩ := y
    exact ⟨_, upto_get n lo i hi, rfl, Ext.refl, m, rfl⟩⟩⟩
def itRng1 (ms : Evs) : Evs := fun env M => (ms env M).bind fun ds M1 => match ds with
  | [.int j] => match decide (-1000000 ≤ j) && decide (j ≤ 1000000) with
    | true => .ok (upto 0 j.toNat) M1
    | false => .stuck
  | _ => .stuck
theorem i_rng1 {tg a : Expr} {ms : Evs} {p pos : Pos} (hg : Gl X "range") (hm : X.mg "range" = none) (ha : PA X [a] (RdA W T X.K ms)) (hs : starEach [a] X.env = [(false, eval a X.env)] := by rfl) : PI X tg (.Call (.Name "range" p) [a] [] pos) (RdI X W T lb (itRng1 ms)) :=
  (pi_range1 hg hm ha hs).imp fun σ H Q ⟨A, env, at0, p⟩ => (PoI.steps at0 p).mono fun vs H1 ⟨A1, ds, _, a1, dv, p1⟩ => by
    split at p1
    · rename_i j
      split at p1
      · rename_i hj
        simp only [Bool.and_eq_true, decide_eq_true_eq] at hj
        obtain ⟨v, rfl, dx⟩ := dvl1 dv
        cases (show v = V.int j from dx)
        exact ⟨j, rfl, by omega, by omega, p1 A1 H1 H1 _ rfl Ext.refl a1.mem ⟨.inl rfl, fun _ => rfl⟩ iter_range⟩
      · exact p1.elim
    · exact p1.elim
def itRng2 (ms : Evs) : Evs := fun env M => (ms env M).bind fun ds M1 => match ds with
  | [.int i, .int j] => match decide (-1000000 ≤ j) && decide (j ≤ 1000000) && (decide (-1000000 ≤ i) && decide (i ≤ 1000000)) with
    | true => .ok (upto i (j - i).toNat) M1
    | false => .stuck
  | _ => .stuck
theorem i_rng2 {tg a b : Expr} {ms : Evs} {p pos : Pos} (hp : PI X tg (.Call (.Name "range" p) [a, b] [] pos) (iRng2 (RdA W T X.K ms))) : PI X tg (.Call (.Name "range" p) [a, b] [] pos) (RdI X W T lb (itRng2 ms)) :=
  hp.imp fun σ H Q ⟨A, env, at0, p⟩ => (PoI.steps at0 p).mono fun vs H1 ⟨A1, ds, _, a1, dv, p1⟩ => by
    split at p1
    · rename_i i j
      split at p1
      · rename_i hj
        simp only [Bool.and_eq_true, decide_eq_true_eq] at hj
        obtain ⟨v, w, rfl, dx, dy⟩ := dvl2 dv
        cases (show v = V.int i from dx)
        cases (show w = V.int j from dy)
        exact ⟨i, j, rfl, by omega, p1 A1 H1 H1 _ rfl Ext.refl a1.mem ⟨.inl rfl, fun _ => rfl⟩ iter_range⟩
      · exact p1.elim
    · exact p1.elim
def keyD : Key → D
  | .inl i => .int i
  | .inr x => .str x
theorem keyD_at {K : PySem.W.Frag} {A : AM} {H : Hp} (k : Key) : DV K A H (keyD k) (kV k) := by cases k <;> rfl
def itKeys (m : Ev) : Evs := fun env M => (m env M).bind fun d M1 => match d with
  | .node (.dK ks) _ => .ok (ks.map keyD) M1
  | _ => .stuck
theorem zip_get {α β : Type} : ∀ {ks : List α} {vs : List β} {i : Nat} {k : α} {v : β}, (ks.zip vs)[i]? = some (k, v) → ks[i]? = some k ∧ vs[i]? = some v
  | [], _, _, _, _, e => by simp at e
  | _ :: _, [], _, _, _, e => by simp at e
  | a :: ks, b :: vs, 0, k, v, e => by simp at e; obtain ⟨rfl, rfl⟩ := e; exact ⟨rfl, rfl⟩
  | a :: ks, b :: vs, i + 1, k, v, e => by
    obtain ⟨h1, h2⟩ := zip_get (ks := ks) (vs := vs) (i := i) (by simpa using e)
    exact ⟨by simpa using h1, by simpa using h2⟩
/-- a locked dict -/
theorem iter_keys {a : Addr} {o : Obj} {ks : List Key} {vs : List V} {A0 : AM} {H0 : Hp} (hl : ks.length = vs.length) (h : H0 a = some (.frz o (.dK (ks.zip vs)))) (n : a ∉ A0.adrs) : IterOk X.K T (Itk a o (ks.zip vs)) (ks.map keyD) A0 H0 := by
  refine ⟨_, _, _, walk_keys, by rw [List.length_zip, List.length_map]; omega, fun A H e m => ⟨e.k a _ n h (by simp), fun i x H' hi y => ?_⟩⟩
  obtain ⟨rfl, k, v, hk, rfl⟩ := y
  refine ⟨keyD k, ?_, by cases k <;> rfl, Ext.refl, m, keyD_at k⟩
  rw [List.getElem?_map, (zip_get hk).1]
  rfl
theorem i_keys {tg e : Expr} {ma : Ev} (h : PE X e (RdE W T X.K ma)) : PI X tg e (RdI X W T true (itKeys ma)) := (pi_keys (pe_lock h)).imp fun σ H Q ⟨A, env, at0, p⟩ =>
  (PoI.step at0 p).mono fun v H1 ⟨A1, d, _, a1, dv, p1⟩ => by
    split at p1
    · rename_i ks xs
      obtain ⟨a, vs, rfl, na, ds⟩ := dv
      rcases na with ⟨u, n, r, i⟩ | k
      · cases u <;> first | exact i.elim | skip
        rename_i kvs
        obtain ⟨rfl, hl⟩ := i
        rcases (show Rd H1 a (.dK (ks.zip vs)) from r) with r | ⟨o, r⟩
        · refine .inr ⟨a, _, rfl, r, fun hu o => ⟨a, o, rfl, .inl ⟨_, upd_same, p1 A1 H1 _ _ rfl Ext.refl a1.mem ⟨.inr ⟨a, _, o, r, hu, n, rfl⟩, fun z => by cases z⟩ (iter_keys hl upd_same n)⟩⟩⟩
        · exact .inl ⟨a, o, rfl, .inl ⟨_, r, p1 A1 H1 H1 _ rfl Ext.refl a1.mem ⟨.inl rfl, fun _ => rfl⟩ (iter_keys hl r n)⟩⟩
      · exact k.elim
    · exact p1.elim
end
end TB

set_option Elab.async false
set_option linter.all false
set_option maxRecDepth 100000
set_option maxHeartbeats 4000000
namespace TB
open PySem PySem.Spec PyProof.Rows L2
/-! ### targets -/
abbrev TgM := D → Mem → Env → Option Env
/-- g binds as m does; only the slots ts change -/
def TgOk (K : PySem.W.Frag) (g : TG) (m : TgM) (ts : List Nat) : Prop := ∀ (A : AM) (H : Hp) (env env' : Env) (σ : L2.St) (d : D) (v : V) (Q : L2.St → Hp → Prop), MemOk K A H → EnvOk K A H env σ → DV K A H d v → m d A.ers env = some env' →
  (∀ σ', EnvOk K A H env' σ' → σ'.length = σ.length → (∀ i, i ∉ ts → σ'[i]? = σ[i]?) → Q σ' H) → g v σ H Q
abbrev TgsM := List D → Mem → Env → Option Env
def TgsOk (K : PySem.W.Frag) (g : TGs) (m : TgsM) (ts : List Nat) : Prop := ∀ (A : AM) (H : Hp) (env env' : Env) (σ : L2.St) (ds : List D) (vs : List V) (Q : L2.St → Hp → Prop), MemOk K A H → EnvOk K A H env σ → DVl K A H ds vs → m ds A.ers env = some env' →
  (∀ σ', EnvOk K A H env' σ' → σ'.length = σ.length → (∀ i, i ∉ ts → σ'[i]? = σ[i]?) → Q σ' H) → g vs σ H Q
def tNm (i : Nat) : TgM := fun d _ env => if Nat.blt i env.length then some (env.set i (some d)) else none
def tsNil : TgsM := fun ds _ env => match ds with
  | [] => some env
  | _ => none
def tsCons (m : TgM) (ms : TgsM) : TgsM := fun ds M env => match ds with
  | d :: r => match m d M env with
    | some env' => ms r M env'
    | none => none
  | _ => none
def tTp (ms : TgsM) : TgM := fun d M env => match look M d with
  | some (.tup, xs) => ms xs M env
  | some (.ktp, xs) => ms xs M env
  | _ => none
/-- a list is unpacked -/
def tLs (ms : TgsM) : TgM := fun d M env => match look M d with
  | some (.lst, xs) => ms xs M env
  | _ => none
section
variable {X : Cx} {W : XK} {T : List (Addr × Str)} {K : PySem.W.Frag}
theorem EnvOk.set {A : AM} {H : Hp} {env : Env} {σ : L2.St} {i : Nat} {d : D} {v : V} (h : EnvOk K A H env σ) (dv : DV K A H d v) : EnvOk K A H (env.set i (some d)) (σ.set i (some v)) := by
  refine ⟨by simp [h.1], fun j e q => ?_⟩
  by_cases hj : j = i
  · subst hj
    have hl : j < env.length := by
      have := List.getElem?_eq_some_iff.mp q
      obtain ⟨l, _⟩ := this
      simpa using l
    rw [List.getElem?_set_self hl] at q
    cases q
    exact ⟨v, List.getElem?_set_self (by rw [← h.1]; exact hl), dv⟩
  · rw [List.getElem?_set_ne (Ne.symm hj)] at q
    obtain ⟨w, h1, h2⟩ := h.2 j e q
    exact ⟨w, by rw [List.getElem?_set_ne (Ne.symm hj)]; exact h1, h2⟩
theorem tg_nm {i : Nat} : TgOk K (gName i) (tNm i) [i] := by
  intro A H env env' σ d v Q m e dv h hQ
  unfold tNm at h
  split at h
  · cases h
    exact hQ _ (e.set dv) (by simp) fun j hj => List.getElem?_set_ne (fun z => hj (by simp [z]))
  · cases h
theorem tgs_nil : TgsOk K gNil tsNil [] := by
  intro A H env env' σ ds vs Q m e dv h hQ
  cases dv with
  | nil =>
    cases h
    exact ⟨rfl, hQ σ e rfl fun _ _ => rfl⟩
  | cons => cases h
theorem tgs_cons {g : TG} {gs : TGs} {m : TgM} {ms : TgsM} {ts us : List Nat} (h1 : TgOk K g m ts) (h2 : TgsOk K gs ms us) : TgsOk K (gCons g gs) (tsCons m ms) (ts ++ us) := by
  intro A H env env' σ ds vs Q mo e dv h hQ
  cases dv with
  | nil => cases h
  | @cons d v r vr dv dvs =>
    unfold tsCons at h
    simp only at h
    split at h
    · rename_i env1 he
      exact ⟨v, vr, rfl, h1 A H env env1 σ d v _ mo e dv he fun σ1 e1 l1 k1 => h2 A H env1 env' σ1 r vr Q mo e1 dvs h fun σ2 e2 l2 k2 => hQ σ2 e2 (l2.trans l1) fun i hi => (k2 i fun z => hi (List.mem_append_right _ z)).trans (k1 i fun z => hi (List.mem_append_left _ z))⟩
    · cases h
/-- how many are unpacked -/
def LenOf (ms : TgsM) (n : Nat) : Prop := ∀ ds M env env', ms ds M env = some env' → ds.length = n
theorem len_nil : LenOf tsNil 0 := fun ds M env env' h => by cases ds with | nil => rfl | cons => cases h
theorem len_cons {m : TgM} {ms : TgsM} {n : Nat} (h : LenOf ms n) : LenOf (tsCons m ms) (n + 1) := fun ds M env env' q => by
  cases ds with
  | nil => cases q
  | cons d r =>
    unfold tsCons at q
    simp only at q
    split at q
    · simp [h _ _ _ _ q]
    · cases q
theorem tg_tp {g : TGs} {ms : TgsM} {ts : List Nat} {n : Nat} (h : TgsOk K g ms ts) (hl : LenOf ms n) : TgOk K (gTup K n g) (tTp ms) ts := by
  intro A H env env' σ d v Q m e dv q hQ
  unfold tTp at q
  split at q
  · rename_i xs hk
    obtain ⟨a, vs, rfl, ra, ds⟩ := look_at m dv hk
    exact ⟨a, vs, rfl, ra.tup, by rw [← Paired.len ds]; exact hl _ _ _ _ q, h A H env env' σ xs vs Q m e ds q hQ⟩
  · rename_i xs hk
    obtain ⟨a, vs, rfl, ra, ds⟩ := look_at m dv hk
    exact ⟨a, vs, rfl, ra.ktp, by rw [← Paired.len ds]; exact hl _ _ _ _ q, h A H env env' σ xs vs Q m e ds q hQ⟩
  · cases q
theorem tg_ls {g : TGs} {ms : TgsM} {ts : List Nat} {n : Nat} (h : TgsOk K g ms ts) (hl : LenOf ms n) : TgOk K (gUnl K n g) (tLs ms) ts := by
  intro A H env env' σ d v Q m e dv q hQ
  unfold tLs at q
  split at q
  · rename_i xs hk
    obtain ⟨a, vs, rfl, ra, ds⟩ := look_at m dv hk
    exact ⟨a, vs, rfl, ra.lst, by rw [← Paired.len ds]; exact hl _ _ _ _ q, h A H env env' σ xs vs Q m e ds q hQ⟩
  · cases q

/-! ### a hidden thing -/
def AM.hide (A : AM) (p : Addr) : AM := ⟨A.c, p :: A.z⟩
theorem mem_hide {A : AM} {p a : Addr} : a ∈ (A.hide p).adrs ↔ a = p ∨ a ∈ A.adrs := by
  unfold AM.hide AM.adrs
  simp only [List.mem_append, List.mem_cons]
  constructor
  · rintro (h | h | h)
    · exact .inr (.inl h)
    · exact .inl h
    · exact .inr (.inr h)
  · rintro (h | h | h)
    · exact .inr (.inl h)
    · exact .inl h
    · exact .inr (.inr h)
theorem MemOk.imp {A B : AM} {H : Hp} (m : MemOk K A H) (hc : B.c = A.c) (nd : B.adrs.Nodup) (n : ∀ a w, a ∉ A.adrs → H a = some w → a ∉ B.adrs) (zt : ∀ a ∈ B.z, ∃ u, H a = some u ∧ Own1 u) : MemOk K B H :=
  ⟨nd, fun k a t xs q => by
    rw [hc] at q
    obtain ⟨u, vs, hu, i, nt, dv⟩ := m.ok k a t xs q
    exact ⟨u, vs, hu, i, nt, DVl.mono dv (fun _ _ h => by unfold AM.adr at h ⊢; rw [hc]; exact h) fun q => q.keep n fun _ _ _ h _ => h⟩, zt⟩
theorem DV.imp {A B : AM} {H : Hp} {d : D} {v : V} (h : DV K A H d v) (hc : B.c = A.c) (n : ∀ a w, a ∉ A.adrs → H a = some w → a ∉ B.adrs) : DV K B H d v := by
  exact DV.mono h (fun _ _ h => by unfold AM.adr at h ⊢; rw [hc]; exact h) fun q => q.keep n fun _ _ _ h _ => h
theorem EnvOk.imp {A B : AM} {H : Hp} {env : Env} {σ : L2.St} (h : EnvOk K A H env σ) (hc : B.c = A.c) (n : ∀ a w, a ∉ A.adrs → H a = some w → a ∉ B.adrs) : EnvOk K B H env σ :=
  ⟨h.1, fun i d q => let ⟨v, h1, h2⟩ := h.2 i d q; ⟨v, h1, h2.imp hc n⟩⟩
theorem nd_hide {A : AM} {p : Addr} (nd : A.adrs.Nodup) (n : p ∉ A.adrs) : (A.hide p).adrs.Nodup := by
  unfold AM.hide AM.adrs at *
  rw [List.nodup_append] at nd ⊢
  obtain ⟨h1, h2, h3⟩ := nd
  refine ⟨h1, List.nodup_cons.mpr ⟨fun z => n (List.mem_append_right _ z), h2⟩, fun a ha b hb => ?_⟩
  rcases List.mem_cons.mp hb with rfl | hb
  · rintro rfl; exact n (List.mem_append_left _ ha)
  · exact h3 a ha b hb
theorem nd_show {A : AM} {p : Addr} (nd : (A.hide p).adrs.Nodup) : A.adrs.Nodup := by
  unfold AM.hide AM.adrs at *
  rw [List.nodup_append] at nd ⊢
  obtain ⟨h1, h2, h3⟩ := nd
  exact ⟨h1, (List.nodup_cons.mp h2).2, fun a ha b hb => h3 a ha b (List.mem_cons_of_mem _ hb)⟩
/-- into hiding: a thing just laid -/
theorem MemOk.hide {A : AM} {H : Hp} {p : Addr} {u : HO} (m : MemOk K A H) (h : H p = none) (hu : Own1 u) : MemOk K (A.hide p) (upd H p u) := by
  have np := m.out h
  have ne : ∀ a w, a ∉ A.adrs → H a = some w → a ∉ (A.hide p).adrs := fun a w n q z => by
    rcases mem_hide.mp z with rfl | z
    · rw [h] at q; cases q
    · exact n z
  have ex := Ext.laid (T := []) (A := A) (u := u) h
  refine ⟨nd_hide m.nd np, fun k b t xs q => ?_, fun a ha => ?_⟩
  · obtain ⟨w, vs, hw, i, nt, dv⟩ := m.ok k b t xs q
    exact ⟨w, vs, by rw [upd_ne (fun z => by subst z; rw [h] at hw; cases hw)]; exact hw, i, nt, DVl.mono dv (fun _ _ h => h) fun q => q.keep ne ex.keep'⟩
  · rcases List.mem_cons.mp ha with rfl | ha
    · exact ⟨u, upd_same, hu⟩
    · obtain ⟨w, hw, r⟩ := m.zt a ha
      exact ⟨w, by rw [upd_ne (fun z => by subst z; rw [h] at hw; cases hw)]; exact hw, r⟩
theorem DP.hide {A : AM} {H : Hp} {p : Addr} {u : HO} {d : D} {v : V} (h : H p = none) (q : DP K A.adrs H d v) : DP K (A.hide p).adrs (upd H p u) d v :=
  DP.keep (fun a w n q z => by
    rcases mem_hide.mp z with rfl | z
    · rw [h] at q; cases q
    · exact n z) (Ext.laid (T := []) (A := A) h).keep' q
theorem DV.hide {A : AM} {H : Hp} {p : Addr} {u : HO} {d : D} {v : V} (h : H p = none) (q : DV K A H d v) : DV K (A.hide p) (upd H p u) d v := by
  exact DV.mono (A' := A.hide p) (H' := upd H p u) q (fun _ _ h => h) fun q => DP.hide h q
theorem EnvOk.hide {A : AM} {H : Hp} {p : Addr} {u : HO} {env : Env} {σ : L2.St} (h : H p = none) (q : EnvOk K A H env σ) : EnvOk K (A.hide p) (upd H p u) env σ :=
  ⟨q.1, fun i d z => let ⟨v, h1, h2⟩ := q.2 i d z; ⟨v, h1, h2.hide h⟩⟩
/-- the hidden thing is written -/
theorem DP.over {ρ : List Addr} {H : Hp} {p : Addr} {u : HO} {d : D} {v : V} (hp : p ∈ ρ) (q : DP K ρ H d v) : DP K ρ (upd H p u) d v :=
  DP.keep (fun _ _ n _ => n) (fun a w n q _ => by rw [upd_ne (fun z : a = p => n (by rw [z]; exact hp))]; exact q) q
theorem DPs.over {ρ : List Addr} {H : Hp} {p : Addr} {u : HO} {d : List D} {v : List V} (hp : p ∈ ρ) (q : DPs K ρ H d v) : DPs K ρ (upd H p u) d v :=
  DPs.keep (fun _ _ n _ => n) (fun a w n q _ => by rw [upd_ne (fun z : a = p => n (by rw [z]; exact hp))]; exact q) q
theorem MemOk.over {A : AM} {H : Hp} {p : Addr} {u : HO} (m : MemOk K A H) (hp : p ∈ A.z) (hu : Own1 u) : MemOk K A (upd H p u) := by
  have hpa : p ∈ A.adrs := List.mem_append_right _ hp
  refine ⟨m.nd, fun k b t xs q => ?_, fun a ha => ?_⟩
  · obtain ⟨w, vs, hw, i, nt, dv⟩ := m.ok k b t xs q
    refine ⟨w, vs, ?_, i, nt, DVl.mono dv (fun _ _ h => h) fun q => DP.over hpa q⟩
    rw [upd_ne]
    · exact hw
    · rintro rfl
      have nd := m.nd
      unfold AM.adrs at nd
      exact (List.nodup_append.mp nd).2.2 b (List.mem_of_getElem? (AM.adr_at q)) b hp rfl
  · by_cases z : a = p
    · subst z; exact ⟨u, upd_same, hu⟩
    · obtain ⟨w, hw, r⟩ := m.zt a ha
      exact ⟨w, by rw [upd_ne z]; exact hw, r⟩
theorem EnvOk.over {A : AM} {H : Hp} {p : Addr} {u : HO} {env : Env} {σ : L2.St} (hp : p ∈ A.adrs) (q : EnvOk K A H env σ) : EnvOk K A (upd H p u) env σ :=
  ⟨q.1, fun i d z => by
    obtain ⟨v, h1, h2⟩ := q.2 i d z
    exact ⟨v, h1, DV.mono h2 (fun _ _ h => h) fun q => DP.over hp q⟩⟩
theorem Tabs.over {H : Hp} {p : Addr} {u w : HO} (h : H p = some w) (hw : (∀ ps, w ≠ .tbl ps) ∧ ∀ c q, w ≠ LamX.CodeO c q) (t : LamX.Tabs T H) : LamX.Tabs T (upd H p u) := by
  intro x hx
  obtain ⟨ps, h1, h2, h3⟩ := t x hx
  refine ⟨ps, ?_, h2, fun pos cv q => ?_⟩
  · rw [upd_ne]
    · exact h1
    · rintro e; rw [e, h] at h1; exact hw.1 ps (Option.some.inj h1)
  · obtain ⟨c, e1, e2⟩ := h3 pos cv q
    refine ⟨c, e1, ?_⟩
    rw [upd_ne]
    · exact e2
    · rintro e; subst e; rw [h] at e2; exact hw.2 _ _ (Option.some.inj e2)
end
end TB

set_option Elab.async false
set_option linter.all false
set_option maxRecDepth 100000
set_option maxHeartbeats 4000000
namespace TB
open PySem PySem.Spec PyProof.Rows L2
/-! ### list comprehensions -/
def wipeE (env : Env) : List Nat → Env
  | [] => env
  | v :: vs => (wipeE env vs).set v none
def lcGo (tg : TgM) (c e : Ev) (env : Env) : List D → Mem → R (List D)
  | [], M => .ok [] M
  | x :: xs, M => match tg x M env with
    | none => .stuck
    | some env2 => match c env2 M with
      | .ok (.bl true) M2 => match e env2 M2 with
        | .ok y M3 => match still y with
          | true => match lcGo tg c e env xs M3 with
            | .ok ys M4 => .ok (y :: ys) M4
            | _ => .stuck
          | false => .stuck
        | _ => .stuck
      | .ok (.bl false) M2 => lcGo tg c e env xs M2
      | _ => .stuck
def mLc (it : Evs) (tg : TgM) (c e : Ev) (vs : List Nat) : Ev := fun env M => (it env M).bind fun items M1 => match lcGo tg c e (wipeE env vs) items M1 with
  | .ok ys M2 => match szB ys.length with
    | true => .ok (.node .lst ys) M2
    | false => .stuck
  | _ => .stuck
section
variable {X : Cx} {W : XK} {T : List (Addr × Str)} {K : PySem.W.Frag}
theorem wipe_env {A : AM} {H : Hp} {env : Env} {σ : L2.St} (h : EnvOk K A H env σ) : ∀ vs, EnvOk K A H (wipeE env vs) (wipe σ vs)
  | [] => h
  | v :: vs => by
    have ih := wipe_env h vs
    refine ⟨by unfold wipeE wipe; simp [ih.1], fun i d q => ?_⟩
    unfold wipeE at q
    by_cases hv : i = v
    · subst hv
      have hl := (List.getElem?_eq_some_iff.mp q).1
      rw [List.getElem?_set_self (by simpa using hl)] at q
      cases q
    · rw [List.getElem?_set_ne (Ne.symm hv)] at q
      obtain ⟨w, h1, h2⟩ := ih.2 i d q
      exact ⟨w, by unfold wipe; rw [List.getElem?_set_ne (Ne.symm hv)]; exact h1, h2⟩
theorem wipe_at {σ : L2.St} : ∀ {vs : List Nat} {i : Nat}, i ∈ vs → i < σ.length → (wipe σ vs)[i]? = some none
  | v :: vs, i, h, hl => by
    unfold wipe
    by_cases hv : i = v
    · subst hv
      exact List.getElem?_set_self (by rw [wipe_length]; exact hl)
    · rw [List.getElem?_set_ne (Ne.symm hv)]
      rcases List.mem_cons.mp h with e | h
      · exact absurd e hv
      · exact wipe_at h hl
/-- slots of the block's own names alone have changed -/
theorem wipe_same {σ σ2 : L2.St} {vs ts : List Nat} (hts : ∀ i ∈ ts, i ∈ vs) (hl : σ2.length = (wipe σ vs).length) (k : ∀ i, i ∉ ts → σ2[i]? = (wipe σ vs)[i]?) : wipe σ2 vs = wipe σ vs := by
  rw [wipe_length] at hl
  apply List.ext_getElem?
  intro i
  by_cases hi : i ∈ vs
  · by_cases hb : i < σ.length
    · rw [wipe_at hi hb, wipe_at hi (by rw [hl]; exact hb)]
    · rw [List.getElem?_eq_none (by rw [wipe_length]; omega), List.getElem?_eq_none (by rw [wipe_length]; omega)]
  · rw [wipe_out hi, k i fun z => hi (hts i z)]
theorem Ext.hz {A A' : AM} {H H' : Hp} {p : Addr} (e : Ext T A H A' H') : Ext T (A.hide p) H (A'.hide p) H' := ⟨e.pre, e.new, by show p :: A'.z = p :: A.z; rw [e.zz], e.keep, e.tabs, e.there⟩
theorem Ext.unz {A A' : AM} {H H' : Hp} (e : Ext T A H A' H') (z : List Addr) : Ext T ⟨A.c, z⟩ H ⟨A'.c, z⟩ H' := ⟨e.pre, e.new, rfl, e.keep, e.tabs, e.there⟩
/-- a thing that was not there at the start is written -/
theorem Ext.over {A A' : AM} {H H' : Hp} {p : Addr} {u w : HO} (e : Ext T A H A' H') (h : H p = none) (h' : H' p = some w) (hw : (∀ ps, w ≠ .tbl ps) ∧ ∀ c q, w ≠ LamX.CodeO c q) : Ext T A H A' (upd H' p u) :=
  ⟨e.pre, e.new, e.zz, fun a x n q nt => by
    rw [upd_ne (fun z => by subst z; rw [h] at q; cases q)]
    exact e.keep a x n q nt, fun t => Tabs.over h' hw (e.tabs t), fun a q => by
    by_cases z : a = p
    · subst z; exact h
    · rw [upd_ne z] at q; exact e.there a q⟩
theorem lst_ok (xs : List V) : (∀ ys, HO.lst xs ≠ .tup ys) ∧ (∀ ps, HO.lst xs ≠ .tbl ps) ∧ ∀ c q, HO.lst xs ≠ LamX.CodeO c q := ⟨by simp, by simp, by intro c q z; cases z⟩
theorem dK_ok (kvs : List (Key × V)) : (∀ ys, HO.dK kvs ≠ .tup ys) ∧ (∀ ps, HO.dK kvs ≠ .tbl ps) ∧ ∀ c q, HO.dK kvs ≠ LamX.CodeO c q := ⟨by simp, by simp, by intro c q z; cases z⟩
theorem MemOk.show {A : AM} {H : Hp} {p : Addr} (m : MemOk K (A.hide p) H) : MemOk K A H :=
  m.imp rfl (nd_show m.nd) (fun a w n _ z => n (mem_hide.mpr (.inr z))) fun a ha => m.zt a (List.mem_cons_of_mem _ ha)
theorem drop_get {α : Type} {xs : List α} {i : Nat} {x : α} (h : xs[i]? = some x) : xs.drop i = x :: xs.drop (i + 1) := by
  obtain ⟨hl, e⟩ := List.getElem?_eq_some_iff.mp h
  rw [List.drop_eq_getElem_cons hl, e]
/-- what is known as a comprehension goes: the cells, the list at D so far -/
structure LcInv (K : PySem.W.Frag) (T : List (Addr × Str)) (A1 : AM) (H1 : Hp) (D : Addr) (env : Env) (σ : L2.St) (A : AM) (H : Hp) (acc : List TB.D) (accV : List V) : Prop where
  zz : A.z = A1.z
  ext : Ext T A1 H1 A H
  mem : MemOk K (A.hide D) H
  env : EnvOk K (A.hide D) H env σ
  tabs : LamX.Tabs T H
  at_ : H D = some (.lst accV)
  acc : DPs K (A.hide D).adrs H acc accV
theorem DP.hidden {A : AM} {H H' : Hp} {D : Addr} {d : TB.D} {v : V} {A' : AM} (e : Ext T (A.hide D) H (A'.hide D) H') (q : DP K (A.hide D).adrs H d v) : DP K (A'.hide D).adrs H' d v := q.ext e
theorem Po.calm {A : AM} {H : Hp} {Q : VK} {r : R D} (h : ∃ d M, r = .ok d M) (k : ∀ d M, r = .ok d M → Po W0 T K A H (.ok d M) Q) : Po W0 T K A H r Q := by
  obtain ⟨d, M, e⟩ := h
  rw [e]; exact k d M e
theorem lcGo_cons {tg : TgM} {c e : Ev} {env : Env} {x : TB.D} {xs : List TB.D} {M M' : Mem} {ys : List TB.D} (h : lcGo tg c e env (x :: xs) M = .ok ys M') :
    ∃ env2, tg x M env = some env2 ∧ ((∃ M2 y M3 ys', c env2 M = .ok (.bl true) M2 ∧ e env2 M2 = .ok y M3 ∧ still y = true ∧ lcGo tg c e env xs M3 = .ok ys' M' ∧ ys = y :: ys') ∨ ∃ M2, c env2 M = .ok (.bl false) M2 ∧ lcGo tg c e env xs M2 = .ok ys M') := by
  unfold lcGo at h
  cases ht : tg x M env with
  | none => rw [ht] at h; cases h
  | some env2 =>
    rw [ht] at h
    refine ⟨env2, rfl, ?_⟩
    simp only at h
    split at h
    · rename_i M2 hc
      split at h
      · rename_i y M3 he
        split at h
        · rename_i hs
          split at h
          · rename_i ys' M4 hl
            cases h
            exact .inl ⟨M2, y, M3, ys', hc, he, hs, hl, rfl⟩
          · cases h
        · cases h
      · cases h
    · rename_i M2 hc
      exact .inr ⟨M2, hc, h⟩
    · cases h
theorem lc_read {it : Evs} {g : TG} {m : TgM} {ts vs : List Nat} {mc me : Ev} {lb : Bool} (tk : TgOk X.K g m ts) (hts : ∀ i ∈ ts, i ∈ vs) {σ : L2.St} {H : Hp} {Q : VK} (h : RdE W T X.K (mLc it m mc me vs) σ H Q) :
    tLc (RdI X W T lb it) g (RdT W0 T X.K mc) (RdE W0 T X.K me) vs σ H (fun v H' => UL X (Q v) H') := by
  obtain ⟨A, env, at0, p⟩ := h
  refine ⟨A, env, at0, ?_⟩
  unfold mLc at p
  cases hit : it env A.ers with
  | stuck => rw [hit] at p; exact p
  | exc x M => rw [hit] at p; exact p
  | ok items M1 =>
    rw [hit] at p
    intro A1 Hb Hl J eM e mb ⟨lk, _⟩ iok D hD
    subst eM
    have p : Po W T X.K A H (match lcGo m mc me (wipeE env vs) items A1.ers with | .ok ys M2 => (match szB ys.length with | true => .ok (.node .lst ys) M2 | false => .stuck) | _ => .stuck) Q := p
    cases hgo : lcGo m mc me (wipeE env vs) items A1.ers with
    | stuck => rw [hgo] at p; exact p.elim
    | exc x M => rw [hgo] at p; exact p.elim
    | ok ys M2 =>
      rw [hgo] at p
      simp only at p
      cases hz : szB ys.length with
      | false => rw [hz] at p; exact p.elim
      | true =>
        rw [hz] at p
        simp only at p
        obtain ⟨n, G, Y, w, hn, hit2⟩ := iok
        have atb := at0.ext e mb
        have atl : At T X.K A1 Hl env σ := by
          rcases lk with rfl | ⟨a, kvs, o, h1, _, h3, rfl⟩
          · exact atb
          · exact (Same1.mk (fun b nb => upd_ne nb) (.inl h1) (.inr ⟨o, upd_same⟩) : Same1 Hb (upd Hb a (.frz o (.dK kvs))) a kvs).at_ h3 atb
        refine lc_it w (fun i H => ∃ A acc accV rest, LcInv X.K T A1 Hl D (wipeE env vs) (wipe σ vs) A H acc accV ∧ lcGo m mc me (wipeE env vs) (items.drop i) A.ers = .ok rest M2 ∧ acc ++ rest = ys) ?_ ?_ ?_ ?_
        · exact ⟨A1, [], [], ys, ⟨rfl, Ext.laid hD, atl.mem.hide hD (lst_ok _), (wipe_env atl.env _).hide hD, (Ext.laid (A := A1) hD).tabs atl.tabs, upd_same, rfl⟩, hgo, rfl⟩
        · rintro i H hi ⟨A', acc, accV, rest, L, _, _⟩
          refine (hit2 (A'.hide D) H (Ext.ke (T := T) ?_ ?_) L.mem).1
          · have := L.ext
            have z := L.zz
            show Ext T A1 Hl ⟨A'.c, A1.z⟩ H
            rw [← z]; exact this
          · intro q hq
            rcases List.mem_cons.mp hq with rfl | hq
            · exact .inr hD
            · exact .inl (by rw [← L.zz]; exact hq)
        · rintro i x H H' hi ⟨A', acc, accV, rest, L, hl, hy⟩ y
          have hx := (hit2 (A'.hide D) H (Ext.ke (T := T) (by have := L.ext; have z := L.zz; show Ext T A1 Hl ⟨A'.c, A1.z⟩ H; rw [← z]; exact this) (by
            intro q hq
            rcases List.mem_cons.mp hq with rfl | hq
            · exact .inr hD
            · exact .inl (by rw [← L.zz]; exact hq))) L.mem).2 i x H' hi y
          obtain ⟨d, hd, hst, e1, m1, dv⟩ := hx
          rw [drop_get hd] at hl
          obtain ⟨env2, htg, hrest⟩ := lcGo_cons hl
          have ee : Ext T A' H A' H' := e1.unz A'.z
          have env1 := L.env.ext e1
          refine tk (A'.hide D) H' _ env2 _ d x _ m1 env1 dv htg fun σ2 e2 l2 k2 => ⟨wipe_same hts l2 k2, ?_⟩
          have at2 : At T X.K (A'.hide D) H' env2 σ2 := ⟨m1, e2, e1.tabs L.tabs⟩
          have hD1 : H' D = some (.lst accV) := e1.keep D _ (fun z => by
            have nd := L.mem.nd
            unfold AM.adrs at nd
            exact (List.nodup_append.mp nd).2.2 D z D List.mem_cons_self rfl) L.at_ (by simp)
          have acc1 := L.acc.ext e1
          have ndD : ∀ {B : AM} {G : Hp}, MemOk X.K (B.hide D) G → D ∉ B.adr := fun mb z => by
            have nd := mb.nd
            unfold AM.adrs at nd
            exact (List.nodup_append.mp nd).2.2 D z D List.mem_cons_self rfl
          rcases hrest with ⟨M3, yv, M4, ys', hc, hev, hsy, hl', rfl⟩ | ⟨M3, hc, hl'⟩
          · refine ⟨A'.hide D, env2, at2, ?_⟩
            show Po W0 T X.K (A'.hide D) H' (mc env2 A'.ers) _
            rw [hc]
            intro A3 H3 v3 eM3 e3 m3 dv3
            subst eM3
            refine ⟨true, dv3, ?_⟩
            dsimp only
            rw [if_pos rfl]
            obtain ⟨c3, z3⟩ := A3
            obtain rfl : z3 = D :: A'.z := e3.zz
            have at3 := at2.ext e3 m3
            refine ⟨_, env2, at3, ?_⟩
            show Po W0 T X.K _ H3 (me env2 (AM.ers ⟨c3, D :: A'.z⟩)) _
            have hev' : me env2 (AM.ers ⟨c3, D :: A'.z⟩) = .ok yv M4 := hev
            rw [hev']
            intro A4 H4 v4 eM4 e4 m4 dv4
            subst eM4
            obtain ⟨c4, z4⟩ := A4
            obtain rfl : z4 = D :: A'.z := e4.zz
            have e34 := e3.trans e4
            have hD4 : H4 D = some (.lst accV) := e34.keep D _ (ndD (B := A') m1) hD1 (by simp)
            have acc4 := acc1.ext e34
            have hlen : accV.length < sizeLine := by
              have h1 := acc4.len
              have h2 := szB_le hz
              have h3 := congrArg List.length hy
              simp only [List.length_append, List.length_cons] at h3
              omega
            have mD : D ∈ (AM.mk c4 (D :: A'.z)).adrs := List.mem_append_right _ List.mem_cons_self
            refine ⟨accV, hD4, hlen, ⟨c4, A'.z⟩, acc ++ [yv], accV ++ [v4], ys', ⟨L.zz, ?_, m4.over List.mem_cons_self (lst_ok _), ?_, ?_, upd_same, ?_⟩, hl', by rw [← hy]; simp⟩
            · exact Ext.over (w := .lst accV) (L.ext.trans (ee.trans (e34.unz A'.z))) hD hD4 (lst_ok _).2
            · exact ((L.env.ext e1).ext e34).over mD
            · exact Tabs.over hD4 (lst_ok _).2 (e34.tabs (e1.tabs L.tabs))
            · exact DPs.over mD (acc4.app ⟨v4, [], rfl, dv4.dp (still_n hsy), rfl⟩)
          · refine ⟨A'.hide D, env2, at2, ?_⟩
            show Po W0 T X.K (A'.hide D) H' (mc env2 A'.ers) _
            rw [hc]
            intro A3 H3 v3 eM3 e3 m3 dv3
            subst eM3
            refine ⟨false, dv3, ?_⟩
            dsimp only
            rw [if_neg (by decide)]
            obtain ⟨c3, z3⟩ := A3
            obtain rfl : z3 = D :: A'.z := e3.zz
            exact ⟨⟨c3, A'.z⟩, acc, accV, rest, ⟨L.zz, L.ext.trans (ee.trans (e3.unz A'.z)), m3, (L.env.ext e1).ext e3, e3.tabs (e1.tabs L.tabs), e3.keep D _ (ndD (B := A') m1) hD1 (by simp), acc1.ext e3⟩, hl', hy⟩
        · rintro H ⟨A', acc, accV, rest, L, hl, hy⟩
          rw [List.drop_of_length_le (by omega)] at hl
          have hl : R.ok [] A'.ers = R.ok rest M2 := hl
          cases hl
          rw [List.append_nil] at hy
          subst hy
          have m' := L.mem.show
          have np : D ∉ A'.adrs := fun z => by
            have nd := L.mem.nd
            rcases List.mem_append.mp z with z | z
            · unfold AM.adrs at nd
              exact (List.nodup_append.mp nd).2.2 D z D List.mem_cons_self rfl
            · unfold AM.adrs at nd
              exact (List.nodup_cons.mp (List.nodup_append.mp nd).2.1).1 z
          have fin : DP X.K A'.adrs H (.node .lst acc) (.ref D) := ⟨D, accV, rfl, .inl ⟨.lst accV, np, L.at_, rfl⟩, L.acc.keep (fun a w n _ z => n (mem_hide.mpr (.inr z))) (fun _ _ _ h _ => h)⟩
          rcases lk with rfl | ⟨a, kvs, o, h1, hu, h3, rfl⟩
          · exact .inl (p A' H _ rfl (e.trans L.ext) m' fin.dv)
          · have s : Same1 Hb (upd Hb a (.frz o (.dK kvs))) a kvs := ⟨fun b nb => upd_ne nb, .inl h1, .inr ⟨o, upd_same⟩⟩
            have ha : H a = some (.frz o (.dK kvs)) := L.ext.keep' a _ h3 upd_same (by simp)
            have s1 : Same1 H (upd H a (.dK kvs)) a kvs := ⟨fun b nb => upd_ne nb, .inr ⟨o, ha⟩, .inl upd_same⟩
            have n3 : a ∉ A'.adrs := L.ext.notin h3 upd_same
            refine .inr ⟨a, o, .dK kvs, ha, hu, p A' _ _ rfl (e.trans (s.ext L.ext s1 (by rw [upd_same, h1]))) (s1.mem n3 m') (s1.dv fin.dv)⟩
/-- the list that is made -/
theorem e_lc {elt tg iter : Expr} {ifs : List Expr} {scope : Scope} {own : List (Str × Nat)} {pos : Pos} {it : Evs} {g : TG} {m : TgM} {ts : List Nat} {mc me : Ev} {lb : Bool} (c : Cok X W T) (hi : PI X tg iter (RdI X W T lb it)) (ok : BlkOk X.N X.env.scope scope own)
    (hg : ∀ (s : Shared) (H : Hp) (C : Addr) (cl : List (Str × Addr)) (fp : List Addr), PG (X.blk s H scope (compEnvC scope cl C X.env) fp) tg g) (tk : TgOk X.K g m ts) (hts : ∀ i ∈ ts, i ∈ own.map (·.2))
    (ht : ∀ (s : Shared) (H : Hp) (C : Addr) (cl : List (Str × Addr)) (fp : List Addr), PTs (X.blk s H scope (compEnvC scope cl C X.env) fp) ifs (RdT W0 T X.K mc))
    (he : ∀ (s : Shared) (H : Hp) (C : Addr) (cl : List (Str × Addr)) (fp : List Addr), PE (X.blk s H scope (compEnvC scope cl C X.env) fp) elt (RdE W0 T X.K me)) (hs : ∀ x, foldedSetIterable iter X.env x = pure x := by intro _; rfl) :
    PE X (.ListComp elt [⟨tg, iter, ifs, 0⟩] scope pos) (RdE W T X.K (mLc it m mc me (own.map (·.2)))) := by
  refine (pe_ul (pe_lc c.calm c.nd hi ok hg ht he hs)).imp fun σ H Q h => lc_read tk hts h
end
end TB

set_option Elab.async false
set_option linter.all false
set_option maxRecDepth 100000
set_option maxHeartbeats 4000000
namespace TB
open PySem PySem.Spec PyProof.Rows L2
/-! ### statements -/
inductive F where
  | nx (env : Env) | rt (d : D) | bk (env : Env) | ct (env : Env)
abbrev Sm := Env → Mem → R F
/-- what follows of a statement -/
def PoS (W : XK) (T : List (Addr × Str)) (K : PySem.W.Frag) (A : AM) (H : Hp) (r : R F) (E : Ends) : Prop :=
  match r with
  | .ok f M' => ∀ A' H', M' = A'.ers → Ext T A H A' H' → MemOk K A' H' → LamX.Tabs T H' → (match f with
    | .nx env => ∀ σ, EnvOk K A' H' env σ → E.nx σ H'
    | .rt d => ∀ v, DV K A' H' d v → E.rt v H'
    | .bk env => ∀ σ, EnvOk K A' H' env σ → E.bk σ H'
    | .ct env => ∀ σ, EnvOk K A' H' env σ → E.ct σ H')
  | .exc x M' => ∀ A' H' cls dd, M' = A'.ers → Ext T A H A' H' → MemOk K A' H' → ExcOk K A' H' x cls dd → W cls dd H'
  | .stuck => False
def RdS (W : XK) (T : List (Addr × Str)) (K : PySem.W.Frag) (m : Sm) : TS := fun E σ H => ∃ A env, At T K A H env σ ∧ PoS W T K A H (m env A.ers) E
section
variable {X : Cx} {W : XK} {T : List (Addr × Str)} {e : Expr} {st : Stmt} {rest a b : List Stmt} {pos : Pos} {ma mc : Ev} {ms : Evs} {sa sb : Sm}
theorem PoS.ext {A A' : AM} {H H' : Hp} {r : R F} {E : Ends} (e : Ext T A H A' H') (h : PoS W T X.K A H r E) : PoS W T X.K A' H' r E := by
  cases r with
  | ok f M => exact fun A2 H2 q e2 => h A2 H2 q (e.trans e2)
  | exc x M => exact fun A2 H2 c dd q e2 => h A2 H2 c dd q (e.trans e2)
  | stuck => exact h
/-- one expression, then a statement's end -/
theorem PoS.step {A : AM} {H : Hp} {E : Ends} {env : Env} {σ : L2.St} {k : D → Mem → R F} (at0 : At T X.K A H env σ) (h : PoS W T X.K A H ((ma env A.ers).bind k) E) :
    RdE W T X.K ma σ H fun v H1 => ∃ A1 d, Ext T A H A1 H1 ∧ At T X.K A1 H1 env σ ∧ DV X.K A1 H1 d v ∧ PoS W T X.K A1 H1 (k d A1.ers) E := by
  refine ⟨A, env, at0, ?_⟩
  cases q : ma env A.ers with
  | ok d M' =>
    rw [q] at h
    intro A1 H1 v eM e mo dv
    refine ⟨A1, d, e, at0.ext e mo, dv, ?_⟩
    have h' : PoS W T X.K A H (k d M') E := h
    rw [← eM]
    exact h'.ext e
  | exc x M' => rw [q] at h; exact h
  | stuck => rw [q] at h; exact h
theorem PoS.steps {A : AM} {H : Hp} {E : Ends} {env : Env} {σ : L2.St} {k : List D → Mem → R F} (at0 : At T X.K A H env σ) (h : PoS W T X.K A H ((ms env A.ers).bind k) E) :
    RdA W T X.K ms σ H fun v H1 => ∃ A1 d, Ext T A H A1 H1 ∧ At T X.K A1 H1 env σ ∧ DVl X.K A1 H1 d v ∧ PoS W T X.K A1 H1 (k d A1.ers) E := by
  refine ⟨A, env, at0, ?_⟩
  cases q : ms env A.ers with
  | ok d M' =>
    rw [q] at h
    intro A1 H1 v eM e mo dv
    refine ⟨A1, d, e, at0.ext e mo, dv, ?_⟩
    have h' : PoS W T X.K A H (k d M') E := h
    rw [← eM]
    exact h'.ext e
  | exc x M' => rw [q] at h; exact h
  | stuck => rw [q] at h; exact h
theorem PoS.nx {A : AM} {H : Hp} {E : Ends} {env : Env} {σ : L2.St} (h : PoS W T X.K A H (.ok (.nx env) A.ers) E) (at0 : At T X.K A H env σ) : E.nx σ H := h A H rfl Ext.refl at0.mem at0.tabs σ at0.env
def sNil : Sm := fun env M => .ok (.nx env) M
def sSeq (a b : Sm) : Sm := fun env M => (a env M).bind fun f M1 => match f with
  | .nx env1 => b env1 M1
  | f => .ok f M1
theorem s_nil : PSs X [] (RdS W T X.K sNil) := pss_nil.imp fun E σ H ⟨A, env, at0, p⟩ => p.nx at0
theorem s_seq (h1 : PS X st (RdS W T X.K sa)) (h2 : PSs X rest (RdS W T X.K sb)) : PSs X (st :: rest) (RdS W T X.K (sSeq sa sb)) := (pss_cons h1 h2).imp fun E σ H ⟨A, env, at0, p⟩ => by
  refine ⟨A, env, at0, ?_⟩
  unfold sSeq at p
  cases q : sa env A.ers with
  | stuck => rw [q] at p; exact p
  | exc x M => rw [q] at p; exact p
  | ok f M =>
    rw [q] at p
    intro A1 H1 eM e mo tb
    cases f with
    | nx env1 =>
      have p : PoS W T X.K A H (sb env1 M) E := p
      rw [eM] at p
      exact fun σ' eo => ⟨A1, env1, ⟨mo, eo, tb⟩, p.ext e⟩
    | rt d => exact p A1 H1 eM e mo tb
    | bk env1 => exact p A1 H1 eM e mo tb
    | ct env1 => exact p A1 H1 eM e mo tb
theorem s_one (h1 : PS X st (RdS W T X.K sa)) : PSs X [st] (RdS W T X.K sa) := pss_one h1
theorem s_pass : PS X (.Pass pos) (RdS W T X.K sNil) := ps_pass.imp fun E σ H ⟨A, env, at0, p⟩ => p.nx at0
def sBrk : Sm := fun env M => .ok (.bk env) M
def sCnt : Sm := fun env M => .ok (.ct env) M
theorem s_brk : PS X (.Break pos) (RdS W T X.K sBrk) := ps_break.imp fun E σ H ⟨A, env, at0, p⟩ => p A H rfl Ext.refl at0.mem at0.tabs σ at0.env
theorem s_cnt : PS X (.Continue pos) (RdS W T X.K sCnt) := ps_continue.imp fun E σ H ⟨A, env, at0, p⟩ => p A H rfl Ext.refl at0.mem at0.tabs σ at0.env
def sExpr (m : Ev) : Sm := fun env M => (m env M).bind fun _ M1 => .ok (.nx env) M1
theorem s_expr (he : PE X e (RdE W T X.K ma)) (hs : swapsWith e none pos.line X.env = pure false := by rfl) : PS X (.Expr e pos) (RdS W T X.K (sExpr ma)) := (ps_expr he hs).imp fun E σ H ⟨A, env, at0, p⟩ =>
  (PoS.step at0 p).mono fun v H1 ⟨A1, d, _, a1, _, p1⟩ => p1.nx a1
def sRet (m : Ev) : Sm := fun env M => (m env M).bind fun d M1 => .ok (.rt d) M1
theorem s_ret (he : PE X e (RdE W T X.K ma)) : PS X (.Return (some e) pos) (RdS W T X.K (sRet ma)) := (ps_ret he).imp fun E σ H ⟨A, env, at0, p⟩ =>
  (PoS.step at0 p).mono fun v H1 ⟨A1, d, _, a1, dv, p1⟩ => p1 A1 H1 rfl Ext.refl a1.mem a1.tabs v dv
def sRetN : Sm := fun _ M => .ok (.rt .non) M
theorem s_retN : PS X (.Return none pos) (RdS W T X.K sRetN) := ps_retN.imp fun E σ H ⟨A, env, at0, p⟩ => p A H rfl Ext.refl at0.mem at0.tabs _ rfl
def sIf (c : Ev) (a b : Sm) : Sm := fun env M => (c env M).bind fun d M1 => match d with
  | .bl true => a env M1
  | .bl false => b env M1
  | _ => .stuck
theorem s_if {c : Expr} (hc : PT X c (RdT W T X.K mc)) (ha : PSs X a (RdS W T X.K sa)) (hb : PSs X b (RdS W T X.K sb)) : PS X (.If c a b pos) (RdS W T X.K (sIf mc sa sb)) := (ps_if hc ha hb).imp fun E σ H ⟨A, env, at0, p⟩ =>
  (PoS.step at0 p).mono fun v H1 ⟨A1, d, _, a1, dv, p1⟩ => by
    split at p1
    · exact ⟨true, dv, A1, env, a1, p1⟩
    · exact ⟨false, dv, A1, env, a1, p1⟩
    · exact p1.elim
def sAsg (m : Ev) (tg : TgM) : Sm := fun env M => (m env M).bind fun d M1 => match tg d M1 env with
  | some env' => .ok (.nx env') M1
  | none => .stuck
theorem asg_read {g : TG} {m : TgM} {ts : List Nat} (tk : TgOk X.K g m ts) {E : Ends} {σ : L2.St} {H : Hp} (h : RdS W T X.K (sAsg ma m) E σ H) : tAsg (RdE W T X.K ma) g E σ H :=
  let ⟨_, env, at0, p⟩ := h
  (PoS.step at0 p).mono fun v H1 ⟨A1, d, _, a1, dv, p1⟩ => by
    split at p1
    · rename_i env' he
      exact tk A1 H1 env env' σ d v _ a1.mem a1.env dv he fun σ' eo _ _ => p1 A1 H1 rfl Ext.refl a1.mem a1.tabs σ' eo
    · exact p1.elim
theorem s_set {i : Nat} {x : Str} {pos' : Pos} (h : PS X (.Assign [.Name x pos'] e pos) (tAsg (RdE W T X.K ma) (gName i))) : PS X (.Assign [.Name x pos'] e pos) (RdS W T X.K (sAsg ma (tNm i))) := h.imp fun _ _ _ h => asg_read tg_nm h
theorem s_asg {tg : Expr} {g : TG} {m : TgM} {ts : List Nat} (h : PS X (.Assign [tg] e pos) (tAsg (RdE W T X.K ma) g)) (tk : TgOk X.K g m ts) : PS X (.Assign [tg] e pos) (RdS W T X.K (sAsg ma m)) := h.imp fun _ _ _ h => asg_read tk h
/-- name = [..] -/
theorem s_setLc {i : Nat} {x : Str} {pos' : Pos} {it : Evs} {g : TG} {m : TgM} {ts vs : List Nat} {me : Ev} {lb : Bool} (h : PS X (.Assign [.Name x pos'] e pos) (tAsg (tLc (RdI X W T lb it) g (RdT W0 T X.K mc) (RdE W0 T X.K me) vs) (gName i))) (tk : TgOk X.K g m ts) (hts : ∀ i ∈ ts, i ∈ vs) :
    PS X (.Assign [.Name x pos'] e pos) (RdS W T X.K (sAsg (mLc it m mc me vs) (tNm i))) := (ps_ul h).imp fun E σ H q => by
  have r := asg_read (W := W) (T := T) (X := X) (tg_nm (i := i)) q
  exact lc_read tk hts (Q := fun v H' => E.nx (σ.set i (some v)) H') r
/-- a, b = x, y -/
def sPar (i j : Nat) (ms : Evs) : Sm := fun env M => (ms env M).bind fun ds M1 => match ds with
  | [d, e] => match Nat.blt i env.length && Nat.blt j env.length with
    | true => .ok (.nx ((env.set i (some d)).set j (some e))) M1
    | false => .stuck
  | _ => .stuck
theorem s_par {i j : Nat} (h : PS X st (tPar i j (RdA W T X.K ms))) : PS X st (RdS W T X.K (sPar i j ms)) := h.imp fun E σ H ⟨A, env, at0, p⟩ => (PoS.steps at0 p).mono fun vs H1 ⟨A1, ds, _, a1, dv, p1⟩ => by
  split at p1
  · rename_i d e
    obtain ⟨v, w, rfl, dx, dy⟩ := dvl2 dv
    split at p1
    · exact ⟨v, w, rfl, p1 A1 H1 rfl Ext.refl a1.mem a1.tabs _ ((a1.env.set dx).set dy)⟩
    · exact p1.elim
  · exact p1.elim
/-- raise C('..') -/
def sRaise (C : Addr) : Sm := fun _ M => .exc { C := C } M
theorem s_raise {C : Addr} (c : Cok X W T) (he : L2.PMk X e (fun _ H Q => Q (.ref C) none H)) : PS X (.Raise (some e) none pos) (RdS W T X.K (sRaise C)) := (L2.ps_raise c.calm c.tk he).imp fun E σ H ⟨A, env, at0, p⟩ =>
  p A H (.ref C) none rfl Ext.refl at0.mem ⟨rfl, fun _ => rfl, fun d h => by cases h⟩

/-! ### for -/
def forGo (tg : TgM) (b : Sm) : List D → Env → Mem → R F
  | [], env, M => .ok (.nx env) M
  | x :: xs, env, M => match tg x M env with
    | none => .stuck
    | some env2 => match b env2 M with
      | .ok (.nx env3) M3 => forGo tg b xs env3 M3
      | .ok (.ct env3) M3 => forGo tg b xs env3 M3
      | .ok (.bk env3) M3 => .ok (.nx env3) M3
      | .ok (.rt d) M3 => .ok (.rt d) M3
      | .exc x M3 => .exc x M3
      | .stuck => .stuck
def sFor (it : Evs) (tg : TgM) (b : Sm) : Sm := fun env M => (it env M).bind fun items M1 => forGo tg b items env M1
theorem s_for {tg iter : Expr} {body : List Stmt} {it : Evs} {g : TG} {m : TgM} {ts : List Nat} (c : Cok X W T) (hp : PassesOwn (model X.prog X.w) X.A X.env X.xe) (hi : PI X tg iter (RdI X W T false it)) (hg : PG X tg g) (tk : TgOk X.K g m ts) (hb : PSs X body (RdS W T X.K sb))
    (hs : ∀ x, foldedSetIterable iter X.env x = pure x := by intro _; rfl) : PS X (.For tg iter body [] pos) (RdS W T X.K (sFor it m sb)) := by
  refine (ps_for hp c.calm hi hg hb hs).imp fun E σ H ⟨A, env, at0, p⟩ => ?_
  refine ⟨A, env, at0, ?_⟩
  unfold sFor at p
  cases hit : it env A.ers with
  | stuck => rw [hit] at p; exact p
  | exc x M => rw [hit] at p; exact p
  | ok items M1 =>
    rw [hit] at p
    intro A1 Hb Hl J eM e mb ⟨_, lk⟩ iok
    obtain rfl := lk rfl
    subst eM
    have p : PoS W T X.K A H (forGo m sb items env A1.ers) E := p
    have p := p.ext e
    obtain ⟨n, G, Y, w, hn, hit2⟩ := iok
    have atb := at0.ext e mb
    refine for_it w (fun i σ H => ∃ A env, At T X.K A H env σ ∧ Ext T A1 Hl A H ∧ PoS W T X.K A H (forGo m sb (items.drop i) env A.ers) E) ?_ ?_ ?_ ?_
    · exact ⟨A1, env, atb, Ext.refl, p⟩
    · rintro i σ H hi ⟨A', env', a', e', _⟩
      exact (hit2 A' H (Ext.ke (T := T) (by have z := e'.zz; show Ext T A1 Hl ⟨A'.c, A1.z⟩ H; rw [← z]; exact e') (fun q hq => .inl (by rw [← e'.zz]; exact hq))) a'.mem).1
    · rintro i x σ H H' hi ⟨A', env', a', e', p'⟩ y
      obtain ⟨d, hd, hst, e1, m1, dv⟩ := (hit2 A' H (Ext.ke (T := T) (by have z := e'.zz; show Ext T A1 Hl ⟨A'.c, A1.z⟩ H; rw [← z]; exact e') (fun q hq => .inl (by rw [← e'.zz]; exact hq))) a'.mem).2 i x H' hi y
      rw [drop_get hd] at p'
      have p1 := p'.ext e1
      unfold forGo at p1
      cases htg : m d A'.ers env' with
      | none => rw [htg] at p1; exact p1.elim
      | some env2 =>
        rw [htg] at p1
        simp only at p1
        have a1 := a'.ext e1 m1
        refine tk A' H' env' env2 σ d x _ m1 a1.env dv htg fun σ2 eo2 _ _ => ?_
        refine ⟨A', env2, ⟨m1, eo2, a1.tabs⟩, ?_⟩
        cases hb2 : sb env2 A'.ers with
        | stuck => rw [hb2] at p1; exact p1
        | exc x M => rw [hb2] at p1; exact p1
        | ok f M =>
          rw [hb2] at p1
          intro A3 H3 eM3 e3 m3 t3
          subst eM3
          cases f with
          | nx env3 =>
            simp only at p1
            exact fun σ3 eo3 => ⟨A3, env3, ⟨m3, eo3, t3⟩, (e'.trans e1).trans e3, p1.ext e3⟩
          | ct env3 =>
            simp only at p1
            exact fun σ3 eo3 => ⟨A3, env3, ⟨m3, eo3, t3⟩, (e'.trans e1).trans e3, p1.ext e3⟩
          | bk env3 =>
            simp only at p1
            exact p1 A3 H3 rfl e3 m3 t3
          | rt d =>
            simp only at p1
            exact p1 A3 H3 rfl e3 m3 t3
    · rintro σ H ⟨A', env', a', e', p'⟩
      rw [List.drop_of_length_le (by omega)] at p'
      exact p'.nx a'
end
end TB

set_option Elab.async false
set_option linter.all false
set_option maxRecDepth 100000
set_option maxHeartbeats 4000000
namespace TB
open PySem PySem.Spec PyProof.Rows L2
/-! ### defs -/
abbrev Fn := List D → Mem → R D
/-- what a def promises -/
def spF (T : List (Addr × Str)) (K : PySem.W.Frag) (n : Nat) (F : Fn) : Sp := fun vs H Q E => vs.length = n ∧ ∃ A ds, MemOk K A H ∧ LamX.Tabs T H ∧ DVl K A H ds vs ∧ Po E T K A H (F ds A.ers) Q
/-- the body, run -/
def runF (np n : Nat) (sb : Sm) : Fn := fun ds M => match ds.length == np with
  | true => match sb (ds.map some ++ List.replicate (n - ds.length) none) M with
    | .ok (.rt d) M' => .ok d M'
    | .ok (.nx _) M' => .ok .non M'
    | .exc x M' => .exc x M'
    | _ => .stuck
  | false => .stuck
theorem runF_len {np n : Nat} {sb : Sm} : ∀ ds M, runF np n sb ds M ≠ .stuck → ds.length = np := fun ds M h => by
  unfold runF at h
  cases q : ds.length == np with
  | true => simpa using q
  | false => rw [q] at h; exact absurd rfl h
structure FnG (P : Program) (w : World) (K : PySem.W.Frag) (mg : Str → Option Value) (base : Heap) (T : List (Addr × Str)) (k : Nat) (f : Addr) (fd : FuncData) (ps : List Str) (F : Fn) : Prop where
  run : ∀ (A : Around) (outer : List PySem.Env) (s : Shared) (H : Hp) (args : Args) (us : List Value) (vs : List V) (Q : VK) (E : XK), Room k A → A.guards = some [] → Env0 P w K mg base A outer s H → BindsTo s fd args (ps.zip us) → Vals vs us →
    spF T K ps.length F vs H Q E → codeAny (model P w) A (.call (.ref f) args) (CR (L2.CX P w) outer P w H s Q E) s
theorem FnG.mono {P : Program} {w : World} {K : PySem.W.Frag} {mg : Str → Option Value} {base : Heap} {T : List (Addr × Str)} {j k : Nat} {f : Addr} {fd : FuncData} {ps : List Str} {F : Fn} (G : FnG P w K mg base T j f fd ps F) (h : j ≤ k) : FnG P w K mg base T k f fd ps F :=
  ⟨fun A outer s H args us vs Q E hr => G.run A outer s H args us vs Q E (hr.mono h)⟩
theorem start_env {K : PySem.W.Frag} {A : AM} {H : Hp} {ds : List D} {vs : List V} {N : List Str} (h : DVl K A H ds vs) (hl : vs.length ≤ N.length) : EnvOk K A H (ds.map some ++ List.replicate (N.length - ds.length) none) (L2.start N vs) := by
  have e := Paired.len h
  refine ⟨by unfold L2.start; simp [e], fun i d q => ?_⟩
  have hi : i < ds.length := by
    by_cases hi : i < ds.length
    · exact hi
    · rw [List.getElem?_append_right (by simpa using hi), List.getElem?_replicate] at q
      split at q <;> cases q
  rw [List.getElem?_append_left (by simpa using hi), List.getElem?_map] at q
  cases hd : ds[i]? with
  | none => rw [hd] at q; cases q
  | some d' =>
    rw [hd] at q
    cases q
    obtain ⟨v, h1, h2⟩ := Paired.get h hd
    refine ⟨v, ?_, h2⟩
    unfold L2.start
    rw [List.getElem?_append_left (by rw [List.length_map, ← e]; exact hi), List.getElem?_map, h1]
    rfl
/-- the context of a def's body is a good one -/
theorem cok_of {P : Program} {w : World} {K : PySem.W.Frag} {mg : Str → Option Value} {base : Heap} {k : Nat} {N ps : List Str} {qual : Str} {scope : Scope} {f : Addr} {cdv : Value} {A : Around} {outer : List PySem.Env} {s : Shared} {H : Hp} {E : XK} {T : List (Addr × Str)} (S : FnScope N ps scope)
    (hr : Room k (A.deeper (envOfC qual scope s.heap.objs.size f cdv))) (hg : A.guards = some []) : Cok (cxOf (L2.CX P w) P w K mg base N qual scope f cdv A outer s H E) E T where
  calm := rfl
  nd := S.nd
  un := by have := hr.un; show (A.deeper _).units + 200 < cLine; omega
  gd := hg
  tk := L2.takes_of rfl rfl rfl rfl
theorem fnG_of {P : Program} {w : World} {K : PySem.W.Frag} {mg : Str → Option Value} {base : Heap} {T : List (Addr × Str)} {k : Nat} {f : Addr} {name qual : Str} {params : Arguments} {body : List Stmt} {scope : Scope} {dV kV doc pm cdv ct oc : Value} {an od : Option Addr}
    {osl : Array (Option Value)} {N ps : List Str} {sb : Sm} (lk : K.lookup f = some ⟨oc, od, .func (PySem.W.fnOf name qual params body scope dV kV doc pm an cdv ct), osl⟩) (hcd : PySem.W.codeIn K cdv qual = true) (S : FnScope N ps scope)
    (hbody : ∀ (A : Around) (outer : List PySem.Env) (s : Shared) (H : Hp) (E : XK), Room k (A.deeper (envOfC qual scope s.heap.objs.size f cdv)) → Cok (cxOf (L2.CX P w) P w K mg base N qual scope f cdv A outer s H E) E T →
      PSs (cxOf (L2.CX P w) P w K mg base N qual scope f cdv A outer s H E) body (RdS E T K sb)) :
    FnG P w K mg base T (k + 1) f (PySem.W.fnOf name qual params body scope dV kV doc pm an cdv ct) ps (runF ps.length N.length sb) := by
  refine ⟨fun A outer s H args us vs Q E hr hg e0 hb r ⟨hl, A0, ds, m, tb, dv, p⟩ => ?_⟩
  refine LamX.run_ofS (N := N) lk hcd S hr e0 hb r hl fun hr' => ?_
  refine ⟨_, hbody A outer s H E hr' (cok_of S hr' hg), A0, _, ⟨m, start_env dv ?_, tb⟩, ?_⟩
  · have := congrArg List.length S.pre
    rw [List.length_take] at this
    omega
  · unfold runF at p
    rw [show (ds.length == ps.length) = true from by rw [Paired.len dv, hl]; simp] at p
    simp only at p
    cases q : sb (ds.map some ++ List.replicate (N.length - ds.length) none) A0.ers with
    | stuck => rw [q] at p; exact p
    | exc x M => rw [q] at p; exact p
    | ok f M =>
      rw [q] at p
      intro A1 H1 eM e mo t1
      cases f with
      | nx env => exact fun σ _ => p A1 H1 .non eM e mo rfl
      | rt d => exact fun v dv => p A1 H1 v eM e mo dv
      | bk env => exact p.elim
      | ct env => exact p.elim
section
variable {X : Cx} {W : XK} {T : List (Addr × Str)} {e : Expr} {es : List Expr} {pos p : Pos} {ms : Evs}
theorem run_fnG {k : Nat} {f : Addr} {fd : FuncData} {ps : List Str} {F : Fn} (c : Cok X W T) (G : FnG X.prog X.w X.K X.mg X.base T k f fd ps F) (hr : Room k X.A) (hb : Binds X.K fd ps []) {pins : List (Addr × Obj)} {σ : L2.St} {H : Hp} {s : Shared} {Q : VK} {us : List Value} {vs : List V}
    (I : Inv X pins σ H s) (r : Vals vs us) (h : spF T X.K ps.length F vs H Q W) : wpAny (model X.prog X.w) X.A (call (.ref f) us) (EP X pins σ Q) X.xe s := by
  have hl : (us ++ []).length = ps.length := by rw [List.append_nil, ← r.length]; exact h.1
  have hbb := hb s us I.kIn hl
  rw [List.append_nil] at hbb
  refine wpAny_call (codeAny_mono (G.run X.A X.stack s H ⟨us, []⟩ us vs Q W hr c.gd I.env0 hbb r h) fun r s' hq => ?_)
  cases r with
  | error er => exact L2.passes_call c.tk (fun _ _ _ _ h => h) pins σ H s er s' I hq
  | ok fl =>
    cases fl with
    | ret u => exact I.after hq
    | next => exact False.elim hq
    | brk => exact False.elim hq
    | cont => exact False.elim hq
/-- a call that is handed data alone: it has a memory of its own -/
def gFn (F : Fn) : OpN := fun ds M => match ds.all still with
  | true => match F ds [] with
    | .ok d M' => match view M' d with
      | some d' => .ok d' M
      | none => .stuck
    | .exc x _ => .exc x M
    | .stuck => .stuck
  | false => .stuck
theorem DPs.of {K : PySem.W.Frag} {ρ : List Addr} {H : Hp} : ∀ {xs : List D} {vs : List V}, Paired (DP K ρ H) xs vs → DPs K ρ H xs vs
  | _, _, .nil => rfl
  | _, _, .cons r t => ⟨_, _, rfl, r, DPs.of t⟩
/-- what is seen through is data, where the cells go -/
theorem vw_dp {K : PySem.W.Frag} {A : AM} {ρ' : List Addr} {H : Hp} (m : MemOk K A H) (n : ∀ a w, a ∉ A.adrs → H a = some w → a ∉ ρ') (n2 : ∀ a ∈ A.adr, a ∉ ρ') : ∀ (k : Nat) {d e : D} {v : V}, DV K A H d v → vw k A.ers d = some e → DP K ρ' H e v := by
  intro k
  induction k with
  | zero =>
    intro d e v h q
    by_cases z : ∃ k, d = .obj k
    · obtain ⟨k, rfl⟩ := z
      obtain ⟨n', _, _, _, h0, _⟩ := vw_obj q
      cases h0
    · have n' : ∀ k, d ≠ .obj k := fun k e => z ⟨k, e⟩
      rw [vw_node n'] at q; cases q
      exact (h.dp n').keep n fun _ _ _ h _ => h
  | succ k ih =>
    intro d e v h q
    by_cases z : ∃ k, d = .obj k
    · obtain ⟨j, rfl⟩ := z
      obtain ⟨n', t, xs, ys, h0, h1, h2, rfl⟩ := vw_obj q
      cases h0
      obtain ⟨a, ha, rfl⟩ := h
      obtain ⟨t', xs', hc⟩ := AM.cell ha
      rw [A.ers_get, hc] at h1
      cases h1
      obtain ⟨u, vs, hu, i, nt, dv⟩ := m.ok j a _ _ hc
      exact ⟨a, vs, rfl, .inl ⟨u, n2 a (List.mem_of_getElem? ha), Rq.of hu, i⟩, DPs.of (viewL_at (f := vw k A.ers) (F := DV K A H) (G := DP K ρ' H) (fun d e v h q => ih h q) dv h2)⟩
    · have n' : ∀ k, d ≠ .obj k := fun k e => z ⟨k, e⟩
      rw [vw_node n'] at q; cases q
      exact (h.dp n').keep n fun _ _ _ h _ => h
theorem gFn_sp {K : PySem.W.Frag} {n : Nat} {F : Fn} (hn : ∀ ds M, F ds M ≠ .stuck → ds.length = n) {vs : List V} {H : Hp} {Q : VK} (h : RdN W T K (gFn F) vs H Q) : spF T K n F vs H Q W := by
  obtain ⟨A, ds, m, tb, dv, q⟩ := h
  unfold gFn at q
  cases hst : ds.all still with
  | false => rw [hst] at q; exact q.elim
  | true =>
    rw [hst] at q
    simp only at q
    have dp := dps_of dv hst
    have np : F ds [] ≠ .stuck := fun z => by rw [z] at q; exact q
    refine ⟨by rw [← Paired.len dv]; exact hn _ _ np, ⟨[], A.adrs⟩, ds, ⟨m.nd, fun n a t xs h => by simp at h, fun a ha => m.has ha⟩, tb, dp.dvl (A := ⟨[], A.adrs⟩), ?_⟩
    have keepA : ∀ {A' : AM} {H' : Hp}, Ext T ⟨[], A.adrs⟩ H A' H' → Ext T A H A H' ∧ MemOk K A H' := fun {A' H'} e =>
      ⟨⟨fun _ _ h => h, fun a h => .inl h, rfl, fun a w _ h nt => e.keep a w (by simp [AM.adr]) h nt, e.tabs, e.there⟩, m.keep fun a w h nt => e.keep a w (by simp [AM.adr]) h nt⟩
    show Po W T K ⟨[], A.adrs⟩ H (F ds []) Q
    cases hF : F ds [] with
    | stuck => exact absurd hF np
    | exc x M' =>
      rw [hF] at q
      intro A' H' cls dd eM ee mo xo
      obtain ⟨e1, m1⟩ := keepA ee
      refine q A H' cls dd rfl e1 m1 ⟨xo.1, xo.2.1, fun d hd => ?_⟩
      obtain ⟨a, v, h1, h2, h3⟩ := xo.2.2 d hd
      exact ⟨a, v, h1, h2, h3.keep (fun a w n _ z => n (List.mem_append_right _ (by rw [ee.zz]; exact z))) (fun _ _ _ h _ => h)⟩
    | ok d M' =>
      rw [hF] at q
      intro A' H' v eM ee mo dv'
      subst eM
      obtain ⟨e1, m1⟩ := keepA ee
      cases hv : view A'.ers d with
      | none => simp only [hv] at q; exact q.elim
      | some d' =>
        simp only [hv] at q
        have nz : A'.z = A.adrs := ee.zz
        refine q A H' v rfl e1 m1 (vw_dp mo (fun a w n _ z => n (List.mem_append_right _ (by rw [nz]; exact z))) (fun a ha z => ?_) 24 dv' hv).dv
        have nd := mo.nd
        unfold AM.adrs at nd
        exact (List.nodup_append.mp nd).2.2 a ha a (by rw [nz]; exact z) rfl
theorem call_gFn {k : Nat} {f : Addr} {fd : FuncData} {ps : List Str} {F : Fn} (c : Cok X W T) (G : FnG X.prog X.w X.K X.mg X.base T k f fd ps F) (hr : Room k X.A) (hb : Binds X.K fd ps []) (hn : ∀ ds M, F ds M ≠ .stuck → ds.length = ps.length) : CallR X (.ref f) (RdN W T X.K (gFn F)) :=
  fun pins s σ H vs us Q I r h => run_fnG c G hr hb I r (gFn_sp hn h)
/-- x(..), x a def of the module -/
theorem e_call {x : Str} {f : Addr} {g : OpN} (hc : CallR X (.ref f) (RdN W T X.K g)) (hg : Gl X x) (hm : X.mg x = some (.ref f)) (hk : PySem.W.keepIn X.K (.ref f) = true) (ha : PA X (e :: es) (RdA W T X.K ms)) (hdb : (x == ("__debug__" : Str)) = false := by decide)
    (he : starEach (e :: es) X.env = (false, eval e X.env) :: starEach es X.env := by rfl) (hpl : (backTo pos (starEach es X.env)).any (·.1) = false := by rfl) : PE X (.Call (.Name x p) (e :: es) [] pos) (RdE W T X.K (mCall g ms)) := by
  have h : PE X (.Call (.Name x p) (e :: es) [] pos) (tCB (RdN W T X.K g) (RdA W T X.K ms)) := ⟨fun pins s σ H Q I h => by
    refine wpAny_Call_Name_kw (ld_glob I hg hm ?_ hdb)
    refine PySem.W.callWith_K (h₀ := X.base) I.ok.mod.kin hk (thn (ha.run pos pins s σ H _ I h) fun us s1 ⟨vs, H1, I1, r1, q1⟩ => ⟨I1.kIn, ?_⟩) he hpl
    exact hc pins s1 σ H1 vs us Q I1 r1 q1⟩
  exact h.imp fun _ _ _ h => calls_bind h
/-- x() -/
theorem e_call0 {x : Str} {f : Addr} {g : OpN} (hc : CallR X (.ref f) (RdN W T X.K g)) (hg : Gl X x) (hm : X.mg x = some (.ref f)) (hk : PySem.W.keepIn X.K (.ref f) = true) (hdb : (x == ("__debug__" : Str)) = false := by decide) : PE X (.Call (.Name x p) [] [] pos) (RdE W T X.K (mCall g mNil)) := by
  have h : PE X (.Call (.Name x p) [] [] pos) (fun _ H Q => RdN W T X.K g [] H Q) := ⟨fun pins s σ H Q I h => by
    refine wpAny_Call_Name_kw (ld_glob I hg hm ?_ hdb)
    exact PySem.W.callWith_K0 I.kIn hk (hc pins s σ H [] [] Q I .nil h)⟩
  exact h.imp fun σ H Q ⟨A, env, a, p⟩ => ⟨A, [], a.mem, a.tabs, .nil, p⟩
theorem Cok.blk {s : Shared} {H : Hp} {scope : Scope} {env : PySem.Env} {fp : List Addr} (c : Cok X W T) : Cok (X.blk s H scope env fp) W0 T := ⟨c.calm, c.nd, c.un, c.gd, LamX.takes0⟩
theorem call_def {k np n : Nat} {f : Addr} {fd : FuncData} {ps : List Str} {sb : Sm} (c : Cok X W T) (G : FnG X.prog X.w X.K X.mg X.base T k f fd ps (runF np n sb)) (hr : Room k X.A) (hb : Binds X.K fd ps []) (hn : np = ps.length := by rfl) : CallR X (.ref f) (RdN W T X.K (gFn (runF np n sb))) :=
  call_gFn c G hr hb (by subst hn; exact runF_len)
end
/-- a def of the text -/
theorem _root_.L2.Fun.okG {P : Program} {w : World} {K : PySem.W.Frag} {mg : Str → Option Value} {base : Heap} {T : List (Addr × Str)} {x qual : Str} {st : Stmt} {f : Addr} {fd : FuncData} {N ps : List Str} {k : Nat} {sb : Sm} (F : L2.Fun K x qual st f fd) (S : FnScope N ps (defScope st))
    (hbody : ∀ (cdv : Value) (A : Around) (outer : List PySem.Env) (s : Shared) (H : Hp) (E : XK), Room k (A.deeper (envOfC qual (defScope st) s.heap.objs.size f cdv)) → Cok (cxOf (L2.CX P w) P w K mg base N qual (defScope st) f cdv A outer s H E) E T →
      PSs (cxOf (L2.CX P w) P w K mg base N qual (defScope st) f cdv A outer s H E) (defBody st) (RdS E T K sb)) : FnG P w K mg base T (k + 1) f fd ps (runF ps.length N.length sb) := by
  obtain ⟨oc, od, kV, doc, pm, an, cdv, ct, osl, rfl, lk, hcd⟩ := F.ex
  exact fnG_of lk hcd S fun A outer s H E hr c => hbody cdv A outer s H E hr c
end TB

set_option Elab.async false
set_option linter.all false
set_option maxRecDepth 100000
set_option maxHeartbeats 4000000
namespace TB
open PySem PySem.Spec PyProof.Rows L2
/-! ### isinstance -/
def kindT (M : Mem) (d : D) : Option Ty := match d with
  | .non => some .non
  | .bl _ => some .bl
  | .int _ => some .int
  | .str _ => some .str
  | _ => match look M d with
    | some (.tup, _) => some .tup
    | some (.ktp, _) => some .tup
    | some (.lst, _) => some .lst
    | some (.dK _, _) => some .dct
    | _ => none
/-- a is b, or below it -/
def isaT (a b : Ty) : Option Bool := match b with
  | .bl => some (decide (a = .bl))
  | .int => some (decide (a = .int) || decide (a = .bl))
  | .str => some (decide (a = .str))
  | .tup => some (decide (a = .tup))
  | .lst => some (decide (a = .lst))
  | .dct => some (decide (a = .dct))
  | _ => none
theorem isaT_kit : ∀ (a b : Ty) (r : Bool), (a = .non ∨ a = .bl ∨ a = .int ∨ a = .str ∨ a = .tup ∨ a = .lst ∨ a = .dct) → isaT a b = some r → kitB a.name b.name = some r := by
  intro a b r h q
  rcases h with rfl | rfl | rfl | rfl | rfl | rfl | rfl <;> cases b <;> first
    | (cases q; done)
    | (cases q; decide +kernel)
/-- an own class, as isinstance asks it -/
structure InsK (K : PySem.W.Frag) (C : Addr) : Prop where
  c : C8.InsC K C
  no : ∀ t : Ty, t = .bl ∨ t = .int ∨ t = .str ∨ t = .tup ∨ t = .lst ∨ t = .dct → PySem.W.kitOne K (.ref C) (.type t.name) = some false
  nb : ∀ t : Ty, t = .non ∨ t = .bl ∨ t = .int ∨ t = .str ∨ t = .tup ∨ t = .lst ∨ t = .dct → PySem.W.kitOne K (.type t.name) (.ref C) = some false
section
variable {X : Cx} {W : XK} {T : List (Addr × Str)}
theorem kind_at {K : PySem.W.Frag} {A : AM} {H : Hp} (m : MemOk K A H) {d : D} {v : V} (h : DV K A H d v) {t : Ty} (e : kindT A.ers d = some t) : TyX K H v (.type t.name) ∧ (t = .non ∨ t = .bl ∨ t = .int ∨ t = .str ∨ t = .tup ∨ t = .lst ∨ t = .dct) := by
  unfold kindT at e
  split at e
  · cases e; cases (show v = _ from h); exact ⟨.base .non, by simp⟩
  · cases e; cases (show v = _ from h); exact ⟨.base (.bl _), by simp⟩
  · cases e; cases (show v = _ from h); exact ⟨.base (.int _), by simp⟩
  · cases e; cases (show v = _ from h); exact ⟨.base (.str _), by simp⟩
  · split at e
    · rename_i hl
      cases e
      obtain ⟨a, vs, rfl, ra, _⟩ := look_at m h hl
      exact ⟨.base (.tup ra.tupH), by simp⟩
    · rename_i hl
      cases e
      obtain ⟨a, vs, rfl, ra, _⟩ := look_at m h hl
      rcases ra with ⟨u, r, i⟩ | ⟨_, o, h1, h2, _⟩
      · cases u <;> first | exact i.elim | skip
        obtain ⟨rfl, _⟩ := i
        exact ⟨.fTuple r, by simp⟩
      · exact ⟨.kTuple h1 h2, by simp⟩
    · rename_i hl
      cases e
      obtain ⟨a, vs, rfl, ra, _⟩ := look_at m h hl
      exact ⟨.base (.lst ra.lstH), by simp⟩
    · rename_i hl
      cases e
      obtain ⟨a, vs, rfl, ra, _⟩ := look_at m h hl
      rcases ra.dK.1 with r | ⟨o, r⟩
      · exact ⟨.base (.dK r), by simp⟩
      · exact ⟨.fDict r, by simp⟩
    · cases e
/-- isinstance(x, T); Cl: the own classes that are known -/
def gIsi (Cl : List Addr) : OpN := fun ds M => match ds with
  | [d, .ty t] => match kindT M d with
    | some k => match isaT k t with
      | some r => .ok (.bl r) M
      | none => .stuck
    | none => match look M d with
      | some (.ins C _, _) => match Cl.contains C && (t == .bl || t == .int || t == .str || t == .tup || t == .lst || t == .dct) with
        | true => .ok (.bl false) M
        | false => .stuck
      | _ => .stuck
  | [d, .cls C] => match Cl.contains C with
    | true => match kindT M d with
      | some _ => .ok (.bl false) M
      | none => match look M d with
        | some (.ins C' _, _) => match C == C' with
          | true => .ok (.bl true) M
          | false => .stuck
        | _ => .stuck
    | false => .stuck
  | _ => .stuck
theorem call_gIsi {Cl : List Addr} (hC : ∀ C ∈ Cl, InsK X.K C) : CallR X (.builtin "isinstance") (RdN W T X.K (gIsi Cl)) := by
  rintro pins s σ H vs us Q I r ⟨A, ds, m, _, dv, p⟩
  unfold gIsi at p
  split at p
  · rename_i d t
    obtain ⟨v, w, rfl, dx, dy⟩ := dvl2 dv
    cases (show w = V.ty t.name from dy)
    split at p
    · rename_i k hk
      obtain ⟨tx, hm⟩ := kind_at m dx hk
      split at p
      · rename_i b hb
        exact call_isi pins s σ H _ us Q I r ⟨v, .ty t.name, _, .type t.name, b, rfl, .ty _, tx, kit_ty (isaT_kit k t b hm hb), p.fin m rfl⟩
      · exact p.elim
    · split at p
      · rename_i C ns xs hl
        split at p
        · rename_i hc
          rw [Bool.and_eq_true] at hc
          obtain ⟨a, ws, rfl, ra, _⟩ := look_at m dx hl
          obtain ⟨dx', hi, _⟩ := ra.ins
          have ik := hC C (by simpa using hc.1)
          have ht : t = .bl ∨ t = .int ∨ t = .str ∨ t = .tup ∨ t = .lst ∨ t = .dct := by
            have := hc.2
            cases t <;> simp at this <;> simp
          exact call_isi pins s σ H _ us Q I r ⟨_, .ty t.name, _, .type t.name, false, rfl, .ty _, .base (.ins hi ik.c.cl ik.c.ha ik.c.hn ik.c.htk ik.c.hm), ik.no t ht, p.fin m rfl⟩
        · exact p.elim
      · exact p.elim
  · rename_i d C
    obtain ⟨v, w, rfl, dx, dy⟩ := dvl2 dv
    cases (show w = V.ref C from dy)
    split at p
    · rename_i hc
      have ik := hC C (by simpa using hc)
      split at p
      · rename_i k hk
        obtain ⟨tx, hm⟩ := kind_at m dx hk
        exact call_isi pins s σ H _ us Q I r ⟨v, .ref C, _, .ref C, false, rfl, .own C, tx, ik.nb k hm, p.fin m rfl⟩
      · split at p
        · rename_i C' ns xs hl
          split at p
          · rename_i he
            obtain rfl : C = C' := by simpa using he
            obtain ⟨a, ws, rfl, ra, _⟩ := look_at m dx hl
            obtain ⟨dx', hi, _⟩ := ra.ins
            exact call_isi pins s σ H _ us Q I r ⟨_, .ref C, _, .ref C, true, rfl, .own C, .base (.ins hi ik.c.cl ik.c.ha ik.c.hn ik.c.htk ik.c.hm), ik.c.me, p.fin m rfl⟩
          · exact p.elim
        · exact p.elim
    · exact p.elim
  · exact p.elim
end
end TB

set_option Elab.async false
set_option linter.all false
set_option maxRecDepth 100000
set_option maxHeartbeats 4000000
namespace TB
open PySem PySem.Spec PyProof.Rows L2
/-- a def that is known -/
structure Df (P : Program) (w : World) (K : PySem.W.Frag) (mg : Str → Option Value) (base : Heap) (T : List (Addr × Str)) (x : Str) (k : Nat) (f : Addr) (ps : List Str) (F : Fn) : Prop where
  ex : ∃ fd, FnG P w K mg base T k f fd ps F ∧ Binds K fd ps []
  g : mg x = some (.ref f)
  kp : PySem.W.keepIn K (.ref f) = true
  len : ∀ ds M, F ds M ≠ .stuck → ds.length = ps.length
section
variable {X : Cx} {W : XK} {T : List (Addr × Str)} {e : Expr} {es : List Expr} {pos p : Pos} {ms : Evs} {x : Str} {k j : Nat} {f : Addr} {ps : List Str} {F : Fn} {ma : Ev}
theorem Df.call (d : Df X.prog X.w X.K X.mg X.base T x k f ps F) (c : Cok X W T) (hr : Room j X.A) (hk : k ≤ j) : CallR X (.ref f) (RdN W T X.K (gFn F)) :=
  let ⟨_, G, hb⟩ := d.ex
  call_gFn c (G.mono hk) hr hb d.len
theorem e_def (d : Df X.prog X.w X.K X.mg X.base T x k f ps F) (c : Cok X W T) (hr : Room j X.A) (hk : k ≤ j) (hg : Gl X x) (ha : PA X (e :: es) (RdA W T X.K ms)) (hdb : (x == ("__debug__" : Str)) = false := by decide)
    (he : starEach (e :: es) X.env = (false, eval e X.env) :: starEach es X.env := by rfl) (hpl : (backTo pos (starEach es X.env)).any (·.1) = false := by rfl) : PE X (.Call (.Name x p) (e :: es) [] pos) (RdE W T X.K (mCall (gFn F) ms)) :=
  e_call (d.call c hr hk) hg d.g d.kp ha hdb he hpl
theorem e_def0 (d : Df X.prog X.w X.K X.mg X.base T x k f ps F) (c : Cok X W T) (hr : Room j X.A) (hk : k ≤ j) (hg : Gl X x) (hdb : (x == ("__debug__" : Str)) = false := by decide) : PE X (.Call (.Name x p) [] [] pos) (RdE W T X.K (mCall (gFn F) mNil)) :=
  e_call0 (d.call c hr hk) hg d.g d.kp hdb
theorem ts_nil : PTs X [] (RdT W T X.K (mC (.bl true))) := ⟨fun pins s σ H Q I ⟨A, env, a, p⟩ => by
  obtain ⟨k, e, q⟩ := p.fin a.mem (v := .bl true) rfl
  cases e
  exact pts_nil.run pins s σ H Q I q⟩
theorem ts_one {e : Expr} (h : PT X e (RdT W T X.K ma)) : PTs X [e] (RdT W T X.K ma) := pts_one h
theorem e_cint {i : Int} (h : ∃ t, X.mg x = some (.int i t)) (hg : Gl X x) (hd : (x == ("__debug__" : Str)) = false := by decide) : PE X (.Name x pos) (RdE W T X.K (mC (.int i))) :=
  let ⟨t, h⟩ := h
  e_con (v := .int i) (pe_glob hg h ⟨t, rfl⟩ hd) fun _ _ => rfl
theorem e_cstr {z : Str} (h : ∃ t, X.mg x = some (.str z t)) (hg : Gl X x) (hd : (x == ("__debug__" : Str)) = false := by decide) : PE X (.Name x pos) (RdE W T X.K (mC (.str z))) :=
  let ⟨t, h⟩ := h
  e_con (v := .str z) (pe_glob hg h ⟨t, rfl⟩ hd) fun _ _ => rfl
theorem e_ctup {d : D} (h : ∃ b, X.mg x = some (.ref b) ∧ ∀ ρ H, DP X.K ρ H d (.ref b)) (hg : Gl X x) (hd : (x == ("__debug__" : Str)) = false := by decide) : PE X (.Name x pos) (RdE W T X.K (mC d)) :=
  let ⟨b, h, hd'⟩ := h
  e_con (v := .ref b) (pe_glob hg h rfl hd) hd'
end
abbrev veBm : List Value := [.type "ValueError", .type "Exception", .type "BaseException", .type "object"]
/-- an error of the program -/
structure ErrK (K : PySem.W.Frag) (mg : Str → Option Value) (x : Str) (C : Addr) : Prop where
  g : mg x = some (.ref C)
  k : PySem.W.keepIn K (.ref C) = true
  x : PySem.W.excIn K C veBm "ValueError.__new__" = true
  sub : PySem.W.subIn K (.ref C) (.type "BaseException") = some true
  ty : PySem.W.typeIn K (.ref C) = some (.type "type")
theorem ErrK.mk_ {X : Cx} {x m : Str} {C : Addr} {j : Nat} {p p2 pos : Pos} (E : ErrK X.K X.mg x C) (hg : Gl X x) (hdb : (x == ("__debug__" : Str)) = false := by decide) : L2.PMk X (.Call (.Name x p) [.Constant (.str m) j p2] [] pos) (fun _ H Q => Q (.ref C) none H) :=
  L2.pmk_own F.excBase_ValueError E.x E.g E.k (L2.raises_own E.sub E.ty) hg hdb
end TB

set_option Elab.async false
set_option linter.all false
set_option maxRecDepth 100000
set_option maxHeartbeats 4000000
namespace TB
open PySem PySem.Spec PyProof.Rows L2
section
variable {X : Cx} {W : XK} {T : List (Addr × Str)}
/-! ### list(..), tuple(..), int(..), repr(..) -/
/-- the keys of a dict, walked or not, as a new list -/
theorem keys_list (hc : X.calm = true) {pins : List (Addr × Obj)} {σ : L2.St} {H : Hp} {s : Shared} {d : Addr} {ent : List (Key × V)} {Q : VK} (I : Inv X pins σ H s) (rd : Rd H d (.dK ent)) (q : ∀ n, H n = none → Q (.ref n) (upd H n (.lst (ent.map fun kx => kV kx.1)))) :
    wpAny (model X.prog X.w) X.A (call (.type "list") [.ref d]) (EP X pins σ Q) X.xe s := by
  obtain ⟨small, nsys, vals, kv, dof⟩ := dk_rd I.hok rd
  obtain ⟨epoch, dat⟩ := dof.dictAt
  have same : ent.length = vals.length := kv.length
  refine PySem.W.kdl_call (PySem.W.kdl_dict (knd := mixKind X.prog X.w) (kvs := vals) (ep := epoch) nsys) (I.ok.hd hc) dat (by rw [← same]; exact small) fun hh tt out cap kept there made => ?_
  have new : ObjOk X.prog X.w (upd H s.heap.objs.size (.lst (ent.map fun kx => kV kx.1))) hh s.heap.objs.size (.lst (ent.map fun kx => kV kx.1)) := by
    refine ⟨by rw [List.length_map]; exact small, out.toList, cap, ?_, by rw [Array.toArray_toList]; exact there⟩
    have ol : out.toList.length = out.size := by simp
    refine vals_of_at (by rw [List.length_map, ol, made.1, same]) fun i v u hv hu => ?_
    obtain ⟨key, val, at1, is1⟩ := made.2 i u (by rw [← Array.getElem?_toList]; exact hu)
    have kk : (ent.map (·.1))[i]? = some key := by rw [kv.keys, List.getElem?_map, at1]; rfl
    rw [List.getElem?_map] at hv kk
    cases ei : ent[i]? with
    | none => rw [ei] at kk; cases kk
    | some p =>
      rw [ei] at hv kk
      cases hv
      have kk : p.1 = key := Option.some.inj kk
      show RelV (kV p.1) u
      rw [kk]
      exact keyIs_rel is1
  exact ⟨.ref s.heap.objs.size, _, I.laid kept (Nat.le_refl _) new, rfl, q _ (I.hok.fresh (Nat.le_refl _))⟩
theorem keyD_vals {K : PySem.W.Frag} {ρ : List Addr} {H : Hp} : ∀ {ks : List Key} {vs : List V}, ks.length = vs.length → DPs K ρ H (ks.map keyD) ((ks.zip vs).map fun kx => kV kx.1)
  | [], [], _ => rfl
  | [], _ :: _, h => by cases h
  | _ :: _, [], h => by cases h
  | k :: ks, v :: vs, h => ⟨kV k, _, rfl, by cases k <;> rfl, keyD_vals (by simpa using h)⟩
def gList : OpN := fun ds M => match ds with
  | [d] => match look M d with
    | some (.lst, xs) => match xs.all still with
      | true => .ok (.node .lst xs) M
      | false => .stuck
    | some (.tup, xs) => match xs.all still with
      | true => .ok (.node .lst xs) M
      | false => .stuck
    | some (.ktp, xs) => match xs.all still with
      | true => .ok (.node .lst xs) M
      | false => .stuck
    | some (.dK ks, _) => .ok (.node .lst (ks.map keyD)) M
    | _ => .stuck
  | _ => .stuck
theorem call_gList (c : Cok X W T) : CallR X (.type "list") (RdN W T X.K gList) := by
  rintro pins s σ H vs us Q I r ⟨A, ds, m, _, dv, p⟩
  unfold gList at p
  split at p
  · rename_i d
    obtain ⟨v, rfl, dx⟩ := dvl1 dv
    have sq : ∀ (xs : List D) (a : Addr) (ws : List V), DVl X.K A H xs ws → v = .ref a → xs.all still = true → Po W T X.K A H (.ok (.node .lst xs) A.ers) Q → (SqL X.K H a ws ∨ SqT X.K H a ws) →
        wpAny (model X.prog X.w) X.A (call (.type "list") us) (EP X pins σ Q) X.xe s := fun xs a ws ds ev hs p hq =>
      call_list_of pins s σ H _ us Q I r ⟨a, ws, by rw [ev], hq, fun l hl => p.node m hl rfl (dps_of ds hs)⟩
    split at p
    · rename_i xs hl
      obtain ⟨a, ws, ev, ra, ds⟩ := look_at m dx hl
      split at p
      · rename_i hs; exact sq xs a ws ds ev hs p (.inl ra.lst)
      · exact p.elim
    · rename_i xs hl
      obtain ⟨a, ws, ev, ra, ds⟩ := look_at m dx hl
      split at p
      · rename_i hs; exact sq xs a ws ds ev hs p (.inr ra.tup)
      · exact p.elim
    · rename_i xs hl
      obtain ⟨a, ws, ev, ra, ds⟩ := look_at m dx hl
      split at p
      · rename_i hs; exact sq xs a ws ds ev hs p (.inr ra.ktp)
      · exact p.elim
    · rename_i ks xs hl
      obtain ⟨a, ws, rfl, ra, ds⟩ := look_at m dx hl
      obtain ⟨rd, hk⟩ := ra.dK
      have e := Vals.ref1 r
      subst e
      exact keys_list c.calm I rd fun n hn => p.node m hn rfl (keyD_vals hk)
    · exact p.elim
  · exact p.elim
def gTuple : OpN := fun ds M => match ds with
  | [.node .tup xs] => .ok (.node .tup xs) M
  | [d] => match look M d with
    | some (.lst, xs) => match xs.all still with
      | true => .ok (.node .tup xs) M
      | false => .stuck
    | _ => .stuck
  | _ => .stuck
theorem call_gTuple (c : Cok X W T) : CallR X (.type "tuple") (RdN W T X.K gTuple) := by
  rintro pins s σ H vs us Q I r ⟨A, ds, m, _, dv, p⟩
  unfold gTuple at p
  split at p
  · rename_i xs
    obtain ⟨v, rfl, dx⟩ := dvl1 dv
    obtain ⟨a, ws, rfl, ra, _⟩ := dx.node_at
    exact call_tuple_of pins s σ H _ us Q I r ⟨a, ws, rfl, .inr ⟨ra.tup, p.fin m dx⟩⟩
  · rename_i d _
    obtain ⟨v, rfl, dx⟩ := dvl1 dv
    split at p
    · rename_i xs hl
      split at p
      · rename_i hs
        obtain ⟨a, ws, rfl, ra, es⟩ := look_at m dx hl
        exact call_tuple_of pins s σ H _ us Q I r ⟨a, ws, rfl, .inl ⟨ra.lst, fun l hl => p.node m hl rfl (dps_of es hs)⟩⟩
      · exact p.elim
    · exact p.elim
  · exact p.elim
def gInt : OpN := fun ds M => match ds with
  | [.int i] => .ok (.int i) M
  | [.bl b] => .ok (.int (if b then 1 else 0)) M
  | _ => .stuck
theorem call_gInt : CallR X (.type "int") (RdN W T X.K gInt) := by
  rintro pins s σ H vs us Q I r ⟨A, ds, m, _, dv, p⟩
  unfold gInt at p
  split at p
  · rename_i i
    obtain ⟨v, rfl, dx⟩ := dvl1 dv
    cases (show v = V.int i from dx)
    exact call_int1 pins s σ H _ us Q I r (.inl ⟨i, rfl, p.fin m rfl⟩)
  · rename_i b
    obtain ⟨v, rfl, dx⟩ := dvl1 dv
    cases (show v = V.bl b from dx)
    exact call_int1 pins s σ H _ us Q I r (.inr ⟨b, rfl, p.fin m rfl⟩)
  · exact p.elim
/-- repr of a container of data -/
def gRepr : OpN := fun ds M => match ds with
  | [d] => match view M d with
    | some (.node t xs) => match datB (.node t xs) && ((pyD (.node t xs)).showable && (szB (pyD (.node t xs)).shown.length && Nat.ble (pyD (.node t xs)).depth 60)) with
      | true => .ok (.str (pyD (.node t xs)).shown) M
      | false => .stuck
    | _ => .stuck
  | _ => .stuck
theorem call_gRepr (c : Cok X W T) (sm : ∃ o es ep, X.base.get? sysModules = some o ∧ o.data = .dict es ep) : CallR X (.builtin "repr") (RdN W T X.K gRepr) := by
  rintro pins s σ H vs us Q I r ⟨A, ds, m, _, dv, p⟩
  unfold gRepr at p
  split at p
  · rename_i d
    obtain ⟨v, rfl, dx⟩ := dvl1 dv
    split at p
    · rename_i t xs hv
      split at p
      · rename_i hb
        simp only [Bool.and_eq_true] at hb
        obtain ⟨h1, h2, h3, h4⟩ := hb
        have rp := view_at m dx hv
        obtain ⟨a, ws, rfl, _⟩ := id rp
        have e := Vals.ref1 r
        subst e
        obtain ⟨as, rd, ns⟩ := rp_reads sm I _ _ (.ref a) rp rfl h1
        refine repr_of_reads' rd h2 (fun _ => ns) c.gd (by have := c.un; have := Nat.le_of_ble_eq_true h4; omega) (fun _ _ e => e) (fun h' u tk hk => ?_) (szB_le h3)
        exact ⟨.str _, H, I.kept hk, ⟨u, rfl⟩, p.fin m rfl⟩
      · exact p.elim
    · exact p.elim
  · exact p.elim
end
end TB

set_option Elab.async false
set_option linter.all false
set_option maxRecDepth 100000
set_option maxHeartbeats 4000000
namespace TB
open PySem PySem.Spec PyProof.Rows L2
/-! ### sorted(..) -/
def alikeB (ds : List PyData) : Bool := ds.all fun a => ds.all fun b => PySem.W.alike a b
def tupB : PyData → Bool
  | .tuple (_ :: _) => true
  | _ => false
def othB : PyData → Bool
  | .none => false
  | .tuple _ => false
  | _ => true
def gSorted : OpN := fun ds M => match ds with
  | [d] => match look M d with
    | some (.lst, xs) => match xs.all flB && (alikeB (xs.map pyD) && ((xs.map pyD).all tupB || (xs.map pyD).all othB)) && (szB xs.length && (xs.map pyD).all fun p => Nat.ble p.depth 60) with
      | true => .ok (.node .lst (xs.mergeSort (PySem.W.dataLe false pyD))) M
      | false => .stuck
    | _ => .stuck
  | _ => .stuck
section
variable {X : Cx} {W : XK} {T : List (Addr × Str)}
theorem alikeB_of {ds : List PyData} (h : alikeB ds = true) : PySem.W.AllAlike ds := fun d hd e he => by
  unfold alikeB at h
  exact List.all_eq_true.mp (List.all_eq_true.mp h d hd) e he
theorem sortable_of {ds : List PyData} (h : (ds.all tupB || ds.all othB) = true) : PySem.W.Sortable ds := by
  rw [Bool.or_eq_true] at h
  rcases h with h | h
  · refine .inl fun d hd => ?_
    have := List.all_eq_true.mp h d hd
    cases d <;> first | (cases this; done) | skip
    rename_i xs
    cases xs with
    | nil => cases this
    | cons x r => exact ⟨x, r, rfl⟩
  · refine .inr fun d hd => ?_
    have := List.all_eq_true.mp h d hd
    refine ⟨?_, ?_⟩
    · rintro rfl; cases this
    · rintro xs rfl; cases this
theorem flB_still {d : D} (h : flB d = true) : still d = true := by cases d <;> first | rfl | cases h
theorem each_of {pins : List (Addr × Obj)} {σ : L2.St} {H : Hp} {s : Shared} {ρ : List Addr} (I : Inv X pins σ H s) : ∀ {xs : List D} {vs : List V} {us : List Value}, DPs X.K ρ H xs vs → Vals vs us → xs.all flB = true →
    PySem.W.EachIs (fun u d => ∃ v, RelV v u ∧ DP X.K ρ H d v) us xs ∧ PySem.W.EachIs (fun u d => ∃ as, Reads s.heap u (pyD d) as) us xs
  | [], _, _, h, r, _ => by cases (show _ = [] from h); cases r; exact ⟨.nil, .nil⟩
  | d :: ds, _, _, h, r, k => by
    obtain ⟨v, vr, rfl, d1, ds1⟩ := h
    rw [List.all_cons, Bool.and_eq_true] at k
    cases r with
    | cons r1 r2 =>
      obtain ⟨e1, e2⟩ := each_of I ds1 r2 k.2
      exact ⟨.cons ⟨v, r1, d1⟩ e1, .cons (flB_reads I d1.rp r1 k.1) e2⟩
theorem of_each {K : PySem.W.Frag} {ρ : List Addr} {H : Hp} : ∀ {xs : List D} {us : List Value}, PySem.W.EachIs (fun u d => ∃ v, RelV v u ∧ DP K ρ H d v) us xs → ∃ vs, Vals vs us ∧ DPs K ρ H xs vs
  | [], _, .nil => ⟨[], .nil, rfl⟩
  | d :: ds, _, .cons ⟨v, r, q⟩ t =>
    let ⟨vs, h1, h2⟩ := of_each t
    ⟨v :: vs, .cons r h1, v, vs, rfl, q, h2⟩
theorem call_gSorted (c : Cok X W T) : CallR X (.builtin "sorted") (RdN W T X.K gSorted) := by
  rintro pins s σ H vs us Q I r ⟨A, ds, m, _, dv, p⟩
  unfold gSorted at p
  split at p
  · rename_i d
    obtain ⟨v, rfl, dx⟩ := dvl1 dv
    split at p
    · rename_i xs hl
      split at p
      · rename_i hb
        simp only [Bool.and_eq_true] at hb
        obtain ⟨⟨h1, h2, h3⟩, h4, h5⟩ := hb
        obtain ⟨a, ws, rfl, ra, es⟩ := look_at m dx hl
        have e := Vals.ref1 r
        subst e
        have dp := dps_of es (List.all_eq_true.mpr fun x hx => flB_still (List.all_eq_true.mp h1 x hx))
        obtain ⟨its, rv, pl, _⟩ := I.list ra.lst
        obtain ⟨e1, e2⟩ := each_of I dp rv h1
        refine PySem.W.sorted_data pl.isList e1 e2 (alikeB_of h2) (sortable_of h3) (szB_le h4) (fun b hb => ?_) fun out hlen hout => ?_
        · have := Nat.le_of_ble_eq_true (List.all_eq_true.mp h5 (pyD b) (List.mem_map.mpr ⟨b, hb, rfl⟩))
          have := c.un
          omega
        · obtain ⟨zs, rz, dz⟩ := of_each hout
          obtain ⟨ep, he⟩ := PyProof.Rows.sortedAll_at s.heap its (List.toArray out)
          have hz : zs.length ≤ sizeLine := by rw [rz.length, hlen]; exact szB_le h4
          have fr : H (s.heap.objs.size + 1) = none := I.hok.fresh (Nat.le_succ _)
          have new : ObjOk X.prog X.w (upd H (s.heap.objs.size + 1) (.lst zs)) (PyProof.Rows.sortedAll s.heap its (List.toArray out)) (s.heap.objs.size + 1) (.lst zs) := ⟨hz, out, ep, rz, he⟩
          exact ⟨.ref _, _, I.laid (t' := s.toks) (fun _ _ => PyProof.Rows.sortedAll_old) (Nat.le_succ _) new, rfl, p.node m fr rfl dz⟩
      · exact p.elim
    · exact p.elim
  · exact p.elim
end
end TB

set_option Elab.async false
set_option linter.all false
set_option maxRecDepth 100000
set_option maxHeartbeats 4000000
namespace TB
open PySem PySem.Spec PyProof.Rows L2
/-! ### fields, methods, properties of an own class -/
section
variable {X : Cx} {W : XK} {T : List (Addr × Str)} {o e : Expr} {es : List Expr} {pos apos : Pos} {mo : Ev} {ms : Evs} {C : Addr} {f m : Str}
/-- d.f of an instance of C -/
def gFld (C : Addr) (f : Str) (d : D) (M : Mem) : R D := match look M d with
  | some (.ins C' ns, xs) => match C == C' with
    | true => match dget seq ns xs f with
      | some x => .ok x M
      | none => .stuck
    | false => .stuck
  | _ => .stuck
def mFld (C : Addr) (f : Str) (m : Ev) : Ev := fun env M => (m env M).bind (gFld C f)
theorem look_dvl {K : PySem.W.Frag} {A : AM} {H : Hp} {ns : List Str} : ∀ {xs : List D} {vs : List V} {x : D}, DVl K A H xs vs → dget seq ns xs f = some x → ∃ v, (ns.zip vs).lookup f = some v ∧ DV K A H x v := by
  induction ns with
  | nil => intro xs vs x _ q; simp [dget] at q
  | cons n ns ih =>
    intro xs vs x h q
    cases h with
    | nil => simp [dget] at q
    | cons r t =>
      unfold dget at q
      rw [seq_eq] at q
      rw [List.zip_cons_cons, List.lookup_cons]
      by_cases hk : n = f
      · subst hk
        simp only [beq_self_eq_true, if_true] at q ⊢
        cases q
        exact ⟨_, rfl, r⟩
      · have h1 : (n == f) = false := beq_false_of_ne hk
        have h2 : (f == n) = false := beq_false_of_ne (Ne.symm hk)
        rw [h1] at q
        rw [h2]
        exact ih t (by simpa using q)
theorem look_none' {ns : List Str} : ∀ {vs : List V}, ns.any (seq f) = false → (ns.zip vs).lookup f = none := by
  induction ns with
  | nil => intro vs _; rfl
  | cons n ns ih =>
    intro vs h
    cases vs with
    | nil => rfl
    | cons v vs =>
      rw [List.any_cons, Bool.or_eq_false_iff] at h
      rw [List.zip_cons_cons, List.lookup_cons]
      have h1 := h.1
      rw [seq_eq] at h1
      rw [h1]
      exact ih h.2
theorem e_fld (he : PE X o (RdE W T X.K mo)) (c : Cls X.K C) (n : NoAttr X.K C f) (hb : attributeBase o f X.env (eval o X.env) = eval o X.env) : PE X (.Attribute o f pos) (RdE W T X.K (mFld C f mo)) := (pe_fld he hb).imp fun σ H Q ⟨A, env, at0, p⟩ =>
  (Po.step at0 p).mono fun v H1 ⟨A1, d, _, a1, dv, p1⟩ => by
    unfold gFld at p1
    split at p1
    · rename_i C' ns xs hl
      split at p1
      · rename_i hc
        obtain rfl : C = C' := by simpa using hc
        split at p1
        · rename_i x hx
          obtain ⟨a, vs, rfl, ra, ds⟩ := look_at a1.mem dv hl
          obtain ⟨dx, hi, _⟩ := ra.ins
          obtain ⟨w, hw, dw⟩ := look_dvl ds hx
          exact ⟨a, C, dx, _, w, rfl, hi, c, n, hw, p1.fin a1.mem dw⟩
        · exact p1.elim
      · exact p1.elim
    · exact p1.elim
/-- an instance of C without a field m -/
def isIns (C : Addr) (m : Str) (M : Mem) (d : D) : Bool := match look M d with
  | some (.ins C' ns, _) => (C == C') && !ns.any (seq m)
  | _ => false
theorem isIns_at {K : PySem.W.Frag} {A : AM} {H : Hp} (mo : MemOk K A H) {d : D} {v : V} (h : DV K A H d v) (q : isIns C m A.ers d = true) : ∃ a dx fs, v = .ref a ∧ H a = some (.ins C dx fs) ∧ fs.lookup m = none := by
  unfold isIns at q
  split at q
  · rename_i C' ns xs hl
    rw [Bool.and_eq_true] at q
    obtain rfl : C = C' := by simpa using q.1
    obtain ⟨a, vs, rfl, ra, ds⟩ := look_at mo h hl
    obtain ⟨dx, hi, _⟩ := ra.ins
    exact ⟨a, dx, _, rfl, hi, look_none' (by simpa using q.2)⟩
  · cases q
/-- a method that is known -/
structure Dm (P : Program) (w : World) (K : PySem.W.Frag) (mg : Str → Option Value) (base : Heap) (T : List (Addr × Str)) (C : Addr) (m : Str) (k : Nat) (f : Addr) (ps : List Str) (F : Fn) : Prop where
  ex : ∃ fd, FnG P w K mg base T k f fd ps F ∧ Binds K fd ps []
  c : Cls K C
  m : Meth K C m f
  len : ∀ ds M, F ds M ≠ .stuck → ds.length = ps.length
def mMeth (C : Addr) (m : Str) (g : OpN) (mo : Ev) (ms : Evs) : Ev := fun env M => (mo env M).bind fun d M1 => match isIns C m M1 d with
  | true => (ms env M1).bind fun ds M2 => match isIns C m M2 d with
    | true => g (d :: ds) M2
    | false => .stuck
  | false => .stuck
theorem meth_bind {g : OpN} {σ : L2.St} {H : Hp} {Q : VK} (h : RdE W T X.K (mMeth C m g mo ms) σ H Q) : RdE W T X.K mo σ H fun x H1 => ∃ a dx fs, x = .ref a ∧ H1 a = some (.ins C dx fs) ∧ fs.lookup m = none ∧ RdA W T X.K ms σ H1 fun vs H2 => RdN W T X.K g (x :: vs) H2 Q := by
  obtain ⟨A, env, at0, p⟩ := h
  refine (Po.step at0 p).mono fun v H1 ⟨A1, d, _, a1, dv, p1⟩ => ?_
  split at p1
  · rename_i hf
    obtain ⟨a, dx, fs, ev, hi, hn⟩ := isIns_at a1.mem dv hf
    refine ⟨a, dx, fs, ev, hi, hn, (Po.steps a1 p1).mono fun vs H2 ⟨A2, ds, e2, a2, dvs, p2⟩ => ?_⟩
    split at p2
    · exact ⟨A2, d :: ds, a2.mem, a2.tabs, .cons (dv.ext e2) dvs, p2⟩
    · exact p2.elim
  · exact p1.elim
theorem Dm.call {k j : Nat} {fa : Addr} {ps : List Str} {F : Fn} (d : Dm X.prog X.w X.K X.mg X.base T C m k fa ps F) (c : Cok X W T) (hr : Room j X.A) (hk : k ≤ j) : CallR X (.ref fa) (RdN W T X.K (gFn F)) :=
  let ⟨_, G, hb⟩ := d.ex
  call_gFn c (G.mono hk) hr hb d.len
/-- o.m(e, ..) -/
theorem e_meth {k j : Nat} {fa : Addr} {ps : List Str} {F : Fn} {pl : Sem Bool} (d : Dm X.prog X.w X.K X.mg X.base T C m k fa ps F) (c : Cok X W T) (hr : Room j X.A) (hk : k ≤ j) (he : PE X o (RdE W T X.K mo)) (ha : PA X (e :: es) (RdA W T X.K ms))
    (hst : starEach (e :: es) X.env = (false, eval e X.env) :: starEach es X.env := by rfl) (hpl : (backTo pos (starEach es X.env)).any (·.1) = false := by rfl)
    (ht : eval (.Call (.Attribute o m apos) (e :: es) [] pos) X.env = (do
      let ov ← eval o X.env
      standAt apos.atName
      let (f, first) ← holding [ov] (getMethod ov m pl)
      callWith pos f first (backTo pos (starEach (e :: es) X.env)) (backToKw pos (keywordEach [] X.env))) := by rfl) :
    PE X (.Call (.Attribute o m apos) (e :: es) [] pos) (RdE W T X.K (mMeth C m (gFn F) mo ms)) := ⟨fun pins s σ H Q I h => by
  refine PySem.W.methodCall_KW (pl := pl) (thn (he.run pins s σ H _ I (meth_bind h)) fun ov s1 ⟨x, H1, I1, rx, a, dx, fs, ex, ea, l, q⟩ => ?_) ht
  subst ex
  cases (show ov = Value.ref a from rx)
  refine getmeth_ok I1 ea d.c d.m l ?_
  refine PySem.W.callWith_K (first := [.ref a]) (h₀ := X.base) I.ok.mod.kin d.m.kp (thn (ha.run pos pins s1 σ H1 _ I1 q) fun vs s2 ⟨ws, H2, I2, rs, q2⟩ => ⟨I2.kIn, ?_⟩) hst hpl
  exact d.call c hr hk pins s2 σ H2 (.ref a :: ws) (.ref a :: vs) Q I2 (.cons rfl rs) q2⟩
/-- o.m() -/
theorem e_meth0 {k j : Nat} {fa : Addr} {ps : List Str} {F : Fn} {pl : Sem Bool} (d : Dm X.prog X.w X.K X.mg X.base T C m k fa ps F) (c : Cok X W T) (hr : Room j X.A) (hk : k ≤ j) (he : PE X o (RdE W T X.K mo))
    (ht : eval (.Call (.Attribute o m apos) [] [] pos) X.env = (do
      let ov ← eval o X.env
      standAt apos.atName
      let (f, first) ← holding [ov] (getMethod ov m pl)
      callWith pos f first (backTo pos (starEach [] X.env)) (backToKw pos (keywordEach [] X.env))) := by rfl) :
    PE X (.Call (.Attribute o m apos) [] [] pos) (RdE W T X.K (mMeth C m (gFn F) mo mNil)) := ⟨fun pins s σ H Q I h => by
  refine PySem.W.methodCall_KW (pl := pl) (thn (he.run pins s σ H _ I (meth_bind h)) fun ov s1 ⟨x, H1, I1, rx, a, dx, fs, ex, ea, l, q⟩ => ?_) ht
  subst ex
  cases (show ov = Value.ref a from rx)
  refine getmeth_ok I1 ea d.c d.m l ?_
  obtain ⟨A, env, at0, q⟩ := q
  exact PySem.W.callWith_K0 (first := [.ref a]) I1.kIn d.m.kp (d.call c hr hk pins s1 σ H1 [.ref a] [.ref a] Q I1 (.cons rfl .nil) (q A H1 [] rfl Ext.refl at0.mem .nil))⟩
/-- a property that is known -/
structure Dp' (P : Program) (w : World) (K : PySem.W.Frag) (mg : Str → Option Value) (base : Heap) (T : List (Addr × Str)) (C : Addr) (f : Str) (k : Nat) (p g : Addr) (F : Fn) : Prop where
  ex : ∃ fd, FnG P w K mg base T k g fd ["self"] F ∧ Binds K fd ["self"] []
  c : Cls K C
  p : PropOf K C f p g
  len : ∀ ds M, F ds M ≠ .stuck → ds.length = 1
def mProp (C : Addr) (g : OpN) (mo : Ev) : Ev := fun env M => (mo env M).bind fun d M1 => match look M1 d with
  | some (.ins C' _, _) => match C == C' with
    | true => (g [d] M1).calm
    | false => .stuck
  | _ => .stuck
theorem e_prop {k j : Nat} {pa g : Addr} {F : Fn} (d : Dp' X.prog X.w X.K X.mg X.base T C f k pa g F) (c : Cok X W T) (hr : Room j X.A) (hk : k + 1 ≤ j) (he : PE X o (RdE W T X.K mo)) (hab : attributeBase o f X.env (eval o X.env) = eval o X.env) :
    PE X (.Attribute o f pos) (RdE W T X.K (mProp C (gFn F) mo)) := ⟨fun pins s σ H Q I ⟨A, env, at0, p⟩ => by
  refine attr_of hab (thn (he.run pins s σ H _ I (Po.step at0 p)) fun u s1 ⟨x, H1, I1, rx, A1, dd, _, a1, dv, p1⟩ => ?_)
  split at p1
  · rename_i C' ns xs hl
    split at p1
    · rename_i hc
      obtain rfl : C = C' := by simpa using hc
      obtain ⟨a, vs, rfl, ra, ds⟩ := look_at a1.mem dv hl
      cases (show u = Value.ref a from rx)
      obtain ⟨dx, hi, _⟩ := ra.ins
      obtain ⟨mA, O, _, _, _, _⟩ := ins_get I1.hok hi
      obtain ⟨od, J, _⟩ := O.look
      obtain ⟨rest, hrec⟩ := d.p.rec_
      obtain ⟨fd, G, hb⟩ := d.ex
      have I2 := I1.tok (s1.toks + 1)
      have hcs : (PySem.W.clsIn X.K C).isSome = true := by
        obtain ⟨cd, hc, _⟩ := PySem.W.any_some d.c.hd
        rw [hc]; rfl
      have q : RdN W0 T X.K (gFn F) [.ref a] H1 Q := by
        refine ⟨A1, [dd], a1.mem, a1.tabs, .cons dv .nil, ?_⟩
        cases hg : gFn F [dd] A1.ers with
        | stuck => rw [hg] at p1; exact p1
        | exc x M => rw [hg] at p1; exact p1.elim
        | ok z M => rw [hg] at p1; exact p1
      have sp := gFn_sp d.len q
      refine PySem.W.get_bind I1.kIn J (PySem.W.plainGet_of (d.c.get f)).1 (PySem.W.findObj_data hcs d.p.at_ d.p.get d.p.tak) (PySem.W.plainGet_of (d.c.get f)).2 (wpAny_call (PySem.W.prop_get (s := { s1 with toks := s1.toks + 1 }) I1.kIn hrec ?_))
      have hbb := hb { s1 with toks := s1.toks + 1 } [.ref a] I2.kIn rfl
      refine codeAny_mono (G.run X.A.in1 X.stack { s1 with toks := s1.toks + 1 } H1 ⟨[.ref a], []⟩ [.ref a] [.ref a] Q W0 (hr.mono hk).in1 c.gd I2.env0.in1 hbb (.cons rfl .nil) sp) fun r s' hq => ?_
      cases r with
      | error er =>
        obtain ⟨_, _, _, _, _, _, _, _, _, _, _, _, z⟩ := hq
        exact z.elim
      | ok fl =>
        cases fl with
        | ret u =>
          obtain ⟨v', H3, I3, rv, q3⟩ := I2.after hq
          show wpAny _ _ (handedOut u) _ _ _
          rw [PySem.W.handedOut_of (handed_of rv)]
          exact wpAny_pure ⟨v', H3, I3, rv, q3⟩
        | next => exact False.elim hq
        | brk => exact False.elim hq
        | cont => exact False.elim hq
    · exact p1.elim
  · exact p1.elim⟩
end
end TB

set_option Elab.async false
set_option linter.all false
set_option maxRecDepth 100000
set_option maxHeartbeats 4000000
namespace TB
open PySem PySem.Spec PyProof.Rows L2

/-! ### cells are written, cells are made -/
section
variable {K : PySem.W.Frag} {T : List (Addr × Str)} {A : AM} {H : Hp}
theorem nodup_app {α : Type} {l m : List α} (h : (l ++ m).Nodup) : l.Nodup ∧ m.Nodup ∧ ∀ a ∈ l, a ∉ m := by
  obtain ⟨h1, h2, h3⟩ := List.nodup_append.mp h
  exact ⟨h1, h2, fun a ha hb => h3 a ha a hb rfl⟩
theorem nodup_get {α : Type} : ∀ {l : List α} {i j : Nat} {a : α}, l.Nodup → l[i]? = some a → l[j]? = some a → i = j
  | [], _, _, _, _, h, _ => by simp at h
  | x :: l, 0, 0, _, _, _, _ => rfl
  | x :: l, 0, j + 1, a, nd, h1, h2 => by
    simp at h1 h2; subst h1
    exact absurd (List.mem_of_getElem? h2) (List.nodup_cons.mp nd).1
  | x :: l, i + 1, 0, a, nd, h1, h2 => by
    simp at h1 h2; subst h2
    exact absurd (List.mem_of_getElem? h1) (List.nodup_cons.mp nd).1
  | x :: l, i + 1, j + 1, a, nd, h1, h2 => by
    have := nodup_get (List.nodup_cons.mp nd).2 (by simpa using h1) (by simpa using h2)
    omega
/-- a cell is written -/
theorem put_cell {n : Nat} {a : Addr} {t t' : Tag} {xs xs' : List D} {u : HO} {vs' : List V} (m : MemOk K A H) (h1 : A.c[n]? = some (a, t, xs)) (i : IsNode u t' vs') (nt : t' ≠ .tup) (dv : DVl K A H xs' vs') :
    ∃ A' : AM, A'.ers = A.ers.set n (t', xs') ∧ Ext T A H A' (upd H a u) ∧ MemOk K A' (upd H a u) := by
  have hn : n < A.c.length := (List.getElem?_eq_some_iff.mp h1).1
  have ha := AM.adr_at h1
  have hp : a ∈ A.adrs := AM.adr_mem ha
  have eadr : (AM.mk (A.c.set n (a, t', xs')) A.z).adr = A.adr := by
    unfold AM.adr
    rw [List.map_set]
    refine List.ext_getElem? fun k => ?_
    by_cases hk : k = n
    · subst hk
      rw [List.getElem?_set_self (by simpa using hn), List.getElem?_map, h1]
      rfl
    · rw [List.getElem?_set_ne (Ne.symm hk)]
  have eA : (AM.mk (A.c.set n (a, t', xs')) A.z).adrs = A.adrs := by unfold AM.adrs; rw [eadr]
  obtain ⟨w, hw, ow⟩ := m.has hp
  have dmono : ∀ {ys : List D} {ws : List V}, DVl K A H ys ws → DVl K (AM.mk (A.c.set n (a, t', xs')) A.z) (upd H a u) ys ws := fun d => DVl.mono d (fun k b h => by rw [eadr]; exact h) fun q => by rw [eA]; exact DP.over hp q
  refine ⟨⟨A.c.set n (a, t', xs'), A.z⟩, ?_, ⟨fun k b h => by rw [eadr]; exact h, fun b h => .inl (by rw [eadr] at h; exact h), rfl, fun b x nb hx _ => by rw [upd_ne (fun e => nb (by rw [e]; exact List.mem_of_getElem? ha))]; exact hx, Tabs.over hw ow.2, fun b q => ?_⟩, ⟨by rw [eA]; exact m.nd, fun k b s ys hk => ?_, fun b hb => ?_⟩⟩
  · unfold AM.ers; rw [List.map_set]
  · by_cases z : b = a
    · subst z; rw [upd_same] at q; cases q
    · rw [upd_ne z] at q; exact q
  · have hk2 : (A.c.set n (a, t', xs'))[k]? = some (b, s, ys) := hk
    by_cases hkn : k = n
    · subst hkn
      rw [List.getElem?_set_self hn] at hk2
      cases hk2
      exact ⟨u, vs', upd_same, i, nt, dmono dv⟩
    · rw [List.getElem?_set_ne (Ne.symm hkn)] at hk2
      obtain ⟨x, ws, hx, ix, nx, dx⟩ := m.ok k b s ys hk2
      refine ⟨x, ws, ?_, ix, nx, dmono dx⟩
      rw [upd_ne]
      · exact hx
      · intro e
        rw [e] at hk2
        exact hkn (nodup_get (nodup_app m.nd).1 (AM.adr_at hk2) ha)
  · obtain ⟨x, hx, r⟩ := m.zt b hb
    refine ⟨x, ?_, r⟩
    rw [upd_ne]
    · exact hx
    · rintro rfl
      exact (nodup_app m.nd).2.2 b (List.mem_of_getElem? ha) hb
/-- a new cell -/
theorem new_cell {p : Addr} {u : HO} {t : Tag} {xs : List D} {vs : List V} (m : MemOk K A H) (h : H p = none) (i : IsNode u t vs) (nt : t ≠ .tup) (dv : DVl K A H xs vs) :
    ∃ A' : AM, A'.ers = A.ers ++ [(t, xs)] ∧ Ext T A H A' (upd H p u) ∧ MemOk K A' (upd H p u) ∧ A'.adr[A.ers.length]? = some p := by
  have np := m.out h
  have e0 := Ext.laid (T := T) (A := A) (u := u) h
  have ec : (AM.mk (A.c ++ [(p, t, xs)]) A.z).adr = A.adr ++ [p] := by unfold AM.adr; rw [List.map_append]; rfl
  have n' : ∀ a w, a ∉ A.adrs → H a = some w → a ∉ (AM.mk (A.c ++ [(p, t, xs)]) A.z).adrs := fun a w n q z => by
    unfold AM.adrs at z n
    rw [ec] at z
    rcases List.mem_append.mp z with z | z
    · rcases List.mem_append.mp z with z | z
      · exact n (List.mem_append_left _ z)
      · rw [List.mem_singleton.mp z, h] at q; cases q
    · exact n (List.mem_append_right _ z)
  have pre : ∀ (k : Nat) (b : Addr), A.adr[k]? = some b → (AM.mk (A.c ++ [(p, t, xs)]) A.z).adr[k]? = some b := fun k b hk => by
    rw [ec, List.getElem?_append_left (List.getElem?_eq_some_iff.mp hk).1]; exact hk
  have dmono : ∀ {ys : List D} {ws : List V}, DVl K A H ys ws → DVl K (AM.mk (A.c ++ [(p, t, xs)]) A.z) (upd H p u) ys ws := fun d => DVl.mono d pre fun q => q.keep n' e0.keep'
  refine ⟨⟨A.c ++ [(p, t, xs)], A.z⟩, by unfold AM.ers; rw [List.map_append]; rfl, ⟨pre, fun a ha => ?_, rfl, e0.keep, e0.tabs, e0.there⟩, ⟨?_, fun k b s ys hk => ?_, fun a ha => ?_⟩, ?_⟩
  · rw [ec] at ha
    rcases List.mem_append.mp ha with z | z
    · exact .inl z
    · rw [List.mem_singleton.mp z]; exact .inr h
  · unfold AM.adrs
    rw [ec]
    have nd := m.nd
    unfold AM.adrs at nd np
    obtain ⟨n1, n2, n3⟩ := nodup_app nd
    rw [List.nodup_append]
    refine ⟨?_, n2, fun a ha b hb e => ?_⟩
    · rw [List.nodup_append]
      exact ⟨n1, by simp, fun a ha b hb e => np (List.mem_append_left _ (by rw [List.mem_singleton.mp hb] at e; rw [← e]; exact ha))⟩
    · subst e
      rcases List.mem_append.mp ha with z | z
      · exact n3 a z hb
      · rw [List.mem_singleton.mp z] at hb
        exact np (List.mem_append_right _ hb)
  · have hk : (A.c ++ [(p, t, xs)])[k]? = some (b, s, ys) := hk
    by_cases hl : k < A.c.length
    · rw [List.getElem?_append_left hl] at hk
      obtain ⟨x, ws, hx, ix, nx, dx⟩ := m.ok k b s ys hk
      exact ⟨x, ws, by rw [upd_ne (fun z => by subst z; rw [h] at hx; cases hx)]; exact hx, ix, nx, dmono dx⟩
    · rw [List.getElem?_append_right (by omega)] at hk
      have hz : k - A.c.length = 0 := by
        have := (List.getElem?_eq_some_iff.mp hk).1
        simp at this; omega
      rw [hz] at hk
      simp at hk
      obtain ⟨rfl, rfl, rfl⟩ := hk
      exact ⟨u, vs, upd_same, i, nt, dmono dv⟩
  · obtain ⟨w, hw, r⟩ := m.zt a ha
    exact ⟨w, by rw [upd_ne (fun z => by subst z; rw [h] at hw; cases hw)]; exact hw, r⟩
  · rw [ec, A.ers_len, ← A.adr_len, List.getElem?_append_right (Nat.le_refl _), Nat.sub_self]; rfl
end
section
variable {X : Cx} {W : XK} {T : List (Addr × Str)} {a b c e : Expr} {es : List Expr} {pos apos cpos : Pos} {ma mb mc mo : Ev} {ms : Evs}
theorem Po.cell {A : AM} {H : Hp} {Q : VK} {p : Addr} {u : HO} {t : Tag} {xs : List D} {vs : List V} (h : Po W T X.K A H (.ok (.obj A.ers.length) (A.ers ++ [(t, xs)])) Q) (m : MemOk X.K A H) (n : H p = none) (i : IsNode u t vs) (nt : t ≠ .tup) (d : DVl X.K A H xs vs) : Q (.ref p) (upd H p u) := by
  obtain ⟨A', e1, e2, e3, e4⟩ := new_cell (T := T) m n i nt d
  exact h A' _ _ e1.symm e2 e3 ⟨p, e4, rfl⟩
/-- a display whose list may be changed -/
def mOwn (t : Tag) (ms : Evs) : Ev := fun env M => (ms env M).bind fun ds M1 => match szB ds.length with
  | true => .ok (.obj M1.length) (M1 ++ [(t, ds)])
  | false => .stuck
theorem e_lstO (h : PA X es (RdA W T X.K ms)) : PE X (.List es pos) (RdE W T X.K (mOwn .lst ms)) := (pe_lst h).imp fun σ H Q ⟨A, env, at0, p⟩ =>
  (Po.steps at0 p).mono fun vs H1 ⟨A1, ds, _, a1, dv, p1⟩ => by
    split at p1
    · rename_i hz
      exact ⟨by rw [← Paired.len dv]; exact szB_le hz, fun q hq => p1.cell a1.mem hq rfl (by simp) dv⟩
    · exact p1.elim
theorem e_dict0O : PE X (.Dict [] [] pos) (RdE W T X.K (mOwn (.dK []) mNil)) := pe_dnewK.imp fun σ H Q ⟨A, env, at0, p⟩ q hq => Po.cell (xs := []) (vs := []) p at0.mem hq ⟨rfl, rfl⟩ (by simp) .nil
theorem e_dict0TO : PE X (.Dict [] [] pos) (RdE W T X.K (mOwn (.dT []) mNil)) := pe_dnewT.imp fun σ H Q ⟨A, env, at0, p⟩ q hq => Po.cell (xs := []) (vs := []) p at0.mem hq ⟨rfl, rfl⟩ (by simp) .nil
end
end TB

set_option Elab.async false
set_option linter.all false
set_option maxRecDepth 100000
set_option maxHeartbeats 4000000
namespace TB
open PySem PySem.Spec PyProof.Rows L2
/-! ### methods of cells -/
section
variable {X : Cx} {W : XK} {T : List (Addr × Str)} {a b c e o f : Expr} {es : List Expr} {pos apos cpos : Pos} {ma mb mc mo : Ev} {ms : Evs}
abbrev CmG := List D → Mem → Tag → List D → Option (Tag × List D × D)
/-- the receiver a cell of a right tag; what becomes of it, what is answered -/
def mCm (ok : Tag → Bool) (mo : Ev) (ms : Evs) (g : CmG) : Ev := fun env M => (mo env M).bind fun d M1 => match d with
  | .obj n => match M1[n]? with
    | some (t, _) => match ok t with
      | true => (ms env M1).bind fun ds M2 => match M2[n]? with
        | some (t2, xs) => match g ds M2 t2 xs with
          | some (t', xs', r) => .ok r (M2.set n (t', xs'))
          | none => .stuck
        | none => .stuck
      | false => .stuck
    | none => .stuck
  | _ => .stuck
def Cm (W : XK) (T : List (Addr × Str)) (K : PySem.W.Frag) (g : CmG) (x : V) (vs : List V) (H : Hp) (Q : VK) : Prop :=
  ∃ A n a t xs u us ds t' xs' r, x = .ref a ∧ MemOk K A H ∧ A.c[n]? = some (a, t, xs) ∧ H a = some u ∧ IsNode u t us ∧ DVl K A H xs us ∧ DVl K A H ds vs ∧ g ds A.ers t xs = some (t', xs', r) ∧ Po W T K A H (.ok r (A.ers.set n (t', xs'))) Q
/-- the end: the cell is written -/
theorem Po.put {A : AM} {H : Hp} {n : Nat} {a : Addr} {t t' : Tag} {xs xs' : List D} {r : D} {Q : VK} (p : Po W T X.K A H (.ok r (A.ers.set n (t', xs'))) Q) (m : MemOk X.K A H) (h1 : A.c[n]? = some (a, t, xs)) {u : HO} {vs' : List V} {v : V} (i : IsNode u t' vs') (nt : t' ≠ .tup) (dv : DVl X.K A H xs' vs') (dr : DV X.K A H r v) : Q v (upd H a u) := by
  obtain ⟨A', eA, e1, m1⟩ := put_cell (T := T) m h1 i nt dv
  exact p A' _ _ eA.symm e1 m1 (dr.ext e1)
theorem cm_bind {ok : Tag → Bool} {g : CmG} {σ : L2.St} {H : Hp} {Q : VK} (h : RdE W T X.K (mCm ok mo ms g) σ H Q) :
    RdE W T X.K mo σ H fun x H1 => (∃ a t vs u, x = .ref a ∧ H1 a = some u ∧ IsNode u t vs ∧ ok t = true) ∧ RdA W T X.K ms σ H1 fun vs H2 => Cm W T X.K g x vs H2 Q := by
  obtain ⟨A, env, at0, p⟩ := h
  refine (Po.step at0 p).mono fun v H1 ⟨A1, d, _, a1, dv, p1⟩ => ?_
  cases d with
  | obj n =>
    obtain ⟨a, ha, rfl⟩ := dv
    obtain ⟨t, xs, hc⟩ := AM.cell ha
    have em : A1.ers[n]? = some (t, xs) := by rw [A1.ers_get, hc]; rfl
    simp only [em] at p1
    cases hk : ok t with
    | false => simp only [hk] at p1; exact p1.elim
    | true =>
      simp only [hk] at p1
      obtain ⟨u, vs, hu, i, nt, _⟩ := a1.mem.ok n a t xs hc
      refine ⟨⟨a, t, vs, u, rfl, hu, i, hk⟩, (Po.steps a1 p1).mono fun ws H2 ⟨A2, ds, e2, a2, dvs, p2⟩ => ?_⟩
      obtain ⟨t2, xs2, hc2⟩ := AM.cell (e2.pre n a ha)
      have em2 : A2.ers[n]? = some (t2, xs2) := by rw [A2.ers_get, hc2]; rfl
      simp only [em2] at p2
      cases hg : g ds A2.ers t2 xs2 with
      | none => simp only [hg] at p2; exact p2.elim
      | some q =>
        obtain ⟨t', xs', r⟩ := q
        simp only [hg] at p2
        obtain ⟨u2, us, hu2, i2, nt2, dv2⟩ := a2.mem.ok n a t2 xs2 hc2
        exact ⟨A2, n, a, t2, xs2, u2, us, ds, t', xs', r, rfl, a2.mem, hc2, hu2, i2, dv2, dvs, hg, p2⟩
  | _ => exact p1.elim
def isL : Tag → Bool
  | .lst => true
  | _ => false
theorem ty_l {x : V} {H : Hp} (h : ∃ a t vs u, x = .ref a ∧ H a = some u ∧ IsNode u t vs ∧ isL t = true) : tyV X.K "list" x H := by
  obtain ⟨a, t, vs, u, rfl, hu, i, q⟩ := h
  cases t <;> first | cases q | skip
  cases u <;> first | exact i.elim | skip
  exact .inl ⟨rfl, _, SqL.of hu⟩
theorem Cm.lst {u : HO} {us : List V} (i : IsNode u .lst us) : u = .lst us := by
  cases u <;> first | exact i.elim | skip
  cases (show _ = us from i)
  rfl
theorem Paired.snoc {α β : Type} {F : α → β → Prop} {xs : List α} {vs : List β} {x : α} {v : β} (h : Paired F xs vs) (r : F x v) : Paired F (xs ++ [x]) (vs ++ [v]) := Paired.app h (.cons r .nil)
theorem Paired.getr {α β : Type} {F : α → β → Prop} : ∀ {xs : List α} {vs : List β} {i : Nat} {x : α}, Paired F xs vs → xs[i]? = some x → ∃ v, vs[i]? = some v ∧ F x v := fun h e => Paired.get h e
theorem Paired.dropLast {α β : Type} {F : α → β → Prop} : ∀ {xs : List α} {vs : List β}, Paired F xs vs → Paired F xs.dropLast vs.dropLast
  | _, _, .nil => .nil
  | _, _, .cons r .nil => .nil
  | _, _, .cons r (.cons q t) => .cons r (Paired.dropLast (.cons q t))
theorem Paired.erase {α β : Type} {F : α → β → Prop} : ∀ {xs : List α} {vs : List β} (i : Nat), Paired F xs vs → Paired F (xs.eraseIdx i) (vs.eraseIdx i)
  | _, _, _, .nil => .nil
  | _, _, 0, .cons r t => t
  | _, _, i + 1, .cons r t => .cons r (Paired.erase i t)
theorem Paired.set {α β : Type} {F : α → β → Prop} {x : α} {v : β} (q : F x v) : ∀ {xs : List α} {vs : List β} (i : Nat), Paired F xs vs → Paired F (xs.set i x) (vs.set i v)
  | _, _, _, .nil => .nil
  | _, _, 0, .cons r t => .cons q t
  | _, _, i + 1, .cons r t => .cons r (Paired.set q i t)
theorem Paired.take {α β : Type} {F : α → β → Prop} : ∀ (n : Nat) {xs : List α} {vs : List β}, Paired F xs vs → Paired F (xs.take n) (vs.take n)
  | 0, _, _, _ => .nil
  | _ + 1, _, _, .nil => .nil
  | n + 1, _, _, .cons r t => .cons r (Paired.take n t)
theorem Paired.drop {α β : Type} {F : α → β → Prop} : ∀ (n : Nat) {xs : List α} {vs : List β}, Paired F xs vs → Paired F (xs.drop n) (vs.drop n)
  | 0, _, _, h => h
  | _ + 1, _, _, .nil => .nil
  | n + 1, _, _, .cons r t => Paired.drop n t
def gApp : CmG := fun ds _ t xs => match t, ds with
  | .lst, [y] => if szB (xs.length + 1) then some (.lst, xs ++ [y], .non) else none
  | _, _ => none
/-- x.append(e) -/
theorem e_append (ho : PE X o (RdE W T X.K mo)) (ha : PA X [e] (RdA W T X.K ms)) (hbase : attributeBase o "append" X.env (eval o X.env) = eval o X.env := by rfl) (hline : (apos.endLine == cpos.line) = true := by rfl)
    (hfew : ((backTo cpos (starEach [e] X.env)).all (fun x => !x.1) && (backToKw cpos (keywordEach [] X.env)).all (fun x => x.1.isSome) && decide (([e] : List Expr).length + ([] : List Keyword).length + (if ([] : List Keyword).isEmpty then 0 else 1) < 30)) = true := by rfl)
    (hs : starEach [e] X.env = (false, eval e X.env) :: starEach [] X.env := by rfl) : PE X (.Call (.Attribute o "append" apos) [e] [] cpos) (RdE W T X.K (mCm isL mo ms gApp)) :=
  (pe_bm PySem.F.plainAttrs_list PySem.F.slot_list_append PySem.F.type_list_append mt_append ho ha hbase hfew hline hs rfl).imp fun σ H Q h =>
  (cm_bind h).mono fun x H1 ⟨q1, q2⟩ => ⟨ty_l q1, q2.mono fun vs H2 ⟨A, n, a, t, xs, u, us, ds, t', xs', r, ex, m, hc, hu, i, dv, dvs, hg, p⟩ => by
    unfold gApp at hg
    split at hg
    · rename_i y
      split at hg
      · rename_i hz
        cases hg
        obtain ⟨v, rfl, dy⟩ := dvl1 dvs
        obtain rfl := Cm.lst i
        refine ⟨a, us, v, ex, rfl, hu, ?_, p.put m hc rfl (by simp) (Paired.snoc dv dy) (show V.non = V.non from rfl)⟩
        have := szB_le hz
        rw [Paired.len dv] at this
        omega
      · cases hg
    · cases hg⟩
def gExt : CmG := fun ds M t xs => match t, ds with
  | .lst, [y] => match look M y with
    | some (.lst, ys) => if szB (xs.length + ys.length) then some (.lst, xs ++ ys, .non) else none
    | _ => none
  | _, _ => none
/-- x.extend(e), e a list -/
theorem e_extend (ho : PE X o (RdE W T X.K mo)) (ha : PA X [e] (RdA W T X.K ms)) (hbase : attributeBase o "extend" X.env (eval o X.env) = eval o X.env := by rfl) (hline : (apos.endLine == cpos.line) = true := by rfl)
    (hfew : ((backTo cpos (starEach [e] X.env)).all (fun x => !x.1) && (backToKw cpos (keywordEach [] X.env)).all (fun x => x.1.isSome) && decide (([e] : List Expr).length + ([] : List Keyword).length + (if ([] : List Keyword).isEmpty then 0 else 1) < 30)) = true := by rfl)
    (hs : starEach [e] X.env = (false, eval e X.env) :: starEach [] X.env := by rfl) : PE X (.Call (.Attribute o "extend" apos) [e] [] cpos) (RdE W T X.K (mCm isL mo ms gExt)) :=
  (pe_bm PySem.F.plainAttrs_list PySem.F.slot_list_extend PySem.F.type_list_extend mt_extend ho ha hbase hfew hline hs rfl).imp fun σ H Q h =>
  (cm_bind h).mono fun x H1 ⟨q1, q2⟩ => ⟨ty_l q1, q2.mono fun vs H2 ⟨A, n, a, t, xs, u, us, ds, t', xs', r, ex, m, hc, hu, i, dv, dvs, hg, p⟩ => by
    unfold gExt at hg
    split at hg
    · rename_i y
      split at hg
      · rename_i ys hl
        split at hg
        · rename_i hz
          cases hg
          obtain ⟨v, rfl, dy⟩ := dvl1 dvs
          obtain rfl := Cm.lst i
          obtain ⟨b, ws, rfl, ra, dys⟩ := look_at m dy hl
          refine ⟨a, b, us, ws, ex, rfl, hu, ra.lstH, ?_, p.put m hc rfl (by simp) (Paired.app dv dys) (show V.non = V.non from rfl)⟩
          have := szB_le hz
          rw [Paired.len dv, Paired.len dys] at this
          exact this
        · cases hg
      · cases hg
    · cases hg⟩
def gPop : CmG := fun ds _ t xs => match t, ds with
  | .lst, [] => match xs[xs.length - 1]? with
    | some y => some (.lst, xs.dropLast, y)
    | none => none
  | _, _ => none
/-- x.pop() -/
theorem e_pop (ho : PE X o (RdE W T X.K mo)) (hbase : attributeBase o "pop" X.env (eval o X.env) = eval o X.env := by rfl) (hline : (apos.endLine == cpos.line) = true := by rfl) : PE X (.Call (.Attribute o "pop" apos) [] [] cpos) (RdE W T X.K (mCm isL mo mNil gPop)) :=
  (pe_bm0 PySem.F.plainAttrs_list PySem.F.slot_list_pop PySem.F.type_list_pop mt_pop ho hbase hline).imp fun σ H Q h =>
  (cm_bind h).mono fun x H1 ⟨q1, q2⟩ => ⟨ty_l q1, by
    obtain ⟨A0, env, at0, q2⟩ := q2
    obtain ⟨A, n, a, t, xs, u, us, ds, t', xs', r, ex, m, hc, hu, i, dv, dvs, hg, p⟩ := q2 A0 H1 [] rfl Ext.refl at0.mem .nil
    unfold gPop at hg
    split at hg
    · split at hg
      · rename_i y hy
        cases hg
        obtain rfl := Cm.lst i
        obtain ⟨v, hv, dy⟩ := Paired.get dv hy
        exact ⟨a, us, v, ex, rfl, hu, by rw [← Paired.len dv]; exact hv, p.put m hc rfl (by simp) (Paired.dropLast dv) dy⟩
      · cases hg
    · cases hg⟩
def gPopAt : CmG := fun ds _ t xs => match t, ds with
  | .lst, [.int i] => if decide (-1000000 ≤ i) && decide (i ≤ 1000000) then (match seqIndex? i xs.length with
    | some k => match xs[k]? with
      | some y => some (.lst, xs.eraseIdx k, y)
      | none => none
    | none => none) else none
  | _, _ => none
/-- x.pop(i) -/
theorem e_popAt (ho : PE X o (RdE W T X.K mo)) (ha : PA X [e] (RdA W T X.K ms)) (hbase : attributeBase o "pop" X.env (eval o X.env) = eval o X.env := by rfl) (hline : (apos.endLine == cpos.line) = true := by rfl)
    (hfew : ((backTo cpos (starEach [e] X.env)).all (fun x => !x.1) && (backToKw cpos (keywordEach [] X.env)).all (fun x => x.1.isSome) && decide (([e] : List Expr).length + ([] : List Keyword).length + (if ([] : List Keyword).isEmpty then 0 else 1) < 30)) = true := by rfl)
    (hs : starEach [e] X.env = (false, eval e X.env) :: starEach [] X.env := by rfl) : PE X (.Call (.Attribute o "pop" apos) [e] [] cpos) (RdE W T X.K (mCm isL mo ms gPopAt)) :=
  (pe_bm PySem.F.plainAttrs_list PySem.F.slot_list_pop PySem.F.type_list_pop mt_popAt ho ha hbase hfew hline hs rfl).imp fun σ H Q h =>
  (cm_bind h).mono fun x H1 ⟨q1, q2⟩ => ⟨ty_l q1, q2.mono fun vs H2 ⟨A, n, a, t, xs, u, us, ds, t', xs', r, ex, m, hc, hu, i, dv, dvs, hg, p⟩ => by
    unfold gPopAt at hg
    split at hg
    · rename_i k0
      split at hg
      · rename_i hz
        simp only [Bool.and_eq_true, decide_eq_true_eq] at hz
        split at hg
        · rename_i k hk
          split at hg
          · rename_i y hy
            cases hg
            obtain ⟨v, rfl, d0⟩ := dvl1 dvs
            cases (show v = V.int k0 from d0)
            obtain rfl := Cm.lst i
            obtain ⟨w, hw, dy⟩ := Paired.get dv hy
            exact ⟨a, us, k0, k, w, ex, rfl, hu, by omega, by omega, by rw [← Paired.len dv]; exact hk, hw, p.put m hc rfl (by simp) (Paired.erase k dv) dy⟩
          · cases hg
        · cases hg
      · cases hg
    · cases hg⟩
end
end TB

set_option Elab.async false
set_option linter.all false
set_option maxRecDepth 100000
set_option maxHeartbeats 4000000
namespace TB
open PySem PySem.Spec PyProof.Rows L2
/-! ### c[i] = e, c a list or a dict -/
def repG {κ : Type} (eq : κ → κ → Bool) : List κ → List D → κ → D → List D
  | j :: ks, x :: xs, k, y => (match eq j k with | true => y | false => x) :: repG eq ks xs k y
  | _, xs, _, _ => xs
def putG {κ : Type} (eq : κ → κ → Bool) (ks : List κ) (xs : List D) (k : κ) (y : D) : List κ × List D := match ks.any fun j => eq j k with
  | true => (ks, repG eq ks xs k y)
  | false => (ks ++ [k], xs ++ [y])
theorem zip_any {κ : Type} [DecidableEq κ] {eq : κ → κ → Bool} (he : ∀ a b, eq a b = decide (a = b)) {k : κ} : ∀ {ks : List κ} {vs : List V}, ks.length = vs.length → ((ks.zip vs).any fun kv => decide (kv.1 = k)) = ks.any fun j => eq j k
  | [], [], _ => rfl
  | j :: ks, v :: vs, h => by
    show (decide (j = k) || (ks.zip vs).any _) = (eq j k || ks.any _)
    rw [he, zip_any he (by simpa using h)]
  | [], _ :: _, h => by cases h
  | _ :: _, [], h => by cases h
theorem repG_at {κ : Type} [DecidableEq κ] {eq : κ → κ → Bool} (he : ∀ a b, eq a b = decide (a = b)) {F : D → V → Prop} {k : κ} {y : D} {w : V} (dw : F y w) : ∀ {ks : List κ} {xs : List D} {vs : List V}, ks.length = vs.length → Paired F xs vs →
    ∃ vs', Paired F (repG eq ks xs k y) vs' ∧ (ks.zip vs).map (fun kv => if kv.1 = k then (kv.1, w) else kv) = ks.zip vs' ∧ ks.length = vs'.length
  | [], xs, vs, hl, h => by
    cases vs with
    | cons v vs => cases hl
    | nil => exact ⟨[], by cases xs <;> exact h, rfl, rfl⟩
  | j :: ks, _, _, hl, .nil => by cases hl
  | j :: ks, x :: xs, v :: r, hl, .cons dx ds => by
    obtain ⟨r', h1, h2, h3⟩ := repG_at he dw (ks := ks) (by simpa using hl) ds
    unfold repG
    rw [he]
    by_cases q : j = k
    · rw [decide_eq_true q]
      refine ⟨w :: r', .cons dw h1, ?_, by simp [h3]⟩
      show (if j = k then (j, w) else (j, v)) :: (ks.zip r).map (fun kv => if kv.1 = k then (kv.1, w) else kv) = (j, w) :: ks.zip r'
      rw [if_pos q, h2]
    · rw [decide_eq_false q]
      refine ⟨v :: r', .cons dx h1, ?_, by simp [h3]⟩
      show (if j = k then (j, w) else (j, v)) :: (ks.zip r).map (fun kv => if kv.1 = k then (kv.1, w) else kv) = (j, v) :: ks.zip r'
      rw [if_neg q, h2]
theorem putG_at {κ : Type} [DecidableEq κ] {eq : κ → κ → Bool} (he : ∀ a b, eq a b = decide (a = b)) {F : D → V → Prop} {k : κ} {y : D} {w : V} (dw : F y w) {ks : List κ} {xs : List D} {vs : List V} (hl : ks.length = vs.length) (ds : Paired F xs vs) :
    ∃ vs', Paired F (putG eq ks xs k y).2 vs' ∧ putK (ks.zip vs) k w = (putG eq ks xs k y).1.zip vs' ∧ (putG eq ks xs k y).1.length = vs'.length := by
  unfold putG putK
  rw [zip_any he hl]
  cases q : ks.any fun j => eq j k with
  | true =>
    obtain ⟨vs', h1, h2, h3⟩ := repG_at he dw (k := k) hl ds
    exact ⟨vs', h1, by rw [if_pos rfl]; exact h2, h3⟩
  | false =>
    refine ⟨vs ++ [w], Paired.snoc ds dw, ?_, by simp [hl]⟩
    rw [if_neg (by simp), List.zip_append hl]
    rfl
theorem blt_sz {n : Nat} (h : Nat.blt n 1000000 = true) : n < sizeLine := Nat.lt_of_lt_of_le (Nat.le_of_ble_eq_true h : n + 1 ≤ 1000000) (by rw [sizeLine_eq]; decide)
def gSet (y k : D) (t : Tag) (xs : List D) : Option (Tag × List D) := match t with
  | .lst => match k with
    | .int i => match ixN xs.length i with
      | some j => some (.lst, xs.set j y)
      | none => none
    | _ => none
  | .dK ks => match Nat.blt ks.length 1000000 with
    | true => match keyOf k with
      | some j => some (.dK (putG keq ks xs j y).1, (putG keq ks xs j y).2)
      | none => none
    | false => none
  | .dT ks => match Nat.blt ks.length 1000000 with
    | true => match k with
      | .node .tup js => match keysOf js with
        | some j => some (.dT (putG keqs ks xs j y).1, (putG keqs ks xs j y).2)
        | none => none
      | _ => none
    | false => none
  | _ => none
section
variable {X : Cx} {W : XK} {T : List (Addr × Str)} {o i e : Expr} {pos pos' : Pos} {mv mo mk : Ev}
theorem _root_.L2.PSet.or {X : Cx} {t u : TSet} (h : PSet X t) (h' : PSet X u) : PSet X (fun o i v H Q => t o i v H Q ∨ u o i v H Q) := fun pins s σ H o i v ov iv uu Q I ro ri rv q => q.elim (h pins s σ H o i v ov iv uu Q I ro ri rv) (h' pins s σ H o i v ov iv uu Q I ro ri rv)
def sSet (mv mo mk : Ev) : Sm := fun env M => (mv env M).bind fun d M1 => (mo env M1).bind fun c M2 => match c with
  | .obj n => (mk env M2).bind fun k M3 => match M3[n]? with
    | some (t, xs) => match gSet d k t xs with
      | some (t', xs') => .ok (.nx env) (M3.set n (t', xs'))
      | none => .stuck
    | none => .stuck
  | _ => .stuck
/-- what the store does to the heap -/
theorem set_at {A : AM} {H : Hp} {n : Nat} {a : Addr} {t t' : Tag} {xs xs' : List D} {y v : V} {d k : D} (m : MemOk X.K A H) (hc : A.c[n]? = some (a, t, xs)) (dk : DV X.K A H k y) (dd : DV X.K A H d v) (h : gSet d k t xs = some (t', xs')) :
    ∃ A' u, A'.ers = A.ers.set n (t', xs') ∧ Ext T A H A' (upd H a u) ∧ MemOk X.K A' (upd H a u) ∧ ∀ Q : Hp → Prop, Q (upd H a u) → rSetL (.ref a) y v H Q ∨ rSetD (.ref a) y v H Q := by
  obtain ⟨u, us, hu, i, nt, dv⟩ := m.ok n a t xs hc
  unfold gSet at h
  split at h
  · split at h
    · rename_i j
      split at h
      · rename_i l hl
        cases h
        cases (show y = V.int j from dk)
        obtain rfl := Cm.lst i
        obtain ⟨A', e1, e2, e3⟩ := put_cell (T := T) m hc (u := .lst (us.set l v)) (t' := .lst) rfl (by simp) (Paired.set dd l dv)
        exact ⟨A', _, e1, e2, e3, fun Q q => .inl ⟨a, us, j, l, rfl, rfl, hu, by rw [← Paired.len dv]; exact hl, q⟩⟩
      · cases h
    · cases h
  · rename_i ks
    split at h
    · rename_i hz
      split at h
      · rename_i j hj
        cases h
        cases u <;> first | exact i.elim | skip
        obtain ⟨rfl, hl⟩ := i
        obtain rfl := keyOf_at dk hj
        obtain ⟨vs', p1, p2, p3⟩ := putG_at keq_eq dd (k := j) hl dv
        obtain ⟨A', e1, e2, e3⟩ := put_cell (T := T) m hc (u := .dK (putK (ks.zip us) j v)) (t' := .dK (putG keq ks xs j d).1) ⟨p2, p3⟩ (by simp) p1
        exact ⟨A', _, e1, e2, e3, fun Q q => .inr ⟨a, _, rfl, .k hu (by rw [List.length_zip, ← hl, Nat.min_self]; exact blt_sz hz), q⟩⟩
      · cases h
    · cases h
  · rename_i ks
    split at h
    · rename_i hz
      split at h
      · rename_i js
        split at h
        · rename_i j hj
          cases h
          cases u <;> first | exact i.elim | skip
          obtain ⟨rfl, hl⟩ := i
          obtain ⟨b, ws, rfl, ra, ds⟩ := dk.node_at
          obtain rfl := keysOf_at ds hj
          obtain ⟨vs', p1, p2, p3⟩ := putG_at keqs_eq dd (k := j) hl dv
          obtain ⟨A', e1, e2, e3⟩ := put_cell (T := T) m hc (u := .dT (putK (ks.zip us) j v)) (t' := .dT (putG keqs ks xs j d).1) ⟨p2, p3⟩ (by simp) p1
          exact ⟨A', _, e1, e2, e3, fun Q q => .inr ⟨a, _, rfl, .t hu ra.tupH (by rw [List.length_zip, ← hl, Nat.min_self]; exact blt_sz hz), q⟩⟩
        · cases h
      · cases h
    · cases h
  · cases h
/-- c[i] = e -/
theorem s_store (c : Cok X W T) (ho : PE X o (RdE W T X.K mo)) (hi : PE X i (RdE W T X.K mk)) (hv : PE X e (RdE W T X.K mv))
    (ha : ∀ v, assign (.Subscript o i pos') X.env v = (do
      let ov ← holding [v] (eval o X.env)
      let iv ← holding [v, ov] (eval i X.env)
      standAt pos'
      holding [v, ov, iv] (setItem ov iv v)
      release [v, ov, iv] []) := by intro _; rfl) (hs : swapsWithSole [.Subscript o i pos'] e pos.line X.env = pure false := by rfl) (hw : swappedStores [.Subscript o i pos'] e X.env = pure none := by rfl)
    (h1 : (assignEach [.Subscript o i pos'] X.env).map (·.2) = [assign (.Subscript o i pos') X.env] := by rfl) :
    PS X (.Assign [.Subscript o i pos'] e pos) (RdS W T X.K (sSet mv mo mk)) := (ps_asg hv (pg_sub ho hi (L2.PSet.or set_list (L2.set_dict (by have := c.un; omega))) ha) hs hw h1).imp fun E σ H ⟨A, env, at0, p⟩ =>
  (PoS.step at0 p).mono fun v H1 ⟨A1, d, _, a1, dv, p1⟩ => (PoS.step a1 p1).mono fun x H2 ⟨A2, q, e2, a2, dx, p2⟩ => by
    cases q with
    | obj n =>
      obtain ⟨a, hn, rfl⟩ := dx
      refine (PoS.step a2 p2).mono fun y H3 ⟨A3, k, e3, a3, dk, p3⟩ => ?_
      obtain ⟨t, xs, hc⟩ := AM.cell (e3.pre n a hn)
      have em : A3.ers[n]? = some (t, xs) := by rw [A3.ers_get, hc]; rfl
      simp only [em] at p3
      cases hg : gSet d k t xs with
      | none => simp only [hg] at p3; exact p3.elim
      | some r =>
        obtain ⟨t', xs'⟩ := r
        simp only [hg] at p3
        obtain ⟨A', u, eA, ex, m', fin⟩ := set_at (T := T) a3.mem hc dk ((dv.ext e2).ext e3) hg
        exact fin _ (p3 A' _ eA.symm ex m' (ex.tabs a3.tabs) σ (a3.env.ext ex))
    | _ => exact p2.elim
end
end TB

set_option Elab.async false
set_option linter.all false
set_option maxRecDepth 100000
set_option maxHeartbeats 4000000
namespace TB
open PySem PySem.Spec PyProof.Rows L2
/-! ### o.f = e, o a cell -/
def putFD (f : Str) (y : D) : List Str → List D → List Str × List D
  | g :: ns, x :: xs => match seq g f with
    | true => (g :: ns, y :: xs)
    | false => (g :: (putFD f y ns xs).1, x :: (putFD f y ns xs).2)
  | _, _ => ([f], [y])
theorem putFD_at {F : D → V → Prop} {f : Str} {y : D} {w : V} (dw : F y w) : ∀ {ns : List Str} {xs : List D} {vs : List V}, ns.length = vs.length → Paired F xs vs →
    ∃ vs', Paired F (putFD f y ns xs).2 vs' ∧ putF f w (ns.zip vs) = (putFD f y ns xs).1.zip vs' ∧ (putFD f y ns xs).1.length = vs'.length ∧ vs'.length ≤ vs.length + 1
  | [], xs, vs, hl, h => by
    cases vs with
    | cons v vs => cases hl
    | nil => exact ⟨[w], by cases xs <;> exact .cons dw .nil, by cases xs <;> rfl, by cases xs <;> rfl, Nat.le_refl _⟩
  | g :: ns, _, _, hl, .nil => by cases hl
  | g :: ns, x :: xs, v :: r, hl, .cons dx ds => by
    obtain ⟨r', h1, h2, h3, h4⟩ := putFD_at (f := f) dw (ns := ns) (by simpa using hl) ds
    unfold putFD
    rw [seq_eq]
    show ∃ vs', _ ∧ (if g = f then (g, w) :: ns.zip r else (g, v) :: putF f w (ns.zip r)) = _ ∧ _ ∧ _
    by_cases q : g = f
    · subst q
      rw [beq_self_eq_true, if_pos rfl]
      exact ⟨w :: r, .cons dw ds, rfl, by simpa using hl, by simp⟩
    · rw [if_neg q, show (g == f) = false from by simpa using q]
      exact ⟨v :: r', .cons dx h1, by rw [h2]; rfl, by simp [h3], by simpa using h4⟩
section
variable {X : Cx} {W : XK} {T : List (Addr × Str)} {o e : Expr} {pos pos' : Pos} {mv mo : Ev} {C : Addr} {f : Str}
def sFldSet (C : Addr) (f : Str) (mv mo : Ev) : Sm := fun env M => (mv env M).bind fun d M1 => (mo env M1).bind fun c M2 => match c with
  | .obj n => match M2[n]? with
    | some (.ins C' ns, xs) => match C == C' && Nat.blt ns.length 1000 with
      | true => .ok (.nx env) (M2.set n (.ins C (putFD f d ns xs).1, (putFD f d ns xs).2))
      | false => .stuck
    | _ => .stuck
  | _ => .stuck
theorem s_fld (ho : PE X o (RdE W T X.K mo)) (hv : PE X e (RdE W T X.K mv)) (c : Cls X.K C) (n : NoAttr X.K C f) (hs : swapsWith e (some (.Attribute o f pos')) pos.line X.env = pure false := by rfl) :
    PS X (.Assign [.Attribute o f pos'] e pos) (RdS W T X.K (sFldSet C f mv mo)) := (ps_fld ho hv hs).imp fun E σ H ⟨A, env, at0, p⟩ =>
  (PoS.step at0 p).mono fun v H1 ⟨A1, d, _, a1, dv, p1⟩ => (PoS.step a1 p1).mono fun x H2 ⟨A2, q, e2, a2, dx, p2⟩ => by
    cases q with
    | obj k =>
      obtain ⟨a, hn, rfl⟩ := dx
      obtain ⟨t, xs, hc⟩ := AM.cell hn
      have em : A2.ers[k]? = some (t, xs) := by rw [A2.ers_get, hc]; rfl
      simp only [em] at p2
      cases t with
      | ins C' ns =>
        simp only at p2
        split at p2
        · rename_i hz
          rw [Bool.and_eq_true] at hz
          have hcc : C = C' := by simpa using hz.1
          obtain ⟨u, us, hu, i, nt, ds⟩ := a2.mem.ok k a _ xs hc
          cases u <;> first | exact i.elim | skip
          rename_i C1 dxx fs
          obtain ⟨h5, rfl, hl⟩ := i
          have h6 : C = C1 := hcc.trans h5.symm
          subst h6
          obtain ⟨vs', p1', p2', p3', p4'⟩ := putFD_at (f := f) (dv.ext e2) hl ds
          obtain ⟨A', eA, ex, m'⟩ := put_cell (T := T) a2.mem hc (u := .ins C dxx (putF f v (ns.zip us))) (t' := .ins C (putFD f d ns xs).1) ⟨rfl, p2', p3'⟩ (by simp) p1'
          refine ⟨a, C, dxx, _, rfl, hu, c, n, ?_, p2 A' _ eA.symm ex m' (ex.tabs a2.tabs) σ (a2.env.ext ex)⟩
          have := Nat.le_of_ble_eq_true hz.2
          rw [List.length_zip, ← hl, Nat.min_self]
          exact this
        · exact p2.elim
      | _ => exact p2.elim
    | _ => exact p2.elim
end
/-! ### calls: with data alone, or with the whole memory -/
section
variable {X : Cx} {W : XK} {T : List (Addr × Str)} {o e : Expr} {es : List Expr} {pos apos p : Pos} {mo : Ev} {ms : Evs} {x : Str} {k j : Nat} {f : Addr} {ps : List Str} {F : Fn} {C : Addr} {m : Str}
/-- the def's own memory where data alone are handed on, else the whole one -/
def gAuto (F : Fn) : OpN := fun ds M => match ds.all still with
  | true => gFn F ds M
  | false => F ds M
theorem fn_sp {K : PySem.W.Frag} {n : Nat} (hn : ∀ ds M, F ds M ≠ .stuck → ds.length = n) {vs : List V} {H : Hp} {Q : VK} (h : RdN W T K F vs H Q) : spF T K n F vs H Q W := by
  obtain ⟨A, ds, m, tb, dv, q⟩ := h
  have np : F ds A.ers ≠ .stuck := fun z => by rw [z] at q; exact q
  exact ⟨by rw [← Paired.len dv]; exact hn _ _ np, A, ds, m, tb, dv, q⟩
theorem auto_sp {K : PySem.W.Frag} {n : Nat} (hn : ∀ ds M, F ds M ≠ .stuck → ds.length = n) {vs : List V} {H : Hp} {Q : VK} (h : RdN W T K (gAuto F) vs H Q) : spF T K n F vs H Q W := by
  obtain ⟨A, ds, m, tb, dv, q⟩ := h
  unfold gAuto at q
  cases hs : ds.all still with
  | true => rw [hs] at q; exact gFn_sp hn ⟨A, ds, m, tb, dv, q⟩
  | false => rw [hs] at q; exact fn_sp hn ⟨A, ds, m, tb, dv, q⟩
theorem Df.callA (d : Df X.prog X.w X.K X.mg X.base T x k f ps F) (c : Cok X W T) (hr : Room j X.A) (hk : k ≤ j) : CallR X (.ref f) (RdN W T X.K (gAuto F)) :=
  let ⟨_, G, hb⟩ := d.ex
  fun pins s σ H vs us Q I r h => run_fnG c (G.mono hk) hr hb I r (auto_sp d.len h)
theorem Df.callM (d : Df X.prog X.w X.K X.mg X.base T x k f ps F) (c : Cok X W T) (hr : Room j X.A) (hk : k ≤ j) : CallR X (.ref f) (RdN W T X.K F) :=
  let ⟨_, G, hb⟩ := d.ex
  fun pins s σ H vs us Q I r h => run_fnG c (G.mono hk) hr hb I r (fn_sp d.len h)
theorem e_defA (d : Df X.prog X.w X.K X.mg X.base T x k f ps F) (c : Cok X W T) (hr : Room j X.A) (hk : k ≤ j) (hg : Gl X x) (ha : PA X (e :: es) (RdA W T X.K ms)) (hdb : (x == ("__debug__" : Str)) = false := by decide)
    (he : starEach (e :: es) X.env = (false, eval e X.env) :: starEach es X.env := by rfl) (hpl : (backTo pos (starEach es X.env)).any (·.1) = false := by rfl) : PE X (.Call (.Name x p) (e :: es) [] pos) (RdE W T X.K (mCall (gAuto F) ms)) :=
  e_call (d.callA c hr hk) hg d.g d.kp ha hdb he hpl
theorem e_defM (d : Df X.prog X.w X.K X.mg X.base T x k f ps F) (c : Cok X W T) (hr : Room j X.A) (hk : k ≤ j) (hg : Gl X x) (ha : PA X (e :: es) (RdA W T X.K ms)) (hdb : (x == ("__debug__" : Str)) = false := by decide)
    (he : starEach (e :: es) X.env = (false, eval e X.env) :: starEach es X.env := by rfl) (hpl : (backTo pos (starEach es X.env)).any (·.1) = false := by rfl) : PE X (.Call (.Name x p) (e :: es) [] pos) (RdE W T X.K (mCall F ms)) :=
  e_call (d.callM c hr hk) hg d.g d.kp ha hdb he hpl
theorem Dm.callA {fa : Addr} (d : Dm X.prog X.w X.K X.mg X.base T C m k fa ps F) (c : Cok X W T) (hr : Room j X.A) (hk : k ≤ j) : CallR X (.ref fa) (RdN W T X.K (gAuto F)) :=
  let ⟨_, G, hb⟩ := d.ex
  fun pins s σ H vs us Q I r h => run_fnG c (G.mono hk) hr hb I r (auto_sp d.len h)
/-- o.m(e, ..) -/
theorem e_methA {fa : Addr} {pl : Sem Bool} (d : Dm X.prog X.w X.K X.mg X.base T C m k fa ps F) (c : Cok X W T) (hr : Room j X.A) (hk : k ≤ j) (he : PE X o (RdE W T X.K mo)) (ha : PA X (e :: es) (RdA W T X.K ms))
    (hst : starEach (e :: es) X.env = (false, eval e X.env) :: starEach es X.env := by rfl) (hpl : (backTo pos (starEach es X.env)).any (·.1) = false := by rfl)
    (ht : eval (.Call (.Attribute o m apos) (e :: es) [] pos) X.env = (do
      let ov ← eval o X.env
      standAt apos.atName
      let (f, first) ← holding [ov] (getMethod ov m pl)
      callWith pos f first (backTo pos (starEach (e :: es) X.env)) (backToKw pos (keywordEach [] X.env))) := by rfl) :
    PE X (.Call (.Attribute o m apos) (e :: es) [] pos) (RdE W T X.K (mMeth C m (gAuto F) mo ms)) := ⟨fun pins s σ H Q I h => by
  refine PySem.W.methodCall_KW (pl := pl) (thn (he.run pins s σ H _ I (meth_bind h)) fun ov s1 ⟨x, H1, I1, rx, a, dx, fs, ex, ea, l, q⟩ => ?_) ht
  subst ex
  cases (show ov = Value.ref a from rx)
  refine getmeth_ok I1 ea d.c d.m l ?_
  refine PySem.W.callWith_K (first := [.ref a]) (h₀ := X.base) I.ok.mod.kin d.m.kp (thn (ha.run pos pins s1 σ H1 _ I1 q) fun vs s2 ⟨ws, H2, I2, rs, q2⟩ => ⟨I2.kIn, ?_⟩) hst hpl
  exact d.callA c hr hk pins s2 σ H2 (.ref a :: ws) (.ref a :: vs) Q I2 (.cons rfl rs) q2⟩
/-- o.m() -/
theorem e_methA0 {fa : Addr} {pl : Sem Bool} (d : Dm X.prog X.w X.K X.mg X.base T C m k fa ps F) (c : Cok X W T) (hr : Room j X.A) (hk : k ≤ j) (he : PE X o (RdE W T X.K mo))
    (ht : eval (.Call (.Attribute o m apos) [] [] pos) X.env = (do
      let ov ← eval o X.env
      standAt apos.atName
      let (f, first) ← holding [ov] (getMethod ov m pl)
      callWith pos f first (backTo pos (starEach [] X.env)) (backToKw pos (keywordEach [] X.env))) := by rfl) :
    PE X (.Call (.Attribute o m apos) [] [] pos) (RdE W T X.K (mMeth C m (gAuto F) mo mNil)) := ⟨fun pins s σ H Q I h => by
  refine PySem.W.methodCall_KW (pl := pl) (thn (he.run pins s σ H _ I (meth_bind h)) fun ov s1 ⟨x, H1, I1, rx, a, dx, fs, ex, ea, l, q⟩ => ?_) ht
  subst ex
  cases (show ov = Value.ref a from rx)
  refine getmeth_ok I1 ea d.c d.m l ?_
  obtain ⟨A, env, at0, q⟩ := q
  exact PySem.W.callWith_K0 (first := [.ref a]) I1.kIn d.m.kp (d.callA c hr hk pins s1 σ H1 [.ref a] [.ref a] Q I1 (.cons rfl .nil) (q A H1 [] rfl Ext.refl at0.mem .nil))⟩
/-! ### C(..): an instance is made -/
theorem make_guards {A : Around} {C : Addr} {us : List Value} {kw : List (Str × Value)} : (A.under (.builtin "type.__call__" ⟨.ref C :: us, kw⟩)).guards = A.guards := by
  first | rfl | simp [Around.under, Code.weight, Code.isCreation, Code.isGuard, Code.isCaller, Code.frames, Code.isFrame, guardIds]
/-- the new instance as a cell -/
def gMkM (C : Addr) (F : Fn) : OpN := fun ds M => match F (.obj M.length :: ds) (M ++ [(.ins C [], [])]) with
  | .ok .non M' => .ok (.obj M.length) M'
  | .exc x M' => .exc x M'
  | _ => .stuck
/-- .. as data, where data alone are handed on -/
def gMk (C : Addr) (F : Fn) : OpN := fun ds M => match ds.all still with
  | true => match gMkM C F ds [] with
    | .ok d M' => match view M' d with
      | some d' => .ok d' M
      | none => .stuck
    | .exc x _ => .exc x M
    | .stuck => .stuck
  | false => .stuck
/-- a class that is known -/
structure Dk (P : Program) (w : World) (K : PySem.W.Frag) (mg : Str → Option Value) (base : Heap) (T : List (Addr × Str)) (x : Str) (k : Nat) (C f : Addr) (ps : List Str) (F : Fn) : Prop where
  ex : ∃ fd, FnG P w K mg base T k f fd ps F ∧ Binds K fd ps []
  m : Mk K C f
  g : mg x = some (.ref C)
  len : ∀ ds M, F ds M ≠ .stuck → ds.length = ps.length
/-- the end of the call from the end of __init__ -/
theorem mk_po {K : PySem.W.Frag} {A : AM} {H : Hp} {ds : List D} {vs : List V} {Q : VK} {x dx : Addr} (m : MemOk K A H) (tb : LamX.Tabs T H) (dv : DVl K A H ds vs) (h1 : H x = none) (h2 : H dx = none) (h3 : dx ≠ x) (q : Po W T K A H (gMkM C F ds A.ers) Q) :
    ∃ A' ds', MemOk K A' (upd (upd H dx (.own x)) x (.ins C dx [])) ∧ LamX.Tabs T (upd (upd H dx (.own x)) x (.ins C dx [])) ∧ DVl K A' (upd (upd H dx (.own x)) x (.ins C dx [])) ds' (.ref x :: vs) ∧ Po W T K A' (upd (upd H dx (.own x)) x (.ins C dx [])) (F ds' A'.ers) (fun v H2 => v = .non ∧ Q (.ref x) H2) ∧ F ds' A'.ers ≠ .stuck := by
  have e1 := Ext.laid (T := T) (A := A) (u := HO.own x) h2
  have m1 := m.laid (u := HO.own x) h2
  have hx : upd H dx (.own x) x = none := by rw [upd_ne (Ne.symm h3)]; exact h1
  obtain ⟨A', eA, e2, m2, ha⟩ := new_cell (T := T) m1 hx (u := .ins C dx []) (t := .ins C []) (xs := []) (vs := []) ⟨rfl, rfl, rfl⟩ (by simp) .nil
  have e := e1.trans e2
  refine ⟨A', .obj A.ers.length :: ds, m2, e.tabs tb, .cons ⟨x, ha, rfl⟩ (DVl.ext e dv), ?_⟩
  unfold gMkM at q
  rw [← eA] at q
  cases hF : F (.obj A.ers.length :: ds) A'.ers with
  | stuck => rw [hF] at q; exact q.elim
  | exc y M' =>
    rw [hF] at q
    exact ⟨q.ext e, by simp⟩
  | ok d M' =>
    rw [hF] at q
    refine ⟨?_, by simp⟩
    cases d with
    | non =>
      intro A2 H2 v eM e3 m3 d3
      refine ⟨d3, (q.ext e) A2 H2 (.ref x) eM e3 m3 ⟨x, e3.pre _ _ ha, rfl⟩⟩
    | _ => exact q.elim
theorem Dk.run {C f : Addr} (d : Dk X.prog X.w X.K X.mg X.base T x k C f ps F) (c : Cok X W T) (hr : Room (j + 1) X.A) (hk : k ≤ j) {pins : List (Addr × Obj)} {σ : L2.St} {H : Hp} {s : Shared} {Q : VK} {us : List Value} {vs : List V} (I : Inv X pins σ H s) (r : Vals vs us) {A : AM} {ds : List D}
    (m : MemOk X.K A H) (tb : LamX.Tabs T H) (dv : DVl X.K A H ds vs) (q : Po W T X.K A H (gMkM C F ds A.ers) Q) : wpAny (model X.prog X.w) X.A (call (.ref C) us) (EP X pins σ Q) X.xe s := by
  obtain ⟨fd, G, hb⟩ := d.ex
  have M := d.m
  have hx := I.hok.fresh (Nat.le_succ s.heap.objs.size)
  have hd := I.hok.fresh (Nat.le_refl s.heap.objs.size)
  obtain ⟨A', ds', m2, tb2, dv2, q2, ns⟩ := mk_po m tb dv hx hd (Nat.ne_of_lt (Nat.lt_succ_self _)) q
  have I2 := Inv.made (C := C) I
  have r2 : Vals (V.ref (s.heap.objs.size + 1) :: vs) (Value.ref (s.heap.objs.size + 1) :: us) := .cons rfl r
  have hl : (Value.ref (s.heap.objs.size + 1) :: us).length = ps.length := by rw [← r2.length, ← Paired.len dv2]; exact d.len _ _ ns
  have hbb := hb _ (Value.ref (s.heap.objs.size + 1) :: us) I2.kIn (by rw [List.append_nil]; exact hl)
  rw [List.append_nil] at hbb
  refine wpAny_call (make_map (f := f) I.kIn M.makes M.init (beq_iff_eq.mp M.fn) (codeAny_mono (G.run _ X.stack _ _ ⟨Value.ref (s.heap.objs.size + 1) :: us, []⟩ _ _ _ W ((hr.make C us []).mono hk) (by rw [make_guards]; exact c.gd)
    (I2.env0.make C us []) hbb r2 ⟨by rw [r2.length]; exact hl, A', ds', m2, tb2, dv2, q2⟩) fun r s' hq' => ?_))
  cases r with
  | error e => exact L2.passes_call c.tk (fun _ _ _ _ h => h) pins σ _ _ e s' I2 hq'
  | ok fl =>
    cases fl with
    | ret u =>
      obtain ⟨v, H', I3, rv, ev, q3⟩ := I2.after hq'
      subst ev
      exact ⟨rv, ⟨V.ref (s.heap.objs.size + 1), H', I3, rfl, q3⟩⟩
    | next => exact False.elim hq'
    | brk => exact False.elim hq'
    | cont => exact False.elim hq'
theorem Dk.callM {C f : Addr} (d : Dk X.prog X.w X.K X.mg X.base T x k C f ps F) (c : Cok X W T) (hr : Room (j + 1) X.A) (hk : k ≤ j) : CallR X (.ref C) (RdN W T X.K (gMkM C F)) :=
  fun pins s σ H vs us Q I r ⟨A, ds, m, tb, dv, q⟩ => d.run c hr hk I r m tb dv q
theorem Dk.call {C f : Addr} (d : Dk X.prog X.w X.K X.mg X.base T x k C f ps F) (c : Cok X W T) (hr : Room (j + 1) X.A) (hk : k ≤ j) : CallR X (.ref C) (RdN W T X.K (gMk C F)) :=
  fun pins s σ H vs us Q I r ⟨A, ds, m, tb, dv, q⟩ => by
  unfold gMk at q
  cases hst : ds.all still with
  | false => rw [hst] at q; exact q.elim
  | true =>
    rw [hst] at q
    simp only at q
    have dp := dps_of dv hst
    have keepA : ∀ {A' : AM} {H' : Hp}, Ext T ⟨[], A.adrs⟩ H A' H' → Ext T A H A H' ∧ MemOk X.K A H' := fun {A' H'} e =>
      ⟨⟨fun _ _ h => h, fun a h => .inl h, rfl, fun a w _ h nt => e.keep a w (by simp [AM.adr]) h nt, e.tabs, e.there⟩, m.keep fun a w h nt => e.keep a w (by simp [AM.adr]) h nt⟩
    refine d.run (A := ⟨[], A.adrs⟩) (ds := ds) c hr hk I r ⟨m.nd, fun n a t xs h => by simp at h, fun a ha => m.has ha⟩ tb (dp.dvl (A := ⟨[], A.adrs⟩)) ?_
    show Po W T X.K ⟨[], A.adrs⟩ H (gMkM C F ds []) Q
    cases hF : gMkM C F ds [] with
    | stuck => rw [hF] at q; exact q.elim
    | exc x M' =>
      rw [hF] at q
      intro A' H' cls dd eM ee mo xo
      obtain ⟨e1, m1⟩ := keepA ee
      refine q A H' cls dd rfl e1 m1 ⟨xo.1, xo.2.1, fun d hd => ?_⟩
      obtain ⟨a, v, h1, h2, h3⟩ := xo.2.2 d hd
      exact ⟨a, v, h1, h2, h3.keep (fun a w n _ z => n (List.mem_append_right _ (by rw [ee.zz]; exact z))) (fun _ _ _ h _ => h)⟩
    | ok d M' =>
      rw [hF] at q
      intro A' H' v eM ee mo dv'
      subst eM
      obtain ⟨e1, m1⟩ := keepA ee
      cases hv : view A'.ers d with
      | none => simp only [hv] at q; exact q.elim
      | some d' =>
        simp only [hv] at q
        have nz : A'.z = A.adrs := ee.zz
        refine q A H' v rfl e1 m1 (vw_dp mo (fun a w n _ z => n (List.mem_append_right _ (by rw [nz]; exact z))) (fun a ha z => ?_) 24 dv' hv).dv
        have nd := mo.nd
        unfold AM.adrs at nd
        exact (List.nodup_append.mp nd).2.2 a ha a (by rw [nz]; exact z) rfl
/-- C(e, ..) -/
theorem e_mk {C f : Addr} (d : Dk X.prog X.w X.K X.mg X.base T x k C f ps F) (c : Cok X W T) (hr : Room j X.A) (hk : k + 1 ≤ j) (hg : Gl X x) (ha : PA X (e :: es) (RdA W T X.K ms)) (hdb : (x == ("__debug__" : Str)) = false := by decide)
    (he : starEach (e :: es) X.env = (false, eval e X.env) :: starEach es X.env := by rfl) (hpl : (backTo pos (starEach es X.env)).any (·.1) = false := by rfl) : PE X (.Call (.Name x p) (e :: es) [] pos) (RdE W T X.K (mCall (gMk C F) ms)) :=
  e_call (d.call c (j := j - 1) (by rw [Nat.sub_add_cancel (by omega)]; exact hr) (by omega)) hg d.g d.m.kp ha hdb he hpl
theorem e_mkM {C f : Addr} (d : Dk X.prog X.w X.K X.mg X.base T x k C f ps F) (c : Cok X W T) (hr : Room j X.A) (hk : k + 1 ≤ j) (hg : Gl X x) (ha : PA X (e :: es) (RdA W T X.K ms)) (hdb : (x == ("__debug__" : Str)) = false := by decide)
    (he : starEach (e :: es) X.env = (false, eval e X.env) :: starEach es X.env := by rfl) (hpl : (backTo pos (starEach es X.env)).any (·.1) = false := by rfl) : PE X (.Call (.Name x p) (e :: es) [] pos) (RdE W T X.K (mCall (gMkM C F) ms)) :=
  e_call (d.callM c (j := j - 1) (by rw [Nat.sub_add_cancel (by omega)]; exact hr) (by omega)) hg d.g d.m.kp ha hdb he hpl
end
end TB

set_option Elab.async false
set_option linter.all false
set_option maxRecDepth 100000
set_option maxHeartbeats 4000000
namespace TB
open PySem PySem.Spec PyProof.Rows L2
/-! ### list comprehensions with two clauses -/
section
variable {X : Cx} {W : XK} {T : List (Addr × Str)} {K : PySem.W.Frag}
theorem Ext.keH {A A' : AM} {H H' : Hp} {D : Addr} (e : Ext T (A.hide D) H (A'.hide D) H') : Ke (A.hide D) H (A'.hide D) H' := ⟨fun a w n h => e.notin n h, e.keep', e.there⟩
theorem Ke.overD {A : AM} {H : Hp} {D : Addr} {u w : HO} (h : H D = some w) : Ke (A.hide D) H (A.hide D) (upd H D u) := ⟨fun _ _ n _ => n, fun a x n q _ => by
  rw [upd_ne (fun z => n (by rw [z]; exact List.mem_append_right _ List.mem_cons_self))]; exact q, fun a q => by
  by_cases z : a = D
  · subst z; rw [upd_same] at q; cases q
  · rw [upd_ne z] at q; exact q⟩
theorem Ke.laidD {A : AM} {H : Hp} {D : Addr} {u : HO} (h : H D = none) : Ke A H (A.hide D) (upd H D u) := ⟨fun a w n q z => by
  rcases mem_hide.mp z with z | z
  · subst z; rw [h] at q; cases q
  · exact n z, fun a w n q _ => by
  rw [upd_ne (fun z => by subst z; rw [h] at q; cases q)]; exact q, fun a q => by
  by_cases z : a = D
  · subst z; exact h
  · rw [upd_ne z] at q; exact q⟩
/-- the list at D is being made: since H1 (the start), since H2 (the loop's start) -/
structure LcI (K : PySem.W.Frag) (T : List (Addr × Str)) (A1 : AM) (H1 : Hp) (A2 : AM) (H2 : Hp) (D : Addr) (A : AM) (H : Hp) (acc : List TB.D) (accV : List V) : Prop where
  zz : A.z = A1.z
  ext : Ext T A1 H1 A H
  mem : MemOk K (A.hide D) H
  tabs : LamX.Tabs T H
  at_ : H D = some (.lst accV)
  acc : DPs K (A.hide D).adrs H acc accV
  ke : Ke (A2.hide D) H2 (A.hide D) H
  ek : ∀ env σ, EnvOk K (A2.hide D) H2 env σ → EnvOk K (A.hide D) H env σ
theorem LcI.go {A1 A2 A A' : AM} {H1 H2 H H' : Hp} {D : Addr} {acc : List TB.D} {accV : List V} (L : LcI K T A1 H1 A2 H2 D A H acc accV) (e : Ext T (A.hide D) H (A'.hide D) H') (z : A'.z = A.z) (m : MemOk K (A'.hide D) H') : LcI K T A1 H1 A2 H2 D A' H' acc accV := by
  have nd := L.mem.nd
  unfold AM.adrs at nd
  have nD : D ∉ (A.hide D).adr := fun q => (List.nodup_append.mp nd).2.2 D q D List.mem_cons_self rfl
  refine ⟨z.trans L.zz, ?_, m, e.tabs L.tabs, e.keep D _ nD L.at_ (by simp), L.acc.ext e, L.ke.trans e.keH, fun env σ h => (L.ek env σ h).ext e⟩
  have := e.unz A.z
  refine L.ext.trans ?_
  obtain ⟨c', z'⟩ := A'
  obtain rfl : z' = A.z := z
  exact this
theorem LcI.app {A1 A2 A : AM} {H1 H2 H : Hp} {D : Addr} {acc : List TB.D} {accV : List V} {y : TB.D} {v : V} (L : LcI K T A1 H1 A2 H2 D A H acc accV) (hD : H1 D = none) (dy : DP K (A.hide D).adrs H y v) : LcI K T A1 H1 A2 H2 D A (upd H D (.lst (accV ++ [v]))) (acc ++ [y]) (accV ++ [v]) := by
  have mD : D ∈ (A.hide D).adrs := List.mem_append_right _ List.mem_cons_self
  exact ⟨L.zz, Ext.over (w := .lst accV) L.ext hD L.at_ (lst_ok _).2, L.mem.over List.mem_cons_self (lst_ok _), Tabs.over L.at_ (lst_ok _).2 L.tabs, upd_same, DPs.over mD (L.acc.app ⟨v, [], rfl, dy, rfl⟩), L.ke.trans (Ke.overD L.at_), fun env σ h => (L.ek env σ h).over mD⟩
/-- a loop within, by turns -/
theorem turns_of {J : It} {n : Nat} {G : Hp → Prop} {Y : Nat → Hp → V → Hp → Prop} (wk : Walk J n G Y) {g : TG} {tt : TT} {te : TE} {ws : List Nat} {τ : L2.St} {Hs : Hp} {D : Addr} {N0 : Hp → Prop} (P : Nat → Hp → Prop) (hp : P 0 Hs) (hg : ∀ i H, i ≤ n → P i H → G H)
    (st : ∀ i x H H', i < n → P i H → Y i H x H' → g x (wipe τ ws) H' fun τ2 H2 => wipe τ2 ws = wipe τ ws ∧ tt τ2 H2 fun b H3 =>
      if b = true then te τ2 H3 fun y H4 => ∃ acc, H4 D = some (.lst acc) ∧ acc.length < sizeLine ∧ P (i + 1) (upd H4 D (.lst (acc ++ [y]))) else P (i + 1) H3) (fn : ∀ H, P n H → N0 H) :
    ∃ U : Nat → Nat → Hp → Prop, (∃ m, U 0 m Hs) ∧ ∀ i m H, U i m H →
      (J.stop i H ∧ N0 H) ∨ (J.go i H ∧ ∃ N1 : Hp → Prop, (∀ H', N1 H' → ∃ m', m' < m ∧ U (i + 1) m' H') ∧ ∀ x H', J.yld i H x H' → g x (wipe τ ws) H' fun τ2 H2 => wipe τ2 ws = wipe τ ws ∧ tt τ2 H2 fun b H3 =>
        if b = true then te τ2 H3 fun y H4 => ∃ acc, H4 D = some (.lst acc) ∧ acc.length < sizeLine ∧ N1 (upd H4 D (.lst (acc ++ [y]))) else N1 H3) := by
  refine ⟨fun i m H => m + i = n ∧ P i H, ⟨n, rfl, hp⟩, ?_⟩
  rintro i m H ⟨hm, p⟩
  have hle : i ≤ n := by omega
  have q := hg i H hle p
  cases m with
  | zero =>
    obtain rfl : i = n := by omega
    exact .inl ⟨wk.stops H q, fn H p⟩
  | succ m =>
    have hlt : i < n := by omega
    exact .inr ⟨wk.goes i H hlt q, P (i + 1), fun H' p' => ⟨m, Nat.lt_succ_self m, by omega, p'⟩, fun x H' y => st i x H H' hlt p (wk.yields i H x H' hlt q y)⟩
/-- one clause's loop, the list at D made on -/
theorem lc_loop {J : It} {g : TG} {m : TgM} {ts ws : List Nat} {mc me : Ev} {env : Env} {τ : L2.St} {A1 A2 : AM} {H1 H2 : Hp} {D : Addr} {items acc ys : List TB.D} {accV : List V} {M' : Mem} {N0 : Hp → Prop} (tk : TgOk X.K g m ts) (hts : ∀ i ∈ ts, i ∈ ws) (hD : H1 D = none)
    (iok : IterOk X.K T J items (A2.hide D) H2) (L0 : LcI X.K T A1 H1 A2 H2 D A2 H2 acc accV) (eo : EnvOk X.K (A2.hide D) H2 env τ) (hgo : lcGo m mc me (wipeE env ws) items A2.ers = .ok ys M') (hz : acc.length + ys.length ≤ sizeLine)
    (fin : ∀ A H accV', LcI X.K T A1 H1 A2 H2 D A H (acc ++ ys) accV' → A.ers = M' → N0 H) :
    ∃ U : Nat → Nat → Hp → Prop, (∃ m, U 0 m H2) ∧ ∀ i m H, U i m H →
      (J.stop i H ∧ N0 H) ∨ (J.go i H ∧ ∃ N1 : Hp → Prop, (∀ H', N1 H' → ∃ m', m' < m ∧ U (i + 1) m' H') ∧ ∀ x H', J.yld i H x H' → g x (wipe τ ws) H' fun τ2 H2 => wipe τ2 ws = wipe τ ws ∧ RdT W0 T X.K mc τ2 H2 fun b H3 =>
        if b = true then RdE W0 T X.K me τ2 H3 fun y H4 => ∃ acc, H4 D = some (.lst acc) ∧ acc.length < sizeLine ∧ N1 (upd H4 D (.lst (acc ++ [y]))) else N1 H3) := by
  obtain ⟨n, G, Y, wk, hn, hit2⟩ := iok
  refine turns_of wk (fun i H => ∃ A acc' accV' rest, LcI X.K T A1 H1 A2 H2 D A H acc' accV' ∧ lcGo m mc me (wipeE env ws) (items.drop i) A.ers = .ok rest M' ∧ acc' ++ rest = acc ++ ys) ?_ ?_ ?_ ?_
  · exact ⟨A2, acc, accV, ys, L0, hgo, rfl⟩
  · rintro i H hi ⟨A, acc', accV', rest, L, _, _⟩
    exact (hit2 (A.hide D) H L.ke L.mem).1
  · rintro i x H H' hi ⟨A, acc', accV', rest, L, hl, hy⟩ y
    obtain ⟨d, hd, hst, e1, m1, dv⟩ := (hit2 (A.hide D) H L.ke L.mem).2 i x H' hi y
    rw [drop_get hd] at hl
    obtain ⟨env2, htg, hrest⟩ := lcGo_cons hl
    have L1 := L.go (A' := A) e1 rfl m1
    have eo1 := L1.ek _ _ (wipe_env eo ws)
    refine tk (A.hide D) H' _ env2 _ d x _ m1 eo1 dv htg fun τ2 e2 l2 k2 => ⟨wipe_same hts l2 k2, ?_⟩
    have at2 : At T X.K (A.hide D) H' env2 τ2 := ⟨m1, e2, L1.tabs⟩
    rcases hrest with ⟨M3, yv, M4, ys', hc, hev, hsy, hl', rfl⟩ | ⟨M3, hc, hl'⟩
    · refine ⟨A.hide D, env2, at2, ?_⟩
      show Po W0 T X.K (A.hide D) H' (mc env2 A.ers) _
      rw [hc]
      intro A3 H3 v3 eM3 e3 m3 dv3
      subst eM3
      refine ⟨true, dv3, ?_⟩
      dsimp only
      rw [if_pos rfl]
      obtain ⟨c3, z3⟩ := A3
      obtain rfl : z3 = D :: A.z := e3.zz
      have at3 := at2.ext e3 m3
      refine ⟨_, env2, at3, ?_⟩
      have hev' : me env2 (AM.ers ⟨c3, D :: A.z⟩) = .ok yv M4 := hev
      show Po W0 T X.K _ H3 (me env2 (AM.ers ⟨c3, D :: A.z⟩)) _
      rw [hev']
      intro A4 H4 v4 eM4 e4 m4 dv4
      subst eM4
      obtain ⟨c4, z4⟩ := A4
      obtain rfl : z4 = D :: A.z := e4.zz
      have L3 := L1.go (A' := ⟨c3, A.z⟩) e3 rfl m3
      have L4 := L3.go (A' := ⟨c4, A.z⟩) e4 rfl m4
      have hlen : accV'.length < sizeLine := by
        have h1 := L4.acc.len
        have h3 := congrArg List.length hy
        simp only [List.length_append, List.length_cons] at h3
        omega
      exact ⟨accV', L4.at_, hlen, ⟨c4, A.z⟩, acc' ++ [yv], accV' ++ [v4], ys', L4.app hD (dv4.dp (still_n hsy)), hl', by rw [← hy]; simp⟩
    · refine ⟨A.hide D, env2, at2, ?_⟩
      show Po W0 T X.K (A.hide D) H' (mc env2 A.ers) _
      rw [hc]
      intro A3 H3 v3 eM3 e3 m3 dv3
      subst eM3
      refine ⟨false, dv3, ?_⟩
      dsimp only
      rw [if_neg (by decide)]
      obtain ⟨c3, z3⟩ := A3
      obtain rfl : z3 = D :: A.z := e3.zz
      exact ⟨⟨c3, A.z⟩, acc', accV', rest, L1.go (A' := ⟨c3, A.z⟩) e3 rfl m3, hl', hy⟩
  · rintro H ⟨A, acc', accV', rest, L, hl, hy⟩
    rw [List.drop_of_length_le (by omega)] at hl
    have hl : R.ok [] A.ers = R.ok rest M' := hl
    have e1 : rest = [] := by cases hl; rfl
    have e2 : A.ers = M' := by cases hl; rfl
    subst e1
    rw [List.append_nil] at hy
    subst hy
    exact fin A H accV' L e2
/-- both clauses -/
def lcGo2 (tg : TgM) (c : Ev) (it1 : Evs) (tg1 : TgM) (c1 e : Ev) (vs1 : List Nat) (env : Env) : List D → Mem → R (List D)
  | [], M => .ok [] M
  | x :: xs, M => match tg x M env with
    | none => .stuck
    | some env2 => match c env2 M with
      | .ok (.bl true) M2 => match it1 env2 M2 with
        | .ok items1 M3 => match lcGo tg1 c1 e (wipeE env2 vs1) items1 M3 with
          | .ok ys M4 => match lcGo2 tg c it1 tg1 c1 e vs1 env xs M4 with
            | .ok zs M5 => .ok (ys ++ zs) M5
            | _ => .stuck
          | _ => .stuck
        | _ => .stuck
      | .ok (.bl false) M2 => lcGo2 tg c it1 tg1 c1 e vs1 env xs M2
      | _ => .stuck
def mLc2 (it : Evs) (tg : TgM) (c : Ev) (it1 : Evs) (tg1 : TgM) (c1 e : Ev) (vs vs1 : List Nat) : Ev := fun env M => (it env M).bind fun items M1 => match lcGo2 tg c it1 tg1 c1 e vs1 (wipeE env vs) items M1 with
  | .ok ys M2 => match szB ys.length with
    | true => .ok (.node .lst ys) M2
    | false => .stuck
  | _ => .stuck
theorem lcGo2_cons {tg tg1 : TgM} {it1 : Evs} {c c1 e : Ev} {vs1 : List Nat} {env : Env} {x : TB.D} {xs : List TB.D} {M M' : Mem} {ys : List TB.D} (h : lcGo2 tg c it1 tg1 c1 e vs1 env (x :: xs) M = .ok ys M') :
    ∃ env2, tg x M env = some env2 ∧ ((∃ M2 items1 M3 as M4 zs, c env2 M = .ok (.bl true) M2 ∧ it1 env2 M2 = .ok items1 M3 ∧ lcGo tg1 c1 e (wipeE env2 vs1) items1 M3 = .ok as M4 ∧ lcGo2 tg c it1 tg1 c1 e vs1 env xs M4 = .ok zs M' ∧ ys = as ++ zs) ∨ ∃ M2, c env2 M = .ok (.bl false) M2 ∧ lcGo2 tg c it1 tg1 c1 e vs1 env xs M2 = .ok ys M') := by
  unfold lcGo2 at h
  cases ht : tg x M env with
  | none => rw [ht] at h; cases h
  | some env2 =>
    rw [ht] at h
    refine ⟨env2, rfl, ?_⟩
    simp only at h
    split at h
    · rename_i M2 hc
      split at h
      · rename_i items1 M3 hi
        split at h
        · rename_i as M4 hl
          split at h
          · rename_i zs M5 hl2
            cases h
            exact .inl ⟨M2, items1, M3, as, M4, zs, hc, hi, hl, hl2, rfl⟩
          · cases h
        · cases h
      · cases h
    · rename_i M2 hc
      exact .inr ⟨M2, hc, h⟩
    · cases h
/-- what is walked without a lock is walked alike in every context -/
theorem RdI.ctx {X' : Cx} {it : Evs} {σ : L2.St} {H : Hp} {Q : It → Hp → Prop} (hK : X'.K = X.K) (h : RdI X W T false it σ H Q) : RdI X' W T false it σ H Q := by
  obtain ⟨A, env, at0, p⟩ := h
  refine ⟨A, env, by rw [hK]; exact at0, ?_⟩
  cases q : it env A.ers with
  | stuck => rw [q] at p; exact p
  | exc x M => rw [q] at p; intro A' H' cls dd e1 e2 e3 e4; rw [hK] at e3 e4; exact p A' H' cls dd e1 e2 e3 e4
  | ok ds M =>
    rw [q] at p
    intro A' H1 H' J e1 e2 e3 ⟨_, e4⟩ e5
    rw [hK] at e3 e5
    exact p A' H1 H' J e1 e2 e3 ⟨.inl (e4 rfl), e4⟩ e5
theorem lc2_read {it it1 : Evs} {g g1 : TG} {m m1 : TgM} {ts ts1 vs vs1 : List Nat} {mc mc1 me : Ev} {lb : Bool} (tk : TgOk X.K g m ts) (hts : ∀ i ∈ ts, i ∈ vs) (tk1 : TgOk X.K g1 m1 ts1) (hts1 : ∀ i ∈ ts1, i ∈ vs1) {σ : L2.St} {H : Hp} {Q : VK} (h : RdE W T X.K (mLc2 it m mc it1 m1 mc1 me vs vs1) σ H Q) :
    tLc2 (RdI X W T lb it) g (RdT W0 T X.K mc) (RdI X W0 T false it1) g1 (RdT W0 T X.K mc1) (RdE W0 T X.K me) vs vs1 σ H (fun v H' => UL X (Q v) H') := by
  obtain ⟨A, env, at0, p⟩ := h
  refine ⟨A, env, at0, ?_⟩
  unfold mLc2 at p
  cases hit : it env A.ers with
  | stuck => rw [hit] at p; exact p
  | exc x M => rw [hit] at p; exact p
  | ok items M1 =>
    rw [hit] at p
    intro A1 Hb Hl J eM e mb ⟨lk, _⟩ iok D hD
    subst eM
    have p : Po W T X.K A H (match lcGo2 m mc it1 m1 mc1 me vs1 (wipeE env vs) items A1.ers with | .ok ys M2 => (match szB ys.length with | true => .ok (.node .lst ys) M2 | false => .stuck) | _ => .stuck) Q := p
    cases hgo : lcGo2 m mc it1 m1 mc1 me vs1 (wipeE env vs) items A1.ers with
    | stuck => rw [hgo] at p; exact p.elim
    | exc x M => rw [hgo] at p; exact p.elim
    | ok ys M2 =>
      rw [hgo] at p
      simp only at p
      cases hz : szB ys.length with
      | false => rw [hz] at p; exact p.elim
      | true =>
        rw [hz] at p
        simp only at p
        have hzz := szB_le hz
        obtain ⟨n, G, Y, wk, hn, hit2⟩ := iok
        have atb := at0.ext e mb
        have atl : At T X.K A1 Hl env σ := by
          rcases lk with rfl | ⟨a, kvs, o, h1, _, h3, rfl⟩
          · exact atb
          · exact (Same1.mk (fun b nb => upd_ne nb) (.inl h1) (.inr ⟨o, upd_same⟩) : Same1 Hb (upd Hb a (.frz o (.dK kvs))) a kvs).at_ h3 atb
        have eo := (wipe_env atl.env vs).hide (u := .lst []) hD
        let P : Nat → Hp → Prop := fun i H => ∃ A acc accV rest, LcI X.K T A1 Hl A1 (upd Hl D (.lst [])) D A H acc accV ∧ lcGo2 m mc it1 m1 mc1 me vs1 (wipeE env vs) (items.drop i) A.ers = .ok rest M2 ∧ acc ++ rest = ys
        refine ⟨fun i k H => k + i = n ∧ P i H, ⟨n, rfl, A1, [], [], ys, ⟨rfl, Ext.laid hD, atl.mem.hide hD (lst_ok _), (Ext.laid (A := A1) hD).tabs atl.tabs, upd_same, rfl, Ke.refl, fun _ _ h => h⟩, hgo, rfl⟩, ?_⟩
        rintro i k H ⟨hk, A', acc, accV, rest, L, hl, hy⟩
        have hh := hit2 (A'.hide D) H ((Ke.laidD hD).trans L.ke) L.mem
        cases k with
        | zero =>
          obtain rfl : i = n := by omega
          refine .inl ⟨wk.stops H hh.1, ?_⟩
          rw [List.drop_of_length_le (by omega)] at hl
          have hl : R.ok [] A'.ers = R.ok rest M2 := hl
          cases hl
          rw [List.append_nil] at hy
          subst hy
          have m' := L.mem.show
          have np : D ∉ A'.adrs := fun z => by
            have nd := L.mem.nd
            rcases List.mem_append.mp z with z | z
            · unfold AM.adrs at nd
              exact (List.nodup_append.mp nd).2.2 D z D List.mem_cons_self rfl
            · unfold AM.adrs at nd
              exact (List.nodup_cons.mp (List.nodup_append.mp nd).2.1).1 z
          have fin : DP X.K A'.adrs H (.node .lst acc) (.ref D) := ⟨D, accV, rfl, .inl ⟨.lst accV, np, L.at_, rfl⟩, L.acc.keep (fun a w n _ z => n (mem_hide.mpr (.inr z))) (fun _ _ _ h _ => h)⟩
          rcases lk with rfl | ⟨a, kvs, o, h1, hu, h3, rfl⟩
          · exact .inl (p A' H _ rfl (e.trans L.ext) m' fin.dv)
          · have s : Same1 Hb (upd Hb a (.frz o (.dK kvs))) a kvs := ⟨fun b nb => upd_ne nb, .inl h1, .inr ⟨o, upd_same⟩⟩
            have ha : H a = some (.frz o (.dK kvs)) := L.ext.keep' a _ h3 upd_same (by simp)
            have s1 : Same1 H (upd H a (.dK kvs)) a kvs := ⟨fun b nb => upd_ne nb, .inr ⟨o, ha⟩, .inl upd_same⟩
            have n3 : a ∉ A'.adrs := L.ext.notin h3 upd_same
            refine .inr ⟨a, o, .dK kvs, ha, hu, p A' _ _ rfl (e.trans (s.ext L.ext s1 (by rw [upd_same, h1]))) (s1.mem n3 m') (s1.dv fin.dv)⟩
        | succ k =>
          have hi : i < n := by omega
          refine .inr ⟨wk.goes i H hi hh.1, P (i + 1), fun H' p' => ⟨k, Nat.lt_succ_self k, by omega, p'⟩, fun x H' yl => ?_⟩
          obtain ⟨d, hd, hst, e1, mm1, dv⟩ := hh.2 i x H' hi (wk.yields i H x H' hi hh.1 yl)
          rw [drop_get hd] at hl
          obtain ⟨env2, htg, hrest⟩ := lcGo2_cons hl
          have L1 := L.go (A' := A') e1 rfl mm1
          refine tk (A'.hide D) H' _ env2 _ d x _ mm1 (L1.ek _ _ eo) dv htg fun σ2 e2 l2 k2 => ⟨wipe_same hts l2 k2, ?_⟩
          have at2 : At T X.K (A'.hide D) H' env2 σ2 := ⟨mm1, e2, L1.tabs⟩
          rcases hrest with ⟨M3, items1, M4, as, M5, zs, hc, hi1, hlo, hl', rfl⟩ | ⟨M3, hc, hl'⟩
          · refine ⟨A'.hide D, env2, at2, ?_⟩
            show Po W0 T X.K (A'.hide D) H' (mc env2 A'.ers) _
            rw [hc]
            intro A3 H3 v3 eM3 e3 m3 dv3
            subst eM3
            refine ⟨true, dv3, ?_⟩
            dsimp only
            rw [if_pos rfl]
            obtain ⟨c3, z3⟩ := A3
            obtain rfl : z3 = D :: A'.z := e3.zz
            have at3 := at2.ext e3 m3
            refine ⟨_, env2, at3, ?_⟩
            have hi1' : it1 env2 (AM.ers ⟨c3, D :: A'.z⟩) = .ok items1 M4 := hi1
            show PoI X W0 T false _ H3 (it1 env2 (AM.ers ⟨c3, D :: A'.z⟩)) _
            rw [hi1']
            intro A4 H4 H4' J1 eM4 e4 m4 ⟨_, lk4⟩ iok1
            obtain rfl := lk4 rfl
            subst eM4
            obtain ⟨c4, z4⟩ := A4
            obtain rfl : z4 = D :: A'.z := e4.zz
            have L3 := L1.go (A' := ⟨c3, A'.z⟩) e3 rfl m3
            have L4 := L3.go (A' := ⟨c4, A'.z⟩) e4 rfl m4
            refine lc_loop (A2 := ⟨c4, A'.z⟩) tk1 hts1 hD iok1 ⟨L4.zz, L4.ext, L4.mem, L4.tabs, L4.at_, L4.acc, Ke.refl, fun _ _ h => h⟩ (at3.ext e4 m4).env hlo ?_ ?_
            · have h3 := congrArg List.length hy
              simp only [List.length_append] at h3
              omega
            · intro A5 H5 accV5 L5 eA5
              subst eA5
              exact ⟨A5, acc ++ as, accV5, zs, ⟨L5.zz, L5.ext, L5.mem, L5.tabs, L5.at_, L5.acc, L4.ke.trans L5.ke, fun en τ h => L5.ek en τ (L4.ek en τ h)⟩, hl', by rw [← hy]; simp⟩
          · refine ⟨A'.hide D, env2, at2, ?_⟩
            show Po W0 T X.K (A'.hide D) H' (mc env2 A'.ers) _
            rw [hc]
            intro A3 H3 v3 eM3 e3 m3 dv3
            subst eM3
            refine ⟨false, dv3, ?_⟩
            dsimp only
            rw [if_neg (by decide)]
            obtain ⟨c3, z3⟩ := A3
            obtain rfl : z3 = D :: A'.z := e3.zz
            exact ⟨⟨c3, A'.z⟩, acc, accV, rest, L1.go (A' := ⟨c3, A'.z⟩) e3 rfl m3, hl', hy⟩
/-- the list that is made -/
theorem e_lc2 {elt tg iter tg1 iter1 : Expr} {ifs ifs1 : List Expr} {scope : Scope} {own : List (Str × Nat)} {vs1 : List Nat} {pos : Pos} {it it1 : Evs} {g g1 : TG} {m m1 : TgM} {ts ts1 : List Nat} {mc mc1 me : Ev} {lb : Bool} (c : Cok X W T) (hi : PI X tg iter (RdI X W T lb it)) (ok : BlkOk X.N X.env.scope scope own) (hv : ∀ i ∈ vs1, i ∈ own.map (·.2))
    (hg : ∀ (s : Shared) (H : Hp) (C : Addr) (cl : List (Str × Addr)) (fp : List Addr), PG (X.blk s H scope (compEnvC scope cl C X.env) fp) tg g) (tk : TgOk X.K g m ts) (hts : ∀ i ∈ ts, i ∈ own.map (·.2))
    (ht : ∀ (s : Shared) (H : Hp) (C : Addr) (cl : List (Str × Addr)) (fp : List Addr), PTs (X.blk s H scope (compEnvC scope cl C X.env) fp) ifs (RdT W0 T X.K mc))
    (hi1 : ∀ (s : Shared) (H : Hp) (C : Addr) (cl : List (Str × Addr)) (fp : List Addr), PI (X.blk s H scope (compEnvC scope cl C X.env) fp) tg1 iter1 (RdI (X.blk s H scope (compEnvC scope cl C X.env) fp) W0 T false it1))
    (hg1 : ∀ (s : Shared) (H : Hp) (C : Addr) (cl : List (Str × Addr)) (fp : List Addr), PG (X.blk s H scope (compEnvC scope cl C X.env) fp) tg1 g1) (tk1 : TgOk X.K g1 m1 ts1) (hts1 : ∀ i ∈ ts1, i ∈ vs1)
    (ht1 : ∀ (s : Shared) (H : Hp) (C : Addr) (cl : List (Str × Addr)) (fp : List Addr), PTs (X.blk s H scope (compEnvC scope cl C X.env) fp) ifs1 (RdT W0 T X.K mc1))
    (he : ∀ (s : Shared) (H : Hp) (C : Addr) (cl : List (Str × Addr)) (fp : List Addr), PE (X.blk s H scope (compEnvC scope cl C X.env) fp) elt (RdE W0 T X.K me)) (hs : ∀ x, foldedSetIterable iter X.env x = pure x := by intro _; rfl) (hs1 : ∀ env x, foldedSetIterable iter1 env x = pure x := by intro _ _; rfl) :
    PE X (.ListComp elt [⟨tg, iter, ifs, 0⟩, ⟨tg1, iter1, ifs1, 0⟩] scope pos) (RdE W T X.K (mLc2 it m mc it1 m1 mc1 me (own.map (·.2)) vs1)) :=
  (pe_ul (pe_lc2 c.calm c.nd hi ok hv hg ht (fun s H C cl fp => (hi1 s H C cl fp).imp fun _ _ _ h => RdI.ctx (X := X) (X' := X.blk s H scope (compEnvC scope cl C X.env) fp) rfl h) hg1 ht1 he hs hs1)).imp fun σ H Q h => lc2_read tk hts tk1 hts1 h
/-- name = [..] -/
theorem s_setLc2 {i : Nat} {x : Str} {pos pos' : Pos} {e : Expr} {it it1 : Evs} {g g1 : TG} {m m1 : TgM} {ts ts1 vs vs1 : List Nat} {mc mc1 me : Ev} {lb : Bool} (h : PS X (.Assign [.Name x pos'] e pos) (tAsg (tLc2 (RdI X W T lb it) g (RdT W0 T X.K mc) (RdI X W0 T false it1) g1 (RdT W0 T X.K mc1) (RdE W0 T X.K me) vs vs1) (gName i))) (tk : TgOk X.K g m ts) (hts : ∀ i ∈ ts, i ∈ vs) (tk1 : TgOk X.K g1 m1 ts1) (hts1 : ∀ i ∈ ts1, i ∈ vs1) :
    PS X (.Assign [.Name x pos'] e pos) (RdS W T X.K (sAsg (mLc2 it m mc it1 m1 mc1 me vs vs1) (tNm i))) := (ps_ul h).imp fun E σ H q => by
  have r := asg_read (W := W) (T := T) (X := X) (tg_nm (i := i)) q
  exact lc2_read tk hts tk1 hts1 (Q := fun v H' => E.nx (σ.set i (some v)) H') r
end
end TB

set_option Elab.async false
set_option linter.all false
set_option maxRecDepth 100000
set_option maxHeartbeats 4000000
namespace TB
open PySem PySem.Spec PyProof.Rows L2
/-! ### pairs are walked: items(), enumerate, zip -/
def prs : List D → List D → List D
  | x :: xs, y :: ys => .node .tup [x, y] :: prs xs ys
  | _, _ => []
theorem prs_len : ∀ {xs ys : List D} {n : Nat}, xs.length = n → ys.length = n → (prs xs ys).length = n
  | [], [], _, h, _ => h
  | x :: xs, y :: ys, n + 1, h1, h2 => by
    show (prs xs ys).length + 1 = n + 1
    rw [prs_len (n := n) (by simpa using h1) (by simpa using h2)]
  | _ :: _, _ :: _, 0, h, _ => by simp at h
  | [], _ :: _, n, h1, h2 => by subst h1; simp at h2
  | _ :: _, [], n, h1, h2 => by subst h2; simp at h1
theorem prs_get : ∀ {xs ys : List D} {i : Nat} {x y : D}, xs[i]? = some x → ys[i]? = some y → (prs xs ys)[i]? = some (.node .tup [x, y])
  | a :: xs, b :: ys, 0, x, y, h1, h2 => by simp at h1 h2; subst h1; subst h2; rfl
  | a :: xs, b :: ys, i + 1, x, y, h1, h2 => by
    show (prs xs ys)[i]? = _
    exact prs_get (by simpa using h1) (by simpa using h2)
  | [], _, _, _, _, h, _ => by simp at h
  | _ :: _, [], _, _, _, _, h => by simp at h
section
variable {X : Cx} {W : XK} {T : List (Addr × Str)} {lb : Bool}
theorem iter_prs {J : It} {n : Nat} {G : Hp → Prop} {fx fy : Nat → Option V} {xs ys : List D} {A0 : AM} {H0 : Hp} (wk : Walk J n G (YPair fx fy)) (hx : xs.length = n) (hy : ys.length = n) (hG : ∀ A H, Ke A0 H0 A H → G H)
    (h1 : ∀ i v, i < n → fx i = some v → ∃ d, xs[i]? = some d ∧ DP X.K A0.adrs H0 d v) (h2 : ∀ i v, i < n → fy i = some v → ∃ d, ys[i]? = some d ∧ DP X.K A0.adrs H0 d v) : IterOk X.K T J (prs xs ys) A0 H0 := by
  refine ⟨n, G, _, wk, prs_len hx hy, fun A H e m => ⟨hG A H e, fun i v H' hi y => ?_⟩⟩
  obtain ⟨q, x, z, rfl, hq, rfl, ex, ez⟩ := y
  obtain ⟨dx, g1, d1⟩ := h1 i x hi ex
  obtain ⟨dz, g2, d2⟩ := h2 i z hi ez
  have d1 := d1.keep e.n e.k
  have d2 := d2.keep e.n e.k
  exact ⟨_, prs_get g1 g2, rfl, Ext.laid hq, m.laid hq, (DP.laid m hq (u := .tup [x, z]) (t := .tup) (xs := [dx, dz]) (vs := [x, z]) rfl ⟨x, [z], rfl, d1, z, [], rfl, d2, rfl⟩).dv⟩
def itItems (m : Ev) : Evs := fun env M => (m env M).bind fun d M1 => match d with
  | .node (.dK ks) xs => .ok (prs (ks.map keyD) xs) M1
  | _ => .stuck
theorem keyD_dp {K : PySem.W.Frag} {ρ : List Addr} {H : Hp} (k : Key) : DP K ρ H (keyD k) (kV k) := by cases k <;> rfl
theorem iter_items {a : Addr} {o : Obj} {ks : List Key} {xs : List D} {vs : List V} {A0 : AM} {H0 : Hp} (hl : ks.length = vs.length) (ds : DPs X.K A0.adrs H0 xs vs) (h : H0 a = some (.frz o (.dK (ks.zip vs)))) (n : a ∉ A0.adrs) : IterOk X.K T (Iti a o (ks.zip vs)) (prs (ks.map keyD) xs) A0 H0 := by
  refine iter_prs walk_items (by rw [List.length_map, List.length_zip]; omega) (by rw [ds.len, List.length_zip]; omega) (fun A H e => e.k a _ n h (by simp)) (fun i v hi q => ?_) fun i v hi q => ?_
  · cases hk : (ks.zip vs)[i]? with
    | none => rw [hk] at q; cases q
    | some kv =>
      obtain ⟨k, w⟩ := kv
      rw [hk] at q
      cases q
      exact ⟨keyD k, by rw [List.getElem?_map, (zip_get hk).1]; rfl, keyD_dp k⟩
  · cases hk : (ks.zip vs)[i]? with
    | none => rw [hk] at q; cases q
    | some kv =>
      obtain ⟨k, w⟩ := kv
      rw [hk] at q
      cases q
      exact ds.get (zip_get hk).2
theorem i_items {elts : List Expr} {kk : Nat} {tpos apos cpos : Pos} {e : Expr} {ma : Ev} (h : PE X e (RdE W T X.K ma)) (hbase : attributeBase e "items" X.env (eval e X.env) = eval e X.env := by rfl) (hline : (apos.endLine == cpos.line) = true := by rfl) : PI X (.Tuple elts kk tpos) (.Call (.Attribute e "items" apos) [] [] cpos) (RdI X W T true (itItems ma)) :=
  (pi_items (pe_lock h) hbase hline).imp fun σ H Q ⟨A, env, at0, p⟩ => (PoI.step at0 p).mono fun v H1 ⟨A1, d, _, a1, dv, p1⟩ => by
    split at p1
    · rename_i ks xs
      obtain ⟨a, vs, rfl, na, ds⟩ := dv
      rcases na with ⟨u, n, r, i⟩ | k
      · cases u <;> first | exact i.elim | skip
        rename_i kvs
        obtain ⟨rfl, hl⟩ := i
        rcases (show Rd H1 a (.dK (ks.zip vs)) from r) with r | ⟨o, r⟩
        · refine .inr ⟨a, _, rfl, r, fun hu o => ⟨a, o, _, rfl, upd_same, p1 A1 H1 _ _ rfl Ext.refl a1.mem ⟨.inr ⟨a, _, o, r, hu, n, rfl⟩, fun z => by cases z⟩ (iter_items hl ?_ upd_same n)⟩⟩
          have s : Same1 H1 (upd H1 a (.frz o (.dK (ks.zip vs)))) a (ks.zip vs) := ⟨fun b nb => upd_ne nb, .inl r, .inr ⟨o, upd_same⟩⟩
          exact s.dps ds
        · exact .inl ⟨a, o, _, rfl, r, p1 A1 H1 H1 _ rfl Ext.refl a1.mem ⟨.inl rfl, fun _ => rfl⟩ (iter_items hl ds r n)⟩
      · exact k.elim
    · exact p1.elim
def itEnum (ms : Evs) : Evs := fun env M => (ms env M).bind fun ds M1 => match ds with
  | [.node .lst xs] => .ok (prs (upto 0 xs.length) xs) M1
  | _ => .stuck
theorem i_enum {elts : List Expr} {kk : Nat} {tpos p pos : Pos} {e : Expr} {ms : Evs} (hg : Gl X "enumerate") (hm : X.mg "enumerate" = none) (ha : PA X [e] (RdA W T X.K ms)) (hs : starEach [e] X.env = [(false, eval e X.env)] := by rfl) : PI X (.Tuple elts kk tpos) (.Call (.Name "enumerate" p) [e] [] pos) (RdI X W T lb (itEnum ms)) :=
  (pi_enum hg hm ha hs).imp fun σ H Q ⟨A, env, at0, p⟩ => (PoI.steps at0 p).mono fun vs H1 ⟨A1, ds, _, a1, dv, p1⟩ => by
    split at p1
    · rename_i xs
      obtain ⟨v, rfl, dx⟩ := dvl1 dv
      obtain ⟨a, ws, rfl, na, ds⟩ := dx
      refine ⟨a, ws, rfl, (nodeAt_read na).lst, p1 A1 H1 H1 _ rfl Ext.refl a1.mem ⟨.inl rfl, fun _ => rfl⟩ (iter_prs walk_enum (by rw [upto_len]; exact ds.len) ds.len (fun A H e => (nodeAt_read (na.keep e.n e.k)).lst) (fun i v hi q => ?_) fun i v hi q => ds.get q)⟩
      cases q
      refine ⟨_, upto_get xs.length 0 i (by rw [ds.len]; exact hi), ?_⟩
      show _ = _
      congr 1
      omega
    · exact p1.elim
def itZip (ms : Evs) : Evs := fun env M => (ms env M).bind fun ds M1 => match ds with
  | [.node .lst xs, .node .lst ys] => .ok (prs (xs.take (min xs.length ys.length)) (ys.take (min xs.length ys.length))) M1
  | _ => .stuck
theorem i_zip {elts : List Expr} {kk : Nat} {tpos p pos : Pos} {e e2 : Expr} {ms : Evs} (hg : Gl X "zip") (hm : X.mg "zip" = none) (ha : PA X [e, e2] (RdA W T X.K ms)) (hs : starEach [e, e2] X.env = (false, eval e X.env) :: starEach [e2] X.env := by rfl) (hpl : (backTo pos (starEach [e2] X.env)).any (·.1) = false := by rfl) : PI X (.Tuple elts kk tpos) (.Call (.Name "zip" p) [e, e2] [] pos) (RdI X W T lb (itZip ms)) :=
  (pi_zip hg hm ha hs hpl).imp fun σ H Q ⟨A, env, at0, p⟩ => (PoI.steps at0 p).mono fun vs H1 ⟨A1, ds, _, a1, dv, p1⟩ => by
    split at p1
    · rename_i xs ys
      obtain ⟨v, w, rfl, dx, dy⟩ := dvl2 dv
      obtain ⟨a, ws, rfl, na, ds⟩ := dx
      obtain ⟨b, us, rfl, nb, es⟩ := dy
      have l1 := ds.len
      have l2 := es.len
      refine ⟨a, b, ws, us, rfl, (nodeAt_read na).lst, (nodeAt_read nb).lst, p1 A1 H1 H1 _ rfl Ext.refl a1.mem ⟨.inl rfl, fun _ => rfl⟩ (iter_prs (walk_zip rfl) (by rw [List.length_take]; omega) (by rw [List.length_take]; omega) (fun A H e => ⟨(nodeAt_read (na.keep e.n e.k)).lst, (nodeAt_read (nb.keep e.n e.k)).lst⟩) (fun i v hi q => ?_) fun i v hi q => ?_)⟩
      · obtain ⟨d, g, dd⟩ := ds.get q
        exact ⟨d, by rw [List.getElem?_take_of_lt (by omega)]; exact g, dd⟩
      · obtain ⟨d, g, dd⟩ := es.get q
        exact ⟨d, by rw [List.getElem?_take_of_lt (by omega)]; exact g, dd⟩
    · exact p1.elim
end
end TB

set_option Elab.async false
set_option linter.all false
set_option maxRecDepth 100000
set_option maxHeartbeats 4000000
namespace TB
open PySem PySem.Spec PyProof.Rows L2 PySem.W
/-! ### sorting by insertion: what the kernel can compute -/
section
variable {α : Type} (le : α → α → Bool)
def ins1 (x : α) : List α → List α
  | [] => [x]
  | y :: ys => match le x y with
    | true => x :: y :: ys
    | false => y :: ins1 x ys
def isort : List α → List α
  | [] => []
  | x :: xs => ins1 le x (isort xs)
theorem ins1_mem (x z : α) : ∀ l : List α, z ∈ ins1 le x l → z = x ∨ z ∈ l
  | [], h => .inl (by simpa [ins1] using h)
  | y :: ys, h => by
    unfold ins1 at h
    cases q : le x y with
    | true => rw [q] at h; simpa using h
    | false =>
      rw [q] at h
      rcases List.mem_cons.mp h with e | h
      · exact .inr (by rw [e]; exact List.mem_cons_self)
      · rcases ins1_mem x z ys h with e | h
        · exact .inl e
        · exact .inr (List.mem_cons_of_mem _ h)
variable (trans : ∀ a b c : α, le a b = true → le b c = true → le a c = true) (total : ∀ a b : α, (le a b || le b a) = true)
include trans total
theorem ins1_pw (x : α) : ∀ l : List α, l.Pairwise (fun a b => le a b = true) → (ins1 le x l).Pairwise (fun a b => le a b = true)
  | [], _ => by simp [ins1]
  | y :: ys, h => by
    obtain ⟨h1, h2⟩ := List.pairwise_cons.mp h
    unfold ins1
    cases q : le x y with
    | true => exact List.pairwise_cons.mpr ⟨fun z hz => by
        rcases List.mem_cons.mp hz with e | hz
        · rw [e]; exact q
        · exact trans x y z q (h1 z hz), h⟩
    | false => exact List.pairwise_cons.mpr ⟨fun z hz => by
        rcases ins1_mem le x z ys hz with e | hz
        · have t := total x y
          rw [q, Bool.false_or] at t
          rw [e]; exact t
        · exact h1 z hz, ins1_pw x ys h2⟩
theorem isort_pw : ∀ l : List α, (isort le l).Pairwise (fun a b => le a b = true)
  | [] => .nil
  | x :: xs => ins1_pw le trans total x _ (isort_pw xs)
theorem ins1_filter (x z : α) : ∀ l : List α, (ins1 le x l).filter (PySem.W.Srt.alike le z) = (x :: l).filter (PySem.W.Srt.alike le z)
  | [] => rfl
  | y :: ys => by
    unfold ins1
    cases q : le x y with
    | true => rfl
    | false =>
      show (y :: ins1 le x ys).filter _ = _
      rw [List.filter_cons, ins1_filter x z ys]
      cases hx : PySem.W.Srt.alike le z x with
      | false => rw [List.filter_cons (x := x), List.filter_cons (x := x), hx, List.filter_cons (x := y)]; rfl
      | true =>
        have hy : PySem.W.Srt.alike le z y = false := by
          cases hy : PySem.W.Srt.alike le z y with
          | false => rfl
          | true =>
            unfold PySem.W.Srt.alike at hx hy
            rw [Bool.and_eq_true] at hx hy
            have a1 : le x y = true := by
              first
                | exact trans x z y hx.1 hy.2
                | exact trans x z y hx.2 hy.1
                | exact trans x z y hx.1 hy.1
                | exact trans x z y hx.2 hy.2
            rw [q] at a1; cases a1
        rw [List.filter_cons (x := x) (xs := y :: ys), List.filter_cons (x := y), hy, List.filter_cons (x := x), hx]
        rfl
theorem isort_filter (z : α) : ∀ l : List α, (isort le l).filter (PySem.W.Srt.alike le z) = l.filter (PySem.W.Srt.alike le z)
  | [] => rfl
  | x :: xs => by
    show (ins1 le x (isort le xs)).filter _ = _
    rw [ins1_filter le trans total, List.filter_cons, List.filter_cons (xs := xs), isort_filter z xs]
theorem isort_is (l : List α) : l.mergeSort le = isort le l := (PySem.W.Srt.the le trans total (isort_pw le trans total l) fun z => isort_filter le trans total z l).symm
end
/-- sorted(..) of data, computed -/
theorem sort_data (xs : List D) : xs.mergeSort (PySem.W.dataLe false pyD) = isort (PySem.W.dataLe false pyD) xs := by
  have t := PySem.W.sortLe_total (listOrd itemOrd) false (fun b : D => PySem.W.keyToks (pyD b))
  exact isort_is _ (fun a b c => t.trans a b c) (fun a b => by rw [Bool.or_eq_true]; exact t.total a b) xs
/-! ### sorted(d), the keys texts -/
def leS (a b : Str) : Bool := !ltCps b.cps.toList a.cps.toList
theorem leS_eq (a b : Str) : leS a b = decide (a.cps.toList ≤ b.cps.toList) := by
  unfold leS
  rw [PyProof.Rows.ltCps_eq]
  by_cases h : b.cps.toList < a.cps.toList
  · rw [decide_eq_true h, decide_eq_false (by rw [List.not_le]; exact h)]; rfl
  · rw [decide_eq_false h, decide_eq_true (List.not_lt.mp h)]; rfl
theorem leS_trans (a b c : Str) (h1 : leS a b = true) (h2 : leS b c = true) : leS a c = true := by
  rw [leS_eq, decide_eq_true_eq] at *
  exact List.le_trans h1 h2
theorem leS_total (a b : Str) : (leS a b || leS b a) = true := by
  rw [leS_eq, leS_eq, Bool.or_eq_true, decide_eq_true_eq, decide_eq_true_eq]
  exact List.le_total _ _
theorem leS_anti (a b : Str) (h1 : leS a b = true) (h2 : leS b a = true) : a = b := by
  rw [leS_eq, decide_eq_true_eq] at *
  have e := List.le_antisymm h1 h2
  cases a; cases b
  congr 1
  exact Array.toList_inj.mp e
theorem rising_pw : ∀ (l : List Str) (p : Str), risingS p l = true → (p :: l).Pairwise (fun a b => leS a b = true)
  | [], p, _ => by simp
  | x :: r, p, h => by
    have h : (leS p x && risingS x r) = true := h
    rw [Bool.and_eq_true] at h
    have ih := rising_pw r x h.2
    refine List.pairwise_cons.mpr ⟨fun z hz => ?_, ih⟩
    rcases List.mem_cons.mp hz with e | hz
    · rw [e]; exact h.1
    · exact leS_trans p x z h.1 ((List.pairwise_cons.mp ih).1 z hz)
theorem sorted_is {ys ss : List Str} (hp : ys.Perm ss) (hs : sortedS ys = true) : ys = isort leS ss := by
  rw [← isort_is leS leS_trans leS_total]
  refine PySem.W.Srt.the_of_perm leS leS_trans leS_total leS_anti hp ?_
  cases ys with
  | nil => exact .nil
  | cons y r => exact rising_pw r y hs
def strsOf : List Key → Option (List Str)
  | [] => some []
  | .inr x :: r => match strsOf r with
    | some l => some (x :: l)
    | none => none
  | .inl _ :: _ => none
theorem strsOf_is : ∀ {ks : List Key} {ss : List Str}, strsOf ks = some ss → ks = ss.map Sum.inr
  | [], ss, h => by cases h; rfl
  | .inl i :: r, ss, h => by cases h
  | .inr x :: r, ss, h => by
    have h : (match strsOf r with | some l => some (x :: l) | none => none) = some ss := h
    cases q : strsOf r with
    | none => rw [q] at h; cases h
    | some l =>
      rw [q] at h; cases h
      rw [strsOf_is q]; rfl
def gSortedD : OpN := fun ds M => match ds with
  | [.node (.dK ks) _] => match strsOf ks with
    | some ss => match Nat.blt ss.length 64 with
      | true => .ok (.node .lst ((isort leS ss).map D.str)) M
      | false => .stuck
    | none => .stuck
  | _ => .stuck
section
variable {X : Cx} {W : XK} {T : List (Addr × Str)}
theorem strs_dps {K : PySem.W.Frag} {ρ : List Addr} {H : Hp} : ∀ ss : List Str, DPs K ρ H (ss.map D.str) (ss.map V.str)
  | [] => rfl
  | x :: r => ⟨.str x, r.map V.str, rfl, rfl, strs_dps r⟩
theorem call_gSortedD (c : Cok X W T) : CallR X (.builtin "sorted") (RdN W T X.K gSortedD) := by
  rintro pins s σ H vs us Q I r ⟨A, ds, m, _, dv, p⟩
  unfold gSortedD at p
  split at p
  · rename_i ks xs
    obtain ⟨v, rfl, dx⟩ := dvl1 dv
    split at p
    · rename_i ss hs
      split at p
      · rename_i hb
        obtain ⟨a, ws, rfl, na, es⟩ := dx
        obtain ⟨rd, hl⟩ := (nodeAt_read na).dK
        have h64 : ss.length < 64 := Nat.le_of_ble_eq_true hb
        refine call_sortedD c.calm pins s σ H _ us Q I r ⟨a, ks.zip ws, ss, rfl, rd, ?_, h64, fun ys q hp ho hq => ?_⟩
        · rw [List.map_fst_zip (by omega)]
          exact strsOf_is hs
        · obtain rfl := sorted_is hp ho
          exact p.node m hq rfl (strs_dps _)
      · exact p.elim
    · exact p.elim
  · exact p.elim
/-! ### d.get(k), d.get(k, x) -/
def getL (o : Option (Tag × List D)) (k x : D) : Option D := match o with
  | some (.dK ks, xs) => match keyOf k with
    | some j => some ((dget keq ks xs j).getD x)
    | none => none
  | some (.dT ks, xs) => match k with
    | .node .tup js => match keysOf js with
      | some j => some ((dget keqs ks xs j).getD x)
      | none => none
    | _ => none
  | _ => none
theorem dget_none {κ : Type} [DecidableEq κ] {eq : κ → κ → Bool} (he : ∀ a b, eq a b = decide (a = b)) {F : D → V → Prop} : ∀ {ks : List κ} {xs : List D} {vs : List V} {k : κ}, Paired F xs vs → dget eq ks xs k = none → ks.length = vs.length → valV (ks.zip vs) k = none
  | [], _, _, _, _, _, _ => rfl
  | j :: ks, _, _, k, .nil, _, hl => by cases hl
  | j :: ks, x :: xs, v :: vs, k, .cons r t, e, hl => by
    unfold dget at e
    rw [he] at e
    by_cases hk : j = k
    · simp only [hk, decide_true, if_true] at e
      cases e
    · simp only [hk, decide_false, Bool.false_eq_true, if_false] at e
      rw [List.zip_cons_cons, valV_neg hk]
      exact dget_none he t e (by simpa using hl)
theorem getL_at {A : AM} {H : Hp} {d k x r : D} {v y w : V} (m : MemOk X.K A H) (dv : DV X.K A H d v) (dk : DV X.K A H k y) (dx : DV X.K A H x w) (h : getL (look A.ers d) k x = some r) : ∃ a o, v = .ref a ∧ DGet H a y o ∧ DV X.K A H r (o.getD w) := by
  cases hl : look A.ers d with
  | none => rw [hl] at h; cases h
  | some tx =>
    obtain ⟨t, xs⟩ := tx
    rw [hl] at h
    obtain ⟨a, vs, rfl, ra, ds⟩ := look_at m dv hl
    cases t with
    | dK ks =>
      have h : (match keyOf k with | some j => some ((dget keq ks xs j).getD x) | none => none) = some r := h
      cases hj : keyOf k with
      | none => rw [hj] at h; cases h
      | some j =>
        rw [hj] at h
        cases h
        obtain ⟨rd, hn⟩ := ra.dK
        obtain rfl := keyOf_at dk hj
        refine ⟨a, _, rfl, .inl ⟨_, j, rd, rfl, rfl⟩, ?_⟩
        cases g : dget keq ks xs j with
        | none => rw [dget_none keq_eq ds g hn]; exact dx
        | some z =>
          obtain ⟨u, e, du⟩ := dget_dvl keq_eq ds g
          rw [e]; exact du
    | dT ks =>
      cases k with
      | node tk js =>
        cases tk with
        | tup =>
          have h : (match keysOf js with | some j => some ((dget keqs ks xs j).getD x) | none => none) = some r := h
          cases hj : keysOf js with
          | none => rw [hj] at h; cases h
          | some j =>
            rw [hj] at h
            cases h
            obtain ⟨rd, hn⟩ := ra.dT
            obtain ⟨b, ws, rfl, nb, es⟩ := dk
            obtain rfl := keysOf_at es hj
            refine ⟨a, _, rfl, .inr ⟨_, j, b, rd, rfl, (nodeAt_read nb).tupH, rfl⟩, ?_⟩
            cases g : dget keqs ks xs j with
            | none => rw [dget_none keqs_eq ds g hn]; exact dx
            | some z =>
              obtain ⟨u, e, du⟩ := dget_dvl keqs_eq ds g
              rw [e]; exact du
        | _ => cases h
      | _ => cases h
    | _ => cases h
end
end TB

set_option Elab.async false
set_option linter.all false
set_option maxRecDepth 100000
set_option maxHeartbeats 4000000
namespace TB
open PySem PySem.Spec PyProof.Rows L2
/-! ### d.get(k), d.get(k, x) -/
def isDt : Option (Tag × List D) → Bool
  | some (.dK _, _) => true
  | some (.dT _, _) => true
  | _ => false
def mGet1 (mo mk : Ev) : Ev := fun env M => (mo env M).bind fun d M1 => match isDt (look M1 d) with
  | true => (mk env M1).bind fun k M2 => match getL (look M2 d) k .non with
    | some r => .ok r M2
    | none => .stuck
  | false => .stuck
def mGet2 (mo mk mx : Ev) : Ev := fun env M => (mo env M).bind fun d M1 => match isDt (look M1 d) with
  | true => (mk env M1).bind fun k M2 => (mx env M2).bind fun x M3 => match getL (look M3 d) k x with
      | some r => .ok r M3
      | none => .stuck
  | false => .stuck
section
variable {X : Cx} {W : XK} {T : List (Addr × Str)} {o e f : Expr} {apos cpos : Pos} {mo mk mx : Ev}
theorem isDt_at {A : AM} {H : Hp} {d : D} {v : V} (m : MemOk X.K A H) (dv : DV X.K A H d v) (h : isDt (look A.ers d) = true) : ∃ a, v = .ref a ∧ IsD H a := by
  cases hl : look A.ers d with
  | none => rw [hl] at h; cases h
  | some tx =>
    obtain ⟨t, xs⟩ := tx
    rw [hl] at h
    obtain ⟨a, vs, rfl, ra, ds⟩ := look_at m dv hl
    cases t with
    | dK ks => exact ⟨a, rfl, .inl ⟨_, ra.dK.1⟩⟩
    | dT ks => exact ⟨a, rfl, .inr ⟨_, ra.dT.1⟩⟩
    | _ => cases h
theorem e_get1 (c : Cok X W T) (ho : PE X o (RdE W T X.K mo)) (he : PE X e (RdE W T X.K mk)) (m : M1 X o "get" apos e cpos) : PE X (.Call (.Attribute o "get" apos) [e] [] cpos) (RdE W T X.K (mGet1 mo mk)) :=
  (pe_dget1 (by have := c.un; omega) ho he m).imp fun σ H Q ⟨A, env, at0, p⟩ => (Po.step at0 p).mono fun v H1 ⟨A1, d, _, a1, dv, p1⟩ => by
    cases hd : isDt (look A1.ers d) with
    | false => rw [hd] at p1; exact p1.elim
    | true =>
      rw [hd] at p1
      simp only at p1
      obtain ⟨a, rfl, is⟩ := isDt_at a1.mem dv hd
      refine ⟨a, rfl, is, (Po.step a1 p1).mono fun y H2 ⟨A2, k, e2, a2, dk, p2⟩ => ?_⟩
      split at p2
      · rename_i r hr
        obtain ⟨b, ov, e', g, dr⟩ := getL_at a2.mem (dv.ext e2) dk (x := .non) (w := .non) (show V.non = V.non from rfl) hr
        cases e'
        exact ⟨ov, g, p2.fin a2.mem dr⟩
      · exact p2.elim
theorem e_get2 (c : Cok X W T) (ho : PE X o (RdE W T X.K mo)) (he : PE X e (RdE W T X.K mk)) (hf : PE X f (RdE W T X.K mx)) (m : M2 X o "get" apos e f cpos) : PE X (.Call (.Attribute o "get" apos) [e, f] [] cpos) (RdE W T X.K (mGet2 mo mk mx)) :=
  (pe_dget2 (by have := c.un; omega) ho he hf m).imp fun σ H Q ⟨A, env, at0, p⟩ => (Po.step at0 p).mono fun v H1 ⟨A1, d, _, a1, dv, p1⟩ => by
    cases hd : isDt (look A1.ers d) with
    | false => rw [hd] at p1; exact p1.elim
    | true =>
      rw [hd] at p1
      simp only at p1
      obtain ⟨a, rfl, is⟩ := isDt_at a1.mem dv hd
      refine ⟨a, rfl, is, (Po.step a1 p1).mono fun y H2 ⟨A2, k, e2, a2, dk, p2⟩ => ?_⟩
      refine (Po.step a2 p2).mono fun z H3 ⟨A3, x, e3, a3, dx, p3⟩ => ?_
      split at p3
      · rename_i r hr
        obtain ⟨b, ov, e', g, dr⟩ := getL_at a3.mem ((dv.ext e2).ext e3) (dk.ext e3) dx hr
        cases e'
        exact ⟨ov, g, p3.fin a3.mem dr⟩
      · exact p3.elim
end
end TB

set_option Elab.async false
set_option linter.all false
set_option maxRecDepth 100000
set_option maxHeartbeats 4000000
namespace TB
open PySem PySem.Spec PyProof.Rows L2
/-! ### xs.index(y) of a list of data; dict(pairs) -/
def fidx (d : PyData) : List PyData → Option Nat
  | [] => none
  | z :: r => match PyData.eqv z d with
    | true => some 0
    | false => match fidx d r with
      | some k => some (k + 1)
      | none => none
theorem fidx_at {d : PyData} : ∀ {l : List PyData} {j : Nat}, fidx d l = some j → (∃ z, l[j]? = some z ∧ PyData.eqv z d = true) ∧ ∀ (m : Nat) (z' : PyData), m < j → l[m]? = some z' → PyData.eqv z' d = false
  | [], _, h => by cases h
  | z :: r, j, h => by
    have h : (match PyData.eqv z d with | true => some 0 | false => (match fidx d r with | some k => some (k + 1) | none => none)) = some j := h
    cases q : PyData.eqv z d with
    | true =>
      rw [q] at h
      cases h
      exact ⟨⟨z, rfl, q⟩, fun m z' hm => by omega⟩
    | false =>
      rw [q] at h
      simp only at h
      cases g : fidx d r with
      | none => rw [g] at h; cases h
      | some k =>
        rw [g] at h
        cases h
        obtain ⟨⟨y, h1, h2⟩, h3⟩ := fidx_at g
        refine ⟨⟨y, by simpa using h1, h2⟩, fun m z' hm hz => ?_⟩
        cases m with
        | zero =>
          simp at hz
          rw [← hz]; exact q
        | succ m => exact h3 m z' (by omega) (by simpa using hz)
def lstB : D → Bool
  | .node .lst xs => flBs xs && SeqAt.shaped (.list (pyDs xs))
  | _ => false
def mIdx (mo : Ev) (ms : Evs) : Ev := fun env M => (mo env M).bind fun d M1 => match lstB d with
  | true => (ms env M1).bind fun ks M2 => match d, ks with
    | .node .lst xs, [y] => match flB y && SeqAt.shaped (pyD y) with
      | true => match fidx (pyD y) (pyDs xs) with
        | some j => .ok (.int (j : Nat)) M2
        | none => .stuck
      | false => .stuck
    | _, _ => .stuck
  | false => .stuck
section
variable {X : Cx} {W : XK} {T : List (Addr × Str)} {o e : Expr} {apos cpos : Pos} {mo : Ev} {ms : Evs}
theorem e_index (c : Cok X W T) (ho : PE X o (RdE W T X.K mo)) (ha : PA X [e] (RdA W T X.K ms)) (hbase : attributeBase o "index" X.env (eval o X.env) = eval o X.env := by rfl) (hline : (apos.endLine == cpos.line) = true := by rfl)
    (hfew : ((backTo cpos (starEach [e] X.env)).all (fun x => !x.1) && (backToKw cpos (keywordEach [] X.env)).all (fun x => x.1.isSome) && decide (([e] : List Expr).length + ([] : List Keyword).length + (if ([] : List Keyword).isEmpty then 0 else 1) < 30)) = true := by rfl)
    (hs : starEach [e] X.env = (false, eval e X.env) :: starEach [] X.env := by rfl) : PE X (.Call (.Attribute o "index" apos) [e] [] cpos) (RdE W T X.K (mIdx mo ms)) :=
  (pe_bm PySem.F.plainAttrs_list PySem.F.slot_list_index PySem.F.type_list_index (mt_indexD (by have := c.un; omega)) ho ha hbase hfew hline hs rfl).imp fun σ H Q ⟨A, env, at0, p⟩ => (Po.step at0 p).mono fun v H1 ⟨A1, d, _, a1, dv, p1⟩ => by
    cases hd : lstB d with
    | false => rw [hd] at p1; exact p1.elim
    | true =>
      rw [hd] at p1
      simp only at p1
      have hd0 := hd
      unfold lstB at hd
      split at hd
      · rename_i xs
        rw [Bool.and_eq_true] at hd
        have dn : DP X.K A1.adrs H1 (.node .lst xs) v := dv
        obtain ⟨a, vs, rfl, na, ds⟩ := dn
        refine ⟨.inl ⟨rfl, vs, (nodeAt_read na).lst⟩, (Po.steps a1 p1).mono fun ys H2 ⟨A2, ks, e2, a2, dk, p2⟩ => ?_⟩
        split at p2
        · rename_i xs' y hx
          cases hx
          cases hc : (flB y && SeqAt.shaped (pyD y)) with
          | false => rw [hc] at p2; exact p2.elim
          | true =>
            rw [hc] at p2
            simp only at p2
            rw [Bool.and_eq_true] at hc
            split at p2
            · rename_i j hj
              obtain ⟨w, rfl, dy⟩ := dvl1 dk
              have dl : DV X.K A2 H2 (.node .lst xs) (.ref a) := dv.ext e2
              obtain ⟨⟨z, h1, h2⟩, h3⟩ := fidx_at hj
              have dl' : DP X.K A2.adrs H2 (.node .lst xs) (.ref a) := dl
              have dy' : DP X.K A2.adrs H2 y w := dy.dp (still_n (flB_still hc.1))
              exact ⟨a, w, pyD y, pyDs xs, j, z, rfl, rfl, flB_dp (d := .node .lst xs) dl'.rp hd.1, flB_dp dy'.rp hc.1, hd.2, hc.2, h1, h2, h3, p2.fin a2.mem rfl⟩
            · exact p2.elim
        · exact p2.elim
      · cases hd
end
end TB

set_option Elab.async false
set_option linter.all false
set_option maxRecDepth 100000
set_option maxHeartbeats 4000000
namespace TB
open PySem PySem.Spec PyProof.Rows L2
/-- arguments of what changes a cell raise nothing -/
theorem Cok.w0 {X : Cx} {W : XK} {T : List (Addr × Str)} (c : Cok X W T) : Cok X W0 T := ⟨c.calm, c.nd, c.un, c.gd, LamX.takes0⟩
/-- the second source is read alike within the block -/
theorem i_ctx {X : Cx} {T : List (Addr × Str)} {scope : Scope} {tg1 iter1 : Expr} {it1 : Evs} (h : ∀ (s : Shared) (H : Hp) (C : Addr) (cl : List (Str × Addr)) (fp : List Addr), PI (X.blk s H scope (compEnvC scope cl C X.env) fp) tg1 iter1 (RdI (X.blk s H scope (compEnvC scope cl C X.env) fp) W0 T false it1)) (s : Shared) (H : Hp) (C : Addr) (cl : List (Str × Addr)) (fp : List Addr) : PI (X.blk s H scope (compEnvC scope cl C X.env) fp) tg1 iter1 (RdI X W0 T false it1) :=
  (h s H C cl fp).imp fun _ _ _ q => RdI.ctx (X := X) (X' := X.blk s H scope (compEnvC scope cl C X.env) fp) rfl q
end TB

set_option Elab.async false
set_option linter.all false
set_option maxRecDepth 100000
set_option maxHeartbeats 4000000
namespace TB
open PySem PySem.Spec PyProof.Rows L2
/-! ### dict comprehensions, keys ints or texts -/
def repD : List Key → List D → Key → D → List D
  | j :: ks, x :: xs, k, y => (match keq j k with | true => y | false => x) :: repD ks xs k y
  | _, xs, _, _ => xs
def putD (ks : List Key) (xs : List D) (k : Key) (y : D) : List Key × List D := match ks.any fun j => keq j k with
  | true => (ks, repD ks xs k y)
  | false => (ks ++ [k], xs ++ [y])
section
variable {K : PySem.W.Frag} {T : List (Addr × Str)} {H : Hp} {ρ : List Addr}
theorem repD_at {k : Key} {y : D} {w : V} (dw : DP K ρ H y w) : ∀ {ks : List Key} {xs : List D} {vs : List V}, ks.length = vs.length → DPs K ρ H xs vs →
    ∃ vs', DPs K ρ H (repD ks xs k y) vs' ∧ (ks.zip vs).map (fun kv => if kv.1 = k then (kv.1, w) else kv) = ks.zip vs' ∧ ks.length = vs'.length
  | [], xs, vs, hl, h => by
    cases vs with
    | cons v vs => cases hl
    | nil => exact ⟨[], by cases xs <;> exact h, rfl, rfl⟩
  | j :: ks, [], vs, hl, h => by cases (show vs = [] from h); cases hl
  | j :: ks, x :: xs, vs, hl, h => by
    obtain ⟨v, r, rfl, dx, ds⟩ := h
    obtain ⟨r', h1, h2, h3⟩ := repD_at dw (ks := ks) (by simpa using hl) ds
    unfold repD
    rw [keq_eq]
    by_cases q : j = k
    · rw [decide_eq_true q]
      refine ⟨w :: r', ⟨w, r', rfl, dw, h1⟩, ?_, by simp [h3]⟩
      show (if j = k then (j, w) else (j, v)) :: (ks.zip r).map (fun kv => if kv.1 = k then (kv.1, w) else kv) = (j, w) :: ks.zip r'
      rw [if_pos q, h2]
    · rw [decide_eq_false q]
      refine ⟨v :: r', ⟨v, r', rfl, dx, h1⟩, ?_, by simp [h3]⟩
      show (if j = k then (j, w) else (j, v)) :: (ks.zip r).map (fun kv => if kv.1 = k then (kv.1, w) else kv) = (j, v) :: ks.zip r'
      rw [if_neg q, h2]
theorem putD_at {k : Key} {y : D} {w : V} (dw : DP K ρ H y w) {ks : List Key} {xs : List D} {vs : List V} (hl : ks.length = vs.length) (ds : DPs K ρ H xs vs) :
    ∃ vs', DPs K ρ H (putD ks xs k y).2 vs' ∧ putK (ks.zip vs) k w = (putD ks xs k y).1.zip vs' ∧ (putD ks xs k y).1.length = vs'.length := by
  unfold putD putK
  rw [zip_any keq_eq hl]
  cases q : ks.any fun j => keq j k with
  | true =>
    obtain ⟨vs', h1, h2, h3⟩ := repD_at dw (k := k) hl ds
    exact ⟨vs', h1, by rw [if_pos rfl]; exact h2, h3⟩
  | false =>
    refine ⟨vs ++ [w], ds.app ⟨w, [], rfl, dw, rfl⟩, ?_, by simp [hl]⟩
    rw [if_neg (by simp), List.zip_append hl]
    rfl
end
def dcGo (tg : TgM) (c k e : Ev) (env : Env) : List D → List Key → List D → Mem → R (List Key × List D)
  | [], ks, xs, M => .ok (ks, xs) M
  | x :: r, ks, xs, M => match tg x M env with
    | none => .stuck
    | some env2 => match c env2 M with
      | .ok (.bl true) M2 => match k env2 M2 with
        | .ok kd M3 => match keyOf kd with
          | some j => match e env2 M3 with
            | .ok y M4 => match still y && Nat.blt ks.length 1000000 with
              | true => dcGo tg c k e env r (putD ks xs j y).1 (putD ks xs j y).2 M4
              | false => .stuck
            | _ => .stuck
          | none => .stuck
        | _ => .stuck
      | .ok (.bl false) M2 => dcGo tg c k e env r ks xs M2
      | _ => .stuck
def mDc (it : Evs) (tg : TgM) (c k e : Ev) (vs : List Nat) : Ev := fun env M => (it env M).bind fun items M1 => match dcGo tg c k e (wipeE env vs) items [] [] M1 with
  | .ok (ks, xs) M2 => .ok (.node (.dK ks) xs) M2
  | _ => .stuck
theorem dcGo_cons {tg : TgM} {c k e : Ev} {env : Env} {x : D} {r : List D} {ks : List Key} {xs : List D} {M M' : Mem} {out : List Key × List D} (h : dcGo tg c k e env (x :: r) ks xs M = .ok out M') :
    ∃ env2, tg x M env = some env2 ∧ ((∃ M2 kd M3 j y M4, c env2 M = .ok (.bl true) M2 ∧ k env2 M2 = .ok kd M3 ∧ keyOf kd = some j ∧ e env2 M3 = .ok y M4 ∧ still y = true ∧ Nat.blt ks.length 1000000 = true ∧ dcGo tg c k e env r (putD ks xs j y).1 (putD ks xs j y).2 M4 = .ok out M') ∨ ∃ M2, c env2 M = .ok (.bl false) M2 ∧ dcGo tg c k e env r ks xs M2 = .ok out M') := by
  unfold dcGo at h
  cases ht : tg x M env with
  | none => rw [ht] at h; cases h
  | some env2 =>
    rw [ht] at h
    refine ⟨env2, rfl, ?_⟩
    simp only at h
    split at h
    · rename_i M2 hc
      split at h
      · rename_i kd M3 hk
        split at h
        · rename_i j hj
          split at h
          · rename_i y M4 he
            split at h
            · rename_i hs
              rw [Bool.and_eq_true] at hs
              exact .inl ⟨M2, kd, M3, j, y, M4, hc, hk, hj, he, hs.1, hs.2, h⟩
            · cases h
          · cases h
        · cases h
      · cases h
    · rename_i M2 hc
      exact .inr ⟨M2, hc, h⟩
    · cases h
section
variable {X : Cx} {W : XK} {T : List (Addr × Str)} {K : PySem.W.Frag}
/-- the dict at D is being made -/
structure DcI (K : PySem.W.Frag) (T : List (Addr × Str)) (A1 : AM) (H1 : Hp) (D : Addr) (A : AM) (H : Hp) (ks : List Key) (acc : List TB.D) (accV : List V) : Prop where
  zz : A.z = A1.z
  ext : Ext T A1 H1 A H
  mem : MemOk K (A.hide D) H
  tabs : LamX.Tabs T H
  hl : ks.length = accV.length
  at_ : H D = some (.dK (ks.zip accV))
  acc : DPs K (A.hide D).adrs H acc accV
  ke : Ke (A1.hide D) (upd H1 D (.dK [])) (A.hide D) H
  ek : ∀ env σ, EnvOk K (A1.hide D) (upd H1 D (.dK [])) env σ → EnvOk K (A.hide D) H env σ
theorem DcI.go {A1 A A' : AM} {H1 H H' : Hp} {D : Addr} {ks : List Key} {acc : List TB.D} {accV : List V} (L : DcI K T A1 H1 D A H ks acc accV) (e : Ext T (A.hide D) H (A'.hide D) H') (z : A'.z = A.z) (m : MemOk K (A'.hide D) H') : DcI K T A1 H1 D A' H' ks acc accV := by
  have nd := L.mem.nd
  unfold AM.adrs at nd
  have nD : D ∉ (A.hide D).adr := fun q => (List.nodup_append.mp nd).2.2 D q D List.mem_cons_self rfl
  refine ⟨z.trans L.zz, ?_, m, e.tabs L.tabs, L.hl, e.keep D _ nD L.at_ (by simp), L.acc.ext e, L.ke.trans e.keH, fun env σ h => (L.ek env σ h).ext e⟩
  have := e.unz A.z
  refine L.ext.trans ?_
  obtain ⟨c', z'⟩ := A'
  obtain rfl : z' = A.z := z
  exact this
theorem DcI.put {A1 A : AM} {H1 H : Hp} {D : Addr} {ks : List Key} {acc : List TB.D} {accV : List V} {j : Key} {y : TB.D} {v : V} (L : DcI K T A1 H1 D A H ks acc accV) (hD : H1 D = none) (dy : DP K (A.hide D).adrs H y v) :
    ∃ accV', DcI K T A1 H1 D A (upd H D (.dK (putK (ks.zip accV) j v))) (putD ks acc j y).1 (putD ks acc j y).2 accV' := by
  have mD : D ∈ (A.hide D).adrs := List.mem_append_right _ List.mem_cons_self
  obtain ⟨vs', h1, h2, h3⟩ := putD_at dy (k := j) L.hl L.acc
  exact ⟨vs', L.zz, Ext.over (w := .dK (ks.zip accV)) L.ext hD L.at_ (dK_ok _).2, L.mem.over List.mem_cons_self (dK_ok _), Tabs.over L.at_ (dK_ok _).2 L.tabs, h3, by rw [upd_same, h2], DPs.over mD h1, L.ke.trans (Ke.overD L.at_), fun env σ h => (L.ek env σ h).over mD⟩
theorem dc_read {it : Evs} {g : TG} {m : TgM} {ts vs : List Nat} {mc mk me : Ev} {lb : Bool} (tk : TgOk X.K g m ts) (hts : ∀ i ∈ ts, i ∈ vs) {σ : L2.St} {H : Hp} {Q : VK} (h : RdE W T X.K (mDc it m mc mk me vs) σ H Q) :
    tDc (RdI X W T lb it) g (RdT W0 T X.K mc) (RdE W0 T X.K mk) (RdE W0 T X.K me) vs σ H (fun v H' => UL X (Q v) H') := by
  obtain ⟨A, env, at0, p⟩ := h
  refine ⟨A, env, at0, ?_⟩
  unfold mDc at p
  cases hit : it env A.ers with
  | stuck => rw [hit] at p; exact p
  | exc x M => rw [hit] at p; exact p
  | ok items M1 =>
    rw [hit] at p
    intro A1 Hb Hl J eM e mb ⟨lk, _⟩ iok D hD
    subst eM
    have p : Po W T X.K A H (match dcGo m mc mk me (wipeE env vs) items [] [] A1.ers with | .ok (ks, xs) M2 => .ok (.node (.dK ks) xs) M2 | _ => .stuck) Q := p
    cases hgo : dcGo m mc mk me (wipeE env vs) items [] [] A1.ers with
    | stuck => rw [hgo] at p; exact p.elim
    | exc x M => rw [hgo] at p; exact p.elim
    | ok out M2 =>
      obtain ⟨oks, oxs⟩ := out
      rw [hgo] at p
      simp only at p
      obtain ⟨n, G, Y, wk, hn, hit2⟩ := iok
      have atb := at0.ext e mb
      have atl : At T X.K A1 Hl env σ := by
        rcases lk with rfl | ⟨a, kvs, o, h1, _, h3, rfl⟩
        · exact atb
        · exact (Same1.mk (fun b nb => upd_ne nb) (.inl h1) (.inr ⟨o, upd_same⟩) : Same1 Hb (upd Hb a (.frz o (.dK kvs))) a kvs).at_ h3 atb
      have eo := (wipe_env atl.env vs).hide (u := .dK []) hD
      let P : Nat → Hp → Prop := fun i H => ∃ A ks acc accV, DcI X.K T A1 Hl D A H ks acc accV ∧ dcGo m mc mk me (wipeE env vs) (items.drop i) ks acc A.ers = .ok (oks, oxs) M2
      refine ⟨fun i k H => k + i = n ∧ P i H, ⟨n, rfl, A1, [], [], [], ⟨rfl, Ext.laid hD, atl.mem.hide hD (dK_ok _), (Ext.laid (A := A1) hD).tabs atl.tabs, rfl, upd_same, rfl, Ke.refl, fun _ _ h => h⟩, hgo⟩, ?_⟩
      rintro i k H ⟨hk, A', ks, acc, accV, L, hl⟩
      have hh := hit2 (A'.hide D) H ((Ke.laidD hD).trans L.ke) L.mem
      cases k with
      | zero =>
        obtain rfl : i = n := by omega
        refine .inl ⟨wk.stops H hh.1, ?_⟩
        rw [List.drop_of_length_le (by omega)] at hl
        have hl : R.ok (ks, acc) A'.ers = R.ok (oks, oxs) M2 := hl
        cases hl
        have m' := L.mem.show
        have np : D ∉ A'.adrs := fun z => by
          have nd := L.mem.nd
          rcases List.mem_append.mp z with z | z
          · unfold AM.adrs at nd
            exact (List.nodup_append.mp nd).2.2 D z D List.mem_cons_self rfl
          · unfold AM.adrs at nd
            exact (List.nodup_cons.mp (List.nodup_append.mp nd).2.1).1 z
        have fin : DP X.K A'.adrs H (.node (.dK oks) oxs) (.ref D) := ⟨D, accV, rfl, .inl ⟨.dK (oks.zip accV), np, .inl L.at_, rfl, L.hl⟩, L.acc.keep (fun a w n _ z => n (mem_hide.mpr (.inr z))) (fun _ _ _ h _ => h)⟩
        rcases lk with rfl | ⟨a, kvs, o, h1, hu, h3, rfl⟩
        · exact .inl (p A' H _ rfl (e.trans L.ext) m' fin.dv)
        · have s : Same1 Hb (upd Hb a (.frz o (.dK kvs))) a kvs := ⟨fun b nb => upd_ne nb, .inl h1, .inr ⟨o, upd_same⟩⟩
          have ha : H a = some (.frz o (.dK kvs)) := L.ext.keep' a _ h3 upd_same (by simp)
          have s1 : Same1 H (upd H a (.dK kvs)) a kvs := ⟨fun b nb => upd_ne nb, .inr ⟨o, ha⟩, .inl upd_same⟩
          have n3 : a ∉ A'.adrs := L.ext.notin h3 upd_same
          refine .inr ⟨a, o, .dK kvs, ha, hu, p A' _ _ rfl (e.trans (s.ext L.ext s1 (by rw [upd_same, h1]))) (s1.mem n3 m') (s1.dv fin.dv)⟩
      | succ k =>
        have hi : i < n := by omega
        refine .inr ⟨wk.goes i H hi hh.1, P (i + 1), fun H' p' => ⟨k, Nat.lt_succ_self k, by omega, p'⟩, fun x H' yl => ?_⟩
        obtain ⟨d, hd, hst, e1, mm1, dv⟩ := hh.2 i x H' hi (wk.yields i H x H' hi hh.1 yl)
        rw [drop_get hd] at hl
        obtain ⟨env2, htg, hrest⟩ := dcGo_cons hl
        have L1 := L.go (A' := A') e1 rfl mm1
        refine tk (A'.hide D) H' _ env2 _ d x _ mm1 (L1.ek _ _ eo) dv htg fun σ2 e2 l2 k2 => ⟨wipe_same hts l2 k2, ?_⟩
        have at2 : At T X.K (A'.hide D) H' env2 σ2 := ⟨mm1, e2, L1.tabs⟩
        rcases hrest with ⟨M3, kd, M4, j, y, M5, hc, hkk, hj, hev, hsy, hzz, hl'⟩ | ⟨M3, hc, hl'⟩
        · refine ⟨A'.hide D, env2, at2, ?_⟩
          show Po W0 T X.K (A'.hide D) H' (mc env2 A'.ers) _
          rw [hc]
          intro A3 H3 v3 eM3 e3 m3 dv3
          subst eM3
          refine ⟨true, dv3, ?_⟩
          dsimp only
          rw [if_pos rfl]
          obtain ⟨c3, z3⟩ := A3
          obtain rfl : z3 = D :: A'.z := e3.zz
          have at3 := at2.ext e3 m3
          have L3 := L1.go (A' := ⟨c3, A'.z⟩) e3 rfl m3
          refine ⟨_, env2, at3, ?_⟩
          have hk' : mk env2 (AM.ers ⟨c3, D :: A'.z⟩) = .ok kd M4 := hkk
          show Po W0 T X.K _ H3 (mk env2 (AM.ers ⟨c3, D :: A'.z⟩)) _
          rw [hk']
          intro A4 H4 v4 eM4 e4 m4 dv4
          subst eM4
          obtain ⟨c4, z4⟩ := A4
          obtain rfl : z4 = D :: A'.z := e4.zz
          have at4 := at3.ext e4 m4
          have L4 := L3.go (A' := ⟨c4, A'.z⟩) e4 rfl m4
          refine ⟨_, env2, at4, ?_⟩
          have he' : me env2 (AM.ers ⟨c4, D :: A'.z⟩) = .ok y M5 := hev
          show Po W0 T X.K _ H4 (me env2 (AM.ers ⟨c4, D :: A'.z⟩)) _
          rw [he']
          intro A5 H5 v5 eM5 e5 m5 dv5
          subst eM5
          obtain ⟨c5, z5⟩ := A5
          obtain rfl : z5 = D :: A'.z := e5.zz
          have L5 := L4.go (A' := ⟨c5, A'.z⟩) e5 rfl m5
          obtain ⟨accV', L6⟩ := L5.put (j := j) hD (dv5.dp (still_n hsy))
          exact ⟨ks.zip accV, j, keyOf_at dv4 hj, L5.at_, by rw [List.length_zip, ← L.hl, Nat.min_self]; exact blt_sz hzz, ⟨c5, A'.z⟩, _, _, accV', L6, hl'⟩
        · refine ⟨A'.hide D, env2, at2, ?_⟩
          show Po W0 T X.K (A'.hide D) H' (mc env2 A'.ers) _
          rw [hc]
          intro A3 H3 v3 eM3 e3 m3 dv3
          subst eM3
          refine ⟨false, dv3, ?_⟩
          dsimp only
          rw [if_neg (by decide)]
          obtain ⟨c3, z3⟩ := A3
          obtain rfl : z3 = D :: A'.z := e3.zz
          exact ⟨⟨c3, A'.z⟩, ks, acc, accV, L1.go (A' := ⟨c3, A'.z⟩) e3 rfl m3, hl'⟩
/-- the dict that is made -/
theorem e_dc {kx vx tg iter : Expr} {ifs : List Expr} {scope : Scope} {own : List (Str × Nat)} {pos : Pos} {it : Evs} {g : TG} {m : TgM} {ts : List Nat} {mc mk me : Ev} {lb : Bool} (c : Cok X W T) (hi : PI X tg iter (RdI X W T lb it)) (ok : BlkOk X.N X.env.scope scope own)
    (hg : ∀ (s : Shared) (H : Hp) (C : Addr) (cl : List (Str × Addr)) (fp : List Addr), PG (X.blk s H scope (compEnvC scope cl C X.env) fp) tg g) (tk : TgOk X.K g m ts) (hts : ∀ i ∈ ts, i ∈ own.map (·.2))
    (ht : ∀ (s : Shared) (H : Hp) (C : Addr) (cl : List (Str × Addr)) (fp : List Addr), PTs (X.blk s H scope (compEnvC scope cl C X.env) fp) ifs (RdT W0 T X.K mc))
    (hk : ∀ (s : Shared) (H : Hp) (C : Addr) (cl : List (Str × Addr)) (fp : List Addr), PE (X.blk s H scope (compEnvC scope cl C X.env) fp) kx (RdE W0 T X.K mk))
    (he : ∀ (s : Shared) (H : Hp) (C : Addr) (cl : List (Str × Addr)) (fp : List Addr), PE (X.blk s H scope (compEnvC scope cl C X.env) fp) vx (RdE W0 T X.K me)) (hs : ∀ x, foldedSetIterable iter X.env x = pure x := by intro _; rfl) :
    PE X (.DictComp kx vx [⟨tg, iter, ifs, 0⟩] scope pos) (RdE W T X.K (mDc it m mc mk me (own.map (·.2)))) :=
  (pe_ul (pe_dc c.calm c.nd hi ok hg ht hk he hs)).imp fun σ H Q h => dc_read tk hts h
end
end TB

set_option Elab.async false
set_option linter.all false
set_option maxRecDepth 100000
set_option maxHeartbeats 4000000
namespace TB
open PySem PySem.Spec PyProof.Rows L2
def mNeg (m : Ev) : Ev := fun env M => (m env M).bind fun d M1 => match d with
  | .int i => .ok (.int (-i)) M1
  | _ => .stuck
section
variable {X : Cx} {W : XK} {T : List (Addr × Str)} {e : Expr} {pos : Pos} {ma : Ev}
theorem e_neg (h : PE X e (RdE W T X.K ma)) : PE X (.UnaryOp .USub e pos) (RdE W T X.K (mNeg ma)) := (pe_un un_neg h).imp fun σ H Q ⟨A, env, at0, p⟩ =>
  (Po.step at0 p).mono fun v H1 ⟨A1, d, _, a1, dv, p1⟩ => by
    split at p1
    · rename_i i
      exact ⟨i, dv, p1.fin a1.mem rfl⟩
    · exact p1.elim
/-! ### xs.count(y) of a list of data -/
def rCntD (K : PySem.W.Frag) : V → List V → Hp → VK → Prop := fun x xs H Q => ∃ (l : Addr) (y : V) (c : PyData) (cs : List PyData), x = V.ref l ∧ xs = [y] ∧ Dp K H (V.ref l) (.list cs) ∧ Dp K H y c ∧ SeqAt.shaped (.list cs) = true ∧ SeqAt.shaped c = true ∧ Q (.int ((cs.countP fun z => PyData.eqv z c : Nat) : Int)) H
theorem mt_countD (un : X.A.units + 65 < cLine) : MtR X "list.count" (rCntD X.K) := by
  rintro pn sh st Hh a0 as0 va vas Q0 Inv0 ra ras ⟨l, y, c, cs, rfl, rfl, gl, gy, sl, sc, goal⟩
  cases ra
  cases ras with
  | cons r1 rs1 =>
    rename_i uy ut
    cases rs1
    obtain ⟨bz, ry⟩ := Dp.reads Inv0 c y uy gy r1
    have lay := SeqAt.canLay_of_shaped sl
    have big : X.A.units + 1 + min (PyData.depthAll cs) c.depth < cLine := room_in_shaped sc un
    cases gl with
    | lst hq hall =>
      obtain ⟨its, vv, ⟨⟨cl0, dd0, dat0, sl0⟩, n0, o1, o2, o3, o4⟩, len0⟩ := Inv0.list hq
      simp only at o2 o4
      subst o2 o4
      obtain ⟨az, rd0⟩ := Dp.readsAll Inv0 cs _ its hall vv
      have back : its.map (SeqAt.readOf sh.heap) = cs := SeqAt.readsAll_map cs its az lay rd0
      refine call_meets PySem.F.slot_list_count ⟨_, o1, rfl⟩ PySem.F.entry_list_count (PySem.F.args_list_count_2 _ _)
        (SeqAt.list_countAt l its.toArray n0 dd0 sl0 uy (fun q => PyData.eqv (SeqAt.readOf sh.heap q) c)) ⟨o1, SeqAt.items_eqAt (vs := its.toArray) (show ReadsAll sh.heap its.toArray.toList cs az from rd0) ry lay (SeqAt.canLay_of_shaped sc) big, ?_⟩
      have same : its.toArray.toList.countP (fun q => PyData.eqv (SeqAt.readOf sh.heap q) c) = cs.countP fun z => PyData.eqv z c := by
        rw [← back, List.countP_map]; rfl
      refine ⟨.int ((cs.countP fun z => PyData.eqv z c : Nat) : Int), Hh, Inv0.tok _, ⟨sh.toks, ?_⟩, goal⟩
      show Value.int ((its.toArray.toList.countP _ : Nat) : Int) sh.toks = Value.int _ sh.toks
      rw [same]
end
def mCnt (mo : Ev) (ms : Evs) : Ev := fun env M => (mo env M).bind fun d M1 => match lstB d with
  | true => (ms env M1).bind fun ks M2 => match d, ks with
    | .node .lst xs, [y] => match flB y && SeqAt.shaped (pyD y) with
      | true => .ok (.int (((pyDs xs).countP fun z => PyData.eqv z (pyD y) : Nat) : Int)) M2
      | false => .stuck
    | _, _ => .stuck
  | false => .stuck
section
variable {X : Cx} {W : XK} {T : List (Addr × Str)} {o e : Expr} {apos cpos : Pos} {mo : Ev} {ms : Evs}
theorem e_count (c : Cok X W T) (ho : PE X o (RdE W T X.K mo)) (ha : PA X [e] (RdA W T X.K ms)) (hbase : attributeBase o "count" X.env (eval o X.env) = eval o X.env := by rfl) (hline : (apos.endLine == cpos.line) = true := by rfl)
    (hfew : ((backTo cpos (starEach [e] X.env)).all (fun x => !x.1) && (backToKw cpos (keywordEach [] X.env)).all (fun x => x.1.isSome) && decide (([e] : List Expr).length + ([] : List Keyword).length + (if ([] : List Keyword).isEmpty then 0 else 1) < 30)) = true := by rfl)
    (hs : starEach [e] X.env = (false, eval e X.env) :: starEach [] X.env := by rfl) : PE X (.Call (.Attribute o "count" apos) [e] [] cpos) (RdE W T X.K (mCnt mo ms)) :=
  (pe_bm PySem.F.plainAttrs_list PySem.F.slot_list_count PySem.F.type_list_count (mt_countD (by have := c.un; omega)) ho ha hbase hfew hline hs rfl).imp fun σ H Q ⟨A, env, at0, p⟩ => (Po.step at0 p).mono fun v H1 ⟨A1, d, _, a1, dv, p1⟩ => by
    cases hd : lstB d with
    | false => rw [hd] at p1; exact p1.elim
    | true =>
      rw [hd] at p1
      simp only at p1
      unfold lstB at hd
      split at hd
      · rename_i xs
        rw [Bool.and_eq_true] at hd
        have dn : DP X.K A1.adrs H1 (.node .lst xs) v := dv
        obtain ⟨a, vs, rfl, na, ds⟩ := dn
        refine ⟨.inl ⟨rfl, vs, (nodeAt_read na).lst⟩, (Po.steps a1 p1).mono fun ys H2 ⟨A2, ks, e2, a2, dk, p2⟩ => ?_⟩
        split at p2
        · rename_i xs' y hx
          cases hx
          cases hc : (flB y && SeqAt.shaped (pyD y)) with
          | false => rw [hc] at p2; exact p2.elim
          | true =>
            rw [hc] at p2
            simp only at p2
            rw [Bool.and_eq_true] at hc
            obtain ⟨w, rfl, dy⟩ := dvl1 dk
            have dl' : DP X.K A2.adrs H2 (.node .lst xs) (.ref a) := (dv.ext e2 : DV X.K A2 H2 (.node .lst xs) (.ref a))
            have dy' : DP X.K A2.adrs H2 y w := dy.dp (still_n (flB_still hc.1))
            exact ⟨a, w, pyD y, pyDs xs, rfl, rfl, flB_dp (d := .node .lst xs) dl'.rp hd.1, flB_dp dy'.rp hc.1, hd.2, hc.2, p2.fin a2.mem rfl⟩
        · exact p2.elim
      · cases hd
end
end TB

set_option Elab.async false
set_option linter.all false
set_option maxRecDepth 100000
set_option maxHeartbeats 4000000
namespace TB
open PySem PySem.Spec PyProof.Rows L2
/-! ### {k: v, ..}, keys ints or texts -/
def dispGo : List (Ev × Ev) → Env → List Key → List D → Mem → R (List Key × List D)
  | [], _, ks, xs, M => .ok (ks, xs) M
  | q :: r, env, ks, xs, M => match q.1 env M with
    | .ok kd M2 => match keyOf kd with
      | some j => match q.2 env M2 with
        | .ok y M3 => match still y with
          | true => dispGo r env (putD ks xs j y).1 (putD ks xs j y).2 M3
          | false => .stuck
        | _ => .stuck
      | none => .stuck
    | _ => .stuck
def mDisp (ps : List (Ev × Ev)) : Ev := fun env M => match dispGo ps env [] [] M with
  | .ok (ks, xs) M2 => .ok (.node (.dK ks) xs) M2
  | _ => .stuck
theorem dispGo_cons {q : Ev × Ev} {r : List (Ev × Ev)} {env : Env} {ks : List Key} {xs : List D} {M M' : Mem} {out : List Key × List D} (h : dispGo (q :: r) env ks xs M = .ok out M') :
    ∃ kd M2 j y M3, q.1 env M = .ok kd M2 ∧ keyOf kd = some j ∧ q.2 env M2 = .ok y M3 ∧ still y = true ∧ dispGo r env (putD ks xs j y).1 (putD ks xs j y).2 M3 = .ok out M' := by
  unfold dispGo at h
  split at h
  · rename_i kd M2 hk
    split at h
    · rename_i j hj
      split at h
      · rename_i y M3 hy
        split at h
        · rename_i hs
          exact ⟨kd, M2, j, y, M3, hk, hj, hy, hs, h⟩
        · cases h
      · cases h
    · cases h
  · cases h
section
variable {X : Cx} {W : XK} {T : List (Addr × Str)}
abbrev prR (T : List (Addr × Str)) (K : PySem.W.Frag) (ps : List (Ev × Ev)) : List (TE × TE) := ps.map fun p => (RdE W0 T K p.1, RdE W0 T K p.2)
theorem disp_read {env : Env} {σ : L2.St} {D : Addr} {out : List Key × List TB.D} {M' : Mem} : ∀ (ps : List (Ev × Ev)) (A : AM) (H : Hp) (ks : List Key) (xs : List TB.D) (vs : List V) (Rr : List (V × V) → Hp → Prop), At T X.K (A.hide D) H env σ → H D = some (.dK []) → DPs X.K (A.hide D).adrs H xs vs → ks.length = vs.length → dispGo ps env ks xs A.ers = .ok out M' →
    (∀ (A' : AM) (H' : Hp) (kvs : List (Key × V)) (vs' : List V), Ext T (A.hide D) H (A'.hide D) H' → A'.z = A.z → MemOk X.K (A'.hide D) H' → A'.ers = M' → H' D = some (.dK []) → kvs.length ≤ ps.length → DPs X.K (A'.hide D).adrs H' out.2 vs' → out.1.length = vs'.length → mergeK (ks.zip vs) kvs = out.1.zip vs' → Rr (kvs.map fun kv => (kV kv.1, kv.2)) H') →
    tPairs (prR T X.K ps) σ H Rr
  | [], A, H, ks, xs, vs, Rr, at0, hD, ds, hl, h, fin => by
    have h : R.ok (ks, xs) A.ers = R.ok out M' := h
    have e1 : out = (ks, xs) := by cases h; rfl
    have e2 : A.ers = M' := by cases h; rfl
    subst e1
    exact fin A H [] vs Ext.refl rfl at0.mem e2 hD (Nat.le_refl _) ds hl rfl
  | q :: r, A, H, ks, xs, vs, Rr, at0, hD, ds, hl, h, fin => by
    obtain ⟨kd, M2, j, y, M3, h1, hj, h2, hs, h3⟩ := dispGo_cons h
    have nDc : ∀ {B : AM} {G : Hp}, MemOk X.K (B.hide D) G → D ∉ (B.hide D).adr := fun mb z => by
      have nd := mb.nd
      unfold AM.adrs at nd
      exact (List.nodup_append.mp nd).2.2 D z D List.mem_cons_self rfl
    refine ⟨A.hide D, env, at0, ?_⟩
    show Po W0 T X.K (A.hide D) H (q.1 env A.ers) _
    rw [h1]
    intro A3 H3 v3 eM3 e3 m3 dv3
    subst eM3
    obtain ⟨c3, z3⟩ := A3
    obtain rfl : z3 = D :: A.z := e3.zz
    have at3 := at0.ext e3 m3
    refine ⟨_, env, at3, ?_⟩
    have h2' : q.2 env (AM.ers ⟨c3, D :: A.z⟩) = .ok y M3 := h2
    show Po W0 T X.K _ H3 (q.2 env (AM.ers ⟨c3, D :: A.z⟩)) _
    rw [h2']
    intro A4 H4 v4 eM4 e4 m4 dv4
    subst eM4
    obtain ⟨c4, z4⟩ := A4
    obtain rfl : z4 = D :: A.z := e4.zz
    have at4 := at3.ext e4 m4
    have e34 := e3.trans e4
    have hD4 := e34.keep D _ (nDc at0.mem) hD (by simp)
    have dy := dv4.dp (still_n hs)
    obtain ⟨vs', p1, p2, p3⟩ := putD_at dy (k := j) hl (ds.ext e34)
    obtain rfl := keyOf_at dv3 hj
    refine disp_read r ⟨c4, A.z⟩ H4 _ _ vs' _ at4 hD4 p1 p3 h3 fun A' H' kvs ws e z m eA hD' hle dd hl' hm => ?_
    exact fin A' H' ((j, v4) :: kvs) ws (e34.trans e) z m eA hD' (by simpa using hle) dd hl' (by
      show mergeK (putK (ks.zip vs) j v4) kvs = _
      rw [p2]; exact hm)
theorem e_disp {pos : Pos} {keys : List (Option Expr)} {values : List Expr} {ps : List (Ev × Ev)} (h : PPs X pos keys values (prR T X.K ps)) (hall : keys.all (·.isSome) = true := by rfl) (hl : keys.length = values.length := by rfl) (h0 : keys ≠ [] := by simp) (h15 : keys.length ≤ 15 := by decide) (hp : ps.length ≤ 15 := by decide) :
    PE X (.Dict keys values pos) (RdE W T X.K (mDisp ps)) := (pe_disp h hall hl h0 h15).imp fun σ H Q ⟨A, env, at0, p⟩ D hD => by
  unfold mDisp at p
  cases hgo : dispGo ps env [] [] A.ers with
  | stuck => rw [hgo] at p; exact p.elim
  | exc x M => rw [hgo] at p; exact p.elim
  | ok out M2 =>
    obtain ⟨oks, oxs⟩ := out
    rw [hgo] at p
    simp only at p
    have e0 : Ext T A H A (upd H D (.dK [])) := Ext.laid hD
    refine disp_read ps A _ [] [] [] _ ⟨at0.mem.hide hD (dK_ok _), at0.env.hide hD, e0.tabs at0.tabs⟩ upd_same rfl rfl hgo fun A' H' kvs vs' e z m eA hD' hle dd hl' hm => ?_
    have mD : D ∈ (A'.hide D).adrs := List.mem_append_right _ List.mem_cons_self
    have np : D ∉ A'.adrs := fun q => by
      have nd := m.nd
      rcases List.mem_append.mp q with q | q
      · unfold AM.adrs at nd
        exact (List.nodup_append.mp nd).2.2 D q D List.mem_cons_self rfl
      · unfold AM.adrs at nd
        exact (List.nodup_cons.mp (List.nodup_append.mp nd).2.1).1 q
    have ef : Ext T A H A' H' := by
      have q := e.unz A.z
      refine e0.trans ?_
      obtain ⟨c', z'⟩ := A'
      obtain rfl : z' = A.z := z
      exact q
    have m2 := (m.over (u := .dK (mergeK [] kvs)) List.mem_cons_self (dK_ok _)).show
    refine ⟨hD', kvs, rfl, Nat.le_trans hle hp, p A' _ _ eA.symm (Ext.over (w := .dK []) ef hD hD' (dK_ok _).2) m2 ?_⟩
    have fin : DP X.K A'.adrs (upd H' D (.dK (mergeK [] kvs))) (.node (.dK oks) oxs) (.ref D) := ⟨D, vs', rfl, .inl ⟨.dK (mergeK [] kvs), np, .inl upd_same, hm, hl'⟩, (DPs.over mD dd).keep (fun a w n _ z => n (mem_hide.mpr (.inr z))) (fun _ _ _ h _ => h)⟩
    exact fin.dv
theorem pr_nil {pos : Pos} : PPs X pos [] [] (prR T X.K []) := pps_nil
theorem pr_cons {pos : Pos} {k v : Expr} {ks : List (Option Expr)} {vs : List Expr} {mk mv : Ev} {r : List (Ev × Ev)} (hk : PE X k (RdE W0 T X.K mk)) (hv : PE X v (RdE W0 T X.K mv)) (hr : PPs X pos ks vs (prR T X.K r)) : PPs X pos (some k :: ks) (v :: vs) (prR T X.K ((mk, mv) :: r)) := pps_cons hk hv hr
end
end TB

set_option Elab.async false
set_option linter.all false
set_option maxRecDepth 100000
set_option maxHeartbeats 4000000
namespace TB
open PySem PySem.Spec PyProof.Rows L2
/-! ### match on a text -/
structure PPat (X : Cx) (p : Pattern) (ks : List Str) : Prop where
  run : ∀ (pins : List (Addr × Obj)) (s : Shared) (σ : L2.St) (H : Hp) (z : Str) (v : Value) (Q : Option (List (Str × Value)) → Shared → Prop), Inv X pins σ H s → RelV (.str z) v → (∀ s', Inv X pins σ H s' → Q (match ks.any fun k => seq z k with | true => some [] | false => none) s') → wpAny (model X.prog X.w) X.A (matchPattern p X.env v) Q X.xe s
structure PFst (X : Cx) (ps : List Pattern) (ks : List Str) : Prop where
  run : ∀ (pins : List (Addr × Obj)) (s : Shared) (σ : L2.St) (H : Hp) (z : Str) (v : Value) (Q : Option (List (Str × Value)) → Shared → Prop), Inv X pins σ H s → RelV (.str z) v → (∀ s', Inv X pins σ H s' → Q (match ks.any fun k => seq z k with | true => some [] | false => none) s') → wpAny (model X.prog X.w) X.A (matchFirst ps X.env v) Q X.xe s
section
variable {X : Cx} {W : XK} {T : List (Addr × Str)}
theorem p_val {k : Str} {j : Nat} {p1 p2 : Pos} : PPat X (.MatchValue (.Constant (.str k) j p1) p2) [k] := ⟨fun pins s σ H z v Q I r q => by
  refine wpAny_matchPattern_Value (thn (pe_str.run pins s σ H (fun x H' => x = .str k ∧ H' = H) I ⟨rfl, rfl⟩) fun u s1 ⟨x, H1, I1, rx, ex, eH⟩ => ?_)
  subst ex eH
  refine thn (op_eq pins s1 σ H1 _ _ v u (fun y H' => y = .bl (seq z k) ∧ H' = H1) I1 r rx ⟨rfl, by rw [dec_str, ← seq_eq], rfl⟩) fun c s2 ⟨y, H2, I2, ry, ey, eH⟩ => ?_
  subst ey eH
  cases (show c = Value.bool (seq z k) from ry)
  refine wpAny_truthy_bool ?_
  have q := q s2 I2
  cases h : seq z k with
  | true =>
    rw [if_pos rfl]
    simpa [h] using q
  | false =>
    rw [if_neg (by simp)]
    simpa [h] using q⟩
theorem f_nil : PFst X [] [] := ⟨fun pins s σ H z v Q I r q => wpAny_matchFirst_nil (q s I)⟩
theorem f_cons {p : Pattern} {ps : List Pattern} {ks ls : List Str} (hp : PPat X p ks) (hf : PFst X ps ls) : PFst X (p :: ps) (ks ++ ls) := ⟨fun pins s σ H z v Q I r q => by
  refine wpAny_matchFirst_cons (hp.run pins s σ H z v _ I r fun s1 I1 => ?_)
  cases h : ks.any fun k => seq z k with
  | true =>
    have q := q s1 I1
    rw [List.any_append, h] at q
    exact q
  | false =>
    refine hf.run pins s1 σ H z v Q I1 r fun s2 I2 => ?_
    have q := q s2 I2
    rw [List.any_append, h] at q
    exact q⟩
theorem p_or {ps : List Pattern} {ks : List Str} {pos : Pos} (hf : PFst X ps ks) (hn : namesOfAll (ps.take 1) = [] := by rfl) : PPat X (.MatchOr ps pos) ks := ⟨fun pins s σ H z v Q I r q => by
  refine wpAny_matchPattern_Or (hf.run pins s σ H z v _ I r fun s1 I1 => ?_)
  have q := q s1 I1
  cases h : ks.any fun k => seq z k with
  | true => rw [h] at q; rw [hn]; exact q
  | false => rw [h] at q; exact q⟩
def casesGo : List (List Str × Sm) → Str → Sm
  | [], _, env, M => .ok (.nx env) M
  | q :: r, z, env, M => match q.1.any fun k => seq z k with
    | true => q.2 env M
    | false => casesGo r z env M
def sMatch (m : Ev) (cs : List (List Str × Sm)) : Sm := fun env M => (m env M).bind fun d M1 => match d with
  | .str z => casesGo cs z env M1
  | _ => .stuck
structure PCs (X : Cx) (W : XK) (T : List (Addr × Str)) (cases : List MatchCase) (cs : List (List Str × Sm)) : Prop where
  run : ∀ (pins : List (Addr × Obj)) (s : Shared) (σ : L2.St) (H : Hp) (D : Ends) (z : Str) (v : Value) (first : Bool), Inv X pins σ H s → RelV (.str z) v → RdS W T X.K (casesGo cs z) D σ H → wpAny (model X.prog X.w) X.A (matchCases cases X.env v first) (SP X pins D) X.xe s
theorem cs_nil : PCs X W T [] [] := ⟨fun pins s σ H D z v first I r ⟨A, env, at0, p⟩ => wpAny_matchCases_nil ⟨σ, H, I, p.nx at0⟩⟩
theorem cs_cons {p : Pattern} {body : List Stmt} {rest : List MatchCase} {ks : List Str} {b : Sm} {cs : List (List Str × Sm)} (hp : PPat X p ks) (hb : PSs X body (RdS W T X.K b)) (hr : PCs X W T rest cs) : PCs X W T (⟨p, none, body⟩ :: rest) ((ks, b) :: cs) := ⟨fun pins s σ H D z v first I r ⟨A, env, at0, q⟩ => by
  refine wpAny_matchCases_cons (hp.run pins s σ H z v _ I r fun s1 I1 => ?_)
  have q : PoS W T X.K A H (match ks.any fun k => seq z k with | true => b env A.ers | false => casesGo cs z env A.ers) D := q
  cases h : ks.any fun k => seq z k with
  | true =>
    rw [h] at q
    exact wpAny_assignInOrder_none (hb.run pins s1 σ H D I1 ⟨A, env, at0, q⟩)
  | false =>
    rw [h] at q
    exact hr.run pins s1 σ H D z v false I1 r ⟨A, env, at0, q⟩⟩
theorem s_match {e : Expr} {cases : List MatchCase} {pos : Pos} {ma : Ev} {cs : List (List Str × Sm)} (he : PE X e (RdE W T X.K ma)) (hc : PCs X W T cases cs) : PS X (.Match e cases pos) (RdS W T X.K (sMatch ma cs)) := ⟨fun pins s σ H D I ⟨A, env, at0, p⟩ => by
  refine wpAny_Match (thn (he.run pins s σ H _ I (PoS.step at0 p)) fun u s1 ⟨x, H1, I1, rx, A1, d, _, a1, dv, p1⟩ => ?_)
  split at p1
  · rename_i z
    cases (show x = V.str z from dv)
    exact hc.run pins s1 σ H1 D z u true I1 rx ⟨A1, env, a1, p1⟩
  · exact p1.elim⟩
end
end TB

set_option Elab.async false
set_option linter.all false
set_option maxRecDepth 100000
set_option maxHeartbeats 4000000
namespace TB
open PySem PySem.Spec PyProof.Rows L2
/-! ### a def that calls itself: by fuel -/
section
variable {P : Program} {w : World} {K : PySem.W.Frag} {mg : Str → Option Value} {base : Heap} {T : List (Addr × Str)} {x : Str} {k : Nat} {f : Addr} {fd : FuncData} {ps : List Str}
theorem FnG.none : FnG P w K mg base T k f fd ps (fun _ _ => .stuck) := ⟨fun _ _ _ _ _ _ _ _ _ _ _ _ _ _ ⟨_, _, _, _, _, _, p⟩ => p.elim⟩
theorem fuel_df {step : Fn → Fn} {m : Nat → Fn} (h0 : m 0 = fun _ _ => .stuck) (hS : ∀ n, m (n + 1) = step (m n)) (hb : Binds K fd ps []) (hs : ∀ j F, Df P w K mg base T x (k + j) f ps F → FnG P w K mg base T (k + j + 1) f fd ps (step F))
    (hl : ∀ F ds M, step F ds M ≠ .stuck → ds.length = ps.length) (g : mg x = some (.ref f)) (kp : PySem.W.keepIn K (.ref f) = true) : ∀ n, Df P w K mg base T x (k + n) f ps (m n)
  | 0 => ⟨⟨fd, by rw [h0]; exact FnG.none, hb⟩, g, kp, fun ds M h => absurd (by rw [h0]) h⟩
  | n + 1 => ⟨⟨fd, by rw [hS]; exact hs n _ (fuel_df h0 hS hb hs hl g kp n), hb⟩, g, kp, by rw [hS]; exact hl _⟩
end
end TB

set_option Elab.async false
set_option linter.all false
set_option maxRecDepth 100000
set_option maxHeartbeats 4000000
/-! zip(x, y, strict=True) over lists and tuples: the machine's side. -/
namespace ZS
open PySem
open PySem.Sem (wp)
abbrev kwS : Str := Str.ofString "strict"
theorem typeCall (a b : Value) : checkTypeCall "zip" ⟨[a, b], [(kwS, .bool true)]⟩ = pure () := by kernel_rfl
theorem newCall (a b : Value) : checkBuiltinCall "zip.__new__" ⟨[.type "zip", a, b], [(kwS, .bool true)]⟩ = pure () := by kernel_rfl
theorem initArgs (obj a b : Value) : argsOk "object.__init__" ⟨[obj, a, b], [(kwS, .bool true)]⟩ := by
  unfold argsOk
  kernel_rfl
/-- the zip that is strict -/
abbrev ZipT (h : Heap) (z TI TO : Addr) (f0 : Value) : Prop :=
  h.get? z = some { cls := .type "zip", dict := none, data := .fields #[f0, .bool false, .bool true, .ref TI, .ref TO], slots := #[] }
abbrev hp3 (h : Heap) (o1 o2 : Obj) : Heap := ((h.push o1).push o2).push { cls := .type "tuple", data := .seq #[.ref h.objs.size, .ref (h.push o1).objs.size] }
abbrev hp4 (h : Heap) (o1 o2 : Obj) : Heap := (hp3 h o1 o2).push { cls := .type "tuple", data := .seq #[.none, .none] }
abbrev hp5 (h : Heap) (o1 o2 : Obj) : Heap := (hp4 h o1 o2).push { cls := .type "zip", data := .fields #[.none, .bool false, .bool true, .ref ((h.push o1).push o2).objs.size, .ref (hp3 h o1 o2).objs.size] }
theorem meets_new {v1 v2 : Value} {o1 o2 : Obj} {H1 H2 : Heap → Prop} (B1 : Begins v1 o1 H1) (B2 : Begins v2 o2 H2) :
    Meets (Builtin.«zip.__new__» ⟨[.type "zip", v1, v2], [(kwS, .bool true)]⟩) (fun _ R s => H1 s.heap ∧ H2 s.heap ∧ R (.ok (.ret (.ref (hp4 s.heap o1 o2).objs.size))) { s with heap := hp5 s.heap o1 o2 }) :=
  .of_wp fun prog w A R s h => by
    obtain ⟨hp, g, d, tk, os⟩ := s; obtain ⟨h1, h2, h⟩ := h
    have hsub := sub_zip
    have q1 : ∀ {A' : Around} {E : Value → Shared → Prop} {Q : Value → Shared → Prop}, Q (.ref hp.objs.size) ⟨hp.push o1, g, d, tk, os⟩ → wpAny (model prog w) A' (pyIter v1) Q E ⟨hp, g, d, tk, os⟩ :=
      fun q => B1.iter prog w _ _ ⟨hp, g, d, tk, os⟩ _ h1 q
    have q2 : ∀ {A' : Around} {E : Value → Shared → Prop} {Q : Value → Shared → Prop}, Q (.ref (hp.push o1).objs.size) ⟨(hp.push o1).push o2, g, d, tk, os⟩ → wpAny (model prog w) A' (pyIter v2) Q E ⟨hp.push o1, g, d, tk, os⟩ :=
      fun q => B2.iter prog w _ _ ⟨hp.push o1, g, d, tk, os⟩ _ (B2.keeps _ _ h2 fun b o e => Heap.get?_push_of_some _ e) q
    have e1 : (kwS != ("strict" : Str)) = false := by decide +kernel
    wp_walk using q1, q2
    exact ⟨_, rfl, h⟩
section
variable {prog : Program} {w : World} {A : Around} {E : Value → Shared → Prop} {s : Shared}
/-- zip(v1, v2, strict=True): its five new cells -/
theorem call_new {v1 v2 : Value} {o1 o2 : Obj} {H1 H2 : Heap → Prop} {Q : Value → Shared → Prop} (B1 : Begins v1 o1 H1) (B2 : Begins v2 o2 H2) (k1 : H1 s.heap) (k2 : H2 s.heap)
    (h : ∀ g, ZipT g (s.heap.objs.size + 4) (s.heap.objs.size + 2) (s.heap.objs.size + 3) .none → IsTupOf2 g (s.heap.objs.size + 2) (.ref s.heap.objs.size) (.ref (s.heap.objs.size + 1)) → IsTupOf2 g (s.heap.objs.size + 3) .none .none →
      g.get? s.heap.objs.size = some o1 → g.get? (s.heap.objs.size + 1) = some o2 → g.objs.size = s.heap.objs.size + 5 → (∀ c o, s.heap.get? c = some o → g.get? c = some o) → Q (.ref (s.heap.objs.size + 4)) { s with heap := g }) :
    wpAny (model prog w) A (call (.type "zip") [v1, v2] [(kwS, .bool true)]) Q E s := by
  refine callType_newKw F.called_zip (by decide) (typeCall _ _) (newCall _ _) (fun obj => initArgs obj _ _) F.entry_zip_new (meets_new B1 B2) ⟨k1, k2, ?_⟩
  have y1 : (s.heap.push o1).objs.size = s.heap.objs.size + 1 := Heap.size_push ..
  have y2 : ((s.heap.push o1).push o2).objs.size = s.heap.objs.size + 2 := by rw [Heap.size_push, y1]
  have y3 : (hp3 s.heap o1 o2).objs.size = s.heap.objs.size + 3 := by rw [Heap.size_push, y2]
  have y4 : (hp4 s.heap o1 o2).objs.size = s.heap.objs.size + 4 := by rw [Heap.size_push, y3]
  have y5 : (hp5 s.heap o1 o2).objs.size = s.heap.objs.size + 5 := by rw [Heap.size_push, y4]
  have u : ∀ {h : Heap} {o o' : Obj} {c : Addr}, h.get? c = some o' → (h.push o).get? c = some o' := fun e => Heap.get?_push_of_some _ e
  have a5 : (hp5 s.heap o1 o2).get? (hp4 s.heap o1 o2).objs.size = some _ := Heap.get?_push_size _ rfl
  have a4 : (hp5 s.heap o1 o2).get? (hp3 s.heap o1 o2).objs.size = some _ := u (Heap.get?_push_size _ rfl)
  have a3 : (hp5 s.heap o1 o2).get? ((s.heap.push o1).push o2).objs.size = some _ := u (u (Heap.get?_push_size _ rfl))
  have a2 : (hp5 s.heap o1 o2).get? (s.heap.push o1).objs.size = some _ := u (u (u (Heap.get?_push_size _ B2.free)))
  have a1 : (hp5 s.heap o1 o2).get? s.heap.objs.size = some _ := u (u (u (u (Heap.get?_push_size _ B1.free))))
  show _ ∧ _
  rw [y2, y3, y4] at a5
  rw [y1, y2] at a3
  rw [y3] at a4
  rw [y1] at a2
  rw [y4]
  exact ⟨⟨_, a5, rfl⟩, h _ a5 a3 a4 a1 a2 y5 fun c o x => u (u (u (u (u x))))⟩
/-- the next item, or the end -/
theorem or_item {it : Addr} {fp : List Addr} {n i : Nat} {P : Nat → Value → Prop} {St : Nat → Heap → Prop} {Q : Option Value → Shared → Prop} (D : Draws prog w A it fp n P St) (hi : i < n) (st : St i s.heap)
    (hQ : ∀ x h' tk, P i x → St (i + 1) h' → Heap.SameBut it s.heap h' → Q (some x) { s with heap := h', toks := tk }) : wpAny (model prog w) A (Builtin.SmallTypes.nextOrEnd (.ref it)) Q E s := by
  unfold Builtin.SmallTypes.nextOrEnd
  exact wpAny_bind (wpAny_attempt (D.item i s _ _ hi st fun x h' tk p st' sb => wpAny_pure (hQ x h' tk p st' sb)))
theorem or_end {it : Addr} {fp : List Addr} {n : Nat} {P : Nat → Value → Prop} {St : Nat → Heap → Prop} {Q : Option Value → Shared → Prop} (D : Draws prog w A it fp n P St) (st : St n s.heap)
    (hQ : ∀ h', Heap.ExtBut it s.heap h' → Q none { s with heap := h' }) : wpAny (model prog w) A (Builtin.SmallTypes.nextOrEnd (.ref it)) Q E s := by
  unfold Builtin.SmallTypes.nextOrEnd
  refine wpAny_bind (wpAny_attempt (D.done s _ _ st fun h' e eb he => ?_))
  obtain ⟨o, ho, hc⟩ := he
  exact wpAny_bind (wpAny_isInstance (T := "StopIteration") (b := true) ⟨o, ho, hc⟩ isSubtype_stop (wpAny_pure (hQ h' eb)))
variable {z TI TO i1 i2 : Addr} {fp1 fp2 : List Addr} {n1 n2 i : Nat} {P1 P2 : Nat → Value → Prop} {St1 St2 : Nat → Heap → Prop} {a1 a2 : Value}
theorem next_item {Q : Value → Shared → Prop} (S : ZipSep2 z TI TO i1 i2 fp1 fp2) (D1 : Draws prog w A i1 fp1 n1 P1 St1) (D2 : Draws prog w A i2 fp2 n2 P2 St2)
    (hz : ZipT s.heap z TI TO .none) (hTI : IsTupOf2 s.heap TI (.ref i1) (.ref i2)) (hTO : IsTupOf2 s.heap TO a1 a2) (st1 : St1 i s.heap) (st2 : St2 i s.heap) (hlt1 : i < n1) (hlt2 : i < n2)
    (hQ : ∀ x1 x2 g tk, P1 i x1 → P2 i x2 → ZipT g z TI TO (rawInt s.heap.objs.size) → IsTupOf2 g TO x1 x2 → St1 (i + 1) g → St2 (i + 1) g → IsTupOf2 g s.heap.objs.size x1 x2 → g.objs.size = s.heap.objs.size + 1 →
      (∀ c o, c ≠ z → c ≠ TO → c ≠ i1 → c ≠ i2 → s.heap.get? c = some o → g.get? c = some o) → Q (.ref s.heap.objs.size) { s with heap := g, toks := tk }) :
    wpAny (model prog w) A (Builtin.«zip.__next__» ⟨[.ref z], []⟩) (fun fin s' => ∃ v, fin = .done (.ret v) ∧ Q v s') E s := by
  obtain ⟨hp, g, d, tk0, os⟩ := s
  show wpAny _ _ (field (.ref z) 2 >>= _) _ _ _
  refine wpAny_bind (wpAny_field hz rfl (x := .bool true) rfl ?_)
  show wpAny _ _ (field (.ref z) 3 >>= _) _ _ _
  refine wpAny_bind (wpAny_field hz rfl (x := .ref TI) rfl (wpAny_bind (wpAny_seqItems hTI rfl ?_)))
  show wpAny _ _ (Builtin.SmallTypes.ownedTupleIsFree (.ref z) >>= _) _ _ _
  unfold Builtin.SmallTypes.ownedTupleIsFree
  refine wpAny_bind (wpAny_bind (wpAny_field hz rfl (x := .none) rfl (wpAny_pure ?_)))
  simp only [if_true]
  refine wpAny_bind (wpAny_rule (wpAny_bind (wpAny_field hz rfl (x := .ref TO) rfl (wpAny_bind (wpAny_setField_rec hz (by simp) fun b0 zb0 s0 => ?_)))))
  replace zb0 : ZipT b0 z TI TO .ellipsis := zb0
  replace s0 : Heap.SameBut z hp b0 := s0
  refine wpAny_bind ?_
  simp only [List.zipIdx_cons, List.zipIdx_nil, List.forIn_cons, List.forIn_nil]
  refine wpAny_bind (wpAny_bind (wpAny_onRaise ?_))
  show wpAny _ _ (Builtin.SmallTypes.nextOrEnd (.ref i1)) _ _ ⟨b0, g, d, tk0, os⟩
  refine or_item D1 hlt1 (D1.over st1 s0 S.zf1) fun x1 p1 tk1 hx1 sn1 hp1 => ?_
  replace hp1 : Heap.SameBut i1 b0 p1 := hp1
  have t1 : IsTupOf2 p1 TO a1 a2 := hp1.extBut _ _ S.Ti1 (s0.extBut _ _ S.TOz hTO)
  refine wpAny_bind (wpAny_seqItems (s := ⟨p1, g, d, tk1, os⟩) t1 rfl (wpAny_bind (updateSeq_IsTupOf2 (s := ⟨p1, g, d, tk1, os⟩) t1 fun b1 tb1 s1 => ?_)))
  replace tb1 : IsTupOf2 b1 TO x1 a2 := tb1
  replace s1 : Heap.SameBut TO p1 b1 := s1
  refine wpAny_bind (wpAny_letGo (wpAny_pure (wpAny_bind (wpAny_bind (wpAny_onRaise ?_)))))
  show wpAny _ _ (Builtin.SmallTypes.nextOrEnd (.ref i2)) _ _ ⟨b1, g, d, tk1, os⟩
  refine or_item D2 hlt2 (D2.over (D2.over (D2.over st2 s0 S.zf2) hp1 S.sep1_2) s1 S.Tf2) fun x2 p2 tk2 hx2 sn2 hp2 => ?_
  replace hp2 : Heap.SameBut i2 b1 p2 := hp2
  have t2 : IsTupOf2 p2 TO x1 a2 := hp2.extBut _ _ S.Ti2 tb1
  refine wpAny_bind (wpAny_seqItems (s := ⟨p2, g, d, tk2, os⟩) t2 rfl (wpAny_bind (updateSeq_IsTupOf2 (s := ⟨p2, g, d, tk2, os⟩) t2 fun b2 tb2 s2 => ?_)))
  replace tb2 : IsTupOf2 b2 TO x1 x2 := tb2
  replace s2 : Heap.SameBut TO p2 b2 := s2
  refine wpAny_bind (wpAny_letGo (wpAny_pure (wpAny_pure (wpAny_bind (wpAny_seqItems (s := ⟨b2, g, d, tk2, os⟩) tb2 rfl (wpAny_bind (wpAny_newTuple ?_)))))))
  have hsz : b2.objs.size = hp.objs.size := by rw [s2.1, hp2.1, s1.1, hp1.1, s0.1]
  have zz : ZipT b2 z TI TO .ellipsis := s2.extBut _ _ S.TOz.symm (hp2.extBut _ _ S.zi2 (s1.extBut _ _ S.TOz.symm (hp1.extBut _ _ S.zi1 zb0)))
  have kk : ∀ c o, c ≠ z → c ≠ TO → c ≠ i1 → c ≠ i2 → hp.get? c = some o → b2.get? c = some o := fun c o cz cT c1 c2 e => s2.extBut _ _ cT (hp2.extBut _ _ c2 (s1.extBut _ _ cT (hp1.extBut _ _ c1 (s0.extBut _ _ cz e))))
  have j1 : St1 (i + 1) b2 := D1.over (D1.over (D1.over sn1 s1 S.Tf1) hp2 S.sep2_1) s2 S.Tf1
  have j2 : St2 (i + 1) b2 := D2.over sn2 s2 S.Tf2
  have zlt : z < b2.objs.size := Heap.lt_size zz
  show wpAny _ _ (Builtin.SmallTypes.ownedTupleHandOut (.ref z) (.ref b2.objs.size) >>= _) _ _ ⟨b2.push { cls := .type "tuple", data := .seq #[x1, x2] }, g, d, tk2, os⟩
  unfold Builtin.SmallTypes.ownedTupleHandOut
  have z6 : ZipT (b2.push { cls := .type "tuple", data := .seq #[x1, x2] }) z TI TO .ellipsis := Heap.get?_push_of_some _ zz
  refine wpAny_bind (wpAny_bind (wpAny_setField_rec z6 (by simp) fun b7 z7 s7 => ?_))
  replace z7 : ZipT b7 z TI TO (rawInt b2.objs.size) := z7
  refine wpAny_setField_rec z7 (by simp) fun b8 z8 s8 => ?_
  replace z8 : ZipT b8 z TI TO (rawInt b2.objs.size) := z8
  replace s7 : Heap.SameBut z (b2.push { cls := .type "tuple", data := .seq #[x1, x2] }) b7 := s7
  replace s8 : Heap.SameBut z b7 b8 := s8
  have up : ∀ c o, c ≠ z → b2.get? c = some o → b8.get? c = some o := fun c o c1 e => s8.extBut _ _ c1 (s7.extBut _ _ c1 (Heap.get?_push_of_some _ e))
  have t8 : IsTupOf2 b8 b2.objs.size x1 x2 := s8.extBut _ _ (Nat.ne_of_gt zlt) (s7.extBut _ _ (Nat.ne_of_gt zlt) (Heap.get?_push_size _ rfl))
  have hz8 : b8.objs.size = b2.objs.size + 1 := by rw [s8.1, s7.1, Heap.size_push]
  rw [hsz] at z8 t8 hz8
  refine wpAny_pure ⟨_, rfl, ?_⟩
  show Q (.ref b2.objs.size) ⟨b8, g, d, tk2, os⟩
  rw [hsz]
  exact hQ x1 x2 b8 tk2 hx1 hx2 z8 (up _ _ S.TOz tb2) (D1.frame _ _ _ j1 fun b hb o e => up b o (fun q => S.zf1 (q ▸ hb)) e) (D2.frame _ _ _ j2 fun b hb o e => up b o (fun q => S.zf2 (q ▸ hb)) e) t8 hz8 fun c o cz cT c1 c2 e => up c o cz (kk c o cz cT c1 c2 e)
def bef (i : Nat) : String := if i == 1 then "argument 1"
  else s!"arguments 1-{i}"
/-- the last look of a strict zip -/
def fin_ (its : List Value) (i : Nat) : Sem Fin := do
  if i > 0 then
    rule "zip.__next__.shorter"
    raiseError "ValueError"
      s!"zip() argument {i + 1} is shorter than {bef i}"
  for (it, j) in (its.drop 1).zipIdx 1 do
    if (← Builtin.SmallTypes.nextOrEnd it).isSome then
      rule "zip.__next__.longer"
      raiseError "ValueError"
        s!"zip() argument {j + 1} is longer than {bef j}"
  rule "zip.__next__.all-ended"
  Builtin.SmallTypes.stopIteration
/-- both end at once -/
theorem next_end {Q : Value → Shared → Prop} {F : Fin → Shared → Prop} (hh : A.handled = none) (S : ZipSep2 z TI TO i1 i2 fp1 fp2) (D1 : Draws prog w A i1 fp1 i P1 St1) (D2 : Draws prog w A i2 fp2 i P2 St2)
    (hz : ZipT s.heap z TI TO .none) (hTI : IsTupOf2 s.heap TI (.ref i1) (.ref i2)) (st1 : St1 i s.heap) (st2 : St2 i s.heap)
    (hE : ∀ h' e, (∀ c o, c ≠ z → c ≠ i1 → c ≠ i2 → s.heap.get? c = some o → h'.get? c = some o) → (∃ o, h'.get? e = some o ∧ o.cls = .type "StopIteration") → E (.ref e) { s with heap := h' }) :
    wpAny (model prog w) A (Builtin.«zip.__next__» ⟨[.ref z], []⟩) F E s := by
  obtain ⟨hp, g, d, tk0, os⟩ := s
  show wpAny _ _ (field (.ref z) 2 >>= _) _ _ _
  refine wpAny_bind (wpAny_field hz rfl (x := .bool true) rfl ?_)
  show wpAny _ _ (field (.ref z) 3 >>= _) _ _ _
  refine wpAny_bind (wpAny_field hz rfl (x := .ref TI) rfl (wpAny_bind (wpAny_seqItems hTI rfl ?_)))
  show wpAny _ _ (Builtin.SmallTypes.ownedTupleIsFree (.ref z) >>= _) _ _ _
  unfold Builtin.SmallTypes.ownedTupleIsFree
  refine wpAny_bind (wpAny_bind (wpAny_field hz rfl (x := .none) rfl (wpAny_pure ?_)))
  simp only [if_true]
  refine wpAny_bind (wpAny_rule (wpAny_bind (wpAny_field hz rfl (x := .ref TO) rfl (wpAny_bind (wpAny_setField_rec hz (by simp) fun b0 zb0 s0 => ?_)))))
  replace zb0 : ZipT b0 z TI TO .ellipsis := zb0
  replace s0 : Heap.SameBut z hp b0 := s0
  refine wpAny_bind ?_
  simp only [List.zipIdx_cons, List.zipIdx_nil, List.forIn_cons, List.forIn_nil]
  refine wpAny_bind (wpAny_bind (wpAny_onRaise ?_))
  show wpAny _ _ (Builtin.SmallTypes.nextOrEnd (.ref i1)) _ _ ⟨b0, g, d, tk0, os⟩
  refine or_end (s := ⟨b0, g, d, tk0, os⟩) D1 (D1.over st1 s0 S.zf1) fun q1 e1 => ?_
  replace e1 : Heap.ExtBut i1 b0 q1 := e1
  have zq : ZipT q1 z TI TO .ellipsis := e1 _ _ S.zi1 zb0
  refine wpAny_bind (wpAny_setField_rec (s := ⟨q1, g, d, tk0, os⟩) zq (by simp) fun q2 _ s2 => ?_)
  replace s2 : Heap.SameBut z q1 q2 := s2
  have x2 : ∀ c o, c ≠ z → c ≠ i1 → hp.get? c = some o → q2.get? c = some o := fun c o cz c1 x => s2.extBut _ _ cz (e1 _ _ c1 (s0.extBut _ _ cz x))
  have j2 : St2 i q2 := D2.frame _ _ _ st2 fun b hb o e => x2 b o (fun q => S.zf2 (q ▸ hb)) (fun q => S.sep1_2 (q ▸ hb)) e
  refine wpAny_bind ?_
  show wpAny _ _ (fin_ [Value.ref i1, Value.ref i2] 0) _ _ _
  unfold fin_
  simp only [List.drop, List.zipIdx_cons, List.zipIdx_nil, List.forIn_cons, List.forIn_nil]
  rw [if_neg (by decide)]
  refine wpAny_bind (wpAny_bind (wpAny_bind (or_end (s := ⟨q2, g, d, tk0, os⟩) D2 j2 fun q3 e3 => ?_)))
  replace e3 : Heap.ExtBut i2 q2 q3 := e3
  rw [if_neg (by decide)]
  refine wpAny_pure (wpAny_pure (wpAny_bind (wpAny_rule ?_)))
  show wpAny _ _ (newExc (.type "StopIteration") [] >>= _) _ _ _
  refine wpAny_bind ?_
  simp only [newExc, newTuple]
  refine wpAny_bind (wpAny_newObj_type ?_ (by size_fits))
  refine wpAny_bind (m := firstArgMember _ _) (wpAny_of_eq (a := Value.none) (by first | rfl | (simp only [firstArgMember]; rfl)) (wpAny_newObj_type ?_ (by size_fits)))
  simp only [raiseNew]
  refine wpAny_bind (wpAny_handled ?_)
  first | rw [show A.in1.handled = none from hh] | rw [hh]
  refine wpAny_bind (wpAny_pure (wpAny_throw (hE _ _ (fun c o cz c1 c2 x => ?_) ⟨_, Heap.get?_push_size _ rfl, rfl⟩)))
  exact Heap.get?_push_of_some _ (Heap.get?_push_of_some _ (e3 _ _ c2 (x2 c o cz c1 x)))
theorem py_item {Q : Option Value → Shared → Prop} (S : ZipSep2 z TI TO i1 i2 fp1 fp2) (D1 : Draws prog w A.in1 i1 fp1 n1 P1 St1) (D2 : Draws prog w A.in1 i2 fp2 n2 P2 St2)
    (hz : ZipT s.heap z TI TO .none) (hTI : IsTupOf2 s.heap TI (.ref i1) (.ref i2)) (hTO : IsTupOf2 s.heap TO a1 a2) (st1 : St1 i s.heap) (st2 : St2 i s.heap) (hlt1 : i < n1) (hlt2 : i < n2)
    (hQ : ∀ x1 x2 g tk, P1 i x1 → P2 i x2 → ZipT g z TI TO (rawInt s.heap.objs.size) → IsTupOf2 g TO x1 x2 → St1 (i + 1) g → St2 (i + 1) g → IsTupOf2 g s.heap.objs.size x1 x2 → g.objs.size = s.heap.objs.size + 1 →
      (∀ c o, c ≠ z → c ≠ TO → c ≠ i1 → c ≠ i2 → s.heap.get? c = some o → g.get? c = some o) → Q (some (.ref s.heap.objs.size)) { s with heap := g, toks := tk }) : wpAny (model prog w) A (pyNext (.ref z)) Q E s := by
  have hT : s.TypeIs (.ref z) "zip" := ⟨_, hz, rfl⟩
  unfold pyNext
  refine wpAny_bind (wpAny_attempt (wpAny_callSpecial?_slot (name := Str.ofString "__next__") hT F.slot_zip_next (wpAny_call_entry F.slot_zip_next hT F.entry_zip_next ?_ (F.args_zip_next_1 _))))
  exact next_item S D1 D2 hz hTI hTO st1 st2 hlt1 hlt2 fun x1 x2 g tk y1 y2 b1 b2 d1 d2 b5 b6 b7 => wpAny_pure (hQ x1 x2 g tk y1 y2 b1 b2 d1 d2 b5 b6 b7)
theorem py_end {Q : Option Value → Shared → Prop} (hh : A.handled = none) (S : ZipSep2 z TI TO i1 i2 fp1 fp2) (D1 : Draws prog w A.in1 i1 fp1 i P1 St1) (D2 : Draws prog w A.in1 i2 fp2 i P2 St2)
    (hz : ZipT s.heap z TI TO .none) (hTI : IsTupOf2 s.heap TI (.ref i1) (.ref i2)) (st1 : St1 i s.heap) (st2 : St2 i s.heap)
    (hQ : ∀ h', (∀ c o, c ≠ z → c ≠ i1 → c ≠ i2 → s.heap.get? c = some o → h'.get? c = some o) → Q none { s with heap := h' }) : wpAny (model prog w) A (pyNext (.ref z)) Q E s := by
  have hT : s.TypeIs (.ref z) "zip" := ⟨_, hz, rfl⟩
  unfold pyNext
  refine wpAny_bind (wpAny_attempt (wpAny_callSpecial?_slot (name := Str.ofString "__next__") hT F.slot_zip_next (wpAny_call_entry F.slot_zip_next hT F.entry_zip_next ?_ (F.args_zip_next_1 _))))
  refine next_end (Q := fun _ _ => True) hh S D1 D2 hz hTI st1 st2 fun h' e hk he => ?_
  obtain ⟨o, ho, hc⟩ := he
  exact wpAny_bind (wpAny_isInstance (T := "StopIteration") (b := true) ⟨o, ho, hc⟩ isSubtype_stop (wpAny_pure (hQ _ hk)))
theorem go {elts : List Expr} {k : Nat} {pos : Pos} {T : Addr} {Q : Unit → Shared → Prop} (hz : ZipT s.heap z TI TO (rawInt T)) (h : ∀ h', ZipT h' z TI TO .none → Heap.SameBut z s.heap h' → Q () { s with heap := h' }) : wpAny (model prog w) A (letOwnedTupleGo (.Tuple elts k pos) (.ref z) (.ref T)) Q E s := by
  unfold letOwnedTupleGo
  refine wpAny_bind (wpAny_load hz ?_)
  show wpAny _ _ (if (["enumerate", "zip", "dict_itemiterator", "dict_reverseitemiterator", "odict_iterator", "itertools.zip_longest", "itertools.pairwise"].contains "zip" && (#[rawInt T, .bool false, .bool true, .ref TI, .ref TO] : Array Value)[0]? == some (rawInt T)) = true then _ else _) Q E s
  rw [if_pos (by simp)]
  refine wpAny_bind (wpAny_rule ?_)
  show wpAny _ _ (setField (.ref z) 0 .none) Q E s
  exact wpAny_setField_rec hz (by simp) fun h' z' s' => h h' z' s'
theorem self {Q : Value → Shared → Prop} {f0 : Value} (hz : ZipT s.heap z TI TO f0) (h : Q (.ref z) s) : wpAny (model prog w) A (pyIter (.ref z)) Q E s := by
  have hT : s.TypeIs (.ref z) "zip" := ⟨_, hz, rfl⟩
  refine wpAny_pyIter_slot hT F.slot_zip_iter (wpAny_call_entry F.slot_zip_iter hT F.entry_zip_iter ?_ (F.args_zip_iter_1 _))
  show wpAny _ _ (ret (.ref z)) _ _ s
  exact wpAny_pure ⟨_, rfl, "zip", _, hT, F.slot_zip_next.lookup, h⟩
end
end ZS

set_option Elab.async false
set_option linter.all false
set_option maxRecDepth 100000
set_option maxHeartbeats 4000000
/-! zip(x, y, strict=True), enumerate(x): lists and tuples. -/
namespace ZS
open PySem PySem.Spec PyProof.Rows L2
inductive Kd where
  | l | t
  deriving DecidableEq
def Sq (k : Kd) (K : PySem.W.Frag) (H : Hp) (a : Addr) (xs : List V) : Prop := match k with
  | .l => SqL K H a xs
  | .t => SqT K H a xs
def On (k : Kd) (h : Heap) (a : Addr) (xs : Array Value) : Prop := match k with
  | .l => h.IsList a xs
  | .t => h.IsTuple a xs
def Is (k : Kd) (h : Heap) (it a : Addr) (i : Nat) : Prop := match k with
  | .l => h.IsListIter it a i
  | .t => h.IsTupleIter it a i
def obj (k : Kd) (a : Addr) : Obj := match k with
  | .l => { cls := .type "list_iterator", data := .fields #[.ref a, .int 0 0] }
  | .t => { cls := .type "tuple_iterator", data := .fields #[.ref a, .int 0 0] }
theorem begins (k : Kd) (a : Addr) (xs : Array Value) : Begins (.ref a) (obj k a) fun h => On k h a xs := match k with
  | .l => begins_list a xs
  | .t => begins_tuple a xs
theorem draws {prog : Program} {w : World} {A : Around} (k : Kd) (hh : A.handled = none) (it a : Addr) (hne : a ≠ it) (xs : Array Value) : Draws prog w A it [it, a] xs.size (fun i v => xs[i]? = some v) (fun i h => Is k h it a i ∧ On k h a xs) := match k with
  | .l => Draws.list hh it a hne xs
  | .t => Draws.tuple hh it a hne xs
theorem is_of (k : Kd) {h : Heap} {it a : Addr} (e : h.get? it = some (obj k a)) : Is k h it a 0 := match k with
  | .l => ⟨_, e, rfl, rfl⟩
  | .t => ⟨_, e, rfl, rfl⟩
theorem is_obj {k : Kd} {h : Heap} {it a : Addr} {i : Nat} (e : Is k h it a i) : ∃ o, h.get? it = some o ∧ ∀ v, o.data ≠ .cell v := match k, e with
  | .l, ⟨o, e, _, d⟩ => ⟨o, e, fun v q => by rw [d] at q; cases q⟩
  | .t, ⟨o, e, _, d⟩ => ⟨o, e, fun v q => by rw [d] at q; cases q⟩
theorem is_at {k : Kd} {h h' : Heap} {it a : Addr} {i : Nat} (e : Is k h it a i) (q : ∀ o, h.get? it = some o → h'.get? it = some o) : Is k h' it a i := match k, e with
  | .l, ⟨o, e, r⟩ => ⟨o, q o e, r⟩
  | .t, ⟨o, e, r⟩ => ⟨o, q o e, r⟩
theorem src {X : Cx} {pins : List (Addr × Obj)} {σ : L2.St} {H : Hp} {s : Shared} {k : Kd} {a : Addr} {xs : List V} (I : Inv X pins σ H s) (h : Sq k X.K H a xs) : ∃ its : List Value, Vals xs its ∧ On k s.heap a its.toArray := match k, h with
  | .l, h => let ⟨its, r, p, _⟩ := I.list h; ⟨its, r, p.isList⟩
  | .t, h => let ⟨its, r, p, _⟩ := I.tuple h; ⟨its, r, p⟩
theorem src_inj {X : Cx} {pins : List (Addr × Obj)} {σ : L2.St} {H : Hp} {s : Shared} {k : Kd} {a : Addr} {xs ys : List V} (I : Inv X pins σ H s) (h : Sq k X.K H a xs) (h' : Sq k X.K H a ys) : xs = ys := match k, h, h' with
  | .l, h, h' => I.list_inj h h'
  | .t, h, h' => I.tuple_inj h h'
theorem on_lt {k : Kd} {h : Heap} {a : Addr} {xs : Array Value} (e : On k h a xs) : a < h.objs.size := match k, e with
  | .l, e => let ⟨_, e, _⟩ := e; Heap.lt_size e
  | .t, e => let ⟨_, e, _⟩ := e; Heap.lt_size e
/-- both as they stand at each turn, of one length; the items in new pairs -/
def Izs (k k' : Kd) (K : PySem.W.Frag) (a b : Addr) : It :=
  ⟨fun i H => ∃ xs ys : List V, Sq k K H a xs ∧ Sq k' K H b ys ∧ i < xs.length ∧ i < ys.length,
    fun i H v H' => ∃ T x y, v = .ref T ∧ H T = none ∧ H' = upd H T (.tup [x, y]) ∧ (∀ xs, Sq k K H a xs → xs[i]? = some x) ∧ ∀ ys, Sq k' K H b ys → ys[i]? = some y,
    fun i H => ∃ xs ys : List V, Sq k K H a xs ∧ Sq k' K H b ys ∧ xs.length = i ∧ ys.length = i⟩
theorem turn {P : Program} {w : World} {K : PySem.W.Frag} {elts : List Expr} {kk : Nat} {tpos : Pos} {k k' : Kd} {a b z TI TO i1 i2 : Addr} (D : ZipSep2 z TI TO i1 i2 [i1, a] [i2, b]) (ha : a ≠ i1) (hb : b ≠ i2) :
    Turn P w K (.Tuple elts kk tpos) (Izs k k' K a b) [z, TI, TO, i1, i2] z (fun i h => ZipT h z TI TO .none ∧ IsTupOf2 h TI (.ref i1) (.ref i2) ∧ (∃ x y, IsTupOf2 h TO x y) ∧ Is k h i1 a i ∧ Is k' h i2 b i) where
  mem := by simp
  obj := fun i h st c hc => by
    obtain ⟨hz, hTI, ⟨x, y, hTO⟩, h1, h2⟩ := st
    simp only [List.mem_cons, List.not_mem_nil, or_false] at hc
    rcases hc with q | q | q | q | q <;> subst q
    · exact ⟨_, hz, fun v q => nomatch q⟩
    · exact ⟨_, hTI, fun v q => nomatch q⟩
    · exact ⟨_, hTO, fun v q => nomatch q⟩
    · exact is_obj h1
    · exact is_obj h2
  keep := fun i h h' st q => by
    obtain ⟨hz, hTI, ⟨x, y, hTO⟩, h1, h2⟩ := st
    exact ⟨q z (by simp) _ hz, q TI (by simp) _ hTI, ⟨x, y, q TO (by simp) _ hTO⟩, is_at h1 fun o e => q i1 (by simp) o e, is_at h2 fun o e => q i2 (by simp) o e⟩
  item := by
    intro X hP hw hK hc i pins s σ H E I hf st hg
    subst hP hw hK
    obtain ⟨hz, hTI, ⟨x0, y0, hTO⟩, h1, h2⟩ := st
    obtain ⟨xs, ys, hqx, hqy, l1, l2⟩ := hg
    obtain ⟨its, rv, p1⟩ := src I hqx
    obtain ⟨its2, rv2, p2⟩ := src I hqy
    obtain ⟨u, hu, ru⟩ := rv.get (List.getElem?_eq_getElem l1)
    obtain ⟨u2, hu2, ru2⟩ := rv2.get (List.getElem?_eq_getElem l2)
    have hd : X.A.in1.handled = none := I.ok.hd hc
    have hzl : z < s.heap.objs.size := Heap.lt_size hz
    refine py_item D (draws k hd i1 a ha its.toArray) (draws k' hd i2 b hb its2.toArray) hz hTI hTO ⟨h1, p1⟩ ⟨h2, p2⟩ (by simp; rw [← rv.length]; exact l1) (by simp; rw [← rv2.length]; exact l2) fun x1 x2 g tk q1 q2 z' TO' g1 g2 T' hsz hk => ?_
    have q1 : its.toArray[i]? = some x1 := q1
    have q2 : its2.toArray[i]? = some x2 := q2
    have e1 : u = x1 := by rw [List.getElem?_toArray] at q1; rw [q1] at hu; exact (Option.some.inj hu).symm
    have e2 : u2 = x2 := by rw [List.getElem?_toArray] at q2; rw [q2] at hu2; exact (Option.some.inj hu2).symm
    subst e1 e2
    refine ⟨_, rfl, go (s := { s with heap := g, toks := tk }) z' fun h'' z'' sb => ?_⟩
    have hT2 : h''.get? s.heap.objs.size = some { cls := .type "tuple", data := .seq #[u, u2] } := (sb.2 _ (Nat.ne_of_gt hzl)).trans T'
    have new : ObjOk X.prog X.w (upd H s.heap.objs.size (.tup [xs[i], ys[i]])) h'' s.heap.objs.size (.tup [xs[i], ys[i]]) :=
      ⟨by show 2 ≤ sizeLine; decide, [u, u2], .cons ru (.cons ru2 .nil), ⟨_, hT2, rfl, _, rfl⟩⟩
    have I1 : Inv X pins σ (upd H s.heap.objs.size (.tup [xs[i], ys[i]])) { s with heap := h'', toks := tk } :=
      I.turnedNew (t' := tk) (ch := [z, TI, TO, i1, i2]) (fun c o hb q => (sb.2 c (fun q' => hb (by simp [q']))).trans (hk c o (fun q' => hb (by simp [q'])) (fun q' => hb (by simp [q'])) (fun q' => hb (by simp [q'])) (fun q' => hb (by simp [q'])) q)) hf (Nat.le_refl _) new
    refine ⟨.ref s.heap.objs.size, _, I1, rfl, ⟨_, _, _, rfl, I.hok.fresh (Nat.le_refl _), rfl, fun l hl => by rw [src_inj I hl hqx]; exact List.getElem?_eq_getElem l1, fun l hl => by rw [src_inj I hl hqy]; exact List.getElem?_eq_getElem l2⟩, ⟨z'', ?_, ⟨u, u2, ?_⟩, ?_, ?_⟩, fun c hcm => ?_⟩
    · exact (sb.2 _ D.TIz).trans (hk _ _ D.TIz D.TITO D.TIi1 D.TIi2 hTI)
    · exact (sb.2 _ D.TOz).trans TO'
    · exact is_at g1.1 fun o q => (sb.2 _ (Ne.symm D.zi1)).trans q
    · exact is_at g2.1 fun o q => (sb.2 _ (Ne.symm D.zi2)).trans q
    · have hlt : c < s.heap.objs.size := by
        simp only [List.mem_cons, List.not_mem_nil, or_false] at hcm
        rcases hcm with q | q | q | q | q <;> subst q
        · exact hzl
        · exact Heap.lt_size hTI
        · exact Heap.lt_size hTO
        · obtain ⟨_, e, _⟩ := is_obj h1; exact Heap.lt_size e
        · obtain ⟨_, e, _⟩ := is_obj h2; exact Heap.lt_size e
      rw [upd_ne (Nat.ne_of_lt hlt)]
      exact (hf c hcm).1
  done := by
    intro X hP hw hK hc i pins s σ H E I hf st hg
    subst hP hw hK
    obtain ⟨hz, hTI, ⟨x0, y0, hTO⟩, h1, h2⟩ := st
    obtain ⟨xs, ys, hqx, hqy, l1, l2⟩ := hg
    obtain ⟨its, rv, p1⟩ := src I hqx
    obtain ⟨its2, rv2, p2⟩ := src I hqy
    have hd : X.A.in1.handled = none := I.ok.hd hc
    have s1 : its.toArray.size = i := by simp; rw [← rv.length]; exact l1
    have s2 : its2.toArray.size = i := by simp; rw [← rv2.length]; exact l2
    have d1 := draws (prog := X.prog) (w := X.w) k hd i1 a ha its.toArray
    have d2 := draws (prog := X.prog) (w := X.w) k' hd i2 b hb its2.toArray
    rw [s1] at d1
    rw [s2] at d2
    exact py_end (I.ok.hd hc) D d1 d2 hz hTI ⟨h1, p1⟩ ⟨h2, p2⟩ fun h' hk => ⟨rfl, I.turnedL (t' := s.toks) (ch := [z, TI, TO, i1, i2]) (fun c o hb q => hk c o (fun q' => hb (by simp [q'])) (fun q' => hb (by simp [q'])) (fun q' => hb (by simp [q'])) q) hf⟩
  self := fun A i s Q E st h => self st.1 h
end ZS

set_option Elab.async false
set_option linter.all false
set_option maxRecDepth 100000
set_option maxHeartbeats 4000000
namespace ZS
open PySem PySem.Spec PyProof.Rows L2
section
variable {M : Model} {A : Around} {E : Value → Shared → Prop} {s : Shared} {env : PySem.Env}
theorem callWith_tk {pos : Pos} {T : String} {e : Expr} {rest : List Expr} {kws : List Keyword} {Q : Value → Shared → Prop}
    (h : wpAny M A (spliced (backTo pos (starEach (e :: rest) env))) (fun vs s₁ => wpAny M A (evalAll ((backToKw pos (keywordEach kws env)).map (·.2)))
      (fun kvs s₂ => wpAny M A (call (.type T) vs (((backToKw pos (keywordEach kws env)).filterMap (·.1)).zip kvs)) Q E s₂) E s₁) E s)
    (he : backTo pos (starEach (e :: rest) env) = (false, eval e env) :: backTo pos (starEach rest env) := by rfl)
    (hp : (backTo pos (starEach (e :: rest) env)).any (·.1) = false := by rfl) (ha : (backToKw pos (keywordEach kws env)).all (·.1.isSome) = true := by rfl) (hk : (backToKw pos (keywordEach kws env)).any (·.1.isNone) = false := by rfl) :
    wpAny M A (callWith pos (.type T) [] (backTo pos (starEach (e :: rest) env)) (backToKw pos (keywordEach kws env))) Q E s := by
  have h' : wpAny M A (evalArgs (.type T) true (backTo pos (starEach (e :: rest) env)) (backToKw pos (keywordEach kws env))) (fun a s₁ => wpAny M A (call (.type T) ([] ++ a.pos) a.kw) Q E s₁) E s := by
    rw [he] at h ⊢
    exact evalArgs_kwB ha h
  unfold callWith
  refine wpAny_bind (wpAny_holding (wpAny_mono h' (fun a s₁ h₁ => wpAny_bind (wpAny_standAt ?_)) fun _ _ x => x))
  simp only [hp, hk, Bool.or_false]
  refine wpAny_bind (wpAny_pure (wpAny_bind (wpAny_mono h₁ (fun r s₂ hr => ?_) fun _ _ x => x)))
  exact wpAny_bind (wpAny_holding (wpAny_point (wpAny_pure hr)))
end
def iZs (K : PySem.W.Frag) (ta tk : TA) : TI := fun σ H R => ta σ H fun vs H1 => tk σ H1 fun ks H2 => ∃ k k' a b xs ys, vs = [.ref a, .ref b] ∧ ks = [.bl true] ∧ Sq k K H2 a xs ∧ Sq k' K H2 b ys ∧ R (Izs k k' K a b) H2
theorem pi_zs {X : Cx} {e e2 : Expr} {kv : Expr} {kp : Pos} {ta tk : TA} {p pos tpos : Pos} {elts : List Expr} {kk : Nat} (hg : Gl X "zip") (hm : X.mg "zip" = none) (ha : PA X [e, e2] ta) (hkw : PK X [⟨some (Str.ofString "strict"), kv, kp⟩] tk)
    (hs : backTo pos (starEach [e, e2] X.env) = (false, eval e X.env) :: backTo pos (starEach [e2] X.env) := by rfl) (hpl : (backTo pos (starEach [e, e2] X.env)).any (·.1) = false := by rfl) :
    PI X (.Tuple elts kk tpos) (.Call (.Name "zip" p) [e, e2] [⟨some (Str.ofString "strict"), kv, kp⟩] pos) (iZs X.K ta tk) := by
  refine ⟨fun pins s σ H R I h => ?_⟩
  refine wpAny_Call_Name_kw (ld_blt I hg hm PyProof.Rows.boot_zip (callWith_tk (thn (ha.run pos pins s σ H _ I h) fun us s0 ⟨vs, H0, I0, r0, q0⟩ => thn (hkw.run pos pins s0 σ H0 _ I0 q0) fun ws s1 ⟨ks, H1, I1, r1, q1⟩ => ?_) hs hpl))
  obtain ⟨k, k', a, b, xs, ys, ev, ek, hqx, hqy, q⟩ := q1
  subst ev ek
  obtain ⟨u1, u2, rfl, ru1, ru2⟩ := vals2 r0
  obtain ⟨w1, rfl, rw1⟩ := vals1 r1
  cases ru1
  cases ru2
  cases (show w1 = Value.bool true from rw1)
  show wpAny _ _ (call (.type "zip") [.ref a, .ref b] [(kwS, .bool true)]) _ _ s1
  obtain ⟨its, rv, p1⟩ := src I1 hqx
  obtain ⟨its2, rv2, p2⟩ := src I1 hqy
  have la := on_lt p1
  have lb := on_lt p2
  refine call_new (begins k a its.toArray) (begins k' b its2.toArray) p1 p2 fun g hz hTI hTO h1 h2 hsz hk => self hz ?_
  have I2 : Inv X pins σ H1 { s1 with heap := g } := I1.kept (t' := s1.toks) hk
  generalize hn : s1.heap.objs.size = n at *
  have ne : ∀ {x y : Nat}, x ≠ y → @Ne Addr x y := fun h => h
  have la : @LT.lt Nat instLTNat a n := la
  have lb : @LT.lt Nat instLTNat b n := lb
  refine ⟨n + 4, [n + 4, n + 2, n + 3, n, n + 1], _, _, H1, rfl, I2, turn (a := a) (b := b) (z := n + 4) (TI := n + 2) (TO := n + 3) (i1 := n) (i2 := n + 1) ?_ (ne (by omega)) (ne (by omega)), ⟨hz, hTI, ⟨_, _, hTO⟩, is_of k h1, is_of k' h2⟩, fun c hc => ?_, q⟩
  · have nm : ∀ {x y z : Nat}, x ≠ y → x ≠ z → (x : Addr) ∉ ([y, z] : List Addr) := fun h h' q => by
      simp only [List.mem_cons, List.not_mem_nil, or_false] at q
      exact q.elim h h'
    exact ⟨ne (by omega), ne (by omega), ne (by omega), ne (by omega), List.mem_cons_self, nm (by omega) (by omega), nm (by omega) (by omega), ne (by omega), List.mem_cons_self, nm (by omega) (by omega), nm (by omega) (by omega), nm (by omega) (by omega), nm (by omega) (by omega)⟩
  · have hle : s1.heap.objs.size ≤ c := by
      rw [hn]
      simp only [List.mem_cons, List.not_mem_nil, or_false] at hc
      have key : ∀ c : Nat, (c = n + 4 ∨ c = n + 2 ∨ c = n + 3 ∨ c = n ∨ c = n + 1) → n ≤ c := fun c h => by omega
      exact key c hc
    exact I1.fpOk hle (I1.hok.fresh hle)
/-- both of one length -/
theorem walk {K : PySem.W.Frag} {k k' : Kd} {a b : Addr} {xs ys : List V} (hl : xs.length = ys.length) : Walk (Izs k k' K a b) xs.length (fun H => Sq k K H a xs ∧ Sq k' K H b ys) (YPair (fun i => xs[i]?) (fun i => ys[i]?)) := by
  refine ⟨fun i _ hi q => ⟨xs, ys, q.1, q.2, hi, by omega⟩, fun _ q => ⟨xs, ys, q.1, q.2, rfl, hl.symm⟩, fun i H v H' _ q y => ?_⟩
  obtain ⟨T, x, z, h1, h2, h3, h4, h5⟩ := y
  exact ⟨T, x, z, h1, h2, h3, h4 xs q.1, h5 ys q.2⟩
end ZS
namespace TB
open PySem PySem.Spec PyProof.Rows L2 ZS
/-- a list or a tuple of data -/
def seqD : D → Option (Kd × List D)
  | .node .lst xs => some (.l, xs)
  | .node .tup xs => some (.t, xs)
  | .node .ktp xs => some (.t, xs)
  | _ => none
def itZipS (ms : Evs) : Evs := fun env M => (ms env M).bind fun ds M1 => match ds with
  | [d, e] => match seqD d, seqD e with
    | some (_, xs), some (_, ys) => match Nat.beq xs.length ys.length with
      | true => .ok (prs xs ys) M1
      | false => .stuck
    | _, _ => .stuck
  | _ => .stuck
section
variable {X : Cx} {W : XK} {T : List (Addr × Str)} {lb : Bool}
theorem seqD_at {A : AM} {H : Hp} {d : D} {v : V} {k : Kd} {xs : List D} (h : seqD d = some (k, xs)) (dv : DV X.K A H d v) : ∃ a vs t, v = .ref a ∧ NodeAt X.K A.adrs H a t vs ∧ DPs X.K A.adrs H xs vs ∧ ∀ H, ReadAt X.K H a t vs → Sq k X.K H a vs := by
  unfold seqD at h
  split at h
  · cases h
    obtain ⟨a, vs, e, n, ds⟩ := dv
    exact ⟨a, vs, _, e, n, ds, fun _ h => h.lst⟩
  · cases h
    obtain ⟨a, vs, e, n, ds⟩ := dv
    exact ⟨a, vs, _, e, n, ds, fun _ h => h.tup⟩
  · cases h
    obtain ⟨a, vs, e, n, ds⟩ := dv
    exact ⟨a, vs, _, e, n, ds, fun _ h => h.ktp⟩
  · cases h
theorem i_zipS {elts : List Expr} {kk : Nat} {tpos p pos kp kq : Pos} {j : Nat} {e e2 : Expr} {ms : Evs} (hg : Gl X "zip") (hm : X.mg "zip" = none) (ha : PA X [e, e2] (RdA W T X.K ms))
    (hs : backTo pos (starEach [e, e2] X.env) = (false, eval e X.env) :: backTo pos (starEach [e2] X.env) := by rfl) (hpl : (backTo pos (starEach [e, e2] X.env)).any (·.1) = false := by rfl) :
    PI X (.Tuple elts kk tpos) (.Call (.Name "zip" p) [e, e2] [⟨some (Str.ofString "strict"), .Constant (.bool true) j kq, kp⟩] pos) (RdI X W T lb (itZipS ms)) :=
  (pi_zs hg hm ha (pk_cons pe_bl pk_nil) hs hpl).imp fun σ H Q ⟨A, env, at0, p⟩ => (PoI.steps at0 p).mono fun vs H1 ⟨A1, ds, _, a1, dv, p1⟩ => by
    split at p1
    · rename_i d e
      split at p1
      · rename_i k xs k' ys h1 h2
        split at p1
        · rename_i hl
          have hl := Nat.eq_of_beq_eq_true hl
          obtain ⟨v, w, rfl, dx, dy⟩ := dvl2 dv
          obtain ⟨a, ws, _, rfl, na, ds, fa⟩ := seqD_at h1 dx
          obtain ⟨b, us, _, rfl, nb, es, fb⟩ := seqD_at h2 dy
          have l1 := ds.len
          have l2 := es.len
          refine ⟨k, k', a, b, ws, us, rfl, rfl, fa _ (nodeAt_read na), fb _ (nodeAt_read nb), p1 A1 H1 H1 _ rfl Ext.refl a1.mem ⟨.inl rfl, fun _ => rfl⟩ (iter_prs (ZS.walk (by omega)) (by omega) (by omega) (fun A H e => ⟨fa _ (nodeAt_read (na.keep e.n e.k)), fb _ (nodeAt_read (nb.keep e.n e.k))⟩) (fun i v hi q => ds.get q) fun i v hi q => es.get q)⟩
        · exact p1.elim
      · exact p1.elim
    · exact p1.elim
end
end TB

set_option Elab.async false
set_option linter.all false
set_option maxRecDepth 100000
set_option maxHeartbeats 4000000
namespace ZS
open PySem
open PySem.Sem (wp)
theorem meets_en {v : Value} {o : Obj} {H : Heap → Prop} (B : Begins v o H) :
    Meets (Builtin.«enumerate.__new__» ⟨[.type "enumerate", v], []⟩) (fun _ R s => H s.heap ∧ R (.ok (.ret (.ref (s.heap.push o).objs.size)))
      { s with heap := (s.heap.push o).push { cls := .type "enumerate", data := .fields #[.none, .bool false, .ref s.heap.objs.size, rawInt 0, .none, .none] } }) :=
  .of_wp fun prog w A R s h => by
    obtain ⟨hp, g, d, tk, os⟩ := s; obtain ⟨h1, h⟩ := h
    have hsub := sub_enumerate
    have q1 : ∀ {A' : Around} {E : Value → Shared → Prop} {Q : Value → Shared → Prop}, Q (.ref hp.objs.size) ⟨hp.push o, g, d, tk, os⟩ → wpAny (model prog w) A' (pyIter v) Q E ⟨hp, g, d, tk, os⟩ :=
      fun q => B.iter prog w _ _ ⟨hp, g, d, tk, os⟩ _ h1 q
    wp_walk
    refine wpAny_stack_any fun st => wpAny_pure ?_
    split
    · rename_i c _ _ _ _ _
      cases (c == Value.type "enumerate")
      · wp_walk using q1
        exact ⟨_, rfl, h⟩
      · wp_walk using q1
        exact ⟨_, rfl, h⟩
    · wp_walk using q1
      exact ⟨_, rfl, h⟩
theorem call_en {prog : Program} {w : World} {A : Around} {E : Value → Shared → Prop} {s : Shared} {v : Value} {o : Obj} {H : Heap → Prop} {Q : Value → Shared → Prop} (B : Begins v o H) (h1 : H s.heap)
    (h : ∀ g, IsEnum g (s.heap.objs.size + 1) s.heap.objs.size 0 .none → g.get? s.heap.objs.size = some o → (∀ b o, s.heap.get? b = some o → g.get? b = some o) → Q (.ref (s.heap.objs.size + 1)) { s with heap := g }) :
    wpAny (model prog w) A (call (.type "enumerate") [v]) Q E s := by
  refine callType_new F.called_enumerate (by decide) (F.typeCall_enumerate_1 _) (F.newCall_enumerate_1 _) (fun obj => F.args_object_init_2 obj _) F.entry_enumerate_new (meets_en B) ⟨h1, ?_⟩
  have y1 : (s.heap.push o).objs.size = s.heap.objs.size + 1 := Heap.size_push ..
  show _ ∧ _
  rw [y1]
  have he := Heap.get?_push_size (s.heap.push o) (o := { cls := .type "enumerate", data := .fields #[.none, .bool false, .ref s.heap.objs.size, rawInt 0, .none, .none] }) rfl
  rw [y1] at he
  exact ⟨⟨_, he, rfl⟩, h _ he (Heap.get?_push_of_some _ (Heap.get?_push_size _ B.free)) fun b o x => Heap.get?_push_of_some _ (Heap.get?_push_of_some _ x)⟩
end ZS
namespace ZS
open PySem PySem.Spec PyProof.Rows L2
def Ien (k : Kd) (K : PySem.W.Frag) (a : Addr) : It :=
  ⟨fun i H => ∃ xs : List V, Sq k K H a xs ∧ i < xs.length, fun i H v H' => ∃ T x, v = .ref T ∧ H T = none ∧ H' = upd H T (.tup [.int (i : Nat), x]) ∧ ∀ xs, Sq k K H a xs → xs[i]? = some x, fun i H => ∃ xs : List V, Sq k K H a xs ∧ xs.length = i⟩
theorem turnE {P : Program} {w : World} {K : PySem.W.Frag} {elts : List Expr} {kk : Nat} {tpos : Pos} {k : Kd} {a e it : Addr} (ha : a ≠ it) (he : e ≠ it) (hea : e ≠ a) :
    Turn P w K (.Tuple elts kk tpos) (Ien k K a) [e, it] e (fun i h => (∃ old, IsEnum h e it ((i : Nat) : Int) old) ∧ Is k h it a i) where
  mem := by simp
  obj := fun i h st b hb => by
    obtain ⟨⟨old, h1⟩, h2⟩ := st
    simp only [List.mem_cons, List.not_mem_nil, or_false] at hb
    rcases hb with q | q <;> subst q
    · exact ⟨_, h1, fun v q => nomatch q⟩
    · exact is_obj h2
  keep := fun i h h' st q => let ⟨⟨old, h1⟩, h2⟩ := st; ⟨⟨old, q e (by simp) _ h1⟩, is_at h2 fun o z => q it (by simp) o z⟩
  item := by
    intro X hP hw hK hc i pins s σ H E I hf st hg
    subst hP hw hK
    obtain ⟨⟨old, h1⟩, h2⟩ := st
    obtain ⟨xs, hq, hl⟩ := hg
    obtain ⟨its, rv, p⟩ := src I hq
    obtain ⟨u, hu, ru⟩ := rv.get (List.getElem?_eq_getElem hl)
    have hd : X.A.in1.handled = none := I.ok.hd hc
    have hel : e < s.heap.objs.size := Heap.lt_size h1
    have hil : it < s.heap.objs.size := by obtain ⟨_, q, _⟩ := is_obj h2; exact Heap.lt_size q
    refine wpAny_pyNext_enum_itemD (draws k hd it a ha its.toArray) h1 ⟨h2, p⟩ (by simp; rw [← rv.length]; exact hl) he (by simp; exact ⟨he, hea⟩) fun x g tk q1 ho g1 hT hsz hk => ?_
    have q1 : its.toArray[i]? = some x := q1
    have e1 : u = x := by rw [List.getElem?_toArray] at q1; rw [q1] at hu; exact (Option.some.inj hu).symm
    subst e1
    refine ⟨_, rfl, wpAny_letOwnedTupleGo_enum (s := { s with heap := g, toks := tk + 1 }) ho fun h'' he' sb => ?_⟩
    have hT2 : h''.get? s.heap.objs.size = some { cls := .type "tuple", data := .seq #[.int i tk, u] } := (sb.2 _ (Nat.ne_of_gt hel)).trans hT
    have new : ObjOk X.prog X.w (upd H s.heap.objs.size (.tup [.int (i : Nat), xs[i]])) h'' s.heap.objs.size (.tup [.int (i : Nat), xs[i]]) :=
      ⟨by show 2 ≤ sizeLine; decide, [.int i tk, u], .cons ⟨_, rfl⟩ (.cons ru .nil), ⟨_, hT2, rfl, _, rfl⟩⟩
    have I1 : Inv X pins σ (upd H s.heap.objs.size (.tup [.int (i : Nat), xs[i]])) { s with heap := h'', toks := tk + 1 } :=
      I.turnedNew (t' := tk + 1) (ch := [e, it]) (fun b ob hb q => (sb.2 b (fun z => hb (by simp [z]))).trans (hk b ob (fun z => hb (by simp [z])) (fun z => hb (by simp [z])) q)) hf (Nat.le_refl _) new
    refine ⟨.ref s.heap.objs.size, _, I1, rfl, ⟨_, _, rfl, I.hok.fresh (Nat.le_refl _), rfl, fun ys hy => by rw [src_inj I hy hq]; exact List.getElem?_eq_getElem hl⟩, ⟨⟨u, ?_⟩, is_at g1.1 fun o q => (sb.2 it (Ne.symm he)).trans q⟩, fun b hb => ?_⟩
    · have e1 : ((i + 1 : Nat) : Int) = (i : Int) + 1 := by omega
      rw [e1]; exact he'
    · have hb' : b < s.heap.objs.size := by
        simp only [List.mem_cons, List.not_mem_nil, or_false] at hb
        rcases hb with z | z <;> subst z
        · exact hel
        · exact hil
      rw [upd_ne (Nat.ne_of_lt hb')]
      exact (hf b hb).1
  done := by
    intro X hP hw hK hc i pins s σ H E I hf st hg
    subst hP hw hK
    obtain ⟨⟨old, h1⟩, h2⟩ := st
    obtain ⟨xs, hq, hl⟩ := hg
    obtain ⟨its, rv, p⟩ := src I hq
    have hd : X.A.in1.handled = none := I.ok.hd hc
    have d1 := draws (prog := X.prog) (w := X.w) k hd it a ha its.toArray
    rw [show its.toArray.size = i by simp; rw [← rv.length]; exact hl] at d1
    exact wpAny_pyNext_enum_endD d1 h1 ⟨h2, p⟩ fun h' eb => ⟨rfl, I.turnedL (t' := s.toks) (ch := [e, it]) (fun b o hb q => eb b o (fun z => hb (by simp [z])) q) hf⟩
  self := fun A i s Q E st h => let ⟨⟨_, h1⟩, _⟩ := st; wpAny_pyIter_enum h1 h
def iEn (K : PySem.W.Frag) (ta : TA) : TI := fun σ H R => ta σ H fun vs H1 => ∃ k a xs, vs = [.ref a] ∧ Sq k K H1 a xs ∧ R (Ien k K a) H1
theorem pi_en {X : Cx} {e : Expr} {ta : TA} {p pos tpos : Pos} {elts : List Expr} {kk : Nat} (hg : Gl X "enumerate") (hm : X.mg "enumerate" = none) (ha : PA X [e] ta) (hs : starEach [e] X.env = [(false, eval e X.env)] := by rfl) :
    PI X (.Tuple elts kk tpos) (.Call (.Name "enumerate" p) [e] [] pos) (iEn X.K ta) := by
  refine ⟨fun pins s σ H R I h => ?_⟩
  refine Call_ (ld_blt I hg hm boot_enumerate (PyProof.Rows.callWith_type1 (thn (ha.run pos pins s σ H _ I h) fun us s1 ⟨vs, H1, I1, r1, q1⟩ => ?_) hs rfl))
  obtain ⟨k, a, xs, ex, hq, q⟩ := q1
  subst ex
  obtain ⟨u1, rfl, ru⟩ := vals1 r1
  cases ru
  obtain ⟨its, rv, p'⟩ := src I1 hq
  have la := on_lt p'
  refine call_en (begins k a its.toArray) p' fun g he hit hk => wpAny_pyIter_enum he ?_
  have I2 : Inv X pins σ H1 { s1 with heap := g } := I1.kept (t' := s1.toks) hk
  generalize hn : s1.heap.objs.size = n at *
  have ne : ∀ {x y : Nat}, x ≠ y → @Ne Addr x y := fun h => h
  have la : @LT.lt Nat instLTNat a n := la
  refine ⟨n + 1, [n + 1, n], _, _, H1, rfl, I2, turnE (a := a) (e := n + 1) (it := n) (ne (by omega)) (ne (by omega)) (ne (by omega)), ⟨⟨.none, he⟩, is_of k hit⟩, fun b hb => ?_, q⟩
  have hle : s1.heap.objs.size ≤ b := by
    rw [hn]
    simp only [List.mem_cons, List.not_mem_nil, or_false] at hb
    have key : ∀ c : Nat, (c = n + 1 ∨ c = n) → n ≤ c := fun c h => by omega
    exact key b hb
  exact I1.fpOk hle (I1.hok.fresh hle)
theorem walkE {K : PySem.W.Frag} {k : Kd} {a : Addr} {xs : List V} : Walk (Ien k K a) xs.length (fun H => Sq k K H a xs) (YPair (fun i => some (.int (i : Nat))) (fun i => xs[i]?)) := by
  refine ⟨fun i _ hi q => ⟨xs, q, hi⟩, fun _ q => ⟨xs, q, rfl⟩, fun i H v H' _ q y => ?_⟩
  obtain ⟨T, x, h1, h2, h3, h4⟩ := y
  exact ⟨T, .int (i : Nat), x, h1, h2, h3, rfl, h4 xs q⟩
end ZS
namespace TB
open PySem PySem.Spec PyProof.Rows L2 ZS
section
variable {X : Cx} {W : XK} {T : List (Addr × Str)} {lb : Bool}
def itEn (ms : Evs) : Evs := fun env M => (ms env M).bind fun ds M1 => match ds with
  | [d] => match seqD d with
    | some (_, xs) => .ok (prs (upto 0 xs.length) xs) M1
    | none => .stuck
  | _ => .stuck
theorem i_en {elts : List Expr} {kk : Nat} {tpos p pos : Pos} {e : Expr} {ms : Evs} (hg : Gl X "enumerate") (hm : X.mg "enumerate" = none) (ha : PA X [e] (RdA W T X.K ms)) (hs : starEach [e] X.env = [(false, eval e X.env)] := by rfl) : PI X (.Tuple elts kk tpos) (.Call (.Name "enumerate" p) [e] [] pos) (RdI X W T lb (itEn ms)) :=
  (pi_en hg hm ha hs).imp fun σ H Q ⟨A, env, at0, p⟩ => (PoI.steps at0 p).mono fun vs H1 ⟨A1, ds, _, a1, dv, p1⟩ => by
    split at p1
    · rename_i d
      split at p1
      · rename_i k xs hk
        obtain ⟨v, rfl, dx⟩ := dvl1 dv
        obtain ⟨a, ws, _, rfl, na, ds, fa⟩ := seqD_at hk dx
        refine ⟨k, a, ws, rfl, fa _ (nodeAt_read na), p1 A1 H1 H1 _ rfl Ext.refl a1.mem ⟨.inl rfl, fun _ => rfl⟩ (iter_prs walkE (by rw [upto_len]; exact ds.len) ds.len (fun A H e => fa _ (nodeAt_read (na.keep e.n e.k))) (fun i v hi q => ?_) fun i v hi q => ds.get q)⟩
        cases q
        refine ⟨_, upto_get xs.length 0 i (by rw [ds.len]; exact hi), ?_⟩
        show _ = _
        congr 1
        omega
      · exact p1.elim
    · exact p1.elim
/-- what a value is walked as: a list, a tuple, a text -/
def seqI : D → Option (List D)
  | .node .lst xs => some xs
  | .node .tup xs => some xs
  | .node .ktp xs => some xs
  | .str z => some (chars z.cps.toList)
  | _ => none
def itSeq (m : Ev) : Evs := fun env M => (m env M).bind fun d M1 => match seqI d with
  | some xs => .ok xs M1
  | none => .stuck
theorem i_seq {tg e : Expr} {ma : Ev} (h : PE X e (RdE W T X.K ma)) : PI X tg e (RdI X W T lb (itSeq ma)) := ⟨fun pins s σ H R I ⟨A, env, at0, p⟩ => by
  unfold itSeq at p
  cases q : ma env A.ers with
  | stuck => rw [q] at p; exact p.elim
  | exc x M => rw [q] at p; exact (i_lst (lb := lb) h).run pins s σ H R I ⟨A, env, at0, by unfold itLst; rw [q]; exact p⟩
  | ok d M =>
    rw [q] at p
    cases d with
    | str z => exact (i_str (lb := lb) h).run pins s σ H R I ⟨A, env, at0, by unfold itStr; rw [q]; exact p⟩
    | node t xs =>
      cases t with
      | lst => exact (i_lst (lb := lb) h).run pins s σ H R I ⟨A, env, at0, by unfold itLst; rw [q]; exact p⟩
      | tup => exact (i_tup (lb := lb) h).run pins s σ H R I ⟨A, env, at0, by unfold itTup; rw [q]; exact p⟩
      | ktp => exact (i_ktp (lb := lb) h).run pins s σ H R I ⟨A, env, at0, by unfold itKtp; rw [q]; exact p⟩
      | _ => exact p.elim
    | _ => exact p.elim⟩
/-- .. or a dict by its keys -/
def anyI : D → Option (List D)
  | .node .lst xs => some xs
  | .node .tup xs => some xs
  | .node .ktp xs => some xs
  | .node (.dK ks) _ => some (ks.map keyD)
  | .str z => some (chars z.cps.toList)
  | _ => none
def itAny (m : Ev) : Evs := fun env M => (m env M).bind fun d M1 => match anyI d with
  | some xs => .ok xs M1
  | none => .stuck
theorem i_any {tg e : Expr} {ma : Ev} (h : PE X e (RdE W T X.K ma)) : PI X tg e (RdI X W T true (itAny ma)) := ⟨fun pins s σ H R I ⟨A, env, at0, p⟩ => by
  unfold itAny at p
  cases q : ma env A.ers with
  | stuck => rw [q] at p; exact p.elim
  | exc x M => rw [q] at p; exact (i_lst (lb := true) h).run pins s σ H R I ⟨A, env, at0, by unfold itLst; rw [q]; exact p⟩
  | ok d M =>
    rw [q] at p
    cases d with
    | str z => exact (i_str (lb := true) h).run pins s σ H R I ⟨A, env, at0, by unfold itStr; rw [q]; exact p⟩
    | node t xs =>
      cases t with
      | lst => exact (i_lst (lb := true) h).run pins s σ H R I ⟨A, env, at0, by unfold itLst; rw [q]; exact p⟩
      | tup => exact (i_tup (lb := true) h).run pins s σ H R I ⟨A, env, at0, by unfold itTup; rw [q]; exact p⟩
      | ktp => exact (i_ktp (lb := true) h).run pins s σ H R I ⟨A, env, at0, by unfold itKtp; rw [q]; exact p⟩
      | dK ks => exact (i_keys h).run pins s σ H R I ⟨A, env, at0, by unfold itKeys; rw [q]; exact p⟩
      | _ => exact p.elim
    | _ => exact p.elim⟩
end
end TB

set_option Elab.async false
set_option linter.all false
set_option maxRecDepth 100000
set_option maxHeartbeats 4000000
namespace ZU
open PySem PySem.Spec PyProof.Rows
/-- nothing that stood is lost -/
def Grows (h h' : Heap) : Prop := ∀ b o, h.get? b = some o → h'.get? b = some o
/-- a set that is being filled: St h i «after i items» -/
structure Fills (P : Program) (w : World) (U : Nat) (h0 : Heap) (S : Addr) (items : Array Value) (St : Heap → Nat → Prop) : Prop where
  fresh : ∀ h, h.get? S = some { cls := .type "set", dict := none, data := .set #[] 0 (.fresh 0 0 (!w.params.followText "set-order")) } → Grows h0 h → St h 0
  keep : ∀ h h' i, Grows h0 h' → (∀ o, h.get? S = some o → h'.get? S = some o) → St h i → St h' i
  step : ∀ (A : Around) (E : Value → Shared → Prop) (Q : Bool → Shared → Prop) (s : Shared) (i : Nat) (v : Value), A.units ≤ U → items[i]? = some v → Grows h0 s.heap → St s.heap i →
    (∀ b h' tk, Heap.SameBut S s.heap h' → s.toks ≤ tk → St h' (i + 1) → Q b { s with heap := h', toks := tk }) → wpAny (model P w) A (setAdd S v) Q E s
section
variable {P : Program} {w : World} {A : Around} {h0 : Heap} {S : Addr} {items : Array Value} {F : Heap → Nat → Prop} {U : Nat}
variable {R : Result → Shared → Prop} {I : Addr} {fp wr : List Addr} {G : Array GenState → Array GenState → Prop} {T : Nat → Shared → Prop}
theorem fill_loop (D : Fills P w U h0 S items F) (W : WalksS P w A.in1 I fp wr G items.size (fun i v => items[i]? = some v) T) (hf : S ∉ fp) (hS : h0.get? S = none) (hw : ∀ b ∈ wr, h0.get? b = none) (hu : A.in1.units ≤ U) :
    ∀ (k i : Nat) (s : Shared), items.size - i = k → i ≤ items.size → T i s → Grows h0 s.heap → F s.heap i →
      (∀ s', Moved (S :: wr) G s s' → Grows h0 s'.heap → F s'.heap items.size → R (.ok (.ret .none)) s') →
      codeAny (model P w) A (.builtin "set.update.loop" ⟨[.ref S, .ref I], []⟩) R s := by
  have nw : S ∉ wr := fun z => hf (W.sub _ z)
  have up : ∀ b ∈ wr, b ∈ S :: wr := fun b z => List.mem_cons_of_mem _ z
  have gr : ∀ {s s' : Shared}, Moved wr G s s' → Grows h0 s.heap → Grows h0 s'.heap := fun mv g b o z => mv.heap b o (fun y => by rw [hw b y] at z; cases z) (g b o z)
  intro k
  induction k with
  | zero =>
    intro i s e1 e2 st g f q
    obtain rfl : i = items.size := by omega
    refine codeAny_builtin PyProof.Rows.F.entry_set_update_loop ?_
    rw [Around.under_plainId PyProof.Rows.F.plain_set_update_loop _]
    show wpAny _ A.in1 (pyNext (.ref I) >>= _) _ _ s
    refine wpAny_bind (W.done s _ _ st fun s' mv => ?_)
    show wpAny _ A.in1 (ret Value.none) _ _ s'
    exact wpAny_pure (q s' (mv.mono up) (gr mv g) (D.keep _ _ _ (gr mv g) (fun o z => mv.heap S o nw z) f))
  | succ k ih =>
    intro i s e1 e2 st g f q
    refine codeAny_builtin PyProof.Rows.F.entry_set_update_loop ?_
    rw [Around.under_plainId PyProof.Rows.F.plain_set_update_loop _]
    show wpAny _ A.in1 (pyNext (.ref I) >>= _) _ _ s
    refine wpAny_bind (W.item i s _ _ (by omega) st fun v s' hv st' mv => ?_)
    have g' := gr mv g
    show wpAny _ A.in1 (holding [v] (setAdd S v) >>= _) _ _ s'
    refine wpAny_bind (wpAny_holding (D.step _ _ _ s' i v hu hv g' (D.keep _ _ _ g' (fun o z => mv.heap S o nw z) f) fun b h' tk sb ht f' => ?_))
    have g2 : Grows h0 h' := fun b o z => (sb.2 b (fun y => by rw [y, hS] at z; cases z)).trans (g' b o z)
    refine wpAny_pure ⟨plainId_quiet PyProof.Rows.F.plain_set_update_loop _, ih (i + 1) _ (by omega) (by omega) (W.frame _ s' _ _ st' ht fun b hb o e => ?_) g2 f' fun s'' mv2 g3 f3 => ?_⟩
    · rw [sb.2 b (fun y : b = S => hf (by rw [← y]; exact hb))]; exact e
    · refine q s'' (Moved.trans W.gtrans ((mv.mono up).then_heap ht fun b o hb e => ?_) mv2) g3 f3
      rw [sb.2 b (fun y : b = S => hb (by rw [y]; exact List.mem_cons_self))]; exact e
end
/-- what stands at a list's or a tuple's address -/
def SqAt (k : Bool) (h : Heap) (l : Addr) (items : Array Value) : Prop := bif k then h.IsList l items else h.IsTuple l items
section
variable {P : Program} {w : World} {A : Around} {E : Value → Shared → Prop} {s : Shared}
set_option maxHeartbeats 16000000 in
theorem call_set {k : Bool} {l : Addr} {items : Array Value} {F : Heap → Nat → Prop} {U : Nat} {Q : Value → Shared → Prop} (hh : A.handled = none) (hl : SqAt k s.heap l items)
    (D : Fills P w U s.heap s.heap.objs.size items F) (hu : A.units + 4 ≤ U)
    (q : ∀ (h' : Heap) (tk : Nat), Grows s.heap h' → F h' items.size → Q (.ref s.heap.objs.size) { s with heap := h', toks := tk }) :
    wpAny (model P w) A (call (.type "set") [.ref l]) Q E s := by
  obtain ⟨c, tl, hmro⟩ := PySem.F.called_set.mro
  have hmade := PySem.F.called_set.made
  have hsub := PySem.F.called_set.sub
  refine wpAny_call (codeAny_of_tree ?_)
  show wpAny _ _ (callAny (.type "set") _) _ _ _
  refine wpAny_pure ⟨Code.quiet_builtin _ (by decide +kernel), codeAny_builtin PySem.F.entry_type_call ?_⟩
  rw [Around.under_plain (weight_type_call_type "set" [.ref l] []) rfl]
  have h1 := PySem.F.called_set.notType
  have h2 := PySem.F.called_set.canCreate
  have hct := PySem.F.typeCall_set_1 (.ref l)
  repeat (any_goals (first | assumption | wp_step))
  refine codeAny_mono (L2.code_set_led1 (.ref l) (E := E) (Q₁ := fun obj t => obj = .ref s.heap.objs.size ∧ t = { s with heap := s.heap.push { cls := .type "set", dict := none, data := .set #[] 0 (.fresh 0 0 (!w.params.followText "set-order")) } }) ⟨rfl, rfl⟩) fun r s₁ hr => ?_
  cases r with
  | error e => exact hr
  | ok fl =>
    cases fl with
    | ret obj =>
      obtain ⟨rfl, rfl⟩ := hr
      have hS : (s.heap.push { cls := .type "set", dict := none, data := .set #[] 0 (.fresh 0 0 (!w.params.followText "set-order")) }).get? s.heap.objs.size = some { cls := .type "set", dict := none, data := .set #[] 0 (.fresh 0 0 (!w.params.followText "set-order")) } := Heap.get?_push_size _ rfl
      have hT : Shared.TypeIs { s with heap := s.heap.push { cls := .type "set", dict := none, data := .set #[] 0 (.fresh 0 0 (!w.params.followText "set-order")) } } (.ref s.heap.objs.size) "set" := ⟨_, hS, rfl⟩
      have hli := PySem.F.called_set.init.lookup
      have hbi := PySem.F.called_set.init.bind (.ref s.heap.objs.size)
      repeat (any_goals (first | assumption | wp_step))
      refine codeAny_mono (codeAny_call_builtin (R := wants (fun r t => r = .none ∧ ∃ h' tk, t = { s with heap := h', toks := tk } ∧ Grows s.heap h' ∧ F h' items.size) E) PySem.F.called_set.init.plain PySem.F.entry_set_init (check_set_init_1 hT ?_)) fun r₂ s₂ hr₂ => ?_
      · have hz1 : (s.heap.push { cls := .type "set", dict := none, data := .set #[] 0 (.fresh 0 0 (!w.params.followText "set-order")) }).objs.size = s.heap.objs.size + 1 := Heap.size_push ..
        have none_of : ∀ b, s.heap.objs.size ≤ b → s.heap.get? b = none := fun b hb => by
          cases z : s.heap.get? b with
          | none => rfl
          | some o => exact absurd (Nat.lt_of_lt_of_le (Heap.lt_size z) hb) (Nat.lt_irrefl _)
        have hh3 : A.in1.in1.in1.handled = none := by simp [hh]
        cases k with
        | true =>
          obtain ⟨ol, hol, hcl, nl, hdl⟩ := (show s.heap.IsList l items from hl)
          obtain ⟨ocls, odict, odata, oslots⟩ := ol
          simp only at hcl hdl
          subst hcl; subst hdl
          have hol' : (s.heap.push { cls := .type "set", dict := none, data := .set #[] 0 (.fresh 0 0 (!w.params.followText "set-order")) }).get? l = some { cls := .type "list", dict := odict, data := .seq items nl, slots := oslots } := Heap.get?_push_of_some _ hol
          have hsls := PySem.F.sub_list_set
          have hslf := PySem.F.sub_list_frozenset
          have hne : (Value.type "list" == Value.type "dict") = false := by decide
          have hl1 : (s.heap.push { cls := .type "set", dict := none, data := .set #[] 0 (.fresh 0 0 (!w.params.followText "set-order")) }).IsList l items := ⟨_, hol', rfl, nl, rfl⟩
          have hlS : l < s.heap.objs.size := Heap.lt_size hol
          have hneI : l ≠ (s.heap.push { cls := .type "set", dict := none, data := .set #[] 0 (.fresh 0 0 (!w.params.followText "set-order")) }).objs.size := by
            rw [hz1]; exact Nat.ne_of_lt (Nat.lt_succ_of_lt hlS)
          unfold Builtin.«set.__init__» noKeywords Builtin.Frozenset.updateFrom
          generalize hPI : pyIter = PI
          wp_walk
          subst hPI
          refine wpAny_pyIter_list hl1 ?_
          refine wpAny_bind (wpAny_runValue ?_)
          refine fill_loop D ((Walks.list hh3 _ l hneI items).toS) ?_ (none_of _ (Nat.le_refl _)) (fun b hb => none_of b (by rw [List.mem_singleton.mp hb, hz1]; exact Nat.le_succ _)) (by show A.units + 3 ≤ U; omega)
            (items.size - 0) 0 _ (by omega) (Nat.zero_le _) ⟨⟨_, Heap.get?_push_size _ rfl, rfl, rfl⟩, (hl1.push _)⟩ (fun b o e => Heap.get?_push_of_some _ (Heap.get?_push_of_some _ e))
            (D.fresh _ (Heap.get?_push_of_some _ hS) fun b o e => Heap.get?_push_of_some _ (Heap.get?_push_of_some _ e)) ?_
          · rw [hz1]; simp only [List.mem_cons, List.mem_singleton, List.not_mem_nil, or_false, not_or]
            exact ⟨Nat.ne_of_lt (Nat.lt_succ_self _), Nat.ne_of_gt hlS⟩
          · intro s' mv g f
            obtain ⟨h', g2, d', tk', os'⟩ := s'
            obtain rfl : g2 = s.gens := mv.gens
            obtain rfl : d' = s.drawn := mv.drawn
            obtain rfl : os' = s.os := mv.os
            show wpAny _ _ _ _ _ _
            refine wpAny_pure ?_
            show wpAny _ _ (ret Value.none) _ _ _
            exact wpAny_pure ⟨rfl, h', tk', rfl, g, f⟩
        | false =>
          obtain ⟨ol, hol, hcl, nl, hdl⟩ := (show s.heap.IsTuple l items from hl)
          obtain ⟨ocls, odict, odata, oslots⟩ := ol
          simp only at hcl hdl
          subst hcl; subst hdl
          have hol' : (s.heap.push { cls := .type "set", dict := none, data := .set #[] 0 (.fresh 0 0 (!w.params.followText "set-order")) }).get? l = some { cls := .type "tuple", dict := odict, data := .seq items nl, slots := oslots } := Heap.get?_push_of_some _ hol
          have hsls := PySem.F.sub_tuple_set
          have hslf := PySem.F.sub_tuple_frozenset
          have hne : (Value.type "tuple" == Value.type "dict") = false := by decide
          have hl1 : (s.heap.push { cls := .type "set", dict := none, data := .set #[] 0 (.fresh 0 0 (!w.params.followText "set-order")) }).IsTuple l items := ⟨_, hol', rfl, nl, rfl⟩
          have hlS : l < s.heap.objs.size := Heap.lt_size hol
          have hneI : l ≠ (s.heap.push { cls := .type "set", dict := none, data := .set #[] 0 (.fresh 0 0 (!w.params.followText "set-order")) }).objs.size := by
            rw [hz1]; exact Nat.ne_of_lt (Nat.lt_succ_of_lt hlS)
          unfold Builtin.«set.__init__» noKeywords Builtin.Frozenset.updateFrom
          generalize hPI : pyIter = PI
          wp_walk
          subst hPI
          refine wpAny_pyIter_tuple hl1 ?_
          refine wpAny_bind (wpAny_runValue ?_)
          refine fill_loop D ((Walks.tuple hh3 _ l hneI items).toS) ?_ (none_of _ (Nat.le_refl _)) (fun b hb => none_of b (by rw [List.mem_singleton.mp hb, hz1]; exact Nat.le_succ _)) (by show A.units + 3 ≤ U; omega)
            (items.size - 0) 0 _ (by omega) (Nat.zero_le _) ⟨⟨_, Heap.get?_push_size _ rfl, rfl, rfl⟩, (hl1.push _)⟩ (fun b o e => Heap.get?_push_of_some _ (Heap.get?_push_of_some _ e))
            (D.fresh _ (Heap.get?_push_of_some _ hS) fun b o e => Heap.get?_push_of_some _ (Heap.get?_push_of_some _ e)) ?_
          · rw [hz1]; simp only [List.mem_cons, List.mem_singleton, List.not_mem_nil, or_false, not_or]
            exact ⟨Nat.ne_of_lt (Nat.lt_succ_self _), Nat.ne_of_gt hlS⟩
          · intro s' mv g f
            obtain ⟨h', g2, d', tk', os'⟩ := s'
            obtain rfl : g2 = s.gens := mv.gens
            obtain rfl : d' = s.drawn := mv.drawn
            obtain rfl : os' = s.os := mv.os
            show wpAny _ _ _ _ _ _
            refine wpAny_pure ?_
            show wpAny _ _ (ret Value.none) _ _ _
            exact wpAny_pure ⟨rfl, h', tk', rfl, g, f⟩
      · cases r₂ with
        | error e => exact hr₂
        | ok fl₂ =>
          cases fl₂ with
          | ret r =>
            obtain ⟨rfl, h', tk, rfl, g, f⟩ := hr₂
            repeat (any_goals (first | assumption | wp_step))
            exact q _ _ g f
          | _ => exact hr₂.elim
    | _ => exact hr.elim
end
end ZU

set_option Elab.async false
set_option linter.all false
set_option maxRecDepth 100000
set_option maxHeartbeats 4000000
namespace ZU
open PySem PySem.Spec PyProof.Rows
/-- how many different ones -/
def dc {α : Type} [DecidableEq α] : List α → Nat
  | [] => 0
  | x :: xs => (if x ∈ xs then 0 else 1) + dc xs
theorem dc_snoc {α : Type} [DecidableEq α] (x : α) : ∀ l : List α, dc (l ++ [x]) = dc l + (if x ∈ l then 0 else 1)
  | [] => by simp [dc]
  | y :: l => by
    show (if y ∈ l ++ [x] then 0 else 1) + dc (l ++ [x]) = (if y ∈ l then 0 else 1) + dc l + (if x ∈ y :: l then 0 else 1)
    rw [dc_snoc x l]
    by_cases e : x = y
    · subst e
      by_cases h : x ∈ l <;> simp [h] <;> omega
    · have e' : ¬ y = x := fun z => e z.symm
      by_cases h : x ∈ l <;> by_cases g : y ∈ l <;> simp [h, g, e, e'] <;> omega
theorem dc_le {α : Type} [DecidableEq α] : ∀ l : List α, dc l ≤ l.length
  | [] => Nat.le_refl _
  | x :: l => by
    have := dc_le l
    show (if x ∈ l then 0 else 1) + dc l ≤ l.length + 1
    split <;> omega
theorem take_snoc {α : Type} {l : List α} {i : Nat} {x : α} (h : l[i]? = some x) : l.take (i + 1) = l.take i ++ [x] := by
  rw [List.take_succ, h] <;> rfl
section
variable {P : Program} {w : World}
/-- the texts that came so far -/
def TxtF (P : Program) (w : World) (S : Addr) (xs : List Str) (h : Heap) (i : Nat) : Prop := h.SetOf (strKind P w) S (fun k => decide (k ∈ xs.take i)) (dc (xs.take i))
theorem txt_fills (h0 : Heap) (S : Addr) (items : Array Value) (xs : List Str) (hv : ∀ (i : Nat) v, items[i]? = some v → ∃ (x : Str) (t : Tok), xs[i]? = some x ∧ v = Value.str x t) (hn : xs.length < 4000) (U : Nat) : Fills P w U h0 S items (TxtF P w S xs) where
  fresh := fun h e _ => SetOf_congr ((setObjOf_fresh (knd := strKind P w) _).setOf e (by unfold scanBound; omega)) (fun _ => by simp) (by simp [dc])
  keep := fun h h' i _ ha ⟨o, es, ep, t, ho, r⟩ => ⟨o, es, ep, t, ha o ho, r⟩
  step := fun A E Q s i v _ hi g st q => by
    obtain ⟨x, t, hx, rfl⟩ := hv i v hi
    unfold setAdd
    refine wpAny_holding (wpAny_bind ((strKind P w).pyHash (k := x) (strKind_is _ _ _ _) ?_))
    have bd := dc_le (xs.take i)
    have bd2 : (xs.take i).length ≤ xs.length := by rw [List.length_take]; omega
    refine wpAny_setAddHashed_of (knd := strKind P w) (s := { s with toks := s.toks + 1 }) (strKind_is _ _ _ _) rfl st (by unfold scanBound; omega) fun h' sb s2 => ?_
    refine q _ h' _ sb (Nat.le_succ _) ?_
    refine SetOf_congr s2 (fun k => ?_) ?_
    · show (decide (k ∈ xs.take i) || decide (k = x)) = decide (k ∈ xs.take (i + 1))
      rw [take_snoc hx]
      by_cases a : k ∈ xs.take i <;> by_cases b : k = x <;> simp [a, b]
    · rw [take_snoc hx, dc_snoc]
      by_cases a : x ∈ xs.take i <;> simp [a]
end
end ZU

set_option Elab.async false
set_option linter.all false
set_option maxRecDepth 100000
set_option maxHeartbeats 4000000
namespace ZU
open PySem PySem.Spec PyProof.Rows L2
section
variable {P : Program} {w : World} {A : Around} {E : Value → Shared → Prop} {s : Shared} {α : Type} [DecidableEq α] {D : HeapKind P w α}
/-- a kind of keys of which a set may be made without a trace -/
structure Calm (D : HeapKind P w α) : Prop where
  seen : ∀ {A : Around} {E : Value → Shared → Prop} {Q : Bool → Shared → Prop} {s : Shared} {k : α} {b : Addr} {ys : List Value}, D.is s.heap k b → (∀ y ∈ ys, ∃ k' c, y = Value.ref c ∧ D.is s.heap k' c) → Q false s → wpAny (model P w) A (searchCouldBeSeen (.ref b) ys) Q E s
  byv : ∀ {A : Around} {E : Value → Shared → Prop} {Q : Bool → Shared → Prop} {s : Shared} {k : α} {b : Addr}, D.is s.heap k b → (∀ bv, Q bv s) → wpAny (model P w) A (hashByValue 8 (.ref b)) Q E s
  mv : ∀ {h h' : Heap} {k : α} {a b : Addr} {o : Obj} {es : Array (Int × Value)} {ep : Nat} {t : SetTable}, D.is h k b → h.get? a = some o → o.data = .set es ep t → Heap.SameBut a h h' → D.is h' k b
  gr : ∀ {h h' : Heap} {k : α} {b : Addr}, D.is h k b → Grows h h' → D.is h' k b
def rowsOf (D : HeapKind P w α) (L : List (Addr × α)) : List (Int × Value) := L.map fun p => (D.hash p.2, Value.ref p.1)
structure TbR (D : HeapKind P w α) (h : Heap) (a : Addr) (L : List (Addr × α)) (es : Array (Int × Value)) (ep : Nat) (t : SetTable) : Prop where
  ob : ∃ o, h.get? a = some o ∧ o.ExactSet ∧ o.data = .set es ep t
  rows : es.toList = rowsOf D L
  tab : TabOk t (L.map fun p => D.hash p.2)
  nd : (L.map (·.2)).Nodup
  tup : ∀ p ∈ L, D.is h p.2 p.1
  led : w.params.followText "set-order" = true ∨ t.led = true
  room : L.length * 5 < t.mask * 3
  few : L.length < 64
variable {a : Addr} {L : List (Addr × α)} {es : Array (Int × Value)} {ep : Nat} {t : SetTable}
theorem TbR.size (R : TbR D s.heap a L es ep t) : es.size = L.length := by
  have h := congrArg List.length R.rows
  unfold rowsOf at h
  rw [Array.length_toList, List.length_map] at h
  exact h
theorem TbR.fits (R : TbR D s.heap a L es ep t) : t.fits es.size = true := by
  have h1 := R.tab.sz
  rw [List.length_map] at h1
  have h2 := R.size
  have h3 := R.room
  unfold SetTable.fits SetTable.fill
  rw [R.tab.dm, Bool.and_eq_true, beq_iff_eq, decide_eq_true_eq]
  show t.place.size = es.size ∧ t.place.size + 0 ≤ t.mask
  omega
theorem TbR.entry (R : TbR D s.heap a L es ep t) {i : Nat} {p : Addr × α} (h : L[i]? = some p) : es[i]? = some (D.hash p.2, Value.ref p.1) := by
  rw [← Array.getElem?_toList, R.rows]
  unfold rowsOf
  rw [List.getElem?_map, h] <;> rfl
theorem TbR.gw (R : TbR D s.heap a L es ep t) : ¬ t.gaveWay = true := by
  unfold SetTable.gaveWay
  rw [mask_odd R.tab.mok]
  decide

/-- THE SEARCH: from the c-th step of the way on -/
theorem search_from (C : Calm D) (R : TbR D s.heap a L es ep t) {x : Addr} {k : α} (hx : D.is s.heap k x) (hu : D.room A) {K : Nat} (hKf : K < 10 * SetTable.turns t.mask)
    (hK : way t.mask (D.hash k) K ∉ t.place.toList) (hKb : ∀ c, c < K → way t.mask (D.hash k) c ∈ t.place.toList) {Q : SetFound → Shared → Prop}
    (hin : k ∈ L.map (·.2) → Q (.there none) s) (hout : k ∉ L.map (·.2) → Q (.free (way t.mask (D.hash k) K) false) s) :
    ∀ (f c : Nat) (stand : Option SetTable.Probe), stand.getD (t.probeStart (D.hash k)) = nth t.mask (runAt t.mask (SetTable.bits (D.hash k) % (t.mask + 1)) (SetTable.bits (D.hash k))) c → c ≤ K → K - c < f →
      (∀ (i : Nat) p, L[i]? = some p → p.2 = k → ∃ c', c ≤ c' ∧ c' < K ∧ t.place.toList[i]? = some (way t.mask (D.hash k) c')) →
      wpAny (model P w) A (setSearchFrom a (.ref x) (D.hash k) true f stand) Q E s
  | 0, c, stand, _, _, hf, _ => absurd hf (Nat.not_lt_zero _)
  | f + 1, c, stand, hst, hc, hf, hre => by
    obtain ⟨o, ho, hex, hd⟩ := R.ob
    rw [setSearchFrom_succ]
    refine wpAny_bind (wpAny_setState_of ho hd R.fits ?_)
    dsimp only
    refine wp_if_neg R.gw ?_
    try refine wpAny_bind (wpAny_pure ?_)
    have hnd : (nth t.mask (runAt t.mask (SetTable.bits (D.hash k) % (t.mask + 1)) (SetTable.bits (D.hash k))) c).dummy = none := by
      have key : ∀ (n : Nat) (p : SetTable.Probe), p.dummy = none → (nth t.mask p n).dummy = none := by
        intro n
        induction n with
        | zero => intro p h; exact h
        | succ n ih =>
          intro p h
          refine ih (adv t.mask p) ?_
          unfold adv
          split <;> exact h
      exact key c _ rfl
    have sh : ∀ q, nth t.mask (nth t.mask (runAt t.mask (SetTable.bits (D.hash k) % (t.mask + 1)) (SetTable.bits (D.hash k))) c) q = nth t.mask (runAt t.mask (SetTable.bits (D.hash k) % (t.mask + 1)) (SetTable.bits (D.hash k))) (c + q) := fun q => (nth_add t.mask c _ q).symm
    have e1 : ∀ q, (nth t.mask (nth t.mask (runAt t.mask (SetTable.bits (D.hash k) % (t.mask + 1)) (SetTable.bits (D.hash k))) c) q).j = way t.mask (D.hash k) (c + q) := fun q => congrArg SetTable.Probe.j (sh q)
    have spec := go_spec t R.tab.ris R.tab.dm (fun i => (es[i]?.map (·.1)).getD 0) (D.hash k) (10 * SetTable.turns t.mask) (K - c) _ hnd (by omega)
      (fun q hq => by rw [e1]; exact hKb (c + q) (by omega)) (by rw [e1, show c + (K - c) = K by omega]; exact hK)
    have hashAt : ∀ (i : Nat) p, L[i]? = some p → (fun i => (es[i]?.map (·.1)).getD 0) i = D.hash p.2 := fun i p hp => by
      show (es[i]?.map (·.1)).getD 0 = _
      rw [R.entry hp] <;> rfl
    rcases spec with ⟨q, i, hq, hi, hh, hno, hpr⟩ | ⟨hno, hpr⟩
    · -- a candidate
      have hpr' : t.probe (fun i => (es[i]?.map (·.1)).getD 0) (D.hash k) (stand.getD (t.probeStart (D.hash k))) = some (.candidate (way t.mask (D.hash k) (c + q)) i (nth t.mask (runAt t.mask (SetTable.bits (D.hash k) % (t.mask + 1)) (SetTable.bits (D.hash k))) (c + (q + 1)))) := by
        rw [hst, ← e1, ← sh]
        exact hpr
      rw [hpr']
      dsimp only
      rw [e1] at hi
      -- the entry
      have hil : i < L.length := by
        have h1 : i < t.place.toList.length := (List.getElem?_eq_some_iff.mp hi).1
        have h2 := R.tab.sz
        rw [List.length_map] at h2
        rw [Array.length_toList] at h1
        omega
      have hp : L[i]? = some L[i] := List.getElem?_eq_getElem hil
      generalize hpe : L[i] = p at hp
      have hmem : p ∈ L := List.mem_of_getElem? hp
      have hpt := R.tup p hmem
      have rest : wpAny (model P w) A (searchRest a (.ref x) (D.hash k) true f es t (way t.mask (D.hash k) (c + q)) i (nth t.mask (runAt t.mask (SetTable.bits (D.hash k) % (t.mask + 1)) (SetTable.bits (D.hash k))) (c + (q + 1)))) Q E s := by
        unfold searchRest
        rw [R.entry hp]
        dsimp only
        refine wpAny_bind (wpAny_holding (D.eqBool hu hpt hx ?_))
        refine wpAny_bind (wpAny_setState_of ho hd R.fits ?_)
        dsimp only
        by_cases hkk : p.2 = k
        · refine wp_if_pos (by simp [hkk]) ?_
          refine wpAny_pure (hin ?_)
          exact List.mem_map.mpr ⟨p, hmem, hkk⟩
        · refine wp_if_neg (by simp [hkk]) ?_
          try refine wpAny_bind (wpAny_pure ?_)
          rw [sameMem]
          dsimp only
          have hsl : t.slot (way t.mask (D.hash k) (c + q)) = .live i := slot_live R.tab.ris hi
          simp only [if_true, hsl, R.entry hp]
          refine wpAny_bind (wpAny_isSame_ref_self (wpAny_bind (wpAny_pure ?_)))
          simp only [if_true]
          refine wp_if_neg (by simp [hkk]) ?_
          refine search_from C R hx hu hKf hK hKb hin hout f (c + (q + 1)) _ rfl (by omega) (by omega) fun i0 p0 h0 hk0 => ?_
          obtain ⟨c', a1, a2, a3⟩ := hre i0 p0 h0 hk0
          refine ⟨c', ?_, a2, a3⟩
          -- it isn't passed
          rcases Nat.lt_or_ge c' (c + q) with z | z
          · exfalso
            refine hno (c' - c) i0 (by omega) (by rw [e1, show c + (c' - c) = c' by omega]; exact a3) ?_
            exact (hashAt i0 p0 h0).trans (congrArg (D.hash) hk0)
          · rcases Nat.lt_or_ge (c + q) c' with y | y
            · omega
            · exfalso
              have ec : c' = c + q := Nat.le_antisymm y z
              rw [ec] at a3
              have s0 := slot_live R.tab.ris a3
              rw [hsl] at s0
              injection s0 with s0
              rw [← s0, hp] at h0
              exact hkk ((congrArg Prod.snd (Option.some.inj h0)).trans hk0)
      by_cases hl : t.led = true
      · refine wp_if_neg (by simp [hl]) ?_
        try refine wpAny_bind (wpAny_pure ?_)
        exact rest
      · refine wp_if_pos (by simp [hl]) ?_
        refine wpAny_bind (C.seen hx (fun y hy => ?_) ?_)
        · obtain ⟨e, he, ee⟩ := List.mem_map.mp hy
          have he1 : e ∈ es ∧ e.1 = D.hash k := by simpa using he
          have he2 : e ∈ es.toList := by simpa using he1.1
          rw [R.rows] at he2
          obtain ⟨p2, hp2, e2⟩ := List.mem_map.mp he2
          refine ⟨p2.2, p2.1, ?_, R.tup p2 hp2⟩
          rw [← ee, ← e2]
        · refine wp_if_neg (by decide) ?_
          try refine wpAny_bind (wpAny_pure ?_)
          exact rest
    · -- the empty slot
      have hpr' : t.probe (fun i => (es[i]?.map (·.1)).getD 0) (D.hash k) (stand.getD (t.probeStart (D.hash k))) = some (.empty (way t.mask (D.hash k) K) none) := by
        have e2 : way t.mask (D.hash k) K = (nth t.mask (nth t.mask (runAt t.mask (SetTable.bits (D.hash k) % (t.mask + 1)) (SetTable.bits (D.hash k))) c) (K - c)).j := by
          rw [e1, show c + (K - c) = K by omega]
        rw [hst, e2]
        exact hpr
      rw [hpr']
      dsimp only
      refine wpAny_pure (hout fun hm => ?_)
      obtain ⟨p0, h0, hk0⟩ := List.mem_map.mp hm
      obtain ⟨i0, hi0, e0⟩ := List.getElem_of_mem h0
      have h00 : L[i0]? = some p0 := by rw [List.getElem?_eq_getElem hi0, e0]
      obtain ⟨c', a1, a2, a3⟩ := hre i0 p0 h00 hk0
      refine hno (c' - c) i0 (by omega) (by rw [e1, show c + (c' - c) = c' by omega]; exact a3) ?_
      exact (hashAt i0 p0 h00).trans (congrArg (D.hash) hk0)

/-- the search as adding asks for it -/
theorem search_at (C : Calm D) (R : TbR D s.heap a L es ep t) {x : Addr} {k : α} (hx : D.is s.heap k x) (hu : D.room A) {Q : SetFound → Shared → Prop}
    (hin : k ∈ L.map (·.2) → Q (.there none) s)
    (hout : ∀ K, k ∉ L.map (·.2) → way t.mask (D.hash k) K ∉ t.place.toList → (∀ c, c < K → way t.mask (D.hash k) c ∈ t.place.toList) → Q (.free (way t.mask (D.hash k) K) false) s) :
    wpAny (model P w) A (setSearch a (.ref x) (D.hash k) true) Q E s := by
  have hroom := R.room
  obtain ⟨K, hKf, hK, hKb⟩ := R.tab.first (by rw [List.length_map]; omega) (D.hash k)
  have hbig : K < 100000 := by
    have : 10 * SetTable.turns t.mask ≤ 1420 := by
      unfold SetTable.turns
      rcases R.tab.mok with e | e | e <;> omega
    omega
  unfold setSearch
  refine search_from C R hx hu hKf hK hKb hin (fun hn => hout K hn hK hKb) 100000 0 none rfl (Nat.zero_le _) (by omega) fun i p hp hk => ?_
  have hi : (L.map fun p => D.hash p.2)[i]? = some (D.hash k) := by rw [List.getElem?_map, hp, ← hk] <;> rfl
  have hil : i < t.place.toList.length := by
    have h1 : i < L.length := (List.getElem?_eq_some_iff.mp hp).1
    have h2 := R.tab.sz
    rw [List.length_map] at h2
    rw [Array.length_toList]
    omega
  have hj := List.getElem?_eq_getElem hil
  obtain ⟨c, hc, e⟩ := R.tab.before hK hi hj
  exact ⟨c, Nat.zero_le _, hc, by rw [hj, e]⟩
theorem rows_put (L : List (Addr × α)) (p : Nat) (x : Addr) (k : α) : rowsOf D (L.take p ++ (x, k) :: L.drop p) = (rowsOf D L).take p ++ (D.hash k, Value.ref x) :: (rowsOf D L).drop p := by
  unfold rowsOf
  rw [List.map_append, List.map_cons, List.map_take, List.map_drop]
theorem order_rows (L : List (Addr × α)) (es : Array (Int × Value)) (order : Array Nat) (hr : es.toList = rowsOf D L) (hp : order.toList.Perm (List.range L.length)) :
    ∃ L2, (order.filterMap (es[·]?)).toList = rowsOf D L2 ∧ L2.Perm L ∧ (L2.map fun p => D.hash p.2) = order.toList.map fun i => (es.map (·.1)).getD i 0 := by
  have hsz : es.size = L.length := by
    have h := congrArg List.length hr
    unfold rowsOf at h
    rw [Array.length_toList, List.length_map] at h
    exact h
  have ent : ∀ i (h : i < L.length), es[i]? = some (D.hash (L[i]).2, Value.ref (L[i]).1) := fun i h => by
    rw [← Array.getElem?_toList, hr]
    unfold rowsOf
    rw [List.getElem?_map, List.getElem?_eq_getElem h] <;> rfl
  have key : ∀ l : List Nat, (∀ i ∈ l, i < L.length) → ∃ L2 : List (Addr × α), l.filterMap (fun i => es[i]?) = rowsOf D L2 ∧ L2 = l.filterMap (fun i => L[i]?) ∧ (L2.map fun p => D.hash p.2) = l.map fun i => (es.map (·.1)).getD i 0 := by
    intro l
    induction l with
    | nil => intro _; exact ⟨[], rfl, rfl, rfl⟩
    | cons i l ih =>
      intro hl
      have hi := hl i List.mem_cons_self
      obtain ⟨L2, e1, e2, e3⟩ := ih fun j hj => hl j (List.mem_cons_of_mem _ hj)
      refine ⟨L[i] :: L2, ?_, ?_, ?_⟩
      · rw [List.filterMap_cons_some (ent i hi), e1] <;> rfl
      · rw [List.filterMap_cons_some (List.getElem?_eq_getElem hi), e2]
      · rw [List.map_cons, List.map_cons, e3]
        have hi2 : i < (es.map (·.1)).size := by rw [Array.size_map, hsz]; exact hi
        have e4 : (es.map (·.1)).getD i 0 = D.hash (L[i]).2 := by
          have e5 : (es.map (·.1))[i]? = some (D.hash (L[i]).2) := by rw [Array.getElem?_map, ent i hi] <;> rfl
          simp [Array.getD_eq_getD_getElem?, e5]
        rw [e4]
  obtain ⟨L2, e1, e2, e3⟩ := key order.toList fun i hi => List.mem_range.mp (hp.mem_iff.mp hi)
  refine ⟨L2, by first | (rw [Array.toList_filterMap]; exact e1) | simpa using e1, ?_, e3⟩
  have h1 : L2.Perm ((List.range L.length).filterMap fun i => L[i]?) := by
    rw [e2]
    exact hp.filterMap _
  have h2 : (List.range L.length).filterMap (fun i => L[i]?) = L := by
    have key2 : ∀ n, n ≤ L.length → (List.range n).filterMap (fun i => L[i]?) = L.take n := by
      intro n
      induction n with
      | zero => intro _; rfl
      | succ n ih =>
        intro hn
        have hlt : n < L.length := hn
        rw [List.range_succ, List.filterMap_append, ih (Nat.le_of_lt hlt), List.take_succ, List.getElem?_eq_getElem hlt]
        rw [List.filterMap_cons_some (List.getElem?_eq_getElem hlt)] <;> rfl
    rw [key2 L.length (Nat.le_refl _), List.take_length]
  rw [h2] at h1
  exact h1

/-- the table laid anew, larger -/
theorem relay_at (C : Calm D) {o : Obj} (ho : s.heap.get? a = some o) (hex : o.ExactSet) (hd : o.data = .set es ep t) (hrows : es.toList = rowsOf D L) (hsz : t.place.size = es.size) (hdm : t.dummies = #[]) (hfl : es.size ≤ t.mask)
    (nd : (L.map (·.2)).Nodup) (tup : ∀ p ∈ L, D.is s.heap p.2 p.1) (ld : w.params.followText "set-order" = true ∨ t.led = true) (few : L.length < 64) {wanted M : Nat}
    (hw : SetTable.sizeAbove wanted - 1 = M) (hM : MaskOk M) (hw2 : SetTable.sizeAbove wanted ≤ 128) (hn : L.length * 5 < M * 3) {Q : Unit → Shared → Prop}
    (hQ : ∀ h' L' es' ep' t', Heap.SameBut a s.heap h' → TbR D h' a L' es' ep' t' → L'.Perm L → Q () { s with heap := h' }) : wpAny (model P w) A (setRelay a wanted) Q E s := by
  have hsl : es.size = L.length := by
    have h := congrArg List.length hrows
    unfold rowsOf at h
    rw [Array.length_toList, List.length_map] at h
    exact h
  have hfits : t.fits es.size = true := by
    unfold SetTable.fits SetTable.fill
    rw [hdm, Bool.and_eq_true, beq_iff_eq, decide_eq_true_eq]
    show t.place.size = es.size ∧ t.place.size + 0 ≤ t.mask
    omega
  obtain ⟨t', order, e, hp, T, em, el, eee, ed⟩ := relaid_ok t (hs := es.map (·.1)) (wanted := wanted) hw hM (by rw [Array.size_map, hsl]; omega)
  rw [Array.size_map, hsl] at hp
  obtain ⟨L2, r1, r2, r3⟩ := order_rows L es order hrows hp
  rw [← r3] at T
  have hs2 : (order.filterMap (es[·]?)).size = es.size := by
    have h := congrArg List.length r1
    unfold rowsOf at h
    rw [Array.length_toList, List.length_map, r2.length_eq] at h
    rw [h, hsl]
  rw [setRelay_eq]
  refine wpAny_bind (wpAny_setState_of ho hd hfits ?_)
  dsimp only
  refine wp_if_neg (by rw [sizeLine_eq]; omega) ?_
  try refine wpAny_bind (wpAny_pure ?_)
  rw [e]
  dsimp only
  refine wpAny_bind ?_
  refine wp_if_neg (by rw [hs2]; simp) ?_
  try refine wpAny_bind (wpAny_pure ?_)
  refine wpAny_pure ?_
  dsimp only
  refine wpAny_storeSet_of ho hd ?_ (by rw [hs2, hsl, sizeLine_eq]; omega)
  have sb : Heap.SameBut a s.heap (s.heap.update a (Obj.putSet (order.filterMap (es[·]?)) t')) := Heap.SameBut.update ..
  refine hQ _ L2 (order.filterMap (es[·]?)) (ep + 1) t' sb ?_ r2
  refine ⟨⟨_, store_at ho hd, ⟨hex.1, hex.2.1, hex.2.2⟩, rfl⟩, r1, T, ?_, fun p hpm => C.mv (tup p (r2.mem_iff.mp hpm)) ho hd sb, by rw [el]; exact ld, ?_, by rw [r2.length_eq]; exact few⟩
  · exact (r2.map (·.2)).nodup_iff.mpr nd
  · rw [r2.length_eq, em]
    exact hn

/-- ADDING -/
theorem add_at (C : Calm D) (R : TbR D s.heap a L es ep t) {x : Addr} {k : α} (hx : D.is s.heap k x) (hu : D.room A) (hfew : L.length + 1 < 64) {Q : Bool → Shared → Prop}
    (hQ : ∀ b h' L' es' ep' t', Heap.SameBut a s.heap h' → TbR D h' a L' es' ep' t' → (k ∈ L.map (·.2) → L' = L) → (k ∉ L.map (·.2) → L'.Perm ((x, k) :: L)) → Q b { s with heap := h' }) :
    wpAny (model P w) A (setAddHashed a (.ref x) (D.hash k)) Q E s := by
  obtain ⟨o, ho, hex, hd⟩ := R.ob
  have hsl := R.size
  have hroom := R.room
  unfold setAddHashed
  refine wpAny_holding ?_
  rw [show (100000 : Nat) = 99999 + 1 from rfl, setAddHashedIn_succ]
  refine wpAny_bind (wpAny_setState_of ho hd R.fits ?_)
  dsimp only
  refine wp_if_neg (by simp [byScan, Value.scannable]) ?_
  try refine wpAny_bind (wpAny_pure ?_)
  refine wpAny_bind (search_at C R hx hu (fun hm => ?_) fun K hm hK hb => ?_)
  · dsimp only
    exact wpAny_pure (hQ false s.heap L es ep t (Heap.SameBut.refl a s.heap) R (fun _ => rfl) fun z => absurd hm z)
  · dsimp only
    refine wpAny_bind (wpAny_setState_of ho hd R.fits ?_)
    dsimp only
    have rest : ∀ t1 : SetTable, TabOk t1 ((L.map fun p => D.hash p.2).take (SetTable.below t.place (way t.mask (D.hash k) K)) ++ D.hash k :: (L.map fun p => D.hash p.2).drop (SetTable.below t.place (way t.mask (D.hash k) K))) → t1.mask = t.mask → t1.led = t.led → t1.fill = (L.map fun p => D.hash p.2).length + 1 →
        wpAny (model P w) A (do
          storeSet a (SetTable.insertAt es (SetTable.below t.place (way t.mask (D.hash k) K)) (D.hash k, Value.ref x)) t1
          if !false && t1.tooFull then setRelay a (SetTable.grown (es.size + 1))
          return true : Sem Bool) Q E s := fun t1 q3 q4 q5 q9 => by
      obtain ⟨_, q2, _⟩ := R.tab.put hK hb
      have hin : (SetTable.insertAt es (SetTable.below t.place (way t.mask (D.hash k) K)) (D.hash k, Value.ref x)).toList = rowsOf D (L.take (SetTable.below t.place (way t.mask (D.hash k) K)) ++ (x, k) :: L.drop (SetTable.below t.place (way t.mask (D.hash k) K))) := by
        rw [SetTable.toList_insertAt, rows_put, R.rows]
      generalize hpp : SetTable.below t.place (way t.mask (D.hash k) K) = p at q2 q3 hin ⊢
      have pm := put_perm L p (x, k)
      have hlen : (L.take p ++ (x, k) :: L.drop p).length = L.length + 1 := pm.length_eq
      have hhs : (L.take p ++ (x, k) :: L.drop p).map (fun p => D.hash p.2) = (L.map fun p => D.hash p.2).take p ++ D.hash k :: (L.map fun p => D.hash p.2).drop p := by
        rw [List.map_append, List.map_cons, List.map_take, List.map_drop]
      rw [← hhs] at q3
      have nd1 : ((L.take p ++ (x, k) :: L.drop p).map (·.2)).Nodup := by
        refine (pm.map (·.2)).nodup_iff.mpr ?_
        rw [List.map_cons]
        exact List.nodup_cons.mpr ⟨hm, R.nd⟩
      have hes : (SetTable.insertAt es p (D.hash k, Value.ref x)).size = L.length + 1 := by
        have h := congrArg List.length hin
        unfold rowsOf at h
        rw [Array.length_toList, List.length_map, hlen] at h
        exact h
      generalize SetTable.insertAt es p (D.hash k, Value.ref x) = es1 at hin hes ⊢
      generalize L.take p ++ (x, k) :: L.drop p = L1 at pm hlen q3 nd1 hin
      refine wpAny_bind (wpAny_storeSet_of ho hd ?_ (by rw [hes, sizeLine_eq]; omega))
      have sb : Heap.SameBut a s.heap (s.heap.update a (Obj.putSet es1 t1)) := Heap.SameBut.update ..
      have ho1 := store_at (es' := es1) (t' := t1) ho hd
      generalize s.heap.update a (Obj.putSet es1 t1) = h1 at sb ho1 ⊢
      have tup1 : ∀ p ∈ L1, D.is h1 p.2 p.1 := fun p hp => by
        rcases List.mem_cons.mp (pm.mem_iff.mp hp) with e | hp
        · rw [e]; exact C.mv hx ho hd sb
        · exact C.mv (R.tup p hp) ho hd sb
      have ld1 : w.params.followText "set-order" = true ∨ t1.led = true := by rw [q5]; exact R.led
      by_cases hf : t1.tooFull = true
      · first
          | (refine wpAny_bind ?_; refine wp_if_pos (by simp [hf]) ?_)
          | (refine wp_if_pos (by simp [hf]) ?_; refine wpAny_bind ?_)
        have hfull : (L.length + 1) * 5 ≥ t1.mask * 3 := by
          have h := hf
          unfold SetTable.tooFull at h
          rw [decide_eq_true_eq, q9, List.length_map] at h
          exact h
        rw [hsl]
        have hsz1 : t1.place.size = es1.size := by
          have h := q3.sz
          rw [List.length_map, hlen] at h
          rw [h, hes]
        have cases2 : (t.mask = 7 ∧ L.length = 4) ∨ (t.mask = 31 ∧ L.length = 18) := by
          rcases R.tab.mok with e | e | e
          · left; rw [q4, e] at hfull; rw [e] at hroom; exact ⟨e, by omega⟩
          · right; rw [q4, e] at hfull; rw [e] at hroom; exact ⟨e, by omega⟩
          · exfalso; rw [q4, e] at hfull; omega
        have go : ∀ M, SetTable.sizeAbove (SetTable.grown (L.length + 1)) - 1 = M → MaskOk M → SetTable.sizeAbove (SetTable.grown (L.length + 1)) ≤ 128 → (L.length + 1) * 5 < M * 3 →
            wpAny (model P w) A (setRelay a (SetTable.grown (L.length + 1))) (fun _ s' => wpAny (model P w) A (pure true) Q E s') E { s with heap := h1 } := fun M h1' h2' h3' h4' => by
          refine relay_at C (s := { s with heap := h1 }) ho1 ⟨hex.1, hex.2.1, hex.2.2⟩ rfl hin hsz1 q3.dm (by rw [hes, q4]; rcases cases2 with ⟨e, e2⟩ | ⟨e, e2⟩ <;> omega) nd1 tup1 ld1 (by rw [hlen]; exact hfew) h1' h2' h3' (by rw [hlen]; exact h4') ?_
          intro h2 L2 es2 ep2 t2 sb2 R2 pm2
          refine wpAny_pure (hQ true h2 L2 es2 ep2 t2 (sb.trans sb2) R2 (fun z => absurd z hm) fun _ => pm2.trans pm)
        rcases cases2 with ⟨_, e2⟩ | ⟨_, e2⟩
        · refine go 31 (by rw [e2, size_20]) (.inr (.inl rfl)) (by rw [e2, size_20]; decide) (by omega)
        · refine go 127 (by rw [e2, size_76]) (.inr (.inr rfl)) (by rw [e2, size_76]; decide) (by omega)
      · first
          | refine wp_if_neg (by simp [hf]) ?_
          | (refine wpAny_bind ?_; refine wp_if_neg (by simp [hf]) ?_; refine wpAny_pure ?_)
        refine wpAny_pure (hQ true h1 L1 es1 (ep + 1) t1 sb ⟨⟨_, ho1, ⟨hex.1, hex.2.1, hex.2.2⟩, rfl⟩, hin, q3, nd1, tup1, ld1, ?_, by rw [hlen]; exact hfew⟩ (fun z => absurd z hm) fun _ => pm)
        have h := hf
        unfold SetTable.tooFull at h
        rw [decide_eq_true_eq, q9, List.length_map] at h
        rw [hlen]
        omega
    obtain ⟨q1, q2, q3, q4, q5, q6, q7, q8, q9⟩ := R.tab.put hK hb
    generalize hpt : t.put (way t.mask (D.hash k) K) = pt at q1 q3 q4 q5 q6 q7 q8 q9 ⊢
    obtain ⟨t1, p⟩ := pt
    dsimp only at q1 q3 q4 q5 q6 q7 q8 q9 ⊢
    subst q1
    have two : ∀ bv : Bool, TabOk (if bv = true then t1 else { t1 with plain := false }) _ ∧ (if bv = true then t1 else { t1 with plain := false }).mask = t.mask ∧ (if bv = true then t1 else { t1 with plain := false }).led = t.led ∧
        (if bv = true then t1 else { t1 with plain := false }).fill = (L.map fun p => D.hash p.2).length + 1 := fun bv => by
      cases bv
      · exact ⟨⟨q3.ris, q3.dm, q3.sz, q3.mok, q3.bd, q3.reach⟩, q4, q5, q9⟩
      · exact ⟨q3, q4, q5, q9⟩
    by_cases hpl : t1.plain = true
    · first
        | (refine wpAny_bind ?_; refine wp_if_pos hpl ?_; refine C.byv hx fun bv => ?_; exact rest _ (two bv).1 (two bv).2.1 (two bv).2.2.1 (two bv).2.2.2)
        | (refine wp_if_pos hpl (wpAny_bind (C.byv hx fun bv => ?_)); exact rest _ (two bv).1 (two bv).2.1 (two bv).2.2.1 (two bv).2.2.2)
    · first
        | (refine wpAny_bind ?_; refine wp_if_neg hpl ?_; refine wpAny_pure ?_; exact rest t1 q3 q4 q5 q9)
        | (refine wp_if_neg hpl (wpAny_bind (wpAny_pure ?_)); exact rest t1 q3 q4 q5 q9)
end
end ZU

set_option Elab.async false
set_option linter.all false
set_option maxRecDepth 100000
set_option maxHeartbeats 4000000
namespace ZU
open PySem PySem.Spec PyProof.Rows L2
section
variable {P : Program} {w : World} {A : Around} {E : Value → Shared → Prop} {s : Shared}
abbrev KK (P : Program) (w : World) : HeapKind P w (List Key) := tupleKind (mixKind P w)
theorem plain_items {k : List Key} {vs : List Value} (h : ItemsAre (mixKind P w) k vs) : ∀ v ∈ vs, (∃ i t, v = Value.int i t) ∨ ∃ x t, v = Value.str x t := by
  induction h with
  | nil => exact fun v hv => by cases hv
  | cons h1 _ ih =>
    intro v hv
    rcases List.mem_cons.mp hv with e | hv
    · subst e
      rcases keyIs_shape h1 with ⟨i, t, _, e⟩ | ⟨x, t, _, e⟩
      · exact .inl ⟨i, t, e⟩
      · exact .inr ⟨x, t, e⟩
    · exact ih v hv
theorem noClass (n : Nat) {v : Value} (h : (∃ i t, v = Value.int i t) ∨ ∃ x t, v = Value.str x t) : ofAClassStatement n v = pure false := by
  rcases h with ⟨i, t, rfl⟩ | ⟨x, t, rfl⟩ <;> cases n <;> rfl
theorem byVal (n : Nat) {v : Value} (h : (∃ i t, v = Value.int i t) ∨ ∃ x t, v = Value.str x t) : ∃ b, hashByValue n v = pure b := by
  rcases h with ⟨i, t, rfl⟩ | ⟨x, t, rfl⟩
  · exact ⟨true, by cases n <;> rfl⟩
  · exact ⟨false, by cases n <;> rfl⟩
theorem tupNoClass {k : List Key} {b : Addr} {Q : Bool → Shared → Prop} (hk : IsTupleKey (mixKind P w) s.heap k b) (q : Q false s) : wpAny (model P w) A (ofAClassStatement 8 (.ref b)) Q E s := by
  have hT := hk.typeIs
  obtain ⟨o, items, n, ho, _, hd, hi⟩ := hk
  unfold ofAClassStatement
  refine wpAny_bind (wpAny_typeOf hT ?_)
  dsimp only
  have e : (("tuple" : String) == "tuple") = true := by decide
  simp only [e, if_true, Bool.not_true, Bool.false_eq_true, if_false]
  try refine wpAny_bind (wpAny_pure ?_)
  try simp only [Bool.not_true, Bool.false_eq_true, if_false]
  show wpAny _ _ (seqItems? (.ref b) >>= _) _ _ s
  refine wpAny_bind (wpAny_seqItems ho hd ?_)
  dsimp only
  refine wpAny_bind ?_
  show wpAny _ _ (forIn items _ _) _ _ s
  rw [← Array.forIn_toList]
  refine wpAny_forIn_list _ (fun rest r t => r.1 = none ∧ t = s ∧ ∀ v ∈ rest, (∃ i u, v = Value.int i u) ∨ ∃ x u, v = Value.str x u) _ ?_ ?_ _ _ ⟨rfl, rfl, plain_items hi⟩
  · rintro v rest r t ⟨hr, rfl, all⟩
    rw [noClass 7 (all v List.mem_cons_self)]
    refine wpAny_bind (wpAny_pure ?_)
    simp only [Bool.false_eq_true, if_false]
    exact wpAny_pure ⟨rfl, rfl, fun u hu => all u (List.mem_cons_of_mem _ hu)⟩
  · rintro ⟨r1, r2⟩ t ⟨hr, rfl, _⟩
    simp only at hr
    subst hr
    exact wpAny_pure q
theorem tupByVal {k : List Key} {b : Addr} {Q : Bool → Shared → Prop} (hk : IsTupleKey (mixKind P w) s.heap k b) (q : ∀ bv, Q bv s) : wpAny (model P w) A (hashByValue 8 (.ref b)) Q E s := by
  have hT := hk.typeIs
  obtain ⟨o, items, n, ho, _, hd, hi⟩ := hk
  unfold hashByValue
  refine wpAny_bind (wpAny_specialOf hT PySem.F.slot_tuple_hash.lookup ?_)
  show wpAny _ _ (seqItems? (.ref b) >>= _) _ _ s
  refine wpAny_bind (wpAny_seqItems ho hd ?_)
  refine wpAny_bind ?_
  show wpAny _ _ (forIn items _ _) _ _ s
  rw [← Array.forIn_toList]
  refine wpAny_forIn_list _ (fun rest r t => r.1 = none ∧ t = s ∧ ∀ v ∈ rest, (∃ i u, v = Value.int i u) ∨ ∃ x u, v = Value.str x u) _ ?_ ?_ _ _ ⟨rfl, rfl, plain_items hi⟩
  · rintro v rest r t ⟨hr, rfl, all⟩
    obtain ⟨bv, e⟩ := byVal 7 (all v List.mem_cons_self)
    rw [e]
    refine wpAny_bind (wpAny_pure ?_)
    cases bv
    · simp only [Bool.not_false, if_true]
      exact wpAny_pure (show wpAny _ _ (pure false : Sem Bool) _ _ _ from wpAny_pure (q _))
    · simp only [Bool.not_true, Bool.false_eq_true, if_false]
      exact wpAny_pure ⟨rfl, rfl, fun u hu => all u (List.mem_cons_of_mem _ hu)⟩
  · rintro ⟨r1, r2⟩ t ⟨hr, rfl, _⟩
    simp only at hr
    subst hr
    exact wpAny_pure (q _)
theorem tupSeen {k : List Key} {b : Addr} {Q : Bool → Shared → Prop} {ys : List Value} (hk : IsTupleKey (mixKind P w) s.heap k b) (hy : ∀ y ∈ ys, ∃ k' c, y = Value.ref c ∧ IsTupleKey (mixKind P w) s.heap k' c) (q : Q false s) :
    wpAny (model P w) A (searchCouldBeSeen (.ref b) ys) Q E s := by
  unfold searchCouldBeSeen
  refine wpAny_bind ?_
  refine wpAny_forIn_list _ (fun rest r t => r.1 = none ∧ t = s ∧ ∀ y ∈ rest, ∃ k' c, y = Value.ref c ∧ IsTupleKey (mixKind P w) s.heap k' c) _ ?_ ?_ _ _ ⟨rfl, rfl, hy⟩
  · rintro v rest r t ⟨hr, rfl, all⟩
    obtain ⟨k', c, rfl, hc⟩ := all v List.mem_cons_self
    have more : ∀ y ∈ rest, ∃ k' c, y = Value.ref c ∧ IsTupleKey (mixKind P w) t.heap k' c := fun u hu => all u (List.mem_cons_of_mem _ hu)
    dsimp only
    by_cases hv : (b == c || (carriedByValue (.ref b) && carriedByValue (.ref c))) = true
    · exact wp_if_pos hv (wpAny_pure ⟨rfl, rfl, more⟩)
    · refine wp_if_neg hv (wpAny_bind (wpAny_eqIsQuiet_tuple hk ?_))
      simp only [Bool.not_true, Bool.false_eq_true, if_false]
      refine wpAny_bind (wpAny_eqIsQuiet_tuple hc ?_)
      simp only [Bool.not_true, Bool.false_eq_true, if_false]
      refine wpAny_bind (tupNoClass hk ?_)
      simp only [Bool.false_eq_true, if_false]
      refine wpAny_bind (tupNoClass hc ?_)
      simp only [Bool.false_eq_true, if_false]
      exact wpAny_pure ⟨rfl, rfl, more⟩
  · rintro ⟨r1, r2⟩ t ⟨hr, rfl, _⟩
    simp only at hr
    subst hr
    exact wpAny_pure q
theorem calmK : Calm (KK P w) where
  seen := fun hk hy q => tupSeen hk hy q
  byv := fun hk q => tupByVal hk q
  mv := fun {h h' k a b o es ep t} hb ho hd hs => by
    obtain ⟨o', items, n, ho', hc, hd', hi⟩ := hb
    have ne : b ≠ a := by
      rintro rfl
      obtain rfl : o' = o := Option.some.inj (ho'.symm.trans ho)
      rw [hd] at hd'
      exact nomatch hd'
    exact ⟨o', items, n, (hs.2 b ne).trans ho', hc, hd', hi⟩
  gr := fun ⟨o, items, n, ho, r⟩ g => ⟨o, items, n, g _ o ho, r⟩
section
variable {α : Type} [DecidableEq α] {D : HeapKind P w α}
/-- the keys that came so far, as a set -/
def TupF (D : HeapKind P w α) (S : Addr) (ks : List (Addr × α)) (h : Heap) (i : Nat) : Prop := ∃ L es ep t, TbR D h S L es ep t ∧ (∀ p, p ∈ L → p ∈ ks) ∧ (∀ k, k ∈ L.map (·.2) ↔ k ∈ (ks.map (·.2)).take i) ∧ L.length = dc ((ks.map (·.2)).take i)
theorem tup_fills (C : Calm D) (room : ∀ A : Around, A.units < cLine → D.room A) (h0 : Heap) (S : Addr) (items : Array Value) (ks : List (Addr × α)) (hS : h0.get? S = none) (hv : ∀ (i : Nat) v, items[i]? = some v → ∃ p : Addr × α, ks[i]? = some p ∧ v = Value.ref p.1)
    (hk : ∀ p ∈ ks, D.is h0 p.2 p.1) (hn : ks.length < 63) (U : Nat) (hU : U < cLine) : Fills P w U h0 S items (TupF D S ks) where
  fresh := fun h e g => by
    refine ⟨[], #[], 0, _, ⟨⟨_, e, ⟨rfl, rfl, rfl⟩, rfl⟩, rfl, ⟨List.Pairwise.nil, rfl, rfl, .inl rfl, fun x hx => (by cases hx), fun i h j hi => (by simp at hi)⟩, List.nodup_nil, fun p hp => (by cases hp), ?_, (by show 0 * 5 < 7 * 3; decide), (by show 0 < 64; decide)⟩, fun p hp => (by cases hp), fun k => by simp, by simp [dc]⟩
    show _ ∨ (!w.params.followText "set-order") = true
    cases w.params.followText "set-order"
    · exact .inr rfl
    · exact .inl rfl
  keep := fun h h' i g ha ⟨L, es, ep, t, R, a, b, c⟩ => by
    obtain ⟨o, ho, r⟩ := R.ob
    exact ⟨L, es, ep, t, ⟨⟨o, ha o ho, r⟩, R.rows, R.tab, R.nd, fun p hp => C.gr (hk p (a p hp)) g, R.led, R.room, R.few⟩, a, b, c⟩
  step := fun A E Q s i v hA hi g ⟨L, es, ep, t, R, a, b, c⟩ q => by
    obtain ⟨p, hp, rfl⟩ := hv i v hi
    have hx : D.is s.heap p.2 p.1 := C.gr (hk p (List.mem_of_getElem? hp)) g
    have hr : D.room A := room A (Nat.lt_of_le_of_lt hA hU)
    have hp2 : (ks.map (·.2))[i]? = some p.2 := by rw [List.getElem?_map, hp] <;> rfl
    have tk := take_snoc hp2
    unfold setAdd
    refine wpAny_holding (wpAny_bind (D.pyHash hr hx ?_))
    have bd := dc_le ((ks.map (·.2)).take i)
    have bd2 : ((ks.map (·.2)).take i).length ≤ ks.length := by rw [List.length_take, List.length_map]; omega
    refine add_at C (s := { s with toks := s.toks + D.draws p.2 }) R hx hr (by omega) fun bv h' L' es' ep' t' sb R' c1 c2 => ?_
    refine q bv h' _ sb (Nat.le_add_right _ _) ⟨L', es', ep', t', R', ?_⟩
    by_cases m : p.2 ∈ L.map (·.2)
    · rw [c1 m]
      refine ⟨a, fun k => ?_, ?_⟩
      · rw [tk, List.mem_append, ← b k, List.mem_singleton]
        exact ⟨.inl, fun z => z.elim id fun e => by rw [e]; exact m⟩
      · rw [tk, dc_snoc, if_pos ((b _).mp m), c] <;> rfl
    · have pm := c2 m
      refine ⟨fun y hy => ?_, fun k => ?_, ?_⟩
      · rcases List.mem_cons.mp (pm.mem_iff.mp hy) with e | z
        · rw [e]; exact List.mem_of_getElem? hp
        · exact a y z
      · rw [(pm.map (·.2)).mem_iff, List.map_cons, List.mem_cons, tk, List.mem_append, List.mem_singleton, b k]
        exact ⟨fun z => z.symm, fun z => z.symm⟩
      · rw [pm.length_eq, List.length_cons, tk, dc_snoc, if_neg (fun z => m ((b _).mpr z)), c]
end
end
end ZU

set_option Elab.async false
set_option linter.all false
set_option maxRecDepth 100000
set_option maxHeartbeats 4000000
namespace TB
open PySem PySem.Spec PyProof.Rows L2
/-! ### len(set(xs)): texts, or flat tuples -/
def dcB {α : Type} (eq : α → α → Bool) : List α → Nat
  | [] => 0
  | x :: xs => bif xs.any (eq x) then dcB eq xs else dcB eq xs + 1
theorem dcB_is {α : Type} [DecidableEq α] {eq : α → α → Bool} (h : ∀ a b, eq a b = decide (a = b)) : ∀ xs : List α, dcB eq xs = ZU.dc xs
  | [] => rfl
  | x :: xs => by
    have e : xs.any (eq x) = decide (x ∈ xs) := by
      rw [Bool.eq_iff_iff, List.any_eq_true, decide_eq_true_eq]
      constructor
      · rintro ⟨y, hy, q⟩
        rw [h, decide_eq_true_eq] at q
        exact q ▸ hy
      · intro m
        exact ⟨x, m, by rw [h]; simp⟩
    show (bif xs.any (eq x) then dcB eq xs else dcB eq xs + 1) = (if x ∈ xs then 0 else 1) + ZU.dc xs
    rw [e, dcB_is h xs]
    by_cases m : x ∈ xs <;> simp [m] <;> omega
def isTp : Tag → Bool
  | .tup => true
  | .ktp => true
  | _ => false
def txtsOf : List D → Option (List Str)
  | [] => some []
  | .str x :: xs => match txtsOf xs with
    | some ss => some (x :: ss)
    | none => none
  | _ => none
def tupsOf : List D → Option (List (List Key))
  | [] => some []
  | .node t js :: xs => match isTp t with
    | true => match keysOf js with
      | some k => match tupsOf xs with
        | some ks => some (k :: ks)
        | none => none
      | none => none
    | false => none
  | _ => none
def setN (ys : List D) : Option Nat := match txtsOf ys with
  | some ss => match Nat.ble ss.length 3000 with
    | true => some (dcB seq ss)
    | false => none
  | none => match tupsOf ys with
    | some ks => match Nat.ble ks.length 60 with
      | true => some (dcB keqs ks)
      | false => none
    | none => none
def lenSet : D → Option Nat
  | .node .lst ys => setN ys
  | .node .tup ys => setN ys
  | .node .ktp ys => setN ys
  | _ => none
def mLenSet (m : Ev) : Ev := fun env M => (m env M).bind fun d M1 => match view M1 d with
  | some e => match lenSet e with
    | some n => .ok (.int n) M1
    | none => .stuck
  | none => .stuck
/-- what the library needs to know of the members -/
def SetSrc (K : PySem.W.Frag) (H : Hp) (xs : List V) (n : Nat) : Prop :=
  (∃ ss : List Str, xs = ss.map V.str ∧ ss.length < 4000 ∧ n = ZU.dc ss) ∨
  ∃ ps : List (Addr × List Key), xs = ps.map (fun p => V.ref p.1) ∧ (∀ p ∈ ps, SqT K H p.1 (p.2.map kV)) ∧ ps.length < 63 ∧ n = ZU.dc (ps.map (·.2))
def tLS (K : PySem.W.Frag) (ta : TE) : TE := fun σ H Q => ta σ H fun x H1 => ∃ (l : Addr) (xs : List V) (n : Nat), x = V.ref l ∧ (SqL K H1 l xs ∨ SqT K H1 l xs) ∧ SetSrc K H1 xs n ∧ Q (.int n) H1
theorem items_of {P : Program} {w : World} : ∀ {ks : List Key} {us : List Value}, Vals (ks.map kV) us → ItemsAre (mixKind P w) ks us
  | [], _, .nil => .nil
  | .inl i :: ks, _, .cons r t => by
    obtain ⟨k, rfl⟩ := r
    exact .cons (mixKind_int P w i k) (items_of t)
  | .inr x :: ks, _, .cons r t => by
    obtain ⟨k, rfl⟩ := r
    exact .cons (mixKind_str P w x k) (items_of t)
theorem txt_at : ∀ {ss : List Str} {us : List Value}, Vals (ss.map V.str) us → ∀ (i : Nat) (v : Value), us[i]? = some v → ∃ (x : Str) (t : Tok), ss[i]? = some x ∧ v = Value.str x t
  | [], _, .nil, i, v, h => by simp at h
  | x :: ss, _, .cons r t, 0, v, h => by
    obtain ⟨k, rfl⟩ := r
    simp at h
    exact ⟨x, k, rfl, h.symm⟩
  | x :: ss, _, .cons r t, i + 1, v, h => by
    simp only [List.getElem?_cons_succ] at h
    obtain ⟨y, k, e1, e2⟩ := txt_at t i v h
    exact ⟨y, k, by simpa using e1, e2⟩
theorem ref_at {α : Type} : ∀ {ps : List (Addr × α)} {us : List Value}, Vals (ps.map (fun p => V.ref p.1)) us → ∀ (i : Nat) (v : Value), us[i]? = some v → ∃ p : Addr × α, ps[i]? = some p ∧ v = Value.ref p.1
  | [], _, .nil, i, v, h => by simp at h
  | x :: ps, _, .cons r t, 0, v, h => by
    cases r
    simp at h
    exact ⟨x, rfl, h.symm⟩
  | x :: ps, _, .cons r t, i + 1, v, h => by
    simp only [List.getElem?_cons_succ] at h
    obtain ⟨y, e1, e2⟩ := ref_at t i v h
    exact ⟨y, by simpa using e1, e2⟩
section
variable {X : Cx} {W : XK} {T : List (Addr × Str)} {a : Expr} {p p2 q pos : Pos} {m : Ev}
theorem pe_lenSet {ta : TE} (hc : X.calm = true) (hu : X.A.units + 200 < cLine) (hg : Gl X "len") (hm : X.mg "len" = none) (hg2 : Gl X "set") (hm2 : X.mg "set" = none) (ha : PE X a ta)
    (na : starEach [a] X.env = (false, eval a X.env) :: starEach [] X.env := by rfl) : PE X (.Call (.Name "len" p) [.Call (.Name "set" p2) [a] [] q] [] pos) (tLS X.K ta) := by
  refine ⟨fun pins s σ H Q I h => ?_⟩
  refine Call_ (ld_blt I hg hm PySem.boot_len ?_)
  refine PyProof.Rows.callWith_builtin1 (PyProof.Rows.args_cons ?_ rfl) rfl rfl
  refine Call_ (ld_blt I hg2 hm2 PyProof.Rows.boot_set ?_)
  refine PyProof.Rows.callWith_type1 (PyProof.Rows.args_cons (thn (ha.run pins s σ H _ I h) fun v s1 ⟨x, H1, I1, r1, q1⟩ => PyProof.Rows.args_nil ?_) na) na rfl
  obtain ⟨l, xs, n, rfl, hq, src, q1⟩ := q1
  cases r1
  obtain ⟨k, its, rv, at_⟩ : ∃ (k : Bool) (its : List Value), Vals xs its ∧ ZU.SqAt k s1.heap l its.toArray := by
    rcases hq with hq | hq
    · obtain ⟨its, r, pl, _⟩ := I1.list hq
      exact ⟨true, its, r, pl.isList⟩
    · obtain ⟨its, r, pl, _⟩ := I1.tuple hq
      exact ⟨false, its, r, pl⟩
  have none_S : s1.heap.get? s1.heap.objs.size = none := by
    cases z : s1.heap.get? s1.heap.objs.size with
    | none => rfl
    | some o => exact absurd (Heap.lt_size z) (Nat.lt_irrefl _)
  rcases src with ⟨ss, rfl, hn, rfl⟩ | ⟨ps, rfl, hk, hn, rfl⟩
  · have hl : its.toArray.size = ss.length := by rw [List.size_toArray, ← rv.length, List.length_map]
    refine ZU.call_set (U := X.A.units + 10) (I1.ok.hd hc) at_ (ZU.txt_fills s1.heap s1.heap.objs.size its.toArray ss (fun i v e => txt_at rv i v (by simpa using e)) hn _) (by omega) fun h' tk g f => PyProof.Rows.args_nil ?_
    rw [hl] at f
    have f : h'.SetOf (strKind X.prog X.w) _ _ (ZU.dc (ss.take ss.length)) := f
    rw [List.take_length] at f
    obtain ⟨o, es, ep, t, ho, hex, hd, _, _, _, hf, hz⟩ := f
    have I2 : Inv X pins σ H1 { s1 with heap := h', toks := tk } := I1.kept g
    have bd := ZU.dc_le ss
    exact call_len_set ho hex hd hf (by rw [hz] <;> omega) ⟨.int (ZU.dc ss), H1, I2.tok _, ⟨_, by rw [hz]⟩, q1⟩
  · have hl : its.toArray.size = ps.length := by rw [List.size_toArray, ← rv.length, List.length_map]
    refine ZU.call_set (U := X.A.units + 10) (I1.ok.hd hc) at_ (ZU.tup_fills ZU.calmK (fun A h => h) s1.heap s1.heap.objs.size its.toArray ps none_S (fun i v e => ref_at rv i v (by simpa using e)) (fun y hy => ?_) hn _ (by omega)) (by omega) fun h' tk g f => PyProof.Rows.args_nil ?_
    · obtain ⟨is, ri, ⟨o, ho, hc', nl, hd⟩, _⟩ := I1.tuple (hk y hy)
      exact ⟨o, is.toArray, nl, ho, hc', hd, by simpa using items_of ri⟩
    · rw [hl] at f
      obtain ⟨L, es, ep, t, R, _, _, hz⟩ := f
      have eq : (ps.map (·.2)).take ps.length = ps.map (·.2) := List.take_of_length_le (by rw [List.length_map]; exact Nat.le_refl _)
      rw [eq] at hz
      obtain ⟨o, ho, hex, hd⟩ := R.ob
      have I2 : Inv X pins σ H1 { s1 with heap := h', toks := tk } := I1.kept g
      have sz : es.size = ZU.dc (ps.map (·.2)) := (ZU.TbR.size (s := { s1 with heap := h', toks := tk }) R).trans hz
      have bd := ZU.dc_le (ps.map (·.2))
      rw [List.length_map] at bd
      exact call_len_set ho hex hd (ZU.TbR.fits (s := { s1 with heap := h', toks := tk }) R) (by rw [sz] <;> omega) ⟨.int (ZU.dc (ps.map (·.2))), H1, I2.tok _, ⟨_, by rw [sz]⟩, q1⟩
theorem txtsOf_at {K : PySem.W.Frag} {H : Hp} : ∀ {ys : List D} {vs : List V} {ss : List Str}, RPs K H ys vs → txtsOf ys = some ss → vs = ss.map V.str
  | [], _, _, h, e => by cases e; exact h
  | d :: ys, _, ss, ⟨v, r, ev, h1, h2⟩, e => by
    subst ev
    cases d with
    | str x =>
      unfold txtsOf at e
      cases q : txtsOf ys with
      | none => rw [q] at e; cases e
      | some ss' =>
        rw [q] at e
        cases e
        rw [txtsOf_at h2 q, show v = V.str x from h1]
        rfl
    | _ => exact nomatch e
theorem keysOf_rp {K : PySem.W.Frag} {H : Hp} : ∀ {ys : List D} {vs : List V} {ks : List Key}, RPs K H ys vs → keysOf ys = some ks → vs = ks.map kV
  | [], _, _, h, e => by cases e; exact h
  | d :: ys, _, ks, ⟨v, r, ev, h1, h2⟩, e => by
    subst ev
    unfold keysOf at e
    cases hk : keyOf d with
    | none => rw [hk] at e; cases e
    | some k =>
      rw [hk] at e
      simp only at e
      cases q : keysOf ys with
      | none => rw [q] at e; cases e
      | some ks' =>
        rw [q] at e
        cases e
        rw [keysOf_rp h2 q]
        cases d with
        | int i => cases hk; rw [show v = V.int i from h1]; rfl
        | str x => cases hk; rw [show v = V.str x from h1]; rfl
        | _ => cases hk
theorem sqRead {K : PySem.W.Frag} {H : Hp} {a : Addr} {t : Tag} {vs : List V} (h : isTp t = true) (r : ReadAt K H a t vs) : SqT K H a vs := by
  cases t with
  | tup => exact r.tup
  | ktp => exact r.ktp
  | _ => cases h
theorem tupsOf_at {K : PySem.W.Frag} {H : Hp} : ∀ {ys : List D} {vs : List V} {ks : List (List Key)}, RPs K H ys vs → tupsOf ys = some ks → ∃ ps : List (Addr × List Key), ps.map (·.2) = ks ∧ vs = ps.map (fun p => V.ref p.1) ∧ ∀ p ∈ ps, SqT K H p.1 (p.2.map kV)
  | [], _, _, h, e => by cases e; exact ⟨[], rfl, h, fun p hp => by cases hp⟩
  | d :: ys, _, ks, ⟨v, r, ev, h1, h2⟩, e => by
    subst ev
    cases d with
    | node t js =>
      unfold tupsOf at e
      cases ht : isTp t with
      | false => rw [ht] at e; cases e
      | true =>
        rw [ht] at e
        simp only at e
        cases hk : keysOf js with
        | none => rw [hk] at e; cases e
        | some k =>
          rw [hk] at e
          simp only at e
          cases q : tupsOf ys with
          | none => rw [q] at e; cases e
          | some ks' =>
            rw [q] at e
            cases e
            obtain ⟨ps, e1, e2, e3⟩ := tupsOf_at h2 q
            obtain ⟨b, ws, rfl, ra, rs⟩ := h1
            refine ⟨(b, k) :: ps, by rw [List.map_cons, e1], by rw [e2]; rfl, fun p hp => ?_⟩
            rcases List.mem_cons.mp hp with z | z
            · rw [z]
              show SqT K H b (k.map kV)
              rw [← keysOf_rp rs hk]
              exact sqRead ht ra
            · exact e3 p z
    | _ => exact nomatch e
theorem setN_at {K : PySem.W.Frag} {H : Hp} {ys : List D} {vs : List V} {n : Nat} (h : RPs K H ys vs) (e : setN ys = some n) : SetSrc K H vs n := by
  unfold setN at e
  cases q : txtsOf ys with
  | some ss =>
    rw [q] at e
    simp only at e
    cases hl : Nat.ble ss.length 3000 with
    | false => rw [hl] at e; cases e
    | true =>
      rw [hl] at e
      cases e
      exact .inl ⟨ss, txtsOf_at h q, by have := Nat.le_of_ble_eq_true hl; omega, dcB_is (fun a b => by rw [seq_eq, Bool.eq_iff_iff]; simp) ss⟩
  | none =>
    rw [q] at e
    simp only at e
    cases q2 : tupsOf ys with
    | none => rw [q2] at e; cases e
    | some ks =>
      rw [q2] at e
      simp only at e
      cases hl : Nat.ble ks.length 60 with
      | false => rw [hl] at e; cases e
      | true =>
        rw [hl] at e
        cases e
        obtain ⟨ps, e1, e2, e3⟩ := tupsOf_at h q2
        refine .inr ⟨ps, e2, e3, ?_, ?_⟩
        · have := Nat.le_of_ble_eq_true hl
          rw [← e1, List.length_map] at this
          omega
        · rw [e1]; exact dcB_is keqs_eq ks
theorem e_lenSet (c : Cok X W T) (hg : Gl X "len") (hm : X.mg "len" = none) (hg2 : Gl X "set") (hm2 : X.mg "set" = none) (ha : PE X a (RdE W T X.K m))
    (na : starEach [a] X.env = (false, eval a X.env) :: starEach [] X.env := by rfl) : PE X (.Call (.Name "len" p) [.Call (.Name "set" p2) [a] [] q] [] pos) (RdE W T X.K (mLenSet m)) :=
  (pe_lenSet c.calm c.un hg hm hg2 hm2 ha na).imp fun σ H Q ⟨A, env, at0, pp⟩ => (Po.step at0 pp).mono fun v H1 ⟨A1, d, _, a1, dv, p1⟩ => by
    cases hv : view A1.ers d with
    | none => rw [hv] at p1; exact p1.elim
    | some e =>
      rw [hv] at p1
      simp only at p1
      cases hl : lenSet e with
      | none => rw [hl] at p1; exact p1.elim
      | some n =>
        rw [hl] at p1
        have rp := vw_at a1.mem 24 dv hv
        have fin : Q (.int n) H1 := p1.fin a1.mem (show V.int n = V.int n from rfl)
        cases e with
        | node t ys =>
          obtain ⟨b, vs, rfl, ra, rs⟩ := rp
          cases t with
          | lst => exact ⟨b, vs, n, rfl, .inl ra.lst, setN_at rs hl, fin⟩
          | tup => exact ⟨b, vs, n, rfl, .inr ra.tup, setN_at rs hl, fin⟩
          | ktp => exact ⟨b, vs, n, rfl, .inr ra.ktp, setN_at rs hl, fin⟩
          | _ => cases hl
        | _ => cases hl
end
end TB

set_option Elab.async false
set_option linter.all false
set_option maxRecDepth 100000
set_option maxHeartbeats 4000000
namespace TB
open PySem PySem.Spec PyProof.Rows L2
/-! ### a tuple of whose object no dict is known to be there: methods of tuples -/
def tTupF (t : TA) : TE := fun σ H Q => t σ H fun xs H1 => xs.length ≤ sizeLine ∧ ∀ p o, H1 p = none → o.cls = .type "tuple" → o.dict = none → Q (.ref p) (upd H1 p (.frz o (.tup xs)))
section
variable {X : Cx} {W : XK} {T : List (Addr × Str)} {es : List Expr} {pos : Pos} {t : TA} {ms : Evs}
theorem pe_tupF {x1} (h : PA X es t) : PE X (.Tuple es x1 pos) (tTupF t) := by
  refine ⟨fun pins s σ H Q I hq => ?_⟩
  refine wpAny_Tuple_spliced (thn (h.run pos pins s σ H _ I hq) fun us s1 ⟨xs, H1, I1, r, z, q⟩ => ⟨by rw [← r.length]; exact z, ?_⟩)
  have hf : H1 s1.heap.objs.size = none := I1.hok.fresh (Nat.le_refl _)
  refine ⟨.ref s1.heap.objs.size, upd H1 s1.heap.objs.size (.frz { cls := .type "tuple", data := .seq us.toArray } (.tup xs)), I1.laid (t' := s1.toks) (fun b u e => Heap.get?_push_of_some _ e) (Nat.le_refl _) ?_, rfl, q _ _ hf rfl rfl⟩
  exact ⟨Heap.get?_push_size _ rfl, z, us, r, ⟨_, Heap.get?_push_size _ rfl, rfl, _, rfl⟩⟩
theorem e_tupF {x1} (h : PA X es (RdA W T X.K ms)) : PE X (.Tuple es x1 pos) (RdE W T X.K (mSeq .ktp ms)) := (pe_tupF h).imp fun σ H Q ⟨A, env, at0, p⟩ =>
  (Po.steps at0 p).mono fun vs H1 ⟨A1, ds, _, a1, dv, p1⟩ => by
    split at p1
    · rename_i hz
      rw [Bool.and_eq_true] at hz
      have dp := dps_of dv hz.1
      exact ⟨by rw [← dp.len]; exact szB_le hz.2, fun q o hq hc hd => p1.node a1.mem hq ⟨rfl, hc, hd⟩ dp⟩
    · exact p1.elim
theorem ktp_free {pins : List (Addr × Obj)} {σ : L2.St} {H : Hp} {s : Shared} {a : Addr} {vs : List V} (I : Inv X pins σ H s) (h : ReadAt X.K H a .ktp vs) : s.TypeIs (.ref a) "tuple" ∧ ∀ b, Value.ref a = .ref b → ∃ ob, s.heap.get? b = some ob ∧ ob.dict = none := by
  have key : ∃ ob, s.heap.get? a = some ob ∧ ob.cls = .type "tuple" ∧ ob.dict = none := by
    rcases h with ⟨u, r, i⟩ | k
    · cases u <;> first | exact i.elim | skip
      obtain ⟨rfl, hc, hd⟩ := i
      obtain ⟨e, _⟩ := (show ObjOk X.prog X.w H s.heap a (.frz _ (.tup vs)) from I.hok a _ r)
      exact ⟨_, e, hc, hd⟩
    · obtain ⟨_, o, hk, hc, hd⟩ := k
      exact ⟨o, I.kIn _ _ hk, hc, hd⟩
  obtain ⟨ob, e, hc, hd⟩ := key
  exact ⟨⟨ob, e, hc⟩, fun b z => by cases z; exact ⟨ob, e, hd⟩⟩
def tTM (K : PySem.W.Frag) (r : V → List V → Hp → VK → Prop) (to : TE) (t : TA) : TE := fun σ H Q => to σ H fun x H1 => (∃ a vs, x = .ref a ∧ ReadAt K H1 a .ktp vs) ∧ t σ H1 fun xs H2 => r x xs H2 Q
variable {o e : Expr} {to : TE} {name : Str} {apos cpos : Pos} {id : String} {r : V → List V → Hp → VK → Prop}
theorem pe_tm (slot : Slot "tuple" name id) (hty : typeOf (.builtin id) = pure (.type "method_descriptor")) (hm : MtR X id r) (ho : PE X o to) (ha : PA X (e :: es) t)
    (hbase : attributeBase o name X.env (eval o X.env) = eval o X.env := by rfl)
    (hfew : ((backTo cpos (starEach (e :: es) X.env)).all (fun x => !x.1) && (backToKw cpos (keywordEach [] X.env)).all (fun x => x.1.isSome)
      && decide ((e :: es).length + ([] : List Keyword).length + (if ([] : List Keyword).isEmpty then 0 else 1) < 30)) = true := by rfl)
    (hline : (apos.endLine == cpos.line) = true := by rfl) (hs : starEach (e :: es) X.env = (false, eval e X.env) :: starEach es X.env := by rfl) (hplain : (backTo cpos (starEach es X.env)).any (·.1) = false := by rfl) :
    PE X (.Call (.Attribute o name apos) (e :: es) [] cpos) (tTM X.K r to t) := by
  refine ⟨fun pins s σ H Q I h => ?_⟩
  refine wpAny_Call_method_late hbase hfew hline rfl (thn (ho.run pins s σ H _ I h) fun v s1 ⟨x, H1, I1, r1, ⟨a, vs, ex, ra⟩, q1⟩ => ?_)
  subst ex
  cases r1
  obtain ⟨h1, h2⟩ := ktp_free I1 ra
  refine ⟨"tuple", id, PySem.F.plainAttrs_tuple, slot, hty, h1, h2, ?_⟩
  have hA := ha.run cpos pins s1 σ H1 _ I1 q1
  rw [hs] at hA ⊢
  refine Calls.callWith_builtin (by show (false || (backTo cpos (starEach es X.env)).any (·.1)) = false; rw [hplain] <;> rfl) (Calls.evalArgs_plain ?_)
  exact thn hA fun us s2 ⟨vs, H2, I2, r2, q2⟩ => hm pins s2 σ H2 (.ref a) vs (.ref a) us Q I2 rfl r2 q2
end
/-- the first place of a text -/
def sidx (z : Str) : List Str → Option Nat
  | [] => none
  | y :: ys => match seq y z with
    | true => some 0
    | false => match sidx z ys with
      | some k => some (k + 1)
      | none => none
theorem sidx_at {z : Str} : ∀ {l : List Str} {j : Nat}, sidx z l = some j → l[j]? = some z ∧ ∀ m, m < j → l[m]? ≠ some z
  | [], _, h => by cases h
  | y :: ys, j, h => by
    unfold sidx at h
    cases q : seq y z with
    | true =>
      rw [q] at h
      cases h
      rw [seq_eq] at q
      exact ⟨by rw [beq_iff_eq.mp q]; rfl, fun m hm => absurd hm (Nat.not_lt_zero _)⟩
    | false =>
      rw [q] at h
      simp only at h
      cases g : sidx z ys with
      | none => rw [g] at h; cases h
      | some k =>
        rw [g] at h
        cases h
        obtain ⟨h1, h2⟩ := sidx_at g
        rw [seq_eq] at q
        refine ⟨by simpa using h1, fun m hm e => ?_⟩
        cases m with
        | zero =>
          simp at e
          rw [e] at q
          simp at q
        | succ m => exact h2 m (by omega) (by simpa using e)
def mTIdx (mo : Ev) (ms : Evs) : Ev := fun env M => (mo env M).bind fun d M1 => match d with
  | .node .ktp xs => (ms env M1).bind fun ks M2 => match ks with
    | [.str z] => match txtsOf xs with
      | some ss => match sidx z ss with
        | some j => .ok (.int (j : Nat)) M2
        | none => .stuck
      | none => .stuck
    | _ => .stuck
  | _ => .stuck
section
variable {X : Cx} {W : XK} {T : List (Addr × Str)} {o e : Expr} {apos cpos : Pos} {mo : Ev} {ms : Evs}
theorem e_tindex (c : Cok X W T) (ho : PE X o (RdE W T X.K mo)) (ha : PA X [e] (RdA W T X.K ms)) (hbase : attributeBase o "index" X.env (eval o X.env) = eval o X.env := by rfl) (hline : (apos.endLine == cpos.line) = true := by rfl)
    (hfew : ((backTo cpos (starEach [e] X.env)).all (fun x => !x.1) && (backToKw cpos (keywordEach [] X.env)).all (fun x => x.1.isSome) && decide (([e] : List Expr).length + ([] : List Keyword).length + (if ([] : List Keyword).isEmpty then 0 else 1) < 30)) = true := by rfl)
    (hs : starEach [e] X.env = (false, eval e X.env) :: starEach [] X.env := by rfl) : PE X (.Call (.Attribute o "index" apos) [e] [] cpos) (RdE W T X.K (mTIdx mo ms)) :=
  (pe_tm PySem.F.slot_tuple_index PySem.F.type_tuple_index mt_tup_index ho ha hbase hfew hline hs rfl).imp fun σ H Q ⟨A, env, at0, p⟩ => (Po.step at0 p).mono fun v H1 ⟨A1, d, _, a1, dv, p1⟩ => by
    cases d with
    | node t xs =>
      cases t with
      | ktp =>
        obtain ⟨a, vs, rfl, na, ds⟩ := (show DP X.K A1.adrs H1 (.node .ktp xs) v from dv)
        refine ⟨⟨a, vs, rfl, nodeAt_read na⟩, (Po.steps a1 p1).mono fun ys H2 ⟨A2, ks, e2, a2, dk, p2⟩ => ?_⟩
        have dl : DV X.K A2 H2 (.node .ktp xs) (.ref a) := dv.ext e2
        obtain ⟨a', vs', ea, na', ds'⟩ := (show DP X.K A2.adrs H2 (.node .ktp xs) (.ref a) from dl)
        cases ea
        split at p2
        · rename_i z
          obtain ⟨w, rfl, dz⟩ := dvl1 dk
          cases hs : txtsOf xs with
          | none => rw [hs] at p2; exact p2.elim
          | some ss =>
            rw [hs] at p2
            simp only at p2
            cases hj : sidx z ss with
            | none => rw [hj] at p2; exact p2.elim
            | some j =>
              rw [hj] at p2
              obtain ⟨h1, h2⟩ := sidx_at hj
              have ev := txtsOf_at ds'.rps hs
              subst ev
              exact ⟨a, ss, z, j, rfl, by rw [show w = V.str z from dz], (nodeAt_read na').ktp, h1, h2, p2.fin a2.mem (show V.int j = V.int j from rfl)⟩
        · exact p2.elim
      | _ => exact p1.elim
    | _ => exact p1.elim
end
end TB

set_option Elab.async false
set_option linter.all false
set_option maxRecDepth 100000
set_option maxHeartbeats 4000000
namespace TB
open PySem PySem.Spec PyProof.Rows L2
/-! ### dict comprehensions, whatever the keys are; under a name too -/
theorem d_setD {X : Cx} {pins : List (Addr × Obj)} {σ : L2.St} {H H' : Hp} {s : Shared} {a : Addr} {y v : V} {u r : Value} {E : Value → Shared → Prop} {Q : Unit → Shared → Prop} (hu : X.A.units + 1 < cLine) (I : Inv X pins σ H s) (g : DPut H a y v H') (ry : RelV y u) (rv : RelV v r) (h : ∀ s', Inv X pins σ H' s' → Q () s') :
    wpAny (model X.prog X.w) X.A (dictSet a u r) Q E s := by
  rcases g with ⟨kvs, k, e, ey, l, eH⟩ | ⟨kvs, k, b, e, ey, eb, l, eH⟩
  · subst ey eH
    exact d_dictSet I e l ry rv h
  · subst ey eH
    cases (show u = Value.ref b from ry)
    obtain ⟨z, hd, xs, rel, dd⟩ := dt_of I.hok e
    have hz : xs.length ≤ sizeLine := by rw [← Paired.length rel]; exact z
    have hl : (putK kvs k v).length ≤ sizeLine := by have := length_putK kvs k v; omega
    refine wpAny_dictSet_heap (hsz := hz) (show X.A.units < cLine by omega) (key_of I.hok eb) dd fun h' dd' hs => h _ ?_
    obtain ⟨q, es, ep, hq, h2, h3, h4, k5, h5⟩ := dd'
    refine d_write I (by rw [e]; exact True.intro) hs ⟨q, hq⟩ ⟨hl, hd, _, (rel.put k eb rv).keeps fun c ys ec => ?_, q, es, ep, hq, h2, h3, h4, h5⟩
    rw [upd_ne (ne_of ec e (fun z => nomatch z))]
    exact ec
section
variable {X : Cx}
def tDcg (u0 : HO) (wi : TI) (g : TG) (tt : TT) (tk tv : TE) (vs : List Nat) : TE := fun σ H Q => wi σ H fun J H1 => ∀ D, H1 D = none → ∃ W : Nat → Nat → Hp → Prop, (∃ m, W 0 m (upd H1 D u0)) ∧ ∀ i m H, W i m H →
  (J.stop i H ∧ Q (.ref D) H) ∨ (J.go i H ∧ ∃ Nx : Hp → Prop, (∀ H', Nx H' → ∃ m', m' < m ∧ W (i + 1) m' H') ∧ ∀ x H', J.yld i H x H' → g x (wipe σ vs) H' fun σ2 H2 => wipe σ2 vs = wipe σ vs ∧ tt σ2 H2 fun b H3 =>
    if b = true then tk σ2 H3 fun y H4 => tv σ2 H4 fun z H5 => ∃ H6, DPut H5 D y z H6 ∧ Nx H6 else Nx H3)
theorem dcg_core {u0 : HO} (hu0 : u0 = .dK [] ∨ u0 = .dT []) (hun : X.A.units + 1 < cLine) {pins : List (Addr × Obj)} {s : Shared} {σ : L2.St} {H : Hp} {Q : VK} {kx vx tg iter : Expr} {ifs : List Expr} {scope : Scope} {own : List (Str × Nat)} {pos pos' : Pos} {wi : TI} {g : TG} {tt : TT} {tk tv : TE} {use : Option (Value → Sem Unit)} {Qf : Value → Shared → Prop}
    (hc : X.calm = true) (hN : X.N.Nodup) (I : Inv X pins σ H s) (hi : PI X tg iter wi) (ok : BlkOk X.N X.env.scope scope own)
    (hg : ∀ (s : Shared) (H : Hp) (C : Addr) (cl : List (Str × Addr)) (fp : List Addr), PG (X.blk s H scope (compEnvC scope cl C X.env) fp) tg g) (ht : ∀ (s : Shared) (H : Hp) (C : Addr) (cl : List (Str × Addr)) (fp : List Addr), PTs (X.blk s H scope (compEnvC scope cl C X.env) fp) ifs tt)
    (hk : ∀ (s : Shared) (H : Hp) (C : Addr) (cl : List (Str × Addr)) (fp : List Addr), PE (X.blk s H scope (compEnvC scope cl C X.env) fp) kx tk)
    (he : ∀ (s : Shared) (H : Hp) (C : Addr) (cl : List (Str × Addr)) (fp : List Addr), PE (X.blk s H scope (compEnvC scope cl C X.env) fp) vx tv) (hs : ∀ x, foldedSetIterable iter X.env x = pure x)
    (h : tDcg u0 wi g tt tk tv (own.map (·.2)) σ H Q)
    (hRR : ∀ D C s' m H', Inv X pins σ H' s' → Q (.ref D) H' → s'.heap.Ns C m → FpOk X pins H' C → compPost (model X.prog X.w) X.A X.xe use Qf (.ref D) C (.ok .next) s') :
    wpAny (model X.prog X.w) X.A (comprehension (.DictComp kx vx [⟨tg, iter, ifs, 0⟩] scope pos) scope X.env pos' newDict false (eval iter X.env) use) Qf X.xe s := by
  have hfree : ∀ y ∈ scope.names, y.2 = .free → ∃ c, X.env.cells.lookup y.1 = some c := fun y hy e => by
    rcases ok.free y hy e with k | k
    · exact I.ok.has _ (.inl k)
    · exact I.ok.has _ (.inr k)
  refine wpAny_comprehension_free (use := use) rfl hs (closure_ok hfree) ok.kind (fun y hy e => by rw [ok.uniq y hy, e])
    (thn (hi.run pins s σ H _ I h) fun xv s1 hx => thn hx fun itv s2 h2 => ?_)
  obtain ⟨it, fp, tn, J, H2, e, I2, T, st2, f2, q⟩ := h2
  subst e
  refine wpAny_newObj_type (newEnv_comp ?_)
  generalize hD : s2.heap.objs.size = D
  have hDn : H2 D = none := I2.hok.fresh (Nat.le_of_eq hD)
  obtain ⟨W, ⟨m0, w0⟩, turn⟩ := q D hDn
  -- the new list
  generalize hs3 : ({ s2 with heap := s2.heap.push { cls := .type "dict", data := .dict #[] } } : Shared) = s3
  have I3 : Inv X pins σ (upd H2 D u0) s3 := by
    rw [← hs3]
    refine I2.laid (t' := s2.toks) (fun b o e => Heap.get?_push_of_some _ e) (Nat.le_of_eq hD) ?_
    rw [← hD]
    rcases hu0 with rfl | rfl
    · exact dk_empty s2.heap I2.big
    · exact dt_empty s2.heap I2.big
  have h3 : s3.heap = s2.heap.push { cls := .type "dict", data := .dict #[] } := by rw [← hs3]
  have sz : ∀ b ∈ fp, b < s2.heap.objs.size := fun b hb => by
    obtain ⟨o, e, _⟩ := T.obj _ _ st2 b hb
    exact Heap.lt_size e
  have f3 : ∀ b ∈ fp, FpOk X pins (upd H2 D u0) b ∧ b < s3.heap.objs.size := fun b hb => by
    have hlt := sz b hb
    refine ⟨⟨?_, (f2 b hb).2⟩, by rw [h3, Heap.size_push]; exact Nat.lt_succ_of_lt hlt⟩
    rw [upd_ne (by rw [← hD]; exact Nat.ne_of_lt hlt)]
    exact (f2 b hb).1
  have st3 : tn 0 s3.heap := T.keep _ _ _ st2 fun b _ o e => by rw [h3]; exact Heap.get?_push_of_some _ e
  have I4 := block_start I3 ok hN f3
  have pg := hg s3 (upd H2 D u0) s3.heap.objs.size (cellsFrom (s3.heap.objs.size + 1) scope.names (cloFrom X.env.cells scope.names [])) fp
  have pt := ht s3 (upd H2 D u0) s3.heap.objs.size (cellsFrom (s3.heap.objs.size + 1) scope.names (cloFrom X.env.cells scope.names [])) fp
  have pk := hk s3 (upd H2 D u0) s3.heap.objs.size (cellsFrom (s3.heap.objs.size + 1) scope.names (cloFrom X.env.cells scope.names [])) fp
  have pe := he s3 (upd H2 D u0) s3.heap.objs.size (cellsFrom (s3.heap.objs.size + 1) scope.names (cloFrom X.env.cells scope.names [])) fp
  show codeAny _ _ (.compStart (.DictComp kx vx [⟨tg, iter, ifs, 0⟩] scope pos) 0 (.ref it) (.ref D) (compEnvC scope (cellsFrom (s3.heap.objs.size + 1) scope.names (cloFrom X.env.cells scope.names [])) s3.heap.objs.size X.env)) (compPost (model X.prog X.w) X.A X.xe use Qf (.ref D) s3.heap.objs.size) { s3 with heap := pushCells (s3.heap.push { cls := .type "dict", data := .dict #[] }) scope.names }
  have nfp : ∀ b ∈ fp, (upd H2 D u0) b = none := fun b hb => (f3 b hb).1.1
  generalize hce : compEnvC scope (cellsFrom (s3.heap.objs.size + 1) scope.names (cloFrom X.env.cells scope.names [])) s3.heap.objs.size X.env = ce at I4 pg pt pk pe ⊢
  have cL : ce.locals = s3.heap.objs.size := by subst hce; rfl
  generalize hH3 : upd H2 D u0 = H3 at I3 I4 pg pt pk pe w0 nfp f3
  generalize hs4 : ({ s3 with heap := pushCells (s3.heap.push { cls := .type "dict", data := .dict #[] }) scope.names } : Shared) = s4 at I4 ⊢
  have st4 : tn 0 s4.heap := T.keep _ _ _ st3 fun b _ o e => by rw [← hs4]; exact pushCells_keeps _ _ _ _ (Heap.get?_push_of_some _ e)
  have stat : ∀ {σ' : L2.St} {H' : Hp} {s' : Shared}, Inv (X.blk s3 H3 scope ce fp) [] σ' H' s' → (∀ b ∈ fp, H' b = none) → ∀ b ∈ fp, FpOk (X.blk s3 H3 scope ce fp) [] H' b := fun {σ' H' s'} I' hn b hb =>
    ⟨hn b hb, (I'.ok.exf b hb).1, I'.ok.exfs b hb, .inl hb, fun x c e => (I'.ok.exf b hb).2 x c e, fun p hp => absurd (show p ∈ ([] : List (Addr × Obj)) ++ [] from hp) (by simp)⟩
  have loop : codeAny (model X.prog X.w) X.A (.compLoop (.DictComp kx vx [⟨tg, iter, ifs, 0⟩] scope pos) 0 (.ref it) (.ref D) ce) (compPost (model X.prog X.w) X.A X.xe use Qf (.ref D) s3.heap.objs.size) s4 := by
    refine compLoop_anyD (fun n s' => ∃ i H', Inv (X.blk s3 H3 scope ce fp) [] (wipe σ (own.map (·.2))) H' s' ∧ tn i s'.heap ∧ (∀ b ∈ fp, H' b = none) ∧ W i n H') ?_ m0 ⟨0, H3, I4, st4, nfp, w0⟩
    rintro n s5 ⟨i, H5, I5, st5, n5, w5⟩
    rcases turn i n H5 w5 with ⟨stop, qq⟩ | ⟨go, Nx, hNx, step⟩
    · have td := T.done (X.blk s3 H3 scope ce fp) rfl rfl rfl hc i [] s5 _ H5 (fun _ _ => False) I5 (stat I5 n5) st5 stop
      refine thnF td fun r s6 ⟨hr, I6⟩ => ?_
      subst hr
      -- back in the def's context
      have I7 : Inv X pins σ H5 s6 := I3.call' (ch := fp) I6.os I6.base I6.hok I6.bare fun b hb => ⟨(f3 b hb).1.2.2.2.1, (f3 b hb).1.2.1, (f3 b hb).1.2.2.2.2.1, (f3 b hb).1.2.2.2.2.2⟩
      have nC : H5 s3.heap.objs.size = none := by
        have z : H5 ce.locals = none := I6.free
        rw [cL] at z
        exact z
      obtain ⟨m, hn, _⟩ := I6.loc
      have hn : s6.heap.Ns ce.locals m := hn
      rw [cL] at hn
      exact hRR D s3.heap.objs.size s6 m H5 I7 qq hn (I3.fpOk (Nat.le_refl _) nC)
    · have ti := T.item (X.blk s3 H3 scope ce fp) rfl rfl rfl hc i [] s5 _ H5 (fun _ _ => False) I5 (stat I5 n5) st5 go
      refine thnF ti fun r s6 ⟨u, hr, h6⟩ => ?_
      subst hr
      refine thnF h6 fun _ s7 ⟨x, H7, I7, r7, y7, st7, n7⟩ => ?_
      have I7' := I7.pinned (stat I7 n7) (T.obj _ _ st7)
      refine thnF (pg.run _ s7 _ H7 x u _ I7' r7 (step x H7 y7)) fun _ s8 ⟨σ8, H8, I8, hw8, q8⟩ => ?_
      refine thnF (pt.run _ s8 σ8 H8 _ I8 q8) fun b s9 ⟨H9, I9, q9⟩ => ?_
      -- the turn's end
      have fin : ∀ {s' : Shared} {H' : Hp}, Inv (X.blk s3 H3 scope ce fp) ([] ++ pinsAt fp s7.heap) σ8 H' s' → Nx H' → ∃ m, m < n ∧ ∃ i H', Inv (X.blk s3 H3 scope ce fp) [] (wipe σ (own.map (·.2))) H' s' ∧ tn i s'.heap ∧ (∀ b ∈ fp, H' b = none) ∧ W i m H' := fun {s' H'} I' nx => by
        obtain ⟨m', hm, w'⟩ := hNx H' nx
        have pin' : ∀ b ∈ fp, ∀ o, s7.heap.get? b = some o → s'.heap.get? b = some o ∧ H' b = none := fun b hb o e =>
          let z := I'.pin (b, o) (List.mem_append_right _ (List.mem_append_right _ (mem_pinsAt hb e)))
          ⟨z.1, z.2.1⟩
        have hl : (wipe σ (own.map (·.2))).length = σ8.length := by rw [← hw8, wipe_length]
        refine ⟨m', hm, i + 1, H', (I'.unpinned (pins := [])).weak hl (fun j v e => ?_), T.keep _ _ _ st7 fun b hb o e => (pin' b hb o e).1, fun b hb => ?_, w'⟩
        · rw [← hw8] at e
          exact (wipe_some e).1
        · obtain ⟨o, e, _⟩ := T.obj _ _ st7 b hb
          exact (pin' b hb o e).2
      cases b with
      | false =>
        simp only [Bool.false_eq_true, if_false] at q9 ⊢
        exact fin I9 q9
      | true =>
        simp only [if_true] at q9 ⊢
        refine thnF (pk.run _ s9 σ8 H9 _ I9 q9) fun z s10 ⟨yk, H10, I10, r10, q10⟩ => ?_
        refine thnF (pe.run _ s10 σ8 H10 _ I10 q10) fun z2 s11 ⟨yv, H11, I11, r11, H12, g12, nx⟩ => ?_
        exact d_setD (X := X.blk s3 H3 scope ce fp) hun I11 g12 r10 r11 fun s12 I12 => fin I12 nx
  exact codeAny_compStart_dict loop (T.self X.A 0 _ _ _ st4 loop)
theorem pe_dcg {u0 : HO} (hu0 : u0 = .dK [] ∨ u0 = .dT []) (hun : X.A.units + 1 < cLine) {kx vx tg iter : Expr} {ifs : List Expr} {scope : Scope} {own : List (Str × Nat)} {pos : Pos} {wi : TI} {g : TG} {tt : TT} {tk tv : TE} (hc : X.calm = true) (hN : X.N.Nodup) (hi : PI X tg iter wi) (ok : BlkOk X.N X.env.scope scope own)
    (hg : ∀ (s : Shared) (H : Hp) (C : Addr) (cl : List (Str × Addr)) (fp : List Addr), PG (X.blk s H scope (compEnvC scope cl C X.env) fp) tg g) (ht : ∀ (s : Shared) (H : Hp) (C : Addr) (cl : List (Str × Addr)) (fp : List Addr), PTs (X.blk s H scope (compEnvC scope cl C X.env) fp) ifs tt)
    (hk : ∀ (s : Shared) (H : Hp) (C : Addr) (cl : List (Str × Addr)) (fp : List Addr), PE (X.blk s H scope (compEnvC scope cl C X.env) fp) kx tk)
    (he : ∀ (s : Shared) (H : Hp) (C : Addr) (cl : List (Str × Addr)) (fp : List Addr), PE (X.blk s H scope (compEnvC scope cl C X.env) fp) vx tv) (hs : ∀ x, foldedSetIterable iter X.env x = pure x := by intro _; rfl) :
    PE X (.DictComp kx vx [⟨tg, iter, ifs, 0⟩] scope pos) (tDcg u0 wi g tt tk tv (own.map (·.2))) := by
  refine ⟨fun pins s σ H Q I h => ?_⟩
  rw [arm_eval_DictComp]
  refine dcg_core hu0 hun hc hN I hi ok hg ht hk he hs h fun D C s' m H' I' q hn f => ⟨m, hn, fun h'' sb => ?_⟩
  obtain ⟨f0, f1, f2, f3, f4, f5⟩ := f
  exact ⟨.ref D, H', I'.turned (t' := s'.toks) (fun b o hb e => (sb.2 b hb).trans e) f0 f1 f3 f4 f5, rfl, q⟩
theorem ps_setDcg {u0 : HO} (hu0 : u0 = .dK [] ∨ u0 = .dT []) (hun : X.A.units + 1 < cLine) {i : Nat} {y : Str} {py : Pos} {kx vx tg iter : Expr} {ifs : List Expr} {scope : Scope} {own : List (Str × Nat)} {pos spos : Pos} {wi : TI} {g : TG} {tt : TT} {tk tv : TE} (hc : X.calm = true) (hN : X.N.Nodup) (hy : X.N[i]? = some y) (hyl : X.env.scope.names.lookup y = some .local)
    (hsw : swapsWith (.DictComp kx vx [⟨tg, iter, ifs, 0⟩] scope pos) (some (.Name y py)) spos.line X.env = pure true) (hi : PI X tg iter wi) (ok : BlkOk X.N X.env.scope scope own)
    (hg : ∀ (s : Shared) (H : Hp) (C : Addr) (cl : List (Str × Addr)) (fp : List Addr), PG (X.blk s H scope (compEnvC scope cl C X.env) fp) tg g) (ht : ∀ (s : Shared) (H : Hp) (C : Addr) (cl : List (Str × Addr)) (fp : List Addr), PTs (X.blk s H scope (compEnvC scope cl C X.env) fp) ifs tt)
    (hk : ∀ (s : Shared) (H : Hp) (C : Addr) (cl : List (Str × Addr)) (fp : List Addr), PE (X.blk s H scope (compEnvC scope cl C X.env) fp) kx tk)
    (he : ∀ (s : Shared) (H : Hp) (C : Addr) (cl : List (Str × Addr)) (fp : List Addr), PE (X.blk s H scope (compEnvC scope cl C X.env) fp) vx tv) (hs : ∀ x, foldedSetIterable iter X.env x = pure x := by intro _; rfl) :
    PS X (.Assign [.Name y py] (.DictComp kx vx [⟨tg, iter, ifs, 0⟩] scope pos) spos) (tAsg (tDcg u0 wi g tt tk tv (own.map (·.2))) (gName i)) := by
  refine ⟨fun pins s σ H D I h => ?_⟩
  rw [exec_Assign_Name_used _ _ _ _ hsw]
  refine wpAny_bind (wpAny_standAt (wpAny_bind ?_))
  show wpAny _ X.A (do let _ ← comprehension (.DictComp kx vx [⟨tg, iter, ifs, 0⟩] scope pos) scope X.env (firstIterPos [⟨tg, iter, ifs, 0⟩] pos) newDict false (eval iter X.env) (some (assign (.Name y py) X.env))) _ _ s
  have h : tDcg u0 wi g tt tk tv (own.map (·.2)) σ H (fun x H1 => gName i x σ H1 D.nx) := h
  refine wpAny_bind (thn (dcg_core (Qf := fun _ s' => SP X pins D .next s') hu0 hun hc hN I hi ok hg ht hk he hs h fun L C s' m H' I' q hn f => ?_) fun _ s' hq => wpAny_pure (wpAny_pure hq))
  show wpAny _ _ (assign (.Name y py) X.env (.ref L)) _ _ _
  refine wpAny_assign_Name (store_ok2 (v := V.ref L) I' hN hy (.inl hyl) rfl (fun s2 I2 ⟨a, sb, ha⟩ => ?_) (.inr hyl))
  obtain ⟨f0, f1, f2, f3, f4, f5⟩ := f
  have haC : C ≠ a := by
    rcases ha with z | z
    · rw [z]; exact f1
    · exact fun e => f4 y a z e.symm
  refine ⟨m, hn.sameBut sb haC, fun h3 sb3 => ?_⟩
  exact ⟨_, H', I2.turned (t' := s2.toks) (fun b o hb e => (sb3.2 b hb).trans e) f0 f1 f3 f4 f5, q⟩
theorem swD_true {kx vx : Expr} {gs : List Comprehension} {scope : Scope} {pos py : Pos} {y : Str} {l : Nat} {env : PySem.Env} (hk : env.scope.kind = .function) (hy : env.scope.names.lookup y = some .local) (hl : (py.line == pos.line) = true)
    (ha : (scope.names.any fun (n, k) => n == y && (k == .local || k == .cell)) = false) : swapsWith (.DictComp kx vx gs scope pos) (some (.Name y py)) l env = pure true := by
  have ky : env.kindOf y = some .local := hy
  have hb : env.blockKind = .function := by unfold PySem.Env.blockKind; rw [hk]; rfl
  unfold swapsWith
  simp only [hb, ky, ha, Expr.pos, hl]
  rfl
end
end TB

set_option Elab.async false
set_option linter.all false
set_option maxRecDepth 100000
set_option maxHeartbeats 4000000
namespace TB
open PySem PySem.Spec PyProof.Rows L2
/-! ### dict comprehensions of any keys -/
/-- a kind of dict -/
structure KD (κ : Type) [DecidableEq κ] where
  eq : κ → κ → Bool
  eq_is : ∀ a b, eq a b = decide (a = b)
  ob : List (κ × V) → HO
  tag : List κ → Tag
  key : D → Option κ
  nd : ∀ {ks : List κ} {vs : List V}, ks.length = vs.length → IsNode (ob (ks.zip vs)) (tag ks) vs
  rq : ∀ {H : Hp} {a : Addr} {kvs : List (κ × V)}, H a = some (ob kvs) → Rq H a (ob kvs)
  ok : ∀ kvs, (∀ ys, ob kvs ≠ .tup ys) ∧ (∀ ps, ob kvs ≠ .tbl ps) ∧ ∀ c q, ob kvs ≠ LamX.CodeO c q
  put : ∀ {K : PySem.W.Frag} {A : AM} {H : Hp} {kd : D} {v z : V} {j : κ} {a : Addr} {kvs : List (κ × V)}, MemOk K A H → DV K A H kd v → key kd = some j → H a = some (ob kvs) → kvs.length < sizeLine → DPut H a v z (upd H a (ob (putK kvs j z)))
  emp : ob [] = .dK [] ∨ ob [] = .dT []
/-- keys ints or texts -/
def kdK : KD Key where
  eq := keq
  eq_is := keq_eq
  ob := .dK
  tag := .dK
  key := keyOf
  nd := fun hl => ⟨rfl, hl⟩
  rq := fun h => .inl h
  ok := dK_ok
  put := fun _ dv hj h hl => .inl ⟨_, _, h, keyOf_at dv hj, hl, rfl⟩
  emp := .inl rfl
def tkey : D → Option (List Key)
  | .node .tup js => keysOf js
  | _ => none
/-- keys flat tuples -/
def kdT : KD (List Key) where
  eq := keqs
  eq_is := keqs_eq
  ob := .dT
  tag := .dT
  key := tkey
  nd := fun hl => ⟨rfl, hl⟩
  rq := fun h => .inl h
  ok := fun kvs => ⟨by simp, by simp, by intro c q z; cases z⟩
  put := fun {K A H kd v z j a kvs} m dv hj h hl => by
    cases kd with
    | node t js =>
      cases t with
      | tup =>
        obtain ⟨b, ws, rfl, na, ds⟩ := (show DP K A.adrs H (.node .tup js) v from dv)
        have hb := (nodeAt_read na).tupH
        rw [keysOf_at ds hj] at hb
        exact .inr ⟨_, _, b, h, rfl, hb, hl, rfl⟩
      | _ => cases hj
    | _ => cases hj
  emp := .inr rfl
def repG2 {κ : Type} (eq : κ → κ → Bool) : List κ → List D → κ → D → List D
  | j :: ks, x :: xs, k, y => (match eq j k with | true => y | false => x) :: repG2 eq ks xs k y
  | _, xs, _, _ => xs
def putG2 {κ : Type} (eq : κ → κ → Bool) (ks : List κ) (xs : List D) (k : κ) (y : D) : List κ × List D := match ks.any fun j => eq j k with
  | true => (ks, repG2 eq ks xs k y)
  | false => (ks ++ [k], xs ++ [y])
section
variable {K : PySem.W.Frag} {T : List (Addr × Str)} {H : Hp} {ρ : List Addr}
theorem repG2_at {κ : Type} [DecidableEq κ] {eq : κ → κ → Bool} (he : ∀ a b, eq a b = decide (a = b)) {k : κ} {y : D} {w : V} (dw : DP K ρ H y w) : ∀ {ks : List κ} {xs : List D} {vs : List V}, ks.length = vs.length → DPs K ρ H xs vs →
    ∃ vs', DPs K ρ H (repG2 eq ks xs k y) vs' ∧ (ks.zip vs).map (fun kv => if kv.1 = k then (kv.1, w) else kv) = ks.zip vs' ∧ ks.length = vs'.length
  | [], xs, vs, hl, h => by
    cases vs with
    | cons v vs => cases hl
    | nil => exact ⟨[], by cases xs <;> exact h, rfl, rfl⟩
  | j :: ks, [], vs, hl, h => by cases (show vs = [] from h); cases hl
  | j :: ks, x :: xs, vs, hl, h => by
    obtain ⟨v, r, rfl, dx, ds⟩ := h
    obtain ⟨r', h1, h2, h3⟩ := repG2_at he dw (ks := ks) (by simpa using hl) ds
    unfold repG2
    rw [he]
    by_cases q : j = k
    · rw [decide_eq_true q]
      refine ⟨w :: r', ⟨w, r', rfl, dw, h1⟩, ?_, by simp [h3]⟩
      show (if j = k then (j, w) else (j, v)) :: (ks.zip r).map (fun kv => if kv.1 = k then (kv.1, w) else kv) = (j, w) :: ks.zip r'
      rw [if_pos q, h2]
    · rw [decide_eq_false q]
      refine ⟨v :: r', ⟨v, r', rfl, dx, h1⟩, ?_, by simp [h3]⟩
      show (if j = k then (j, w) else (j, v)) :: (ks.zip r).map (fun kv => if kv.1 = k then (kv.1, w) else kv) = (j, v) :: ks.zip r'
      rw [if_neg q, h2]
theorem putG2_at {κ : Type} [DecidableEq κ] {eq : κ → κ → Bool} (he : ∀ a b, eq a b = decide (a = b)) {k : κ} {y : D} {w : V} (dw : DP K ρ H y w) {ks : List κ} {xs : List D} {vs : List V} (hl : ks.length = vs.length) (ds : DPs K ρ H xs vs) :
    ∃ vs', DPs K ρ H (putG2 eq ks xs k y).2 vs' ∧ putK (ks.zip vs) k w = (putG2 eq ks xs k y).1.zip vs' ∧ (putG2 eq ks xs k y).1.length = vs'.length := by
  unfold putG2 putK
  rw [zip_any he hl]
  cases q : ks.any fun j => eq j k with
  | true =>
    obtain ⟨vs', h1, h2, h3⟩ := repG2_at he dw (k := k) hl ds
    exact ⟨vs', h1, by rw [if_pos rfl]; exact h2, h3⟩
  | false =>
    refine ⟨vs ++ [w], ds.app ⟨w, [], rfl, dw, rfl⟩, ?_, by simp [hl]⟩
    rw [if_neg (by simp), List.zip_append hl]
    rfl
end
def dgGo {κ : Type} [DecidableEq κ] (F : KD κ) (tg : TgM) (c k e : Ev) (env : Env) : List D → List κ → List D → Mem → R (List κ × List D)
  | [], ks, xs, M => .ok (ks, xs) M
  | x :: r, ks, xs, M => match tg x M env with
    | none => .stuck
    | some env2 => match c env2 M with
      | .ok (.bl true) M2 => match k env2 M2 with
        | .ok kd M3 => match F.key kd with
          | some j => match e env2 M3 with
            | .ok y M4 => match still y && Nat.blt ks.length 1000000 with
              | true => dgGo F tg c k e env r (putG2 F.eq ks xs j y).1 (putG2 F.eq ks xs j y).2 M4
              | false => .stuck
            | _ => .stuck
          | none => .stuck
        | _ => .stuck
      | .ok (.bl false) M2 => dgGo F tg c k e env r ks xs M2
      | _ => .stuck
def mDg {κ : Type} [DecidableEq κ] (F : KD κ) (it : Evs) (tg : TgM) (c k e : Ev) (vs : List Nat) : Ev := fun env M => (it env M).bind fun items M1 => match dgGo F tg c k e (wipeE env vs) items [] [] M1 with
  | .ok (ks, xs) M2 => .ok (.node (F.tag ks) xs) M2
  | _ => .stuck
theorem dgGo_cons {κ : Type} [DecidableEq κ] {F : KD κ} {tg : TgM} {c k e : Ev} {env : Env} {x : D} {r : List D} {ks : List κ} {xs : List D} {M M' : Mem} {out : List κ × List D} (h : dgGo F tg c k e env (x :: r) ks xs M = .ok out M') :
    ∃ env2, tg x M env = some env2 ∧ ((∃ M2 kd M3 j y M4, c env2 M = .ok (.bl true) M2 ∧ k env2 M2 = .ok kd M3 ∧ F.key kd = some j ∧ e env2 M3 = .ok y M4 ∧ still y = true ∧ Nat.blt ks.length 1000000 = true ∧ dgGo F tg c k e env r (putG2 F.eq ks xs j y).1 (putG2 F.eq ks xs j y).2 M4 = .ok out M') ∨ ∃ M2, c env2 M = .ok (.bl false) M2 ∧ dgGo F tg c k e env r ks xs M2 = .ok out M') := by
  unfold dgGo at h
  cases ht : tg x M env with
  | none => rw [ht] at h; cases h
  | some env2 =>
    rw [ht] at h
    refine ⟨env2, rfl, ?_⟩
    simp only at h
    split at h
    · rename_i M2 hc
      split at h
      · rename_i kd M3 hk
        split at h
        · rename_i j hj
          split at h
          · rename_i y M4 he
            split at h
            · rename_i hs
              rw [Bool.and_eq_true] at hs
              exact .inl ⟨M2, kd, M3, j, y, M4, hc, hk, hj, he, hs.1, hs.2, h⟩
            · cases h
          · cases h
        · cases h
      · cases h
    · rename_i M2 hc
      exact .inr ⟨M2, hc, h⟩
    · cases h
section
variable {X : Cx} {W : XK} {T : List (Addr × Str)} {K : PySem.W.Frag}
/-- the dict at D is being made -/
structure DgI {κ : Type} [DecidableEq κ] (F : KD κ) (K : PySem.W.Frag) (T : List (Addr × Str)) (A1 : AM) (H1 : Hp) (D : Addr) (A : AM) (H : Hp) (ks : List κ) (acc : List TB.D) (accV : List V) : Prop where
  zz : A.z = A1.z
  ext : Ext T A1 H1 A H
  mem : MemOk K (A.hide D) H
  tabs : LamX.Tabs T H
  hl : ks.length = accV.length
  at_ : H D = some (F.ob (ks.zip accV))
  acc : DPs K (A.hide D).adrs H acc accV
  ke : Ke (A1.hide D) (upd H1 D (F.ob [])) (A.hide D) H
  ek : ∀ env σ, EnvOk K (A1.hide D) (upd H1 D (F.ob [])) env σ → EnvOk K (A.hide D) H env σ
theorem DgI.go {κ : Type} [DecidableEq κ] {F : KD κ} {A1 A A' : AM} {H1 H H' : Hp} {D : Addr} {ks : List κ} {acc : List TB.D} {accV : List V} (L : DgI F K T A1 H1 D A H ks acc accV) (e : Ext T (A.hide D) H (A'.hide D) H') (z : A'.z = A.z) (m : MemOk K (A'.hide D) H') : DgI F K T A1 H1 D A' H' ks acc accV := by
  have nd := L.mem.nd
  unfold AM.adrs at nd
  have nD : D ∉ (A.hide D).adr := fun q => (List.nodup_append.mp nd).2.2 D q D List.mem_cons_self rfl
  refine ⟨z.trans L.zz, ?_, m, e.tabs L.tabs, L.hl, e.keep D _ nD L.at_ (F.ok _).2.1, L.acc.ext e, L.ke.trans e.keH, fun env σ h => (L.ek env σ h).ext e⟩
  have := e.unz A.z
  refine L.ext.trans ?_
  obtain ⟨c', z'⟩ := A'
  obtain rfl : z' = A.z := z
  exact this
theorem DgI.put {κ : Type} [DecidableEq κ] {F : KD κ} {A1 A : AM} {H1 H : Hp} {D : Addr} {ks : List κ} {acc : List TB.D} {accV : List V} {j : κ} {y : TB.D} {v : V} (L : DgI F K T A1 H1 D A H ks acc accV) (hD : H1 D = none) (dy : DP K (A.hide D).adrs H y v) :
    ∃ accV', DgI F K T A1 H1 D A (upd H D (F.ob (putK (ks.zip accV) j v))) (putG2 F.eq ks acc j y).1 (putG2 F.eq ks acc j y).2 accV' := by
  have mD : D ∈ (A.hide D).adrs := List.mem_append_right _ List.mem_cons_self
  obtain ⟨vs', h1, h2, h3⟩ := putG2_at F.eq_is dy (k := j) L.hl L.acc
  exact ⟨vs', L.zz, Ext.over (w := F.ob (ks.zip accV)) L.ext hD L.at_ (F.ok _).2, L.mem.over List.mem_cons_self (F.ok _), Tabs.over L.at_ (F.ok _).2 L.tabs, h3, by rw [upd_same, h2], DPs.over mD h1, L.ke.trans (Ke.overD L.at_), fun env σ h => (L.ek env σ h).over mD⟩
theorem dg_read {κ : Type} [DecidableEq κ] {F : KD κ} {it : Evs} {g : TG} {m : TgM} {ts vs : List Nat} {mc mk me : Ev} {lb : Bool} (tk : TgOk X.K g m ts) (hts : ∀ i ∈ ts, i ∈ vs) {σ : L2.St} {H : Hp} {Q : VK} (h : RdE W T X.K (mDg F it m mc mk me vs) σ H Q) :
    tDcg (F.ob []) (RdI X W T lb it) g (RdT W0 T X.K mc) (RdE W0 T X.K mk) (RdE W0 T X.K me) vs σ H (fun v H' => UL X (Q v) H') := by
  obtain ⟨A, env, at0, p⟩ := h
  refine ⟨A, env, at0, ?_⟩
  unfold mDg at p
  cases hit : it env A.ers with
  | stuck => rw [hit] at p; exact p
  | exc x M => rw [hit] at p; exact p
  | ok items M1 =>
    rw [hit] at p
    intro A1 Hb Hl J eM e mb ⟨lk, _⟩ iok D hD
    subst eM
    have p : Po W T X.K A H (match dgGo F m mc mk me (wipeE env vs) items [] [] A1.ers with | .ok (ks, xs) M2 => .ok (.node (F.tag ks) xs) M2 | _ => .stuck) Q := p
    cases hgo : dgGo F m mc mk me (wipeE env vs) items [] [] A1.ers with
    | stuck => rw [hgo] at p; exact p.elim
    | exc x M => rw [hgo] at p; exact p.elim
    | ok out M2 =>
      obtain ⟨oks, oxs⟩ := out
      rw [hgo] at p
      simp only at p
      obtain ⟨n, G, Y, wk, hn, hit2⟩ := iok
      have atb := at0.ext e mb
      have atl : At T X.K A1 Hl env σ := by
        rcases lk with rfl | ⟨a, kvs, o, h1, _, h3, rfl⟩
        · exact atb
        · exact (Same1.mk (fun b nb => upd_ne nb) (.inl h1) (.inr ⟨o, upd_same⟩) : Same1 Hb (upd Hb a (.frz o (.dK kvs))) a kvs).at_ h3 atb
      have eo := (wipe_env atl.env vs).hide (u := F.ob []) hD
      let P : Nat → Hp → Prop := fun i H => ∃ A ks acc accV, DgI F X.K T A1 Hl D A H ks acc accV ∧ dgGo F m mc mk me (wipeE env vs) (items.drop i) ks acc A.ers = .ok (oks, oxs) M2
      refine ⟨fun i k H => k + i = n ∧ P i H, ⟨n, rfl, A1, [], [], [], ⟨rfl, Ext.laid hD, atl.mem.hide hD (F.ok _), (Ext.laid (A := A1) hD).tabs atl.tabs, rfl, upd_same, rfl, Ke.refl, fun _ _ h => h⟩, hgo⟩, ?_⟩
      rintro i k H ⟨hk, A', ks, acc, accV, L, hl⟩
      have hh := hit2 (A'.hide D) H ((Ke.laidD hD).trans L.ke) L.mem
      cases k with
      | zero =>
        obtain rfl : i = n := by omega
        refine .inl ⟨wk.stops H hh.1, ?_⟩
        rw [List.drop_of_length_le (by omega)] at hl
        have hl : R.ok (ks, acc) A'.ers = R.ok (oks, oxs) M2 := hl
        cases hl
        have m' := L.mem.show
        have np : D ∉ A'.adrs := fun z => by
          have nd := L.mem.nd
          rcases List.mem_append.mp z with z | z
          · unfold AM.adrs at nd
            exact (List.nodup_append.mp nd).2.2 D z D List.mem_cons_self rfl
          · unfold AM.adrs at nd
            exact (List.nodup_cons.mp (List.nodup_append.mp nd).2.1).1 z
        have fin : DP X.K A'.adrs H (.node (F.tag oks) oxs) (.ref D) := ⟨D, accV, rfl, .inl ⟨F.ob (oks.zip accV), np, F.rq L.at_, F.nd L.hl⟩, L.acc.keep (fun a w n _ z => n (mem_hide.mpr (.inr z))) (fun _ _ _ h _ => h)⟩
        rcases lk with rfl | ⟨a, kvs, o, h1, hu, h3, rfl⟩
        · exact .inl (p A' H _ rfl (e.trans L.ext) m' fin.dv)
        · have s : Same1 Hb (upd Hb a (.frz o (.dK kvs))) a kvs := ⟨fun b nb => upd_ne nb, .inl h1, .inr ⟨o, upd_same⟩⟩
          have ha : H a = some (.frz o (.dK kvs)) := L.ext.keep' a _ h3 upd_same (by simp)
          have s1 : Same1 H (upd H a (.dK kvs)) a kvs := ⟨fun b nb => upd_ne nb, .inr ⟨o, ha⟩, .inl upd_same⟩
          have n3 : a ∉ A'.adrs := L.ext.notin h3 upd_same
          refine .inr ⟨a, o, .dK kvs, ha, hu, p A' _ _ rfl (e.trans (s.ext L.ext s1 (by rw [upd_same, h1]))) (s1.mem n3 m') (s1.dv fin.dv)⟩
      | succ k =>
        have hi : i < n := by omega
        refine .inr ⟨wk.goes i H hi hh.1, P (i + 1), fun H' p' => ⟨k, Nat.lt_succ_self k, by omega, p'⟩, fun x H' yl => ?_⟩
        obtain ⟨d, hd, hst, e1, mm1, dv⟩ := hh.2 i x H' hi (wk.yields i H x H' hi hh.1 yl)
        rw [drop_get hd] at hl
        obtain ⟨env2, htg, hrest⟩ := dgGo_cons hl
        have L1 := L.go (A' := A') e1 rfl mm1
        refine tk (A'.hide D) H' _ env2 _ d x _ mm1 (L1.ek _ _ eo) dv htg fun σ2 e2 l2 k2 => ⟨wipe_same hts l2 k2, ?_⟩
        have at2 : At T X.K (A'.hide D) H' env2 σ2 := ⟨mm1, e2, L1.tabs⟩
        rcases hrest with ⟨M3, kd, M4, j, y, M5, hc, hkk, hj, hev, hsy, hzz, hl'⟩ | ⟨M3, hc, hl'⟩
        · refine ⟨A'.hide D, env2, at2, ?_⟩
          show Po W0 T X.K (A'.hide D) H' (mc env2 A'.ers) _
          rw [hc]
          intro A3 H3 v3 eM3 e3 m3 dv3
          subst eM3
          refine ⟨true, dv3, ?_⟩
          dsimp only
          rw [if_pos rfl]
          obtain ⟨c3, z3⟩ := A3
          obtain rfl : z3 = D :: A'.z := e3.zz
          have at3 := at2.ext e3 m3
          have L3 := L1.go (A' := ⟨c3, A'.z⟩) e3 rfl m3
          refine ⟨_, env2, at3, ?_⟩
          have hk' : mk env2 (AM.ers ⟨c3, D :: A'.z⟩) = .ok kd M4 := hkk
          show Po W0 T X.K _ H3 (mk env2 (AM.ers ⟨c3, D :: A'.z⟩)) _
          rw [hk']
          intro A4 H4 v4 eM4 e4 m4 dv4
          subst eM4
          obtain ⟨c4, z4⟩ := A4
          obtain rfl : z4 = D :: A'.z := e4.zz
          have at4 := at3.ext e4 m4
          have L4 := L3.go (A' := ⟨c4, A'.z⟩) e4 rfl m4
          refine ⟨_, env2, at4, ?_⟩
          have he' : me env2 (AM.ers ⟨c4, D :: A'.z⟩) = .ok y M5 := hev
          show Po W0 T X.K _ H4 (me env2 (AM.ers ⟨c4, D :: A'.z⟩)) _
          rw [he']
          intro A5 H5 v5 eM5 e5 m5 dv5
          subst eM5
          obtain ⟨c5, z5⟩ := A5
          obtain rfl : z5 = D :: A'.z := e5.zz
          have L5 := L4.go (A' := ⟨c5, A'.z⟩) e5 rfl m5
          obtain ⟨accV', L6⟩ := L5.put (j := j) hD (dv5.dp (still_n hsy))
          exact ⟨_, F.put m5 (dv4.ext e5) hj L5.at_ (by rw [List.length_zip, ← L.hl, Nat.min_self]; exact blt_sz hzz), ⟨c5, A'.z⟩, _, _, accV', L6, hl'⟩
        · refine ⟨A'.hide D, env2, at2, ?_⟩
          show Po W0 T X.K (A'.hide D) H' (mc env2 A'.ers) _
          rw [hc]
          intro A3 H3 v3 eM3 e3 m3 dv3
          subst eM3
          refine ⟨false, dv3, ?_⟩
          dsimp only
          rw [if_neg (by decide)]
          obtain ⟨c3, z3⟩ := A3
          obtain rfl : z3 = D :: A'.z := e3.zz
          exact ⟨⟨c3, A'.z⟩, ks, acc, accV, L1.go (A' := ⟨c3, A'.z⟩) e3 rfl m3, hl'⟩
/-- the dict that is made -/
theorem e_dg {κ : Type} [DecidableEq κ] (F : KD κ) {kx vx tg iter : Expr} {ifs : List Expr} {scope : Scope} {own : List (Str × Nat)} {pos : Pos} {it : Evs} {g : TG} {m : TgM} {ts : List Nat} {mc mk me : Ev} {lb : Bool} (c : Cok X W T) (hi : PI X tg iter (RdI X W T lb it)) (ok : BlkOk X.N X.env.scope scope own)
    (hg : ∀ (s : Shared) (H : Hp) (C : Addr) (cl : List (Str × Addr)) (fp : List Addr), PG (X.blk s H scope (compEnvC scope cl C X.env) fp) tg g) (tk : TgOk X.K g m ts) (hts : ∀ i ∈ ts, i ∈ own.map (·.2))
    (ht : ∀ (s : Shared) (H : Hp) (C : Addr) (cl : List (Str × Addr)) (fp : List Addr), PTs (X.blk s H scope (compEnvC scope cl C X.env) fp) ifs (RdT W0 T X.K mc))
    (hk : ∀ (s : Shared) (H : Hp) (C : Addr) (cl : List (Str × Addr)) (fp : List Addr), PE (X.blk s H scope (compEnvC scope cl C X.env) fp) kx (RdE W0 T X.K mk))
    (he : ∀ (s : Shared) (H : Hp) (C : Addr) (cl : List (Str × Addr)) (fp : List Addr), PE (X.blk s H scope (compEnvC scope cl C X.env) fp) vx (RdE W0 T X.K me)) (hs : ∀ x, foldedSetIterable iter X.env x = pure x := by intro _; rfl) :
    PE X (.DictComp kx vx [⟨tg, iter, ifs, 0⟩] scope pos) (RdE W T X.K (mDg F it m mc mk me (own.map (·.2)))) :=
  (pe_ul (pe_dcg F.emp (by have := c.un; omega) c.calm c.nd hi ok hg ht hk he hs)).imp fun σ H Q h => dg_read tk hts h
end
section
variable {X : Cx} {W : XK} {T : List (Addr × Str)}
theorem s_setDg {κ : Type} [DecidableEq κ] {F : KD κ} {i : Nat} {x : Str} {pos pos' : Pos} {e : Expr} {it : Evs} {g : TG} {m : TgM} {ts vs : List Nat} {mc mk me : Ev} {lb : Bool} (h : PS X (.Assign [.Name x pos'] e pos) (tAsg (tDcg (F.ob []) (RdI X W T lb it) g (RdT W0 T X.K mc) (RdE W0 T X.K mk) (RdE W0 T X.K me) vs) (gName i))) (tk : TgOk X.K g m ts) (hts : ∀ i ∈ ts, i ∈ vs) :
    PS X (.Assign [.Name x pos'] e pos) (RdS W T X.K (sAsg (mDg F it m mc mk me vs) (tNm i))) := (ps_ul h).imp fun E σ H q => by
  have r := asg_read (W := W) (T := T) (X := X) (tg_nm (i := i)) q
  exact dg_read tk hts (Q := fun v H' => E.nx (σ.set i (some v)) H') r
end
end TB

set_option Elab.async false
set_option linter.all false
set_option maxRecDepth 100000
set_option maxHeartbeats 4000000
namespace TB
open PySem PySem.Spec PyProof.Rows L2
/-! ### dict(pairs), keys ints or texts -/
section
variable {X : Cx} {pins : List (Addr × Obj)} {σ : L2.St} {H : Hp} {s : Shared}
theorem raw_pairs (I : Inv X pins σ H s) : ∀ {ps : List Addr} {kvs : List (Key × V)}, Paired (fun p kv => SqT X.K H p [kV kv.1, kv.2]) ps kvs →
    ∃ (prs : List (Key × Value)) (raw : List (Value × Value)), KV kvs prs ∧ prs.length = ps.length ∧ raw.length = ps.length ∧ ∀ (j : Nat) (u v : Value), raw[j]? = some (u, v) → ∃ (k : Key) (b : Addr), prs[j]? = some (k, v) ∧ ps[j]? = some b ∧ s.heap.IsTuple b #[u, v] ∧ keyIs k u = true
  | _, _, .nil => ⟨[], [], .nil, rfl, rfl, fun j u v e => by simp at e⟩
  | _, _, .cons (a := p) (b := kv) h t => by
    obtain ⟨prs, raw, r, l1, l2, hp⟩ := raw_pairs I t
    obtain ⟨its, rv, ht, _⟩ := I.tuple h
    obtain ⟨u, y, ei, ru, ry⟩ := vals2 rv
    subst ei
    refine ⟨(kv.1, y) :: prs, (u, y) :: raw, .cons ⟨rfl, ry⟩ r, by simp [l1], by simp [l2], fun j u' v' e => ?_⟩
    cases j with
    | zero =>
      cases Option.some.inj e
      exact ⟨kv.1, p, rfl, rfl, ht, kV_is (P := X.prog) (w := X.w) ru⟩
    | succ j =>
      obtain ⟨k, b, e1, e2, e3⟩ := hp j u' v' (by simpa using e)
      exact ⟨k, b, by simpa using e1, by simpa using e2, e3⟩
theorem fresh_dict {kvs : List (Key × V)} {prs : List (Key × Value)} {n : Nat} {h' : Heap} {tk : Nat} {Q : VK} (I : Inv X pins σ H s) (rel : KV kvs prs) (hn : prs.length = n) (hz : n ≤ sizeLine) (hd : h'.DictOf (mixKind X.prog X.w) s.heap.objs.size (merged [] prs))
    (k : ∀ b o, s.heap.get? b = some o → h'.get? b = some o) (q : ∀ p, H p = none → Q (.ref p) (upd H p (.dK (mergeK [] kvs)))) : EP X pins σ Q (.ref s.heap.objs.size) { s with heap := h', toks := tk } := by
  have hm : (s.heap.objs.size == sysModules) = false := beq_eq_false_iff_ne.mpr (Nat.ne_of_gt I.big)
  have hlen : (mergeK [] kvs).length ≤ sizeLine := by
    refine Nat.le_trans (length_mergeK kvs []) ?_
    rw [List.length_nil, Nat.zero_add, rel.length, hn]
    exact hz
  exact ⟨.ref s.heap.objs.size, upd H s.heap.objs.size (.dK (mergeK [] kvs)), I.laid (t' := tk) k (Nat.le_refl _) (show ObjOk X.prog X.w _ _ _ (.dK (mergeK [] kvs)) from ⟨hlen, hm, merged [] prs, KV.merge rel .nil, hd⟩), rfl, q _ (I.hok.fresh (Nat.le_refl _))⟩
end
/-- a tuple of whose object no dict is there, of pairs -/
def rDictT (K : PySem.W.Frag) : List V → Hp → VK → Prop := fun xs H Q => ∃ (a : Addr) (ps : List Addr) (kvs : List (Key × V)), xs = [.ref a] ∧ (ReadAt K H a .ktp (ps.map V.ref) ∨ SqL K H a (ps.map V.ref)) ∧ Paired (fun p kv => SqT K H p [kV kv.1, kv.2]) ps kvs ∧ ∀ p, H p = none → Q (.ref p) (upd H p (.dK (mergeK [] kvs)))
theorem call_dictTT {X : Cx} (hcalm : X.calm = true) : CallR X (.type "dict") (rDictT X.K) := by
  intro pins s σ H xs us Q I r q
  obtain ⟨a, ps, kvs, ex, hq, hp, q⟩ := q
  rcases hq with ra | hq
  · subst ex
    obtain ⟨u, eu, rx⟩ := vals1 r
    subst eu
    cases rx
    obtain ⟨its, rv, tu, hz⟩ := I.tuple ra.ktp
    have ei := refs_at rv
    subst ei
    rw [List.length_map] at hz
    obtain ⟨hty, hfree⟩ := ktp_free I ra
    obtain ⟨ob, ho, hd⟩ := hfree a rfl
    obtain ⟨o, ho', hc, n, hdat⟩ := tu
    obtain rfl : o = ob := Option.some.inj (ho'.symm.trans ho)
    obtain ⟨prs, raw, rel, l1, l2, hpr⟩ := raw_pairs I hp
    let Ts : Nat → Addr := fun j => ps.getD j 0
    refine PySem.call_dict_pairs (knd := mixKind X.prog X.w) (kvs := prs) (PairArg.tuple a (ps.map Value.ref).toArray Ts raw) (I.ok.hd hcalm) ⟨⟨o, n, ho, hc, hd, hdat⟩, by simp [l2], fun j u v e => ?_⟩ ⟨by rw [l1, l2], fun j u v e => ?_⟩ (by rw [l2]; exact hz) fun h' tk hd' k => ?_
    · obtain ⟨k, b, e1, e2, e3, _⟩ := hpr j u v e
      have eT : Ts j = b := by show ps.getD j 0 = b; rw [List.getD_eq_getElem?_getD, e2] <;> rfl
      rw [eT]
      exact ⟨by simp [e2], .inl e3⟩
    · obtain ⟨k, b, e1, e2, _, e4⟩ := hpr j u v e
      exact ⟨k, e1, e4⟩
    · exact fresh_dict I rel (n := ps.length) l1 hz hd' (fun b o e => k b o (by simp) e) q
  · exact call_dictP hcalm pins s σ H xs us Q I r ⟨a, ps, kvs, ex, hq, hp, q⟩
def pairsOf : List D → Option (List (Key × D))
  | [] => some []
  | .node t [k, x] :: r => match isTp t, keyOf k with
    | true, some j => match pairsOf r with
      | some ps => some ((j, x) :: ps)
      | none => none
    | _, _ => none
  | _ => none
def mrgD : List Key → List D → List (Key × D) → List Key × List D
  | ks, xs, [] => (ks, xs)
  | ks, xs, (k, x) :: r => mrgD (putG2 keq ks xs k x).1 (putG2 keq ks xs k x).2 r
def mkDc (ps : List (Key × D)) : D := .node (.dK (mrgD [] [] ps).1) (mrgD [] [] ps).2
theorem mrg_at {K : PySem.W.Frag} {ρ : List Addr} {H : Hp} : ∀ {ps : List (Key × D)} {kvs : List (Key × V)} {ks : List Key} {xs : List D} {vs : List V}, Paired (fun p kv => p.1 = kv.1 ∧ DP K ρ H p.2 kv.2) ps kvs → ks.length = vs.length → DPs K ρ H xs vs →
    ∃ vs', DPs K ρ H (mrgD ks xs ps).2 vs' ∧ mergeK (ks.zip vs) kvs = (mrgD ks xs ps).1.zip vs' ∧ (mrgD ks xs ps).1.length = vs'.length
  | _, _, ks, xs, vs, .nil, hl, ds => ⟨vs, ds, rfl, hl⟩
  | _, _, ks, xs, vs, .cons (a := p) (b := kv) h t, hl, ds => by
    obtain ⟨k, x⟩ := p
    obtain ⟨k', v⟩ := kv
    obtain ⟨e, dx⟩ := h
    cases (show k = k' from e)
    obtain ⟨vs', h1, h2, h3⟩ := putG2_at keq_eq dx (k := k) hl ds
    obtain ⟨ws, g1, g2, g3⟩ := mrg_at t h3 h1
    refine ⟨ws, g1, ?_, g3⟩
    show mergeK (putK (ks.zip vs) k v) _ = _
    rw [h2]
    exact g2
theorem pairsOf_at {K : PySem.W.Frag} {ρ : List Addr} {H : Hp} : ∀ {ys : List D} {vs : List V} {ps : List (Key × D)}, DPs K ρ H ys vs → pairsOf ys = some ps → ∃ (as : List Addr) (kvs : List (Key × V)), vs = as.map V.ref ∧ Paired (fun p kv => SqT K H p [kV kv.1, kv.2]) as kvs ∧ Paired (fun p kv => p.1 = kv.1 ∧ DP K ρ H p.2 kv.2) ps kvs
  | [], _, _, h, e => by cases (show _ = [] from h); cases e; exact ⟨[], [], rfl, .nil, .nil⟩
  | d :: r, _, ps, h, e => by
    obtain ⟨v, ws, rfl, d1, ds⟩ := h
    unfold pairsOf at e
    split at e
    · rename_i hh
      cases hh
    · rename_i t k x r' hh
      cases hh
      split at e
      · rename_i j ht hj
        split at e
        · rename_i ps' hps
          cases e
          obtain ⟨as, kvs, rfl, h1, h2⟩ := pairsOf_at ds hps
          obtain ⟨a, us, rfl, na, es⟩ := d1
          obtain ⟨v1, r1, rfl, dk, es⟩ := es
          obtain ⟨v2, r2, rfl, dx, es⟩ := es
          cases (show _ = [] from es)
          have ra := sqRead ht (nodeAt_read na)
          rw [keyOf_at (A := ⟨[], ρ⟩) (d := k) (v := v1) (by cases k <;> first | exact dk | exact dk.elim) hj] at ra
          exact ⟨a :: as, (j, v2) :: kvs, rfl, .cons ra h1, .cons ⟨rfl, dx⟩ h2⟩
        · cases e
      · cases e
    · cases e
section
variable {X : Cx} {W : XK} {T : List (Addr × Str)} {a : Expr} {p pos : Pos} {m : Ev}
def gDict : OpN := fun ds M => match ds with
  | [.node .ktp ys] => match pairsOf ys with
    | some ps => .ok (mkDc ps) M
    | none => .stuck
  | [.node .lst ys] => match pairsOf ys with
    | some ps => .ok (mkDc ps) M
    | none => .stuck
  | _ => .stuck
theorem call_gDict (c : Cok X W T) : CallR X (.type "dict") (RdN W T X.K gDict) := by
  rintro pins s σ H vs us Q I r ⟨A, ds, m, _, dv, p⟩
  unfold gDict at p
  have go : ∀ (t : Tag) (ys : List D) (v : V) (ps : List (Key × D)), (∀ a ws, ReadAt X.K H a t ws → ReadAt X.K H a .ktp ws ∨ SqL X.K H a ws) → DP X.K A.adrs H (.node t ys) v → pairsOf ys = some ps → Po W T X.K A H (.ok (mkDc ps) A.ers) Q → rDictT X.K [v] H Q := fun t ys v ps ht dv hps p => by
    obtain ⟨a, ws, rfl, na, es⟩ := dv
    obtain ⟨as, kvs, rfl, h1, h2⟩ := pairsOf_at es hps
    refine ⟨a, as, kvs, rfl, ht _ _ (nodeAt_read na), h1, fun q hq => ?_⟩
    obtain ⟨vs', g1, g2, g3⟩ := mrg_at (ks := []) (xs := []) (vs := []) h2 rfl rfl
    refine p.node m hq (u := .dK (mergeK [] kvs)) ⟨g2, g3⟩ g1
  split at p
  · rename_i ys
    obtain ⟨v, rfl, dx⟩ := dvl1 dv
    cases hps : pairsOf ys with
    | none => rw [hps] at p; exact p.elim
    | some ps =>
      rw [hps] at p
      exact call_dictTT c.calm pins s σ H _ us Q I r (go .ktp ys v ps (fun _ _ h => .inl h) dx hps p)
  · rename_i ys
    obtain ⟨v, rfl, dx⟩ := dvl1 dv
    cases hps : pairsOf ys with
    | none => rw [hps] at p; exact p.elim
    | some ps =>
      rw [hps] at p
      exact call_dictTT c.calm pins s σ H _ us Q I r (go .lst ys v ps (fun _ _ h => .inr h.lst) dx hps p)
  · exact p.elim
end
end TB

set_option Elab.async false
set_option linter.all false
set_option maxRecDepth 100000
set_option maxHeartbeats 4000000
namespace LamY
open PySem PySem.Spec PyProof.Rows L2 LamX
/-- all but the tables stay, and nothing is forgotten -/
structure Ext2 (H H' : Hp) : Prop where
  k : ExtN H H'
  th : ∀ b, H' b = none → H b = none
section
variable {X : Cx} {pins : List (Addr × Obj)} {σ : L2.St} {H : Hp} {s : Shared}
/-- the lambda is made: its code object is new, or found in the table -/
theorem lam_make3 {T : List (Addr × Str)} {c P : Addr} {params : Arguments} {body : Expr} {scope : Scope} {pos : Pos} {E : Value → Shared → Prop} {Q : Value → Shared → Prop} (I : Inv X pins σ H s) (TB : TabB X.base X.mg c P) (hcode : X.env.code = .ref c)
    (hm : (P, X.env.qual ++ "<lambda>") ∈ T) (hu : ∀ p ∈ T, p.1 = P → p.2 = X.env.qual ++ "<lambda>") (hT : Tabs T H) (hdef : defaultsOf params X.env = ([], [])) (hfree : ∀ y ∈ scope.names, y.2 = .free → ∃ c, X.env.cells.lookup y.1 = some c)
    (h : ∀ (f c' : Addr) (pm ctv : Value) (H1 : Hp) (s' : Shared), Inv X pins σ H1 s' → Ext2 H H1 → Tabs T H1 →
      s'.heap.get? f = some (PySem.W.kla_obj "<lambda>" (X.env.qual ++ "<lambda>") params body scope (cloFrom X.env.cells scope.names []) pm c' ctv) → H1 f = none → f ∉ frs X.stack → H1 c' = some (CodeO c' (X.env.qual ++ "<lambda>")) → Q (.ref f) s') :
    wpAny (model X.prog X.w) X.A (eval (.Lambda params body scope pos) X.env) Q E s := by
  obtain ⟨ps, hP, ht, ha⟩ := hT _ hm
  refine PySem.W.kla_eval hdef ?_
  have bP : s.heap.BuiltinsAt X.mg P := TB.bm.keeps I.bk
  have hP' : s.heap.get? P = some { cls := .none, data := .fields ps } := I.hok P _ hP
  have nofr : ∀ f, s.heap.objs.size ≤ f → f ∉ frs X.stack := fun f hf z => by
    rcases List.mem_cons.mp (I.stkSub _ z) with e | e
    · have h1 := I.lt
      rw [← e] at h1
      exact Nat.lt_irrefl _ (Nat.lt_of_lt_of_le h1 hf)
    · exact I.nofs hf e
  cases hc : codeAmong pos ps.toList with
  | none =>
    refine PySem.W.kla_makeFunction (mg := X.mg) (c := c) (P := P) (ps := ps) (closure_ok hfree) I.ok.glob (I.mod.glob.keeps I.bk) hcode (TB.code.keeps I.bk) hP' ht hc TB.gP bP fun c' ctv h' tk hx hge hlt hrec htb => ?_
    obtain ⟨c2, oc, vs, t, e2, hoc, hd, hv⟩ := hrec
    cases e2
    have hsz : s.heap.objs.size ≤ h'.objs.size := Nat.le_trans hge (Nat.le_of_lt hlt)
    have nC : H c' = none := I.hok.fresh hge
    have I1 := inv_table (t' := tk) (more := #[rawInt pos.line, rawInt pos.col, .ref c']) (h' := h'.push (PySem.W.kla_obj "<lambda>" (X.env.qual ++ "<lambda>") params body scope (cloFrom X.env.cells scope.names []) ((X.mg "__name__").getD .none) c' ctv)) I hP
      (fun b o hb e => Heap.get?_push_of_some _ (hx b o hb e)) (Heap.get?_push_of_some _ htb) hge ⟨oc, vs, t, Heap.get?_push_of_some _ hoc, hd, hv⟩
    have hE : ExtN H (upd (upd H P (.tbl (ps ++ #[rawInt pos.line, rawInt pos.col, .ref c']))) c' (CodeO c' (X.env.qual ++ "<lambda>"))) := fun b o e n => by
      rw [upd_ne (ne_of_none e nC), upd_ne (fun z => n ps (Option.some.inj (e.symm.trans (by rw [z]; exact hP))))]
      exact e
    have eL : (ps ++ #[rawInt pos.line, rawInt pos.col, .ref c']).toList = ps.toList ++ [rawInt pos.line, rawInt pos.col, .ref c'] := by simp
    refine h h'.objs.size c' ((X.mg "__name__").getD .none) ctv _ _ I1 ⟨hE, fun b e => ?_⟩ (fun p hp => ?_) (Heap.get?_push_size _ rfl) ?_ (nofr _ hsz) upd_same
    · by_cases hb : b = c'
      · rw [hb]; exact nC
      · rw [upd_ne hb] at e
        by_cases hb2 : b = P
        · rw [hb2, upd_same] at e; cases e
        · rw [upd_ne hb2] at e; exact e
    · by_cases hb : p.1 = P
      · rw [hu p hp hb, hb]
        refine ⟨_, by rw [upd_ne (ne_of_none hP nC), upd_same], by rw [eL]; exact PySem.TriplesOk_snoc _ _ _ _ ht, fun p' cv hcv => ?_⟩
        rw [eL] at hcv
        rcases among_app _ ht hcv with z | z
        · obtain ⟨c0, e1, e2⟩ := ha p' cv z
          exact ⟨c0, e1, hE _ _ e2 codeO_ne⟩
        · exact ⟨c', z, upd_same⟩
      · obtain ⟨ps', a1, a2, a3⟩ := hT p hp
        refine ⟨ps', by rw [upd_ne (ne_of_none a1 nC), upd_ne hb]; exact a1, a2, fun p' cv hcv => ?_⟩
        obtain ⟨c0, e1, e2⟩ := a3 p' cv hcv
        exact ⟨c0, e1, hE _ _ e2 codeO_ne⟩
    · have n1 : h'.objs.size ≠ c' := Nat.ne_of_gt hlt
      have n2 : h'.objs.size ≠ P := Nat.ne_of_gt (Nat.lt_of_lt_of_le (Heap.lt_size hP') hsz)
      rw [upd_ne n1, upd_ne n2]
      exact I.hok.fresh hsz
  | some cv =>
    obtain ⟨c', e, hco⟩ := ha pos cv hc
    subst e
    refine PySem.W.kla_makeFunctionHit (mg := X.mg) (c := c) (P := P) (ps := ps) (closure_ok hfree) I.ok.glob (I.mod.glob.keeps I.bk) hcode (TB.code.keeps I.bk) hP' ht hc bP fun ctv h' tk hx hsz => ?_
    have I1 : Inv X pins σ H { s with heap := h'.push (PySem.W.kla_obj "<lambda>" (X.env.qual ++ "<lambda>") params body scope (cloFrom X.env.cells scope.names []) ((X.mg "__name__").getD .none) c' ctv), toks := tk } := I.kept fun b o e => Heap.get?_push_of_some _ (hx b o e)
    exact h h'.objs.size c' ((X.mg "__name__").getD .none) ctv H _ I1 ⟨ExtN.refl H, fun _ e => e⟩ hT (Heap.get?_push_size _ rfl) (I.hok.fresh hsz) (nofr _ hsz) hco
end
section
variable {X : Cx} {pins : List (Addr × Obj)} {σ : L2.St} {H HZ : Hp} {s s1 : Shared}
/-- x(), in the def that got the lambda: Z is that def's context, entered at s -/
theorem pe_actG {CXg : CXT} {Eg : XK} {Ng : List Str} {qg : Str} {sg : Scope} {g f c' : Addr} {cdg pm ctv : Value} {params : Arguments} {body : Expr} {scope : Scope} {k i : Nat} {a : Str} {pn : List (Addr × Obj)} {xe : Value → Shared → Prop} {W : WX} {tb : XK → TE} {p1 p2 : Pos}
    (I : Inv X pins σ H s) (L : LamS X.env.scope scope) (hf : s.heap.get? f = some (PySem.W.kla_obj "<lambda>" (X.env.qual ++ "<lambda>") params body scope (cloFrom X.env.cells scope.names []) pm c' ctv)) (hfn : H f = none) (hfr : f ∉ frs X.stack)
    (hbind : bindArgs (PySem.W.kla_fn "<lambda>" (X.env.qual ++ "<lambda>") params body scope (cloFrom X.env.cells scope.names []) pm (.ref c') ctv) ⟨[], []⟩ = pure [])
    (tk : Takes ((cxOf CXg X.prog X.w X.K X.mg X.base Ng qg sg g cdg X.A X.stack s H Eg).tr pn xe) W) (hr : Room (k + 1) (X.A.deeper (envOfC qg sg s.heap.objs.size g cdg)))
    (hbody : ∀ (A : Around) (outer : List PySem.Env) (s : Shared) (H : Hp) (E : XK), Room k (A.deeper (lamEnv X scope s.heap.objs.size f c')) → A.guards = X.A.guards → PE (lamCx X A outer s H E scope f c') body (tb E))
    (hN : Ng[i]? = some a) (hv : Vis sg a) (hd : (a == ("__debug__" : Str)) = false := by decide) (hcd : (a == ("__classdict__" : Str)) = false := by decide) :
    PE ((cxOf CXg X.prog X.w X.K X.mg X.base Ng qg sg g cdg X.A X.stack s H Eg).tr pn xe) (.Call (.Name a p1) [] [] p2)
      (fun σZ HZ Q => σZ[i]? = some (some (.ref f)) ∧ HZ c' = some (CodeO c' (X.env.qual ++ "<lambda>")) ∧ ∃ E : XK, (∀ cls d H', E cls d H' → W cls d σZ H') ∧ tb E σ HZ Q) := by
  refine ⟨fun pinsZ sZ σZ HZ Q IZ h => ?_⟩
  obtain ⟨hs, hc, E, hW, ht⟩ := h
  refine wpAny_Call_Name_kw (thn ((pe_var (pos := p1) (i := i) hN hv hd hcd).run pinsZ sZ σZ HZ (fun v H1 => v = .ref f ∧ H1 = HZ) IZ ⟨.ref f, hs, rfl, rfl⟩) fun u s1 ⟨v, H1, I1, r1, q1⟩ => ?_)
  obtain ⟨ev, eH⟩ := q1
  subst ev
  rw [eH] at I1
  obtain rfl : u = Value.ref f := r1
  have of1 : s1.heap.get? f = some (PySem.W.kla_obj "<lambda>" (X.env.qual ++ "<lambda>") params body scope (cloFrom X.env.cells scope.names []) pm c' ctv) := I1.base.keep f _ hf hfn hfr (fun z => nomatch (show f ∈ ([] : List Addr) from z))
  refine PySem.W.callWith_F0 ⟨_, _, _, _, of1⟩ ?_
  have un : Un (frs X.stack) [] H HZ s.heap s1.heap := I1.base
  obtain ⟨⟨oc, vs, t, hoc, hdc, hvc⟩, _, _⟩ := I1.hok c' _ hc
  have rc : codeAny (model X.prog X.w) (X.A.deeper (envOfC qg sg s.heap.objs.size g cdg)) (.call (.ref f) ⟨[], []⟩) (CR (L2.CX X.prog X.w) (envOfC qg sg s.heap.objs.size g cdg :: X.stack) X.prog X.w HZ s1 Q E) s1 := by
    refine PySem.W.kla_callFunE hr.depth of1 rfl L.co L.gen rfl ⟨c', oc, vs, t, rfl, hoc, hdc, hvc⟩ ?_
    rw [hbind]
    refine wpAny_pure (wpAny_newFunctionEnv (fun y hy => (L.own y hy).2) (fun y hy => absurd hy (by simp)) (fun h₁ hns hsb => ⟨I1.nolimit.fresh _ hsb, ?_⟩) L.kind)
    show codeAny _ _ (.expr body (lamEnv X scope s1.heap.objs.size f c')) _ _
    have kp : ∀ b o, s1.heap.get? b = some o → h₁.get? b = some o := fun b o e => hsb.extBut b o (Nat.ne_of_lt (Heap.lt_size e)) (Heap.get?_push_of_some _ e)
    have J : Inv (lamCx X (X.A.deeper (envOfC qg sg s.heap.objs.size g cdg)) (envOfC qg sg s.heap.objs.size g cdg :: X.stack) s1 HZ E scope f c') [] σ HZ { s1 with heap := h₁, toks := s1.toks + ([] : List (Str × Value)).length } :=
      lam_start2 I L I1.env0 hr.hd un hns kp
    refine PySem.W.kla_codeExpr (wpAny_mono ((hbody _ _ s1 HZ E (hr.deeper _) rfl).run [] _ _ HZ Q J ht) (fun v s' hq => ?_) fun e s' hq => hq)
    obtain ⟨w', H', J', rv, q⟩ := hq
    exact ⟨w', H', J'.os, J'.bare, J'.base, J'.hok, rv, q⟩
  refine wpAny_call (codeAny_mono rc fun r s' hq => ?_)
  cases r with
  | error e => exact tk e s' (XE.of_call I1 hW hq)
  | ok fl =>
    cases fl with
    | ret u => exact I1.after hq
    | next => exact False.elim hq
    | brk => exact False.elim hq
    | cont => exact False.elim hq
end
/-- the def that calls what it got: a calls it; TT: what it makes of the lambda's reading -/
def GivesG (k : Nat) (X : Cx) (Ng : List Str) (x : Str) (sg : Scope) (g : Addr) (cdg : Value) (bg : List Stmt) (a : Str) (q : Str) (TT : (XK → Hp → VK → Prop) → Hp → VK → Prop) : Prop :=
  ∀ (f c' : Addr) (s : Shared) (H : Hp) (Q : VK) (tl : XK → Hp → VK → Prop),
    (∀ (W : WX) (pn : List (Addr × Obj)) (xe : Value → Shared → Prop) (p1 p2 : Pos), Takes ((cxOf C8.CX0 X.prog X.w X.K X.mg X.base Ng x sg g cdg X.A X.stack s H C8.E0).tr pn xe) W →
      PE ((cxOf C8.CX0 X.prog X.w X.K X.mg X.base Ng x sg g cdg X.A X.stack s H C8.E0).tr pn xe) (.Call (.Name a p1) [] [] p2) (fun σZ HZ Q => σZ[0]? = some (some (.ref f)) ∧ HZ c' = some (CodeO c' q) ∧ ∃ E : XK, (∀ cls d H', E cls d H' → W cls d σZ H') ∧ tl E HZ Q)) →
    H c' = some (CodeO c' q) → Room k (X.A.deeper (envOfC x sg s.heap.objs.size g cdg)) → TT tl H Q →
    ∃ t, PSs (cxOf C8.CX0 X.prog X.w X.K X.mg X.base Ng x sg g cdg X.A X.stack s H C8.E0).nox bg t ∧ t { nx := fun _ H' => Q .non H', rt := Q } (L2.start Ng [.ref f]) H
def tLamG (T : List (Addr × Str)) (TT : (XK → Hp → VK → Prop) → Hp → VK → Prop) (t : XK → TE) : TE := fun σ H Q => Tabs T H ∧ ∀ H1, Ext2 H H1 → Tabs T H1 → TT (fun E H' Q' => t E σ H' Q') H1 Q
section
variable {X : Cx}
/-- x(lambda: body) -/
theorem pe_lamcallG {T : List (Addr × Str)} {TT : (XK → Hp → VK → Prop) → Hp → VK → Prop} {x a : Str} {g c P : Addr} {k : Nat} {pg : Arguments} {bg : List Stmt} {sg : Scope} {dV kV doc pm cdv ct oc : Value} {an od : Option Addr} {osl : Array (Option Value)} {Ng : List Str}
    {params : Arguments} {body : Expr} {scope : Scope} {t : XK → TE} {p lpos pos : Pos} (hg : Gl X x) (hm : X.mg x = some (.ref g)) (hk : PySem.W.keepIn X.K (.ref g) = true)
    (lk : X.K.lookup g = some ⟨oc, od, .func (PySem.W.fnOf x x pg bg sg dV kV doc pm an cdv ct), osl⟩) (hcg : PySem.W.codeIn X.K cdv x = true) (hb : L2.Binds X.K (PySem.W.fnOf x x pg bg sg dV kV doc pm an cdv ct) [a] []) (Sg : FnScope Ng [a] sg) (hNg : Ng[0]? = some a) (hva : Vis sg a)
    (hG : GivesG (k + 1) X Ng x sg g cdv bg a (X.env.qual ++ "<lambda>") TT)
    (TB : TabB X.base X.mg c P) (hcode : X.env.code = .ref c) (hmT : (P, X.env.qual ++ "<lambda>") ∈ T) (hu : ∀ p ∈ T, p.1 = P → p.2 = X.env.qual ++ "<lambda>") (hr : Room (k + 2) X.A) (L : LamS X.env.scope scope) (hdef : defaultsOf params X.env = ([], []))
    (hbind : ∀ (q : Str) (cl : List (Str × Addr)) (pm cv ctv : Value), bindArgs (PySem.W.kla_fn "<lambda>" q params body scope cl pm cv ctv) ⟨[], []⟩ = pure [])
    (hbody : ∀ (A : Around) (outer : List Env) (s : Shared) (H : Hp) (E : XK) (f c' : Addr), Room k (A.deeper (lamEnv X scope s.heap.objs.size f c')) → A.guards = X.A.guards → PE (lamCx X A outer s H E scope f c') body (t E))
    (hdb : (x == ("__debug__" : Str)) = false := by decide) (hd : (a == ("__debug__" : Str)) = false := by decide) (hcd : (a == ("__classdict__" : Str)) = false := by decide) :
    PE X (.Call (.Name x p) [.Lambda params body scope lpos] [] pos) (tLamG T TT t) := by
  refine ⟨fun pins s σ H Q I h => ?_⟩
  obtain ⟨hT, h⟩ := h
  refine wpAny_Call_Name_kw (ld_glob I hg hm ?_ hdb)
  refine PySem.W.callWith_K (h₀ := X.base) I.ok.mod.kin hk ?_ (by rfl) (by rfl)
  show wpAny _ _ (spliced ((false, eval (.Lambda params body scope lpos) X.env) :: backTo pos (starEach [] X.env))) _ _ s
  refine Calls.spliced_cons (lam_make3 I TB hcode hmT hu hT hdef (L.has I.ok) fun f c' pm' ctv H1 s' I1 eN T1 hf hfn hfr hco => ?_)
  refine Calls.spliced_nil ⟨I1.kIn, ?_⟩
  have rc : codeAny (model X.prog X.w) X.A (.call (.ref g) ⟨[.ref f], []⟩) (CR C8.CX0 X.stack X.prog X.w H1 s' Q C8.E0) s' := by
    refine run_ofS (N := Ng) (ps := [a]) (us := [.ref f]) (vs := [.ref f]) lk hcg Sg hr I1.env0 (hb s' [.ref f] I1.kIn rfl) (.cons rfl .nil) rfl fun hr' => ?_
    obtain ⟨t', ht', hq'⟩ := hG f c' s' H1 Q (fun E H' Q' => t E σ H' Q') (fun W pn xe p1 p2 tk => pe_actG (i := 0) (tb := t) I1 L hf hfn hfr (hbind _ _ _ _ _) tk hr' (fun A outer s H E hr2 hgd => hbody A outer s H E f c' hr2 hgd) hNg hva hd hcd) hco hr' (h H1 eN T1)
    exact ⟨t', ht'.nox, hq'⟩
  refine wpAny_call (codeAny_mono rc fun r s2 hq => ?_)
  cases r with
  | error e => exact (show False from hq).elim
  | ok fl =>
    cases fl with
    | ret u => exact I1.after hq
    | next => exact False.elim hq
    | brk => exact False.elim hq
    | cont => exact False.elim hq
end
end LamY

set_option Elab.async false
set_option linter.all false
set_option maxRecDepth 100000
set_option maxHeartbeats 4000000
namespace TB
open PySem PySem.Spec PyProof.Rows L2
/-! ### a caught error that outlives its clause -/
section
variable {X : Cx} {pins : List (Addr × Obj)} {σ : L2.St} {H : Hp} {s : Shared}
theorem extT_ok {P : Program} {w : World} {H : Hp} {h : Heap} {a : Addr} {o : Obj} (e : h.get? a = some o) : ObjOk P w H h a (.frz o ExtT) := ⟨e, True.intro, ⟨o, e⟩, fun _ _ _ _ => True.intro⟩
/-- an object that came behind the entry is watched from now on -/
theorem inv_track (I : Inv X pins σ H s) {a : Addr} {oe : Obj} (ha : s.heap.get? a = some oe) (na : H a = none) (n0 : X.s_0.heap.get? a = none) (nL : a ≠ X.env.locals) (nc : ∀ x c, X.env.cells.lookup x = some c → c ≠ a) (np : ∀ p ∈ X.pn ++ pins, p.1 ≠ a) :
    Inv X pins σ (upd H a (.frz oe ExtT)) s := by
  have ne : ∀ {b : Addr} {u : HO}, H b = some u → b ≠ a := fun e => ne_of_none e na
  refine ⟨I.ok, I.os, I.bare, ⟨I.base.keep, I.base.slot, fun b o e n hx => ?_, I.base.there, fun b xs e => ?_, fun b o u e => ?_, fun b ps e => ?_⟩, I.loc, I.cell, ?_, fun x c e => ?_, fun p hp => ?_, fun b u e => ?_, I.len⟩
  · rw [upd_ne (fun z => by rw [z, n0] at e; cases e)]
    exact I.base.free b o e n hx
  · rw [upd_ne (ne (I.base.tups b xs e))]
    exact I.base.tups b xs e
  · rw [upd_ne (ne (I.base.frzs b o u e))]
    exact I.base.frzs b o u e
  · obtain ⟨m, q⟩ := I.base.tbls b ps e
    exact ⟨m, by rw [upd_ne (ne q)]; exact q⟩
  · rw [upd_ne (Ne.symm nL)]; exact I.free
  · rw [upd_ne (nc x c e)]; exact I.freeC x c e
  · obtain ⟨e1, e2, e3⟩ := I.pin p hp
    exact ⟨e1, by rw [upd_ne (np p hp)]; exact e2, e3⟩
  · by_cases hb : b = a
    · subst hb
      rw [upd_same] at e
      cases e
      exact extT_ok ha
    · rw [upd_ne hb] at e
      exact (I.hok b u e).stay (fun c v hc q => q) (fun c q => by rw [upd_ne (ne q)]; exact q) fun c xs q => by rw [upd_ne (ne q)]; exact q
end
/-- what the clause 'except x as n' wishes, where the error stays watched -/
def wKeep (K : PySem.W.Frag) (c : Value) (i : Nat) (ts : Addr → Value → Option Addr → TS) (Wout : WX) (D : Ends) : WX := fun cls d σ H =>
  ∃ b, PySem.W.exmOne K cls c = some b ∧ (b = true → ∀ a, H a = none → ∀ oe : Obj, Zc cls d oe → (∃ vs, oe.data = .fields vs) → ts a cls d { nx := fun σ' H' => D.nx (σ'.set i none) (upd H' a (.frz oe ExtT)), rt := fun v H' => D.rt v (upd H' a (.frz oe ExtT)), bk := fun σ' H' => D.bk (σ'.set i none) (upd H' a (.frz oe ExtT)), ct := fun σ' H' => D.ct (σ'.set i none) (upd H' a (.frz oe ExtT)) } (σ.set i (some (.ref a))) H) ∧
    (b = false → Wout cls d σ H)
section
variable {X : Cx} {x n : Str} {c : Value} {i : Nat} {body suite : List Stmt} {b₀ : Stmt} {np pos pos' : Pos} {tb : WX → TS} {ts : Addr → Value → Option Addr → TS} {Wout : WX}
theorem ps_try_keep (hs : X.stack = X.env :: X.outer) (hex : X.ex = []) (hf : X.env.frame = some X.env.locals) (hN : X.N.Nodup) (hi : X.N[i]? = some n) (hln : X.env.kindOf n = some .local) (hc : Names X x c) (tk : Takes X Wout)
    (hb : ∀ (W : WX) (pn : List (Addr × Obj)) (xe : Value → Shared → Prop), Takes (X.tr pn xe) W → PassesOwn (model X.prog X.w) X.A X.env xe → PSs (X.tr pn xe) body (tb W))
    (hsu : ∀ (a : Addr) (oe : Obj) (cls : Value) (d : Option Addr) (pn : List (Addr × Obj)), Zc cls d oe → (∃ vs, oe.data = .fields vs) → PSs (X.suite a ((a, oe) :: pn)) (b₀ :: suite) (ts a cls d)) :
    PS X (.Try body [.ExceptHandler (some (.Name x np)) (some n) (b₀ :: suite) pos'] [] [] pos) (fun D σ H => tb (wKeep X.K c i ts Wout D) D σ H) := by
  refine ⟨fun pins s σ H D I h => ?_⟩
  have ok := I.ok
  have hfr : X.A.frames = some (X.env :: X.outer) := by rw [ok.frames, hs]
  have hloc : Loc X.env.scope n := .inl hln
  refine wpAny_Try_except ?_
  refine wpAny_mono ((hb (wKeep X.K c i ts Wout D) (X.pn ++ pins) (fun e s₁ => wpAny (model X.prog X.w) X.A (noteFrame e X.env) (fun _ s₂ => wpAny (model X.prog X.w) X.A (setFlight e none) (fun _ s₃ =>
    wpAny (model X.prog X.w) X.A (handleBy e X.env [.ExceptHandler (some (.Name x np)) (some n) (b₀ :: suite) pos']) (SP X pins D) X.xe s₃) X.xe s₂) X.xe s₁) (fun u s' xx => ?_) PassesOwn.looking).run [] s σ H D (I.toTry _) h) (fun f s1 hsp => ?_) (fun e s1 he => he)
  · -- the catch
    obtain ⟨a, B, sI, pins', σ', H', cls, d, rfl, J', nb, up, sky, na, os, ag, b, hb1, hyes, hno⟩ := xx
    have J : Inv X pins σ' H' sI := J'.ofTry ok
    have sky' : Sky B (X.env :: X.outer) a (Zc cls d) X.env.locals s'.heap := by rw [← hs]; exact sky
    show wpAny (model X.prog X.w) X.A (noteFrame (.ref a) X.env) _ _ _
    refine Sky.land Zc.steady hfr hf sky' fun h3 fl3 up3 => ?_
    have J3 : Inv X pins σ' H' { s' with heap := h3 } := J.landed nb fl3.1 (up.trans up3) os ag
    obtain ⟨oe3, vs3, he3, hz3, hd3⟩ := fl3.there
    have notFr : ∀ {h : Heap} {o : Obj} {vs : Array Value}, h.FunFrames B (X.env :: X.outer) → h.get? a = some o → o.data = .fields vs → a ∉ frs (X.env :: X.outer) := fun {h o vs} ff e dd hm => by
      obtain ⟨_, o', e', hnf⟩ := ff.mem hm
      rw [e] at e'; cases e'
      exact hnf _ dd
    have nfr := notFr fl3.2.2.1 he3 hd3
    have nL : a ≠ X.env.locals := fun z => nfr (List.mem_filterMap.mpr ⟨X.env, List.mem_cons_self, by rw [hf, z]⟩)
    have nF : a ∉ X.fs := fun hm => by
      obtain ⟨e, he, q⟩ := List.mem_filterMap.mp hm
      exact nfr (List.mem_filterMap.mpr ⟨e, List.mem_cons_of_mem _ he, q⟩)
    have newB : B.get? a = none := fl3.2.1
    have new0 : X.s_0.heap.get? a = none := by
      cases z : X.s_0.heap.get? a with
      | none => rfl
      | some o =>
        obtain ⟨o', e1⟩ := J.base.there a o z (fun hm => by rw [hex] at hm; cases hm)
        have e2 := nb a o' e1 (by rw [hs]; exact nfr)
        rw [newB] at e2
        cases e2
    have S3 := J3.suite he3 hd3 na nL nF
    refine wpAny_handleBy_cons (codeAny_handlers_test ?_) (by intro q; cases q)
    have LT : PySem.W.Looks (model X.prog X.w) h3 (typeOf (.ref a)) cls := fun A Q E s k q => wpAny_typeOf_ref (k _ _ he3) (by rw [hz3.1]; exact q)
    have LM := PySem.W.exm_one (M := model X.prog X.w) (J3.kIn) LT hb1
    have test : ∀ {Q : Value → Shared → Prop} {E : Value → Shared → Prop}, Q c { s' with heap := h3 } → wpAny (model X.prog X.w) (X.A.mark (some (.ref a))) (eval (.Name x np) X.env) Q E { s' with heap := h3 } := fun {Q E} q => by
      obtain ⟨hg, hdbg, hm | ⟨hm, hv, hnn⟩⟩ := hc
      · exact ld_glob (X := X.suite a ((a, oe3) :: (X.pn ++ pins))) S3 hg hm q hdbg
      · exact ld_blt (X := X.suite a ((a, oe3) :: (X.pn ++ pins))) S3 hg hm hv q hnn hdbg
    refine test (LM.here ?_)
    cases b with
    | true =>
      refine codeAny_handlers_suite_as ?_
      refine HandSPX.lands_againZ fl3 fun h4 fl4 up4 => ?_
      have J4 : Inv X pins σ' H' { s' with heap := h4 } := J.landed nb fl4.1 ((up.trans up3).trans up4) os ag
      obtain ⟨oe4, vs4, he4, hz4, hd4⟩ := fl4.there
      have S4 := J4.suite he4 hd4 na nL nF
      refine store_ok (X := X.suite a ((a, oe4) :: (X.pn ++ pins))) (v := .ref a) S4 hN hi hloc rfl (fun s5 S5 => ?_) (.inr hln)
      refine wpAny_mono ((hsu a oe4 cls d (X.pn ++ pins) hz4 ⟨_, hd4⟩).run [] s5 _ H' _ S5 (hyes rfl a na oe4 hz4 ⟨_, hd4⟩)) (fun f s6 hsp => ?_) (fun _ _ z => False.elim z)
      have end_ : ∀ {σ6 : L2.St} {H6 : Hp} {Q : Shared → Prop}, Inv (X.suite a ((a, oe4) :: (X.pn ++ pins))) [] σ6 H6 s6 → (∀ s7, Inv X pins (σ6.set i none) (upd H6 a (.frz oe4 ExtT)) s7 → Q s7) →
          wpAny (model X.prog X.w) X.A (do bindName X.env n .none; unbindBehindTheSuite X.env n pos') (fun _ s7 => Q s7) X.xe s6 := fun {σ6 H6 Q} S6 hq => by
        have pa := S6.pin (a, oe4) (List.mem_append_left _ List.mem_cons_self)
        refine gone_ok (inv_track (S6.unsuite ok) pa.1 pa.2.1 new0 nL (fun y c e z => ?_) fun p hp z => ?_) hN hi hln hq
        · subst z
          obtain ⟨v, o, ho, hd⟩ := S6.cell y c e
          rw [pa.1] at ho; cases ho
          exact pa.2.2.2.2 v hd
        · obtain ⟨e1, _, e3, e4, _⟩ := J.pin p hp
          have nf : p.1 ∉ frs X.stack := fun hm => by
            rcases List.mem_cons.mp (J.stkSub _ hm) with y | y
            · exact e3 y
            · exact e4 y
          have e5 := nb _ _ e1 nf
          rw [z, newB] at e5
          cases e5
      cases f with
      | next =>
        obtain ⟨σ6, H6, S6, q6⟩ := hsp
        exact end_ S6 fun s7 J7 => ⟨_, _, J7, q6⟩
      | brk =>
        obtain ⟨σ6, H6, S6, q6⟩ := hsp
        exact end_ S6 fun s7 J7 => ⟨_, _, J7, q6⟩
      | cont =>
        obtain ⟨σ6, H6, S6, q6⟩ := hsp
        exact end_ S6 fun s7 J7 => ⟨_, _, J7, q6⟩
      | ret u =>
        obtain ⟨v6, σ6, H6, S6, r6, q6⟩ := hsp
        exact end_ S6 fun s7 J7 => ⟨_, _, _, J7, r6, q6⟩
    | false =>
      show wpAny _ X.A (handleBy (.ref a) X.env []) _ _ _
      refine wpAny_handleBy_nil ?_
      obtain ⟨k1, k2, k3, oe, vs, T, oT, ts', he, hz, hd, h1, hr⟩ := id fl3
      unfold PySem.passOn
      refine wpAny_bind (wpAny_field he hd h1 ?_)
      rw [if_neg (show ¬ ((Value.ref T == Value.none) = true) from by simp)]
      have fin : wpAny (model X.prog X.w) X.A (setFlight (.ref a) X.env.frame) (fun _ s4 => wpAny (model X.prog X.w) X.A (throw (.ref a) : Sem Flow) (SP X pins D) X.xe s4) X.xe { s' with heap := h3 } := by
        rw [hf]
        refine HandSPX.setFlight_upZ fl3 fun h4 hh4 up4 => wpAny_throw (tk _ _ ?_)
        exact ⟨a, B, sI, pins, σ', H', cls, d, rfl, J, nb, (up.trans up3).trans up4, .inr (.inr (by rw [hs]; exact hh4)), na, os, ag, hno rfl⟩
      first
        | exact wpAny_bind (wpAny_pure (wpAny_bind fin))
        | exact wpAny_bind fin
  · cases f with
    | next =>
      obtain ⟨σ', H', J', q⟩ := hsp
      exact wpAny_execs_nil ⟨σ', H', J'.ofTry ok, q⟩
    | brk =>
      obtain ⟨σ', H', J', q⟩ := hsp
      exact ⟨σ', H', J'.ofTry ok, q⟩
    | cont =>
      obtain ⟨σ', H', J', q⟩ := hsp
      exact ⟨σ', H', J'.ofTry ok, q⟩
    | ret u =>
      obtain ⟨v, σ', H', J', r, q⟩ := hsp
      exact ⟨v, σ', H', J'.ofTry ok, r, q⟩
end
end TB

set_option Elab.async false
set_option linter.all false
set_option maxRecDepth 100000
set_option maxHeartbeats 4000000
namespace TB
open PySem PySem.Spec PyProof.Rows L2 LamY
/-! ### the word of a call's error -/
theorem Ext.of2 {T : List (Addr × Str)} {A : AM} {H H1 : Hp} (e : Ext2 H H1) (t : LamX.Tabs T H1) : Ext T A H A H1 :=
  ⟨fun _ _ h => h, fun _ h => .inl h, rfl, fun a w _ h nt => e.k a w h nt, fun _ => t, e.th⟩
theorem MemOk.of2 {K : PySem.W.Frag} {A : AM} {H H1 : Hp} (m : MemOk K A H) (e : Ext2 H H1) : MemOk K A H1 := m.keep fun a w q nt => e.k a w q nt
/-- a run from the place behind the try -/
def runW (sb : Sm) (n ic : Nat) (d : D) (M : Mem) : R D := match sb ((List.replicate n none).set ic (some d)) M with
  | .ok (.rt r) M' => .ok r M'
  | .ok (.nx _) M' => .ok .non M'
  | _ => .stuck
def mWord (told : Addr → Bool) (rw : D → Mem → R D) (m : Ev) : Ev := fun env M => match m env M with
  | .ok _ M1 => rw .non M1
  | .exc x M1 => match x.d with
    | none => match told x.C with
      | true => rw (.node (.exn x.C) []) M1
      | false => .stuck
    | some _ => .stuck
  | .stuck => .stuck
/-- what the def makes of what it got -/
def TTw (T : List (Addr × Str)) (K : PySem.W.Frag) (told : Addr → Bool) (rw : D → Mem → R D) : (XK → Hp → VK → Prop) → Hp → VK → Prop := fun tl H Q =>
  ∃ A, MemOk K A H ∧ LamX.Tabs T H ∧ ∀ (E' : XK) (Q' : VK), (∀ cls d H', (∃ A' x, Ext T A H A' H' ∧ MemOk K A' H' ∧ ExcOk K A' H' x cls d ∧ x.d = none ∧ told x.C = true ∧ Po W0 T K A' H' (rw (.node (.exn x.C) []) A'.ers) Q) → E' cls d H') →
    (∀ v H', (∃ A', Ext T A H A' H' ∧ MemOk K A' H' ∧ Po W0 T K A' H' (rw .non A'.ers) Q) → Q' v H') → tl E' H Q'
theorem Po.noExc {W : XK} {T : List (Addr × Str)} {K : PySem.W.Frag} {A : AM} {H : Hp} {Q : VK} {sb : Sm} {n ic : Nat} {d : D} {M : Mem} (h : Po W T K A H (runW sb n ic d M) Q) : Po W0 T K A H (runW sb n ic d M) Q := by
  cases q : runW sb n ic d M with
  | ok r M' => rw [q] at h; exact h
  | stuck => rw [q] at h; exact h
  | exc x M' =>
    unfold runW at q
    split at q <;> cases q
theorem runW_po {T : List (Addr × Str)} {K : PySem.W.Frag} {A : AM} {H : Hp} {Q : VK} {sb : Sm} {n ic : Nat} {d : D} {W : XK} (h : Po W T K A H (runW sb n ic d A.ers) Q) :
    PoS W0 T K A H (sb ((List.replicate n none).set ic (some d)) A.ers) { nx := fun _ H' => Q .non H', rt := Q } := by
  unfold runW at h
  cases q : sb ((List.replicate n none).set ic (some d)) A.ers with
  | stuck => rw [q] at h; exact h.elim
  | exc x M => rw [q] at h; exact h.elim
  | ok f M =>
    rw [q] at h
    intro A1 H1 eM e mo t1
    cases f with
    | nx env => exact fun σ _ => h A1 H1 .non eM e mo rfl
    | rt d => exact fun v dv => h A1 H1 v eM e mo dv
    | bk env => exact h.elim
    | ct env => exact h.elim
theorem one_env {K : PySem.W.Frag} {A : AM} {H : Hp} {d : D} {v : V} {n ic : Nat} {σ : L2.St} (hl : σ.length = n) (h : σ[ic]? = some (some v)) (dv : DV K A H d v) : EnvOk K A H ((List.replicate n none).set ic (some d)) σ := by
  refine ⟨by simp [hl], fun i d' q => ?_⟩
  by_cases hi : i = ic
  · subst hi
    have hlt : i < n := by
      rw [← hl]
      exact (List.getElem?_eq_some_iff.mp h).1
    rw [List.getElem?_set_self (by simpa using hlt)] at q
    cases q
    exact ⟨v, h, dv⟩
  · rw [List.getElem?_set_ne (fun z => hi z.symm), List.getElem?_replicate] at q
    split at q <;> cases q
section
variable {X : Cx} {T : List (Addr × Str)}
theorem word_gives {k : Nat} {Ng : List Str} {x a c e tn q : Str} {sg : Scope} {g CS : Addr} {cdg : Value} {ic ie j : Nat} {told : Addr → Bool} {rest : List Stmt} {sb : Sm} {p0 p1 p2 p3 p4 p5 p6 p7 p8 p9 pa pb pc : Pos} (S : FnScope Ng [a] sg)
    (hc : Ng[ic]? = some c) (he : Ng[ie]? = some e) (h0 : ic ≠ 0) (hne : ie ≠ ic) (hlc : sg.names.lookup c = some .local) (hle : sg.names.lookup e = some .local)
    (hge : sg.names.lookup tn = some .globalImplicit) (hme : X.mg tn = some (.ref CS)) (hto : ∀ C, told C = true → PySem.W.exmOne X.K (.ref C) (.ref CS) = some true) (hgd : X.A.guards = some [])
    (hrest : ∀ (s : Shared) (H : Hp), Room k (X.A.deeper (envOfC x sg s.heap.objs.size g cdg)) → Cok (cxOf C8.CX0 X.prog X.w X.K X.mg X.base Ng x sg g cdg X.A X.stack s H C8.E0).nox W0 T → PSs (cxOf C8.CX0 X.prog X.w X.K X.mg X.base Ng x sg g cdg X.A X.stack s H C8.E0).nox rest (RdS W0 T X.K sb))
    (hsw1 : ∀ (s : Shared) (H : Hp), swapsWith (.Constant .none j p1) (some (.Name c p0)) p2.line (cxOf C8.CX0 X.prog X.w X.K X.mg X.base Ng x sg g cdg X.A X.stack s H C8.E0).nox.env = pure false := by intros; rfl)
    (hdn : (tn == ("__debug__" : Str)) = false := by decide) (hde : (e == ("__debug__" : Str)) = false := by decide) (hce : (e == ("__classdict__" : Str)) = false := by decide) :
    GivesG k X Ng x sg g cdg (.Assign [.Name c p0] (.Constant .none j p1) p2 :: .Try [.Expr (.Call (.Name a p3) [] [] p4) p5] [.ExceptHandler (some (.Name tn p6)) (some e) [.Assign [.Name c p7] (.Name e p8) p9] pa] [] [] pb :: rest) a q (TTw T X.K told (runW sb Ng.length ic)) := by
  intro f c' s H Q tl act hco hr ⟨A, m, tb, h⟩
  let Z := (cxOf C8.CX0 X.prog X.w X.K X.mg X.base Ng x sg g cdg X.A X.stack s H C8.E0).nox
  have ck : Cok Z W0 T := ⟨rfl, S.nd, by have := hr.un; show (X.A.deeper _).units + 200 < cLine; omega, hgd, LamX.takes0⟩
  have hN : Z.N.Nodup := S.nd
  refine ⟨_, pss_cons (ps_set (i := ic) hN hc (.inl hlc) pe_non (hsw1 s H) (.inr hlc)) (pss_cons (ps_try_keep (X := Z) (c := .ref CS) (Wout := fun _ _ _ _ => False)
      (tb := fun W D σ H => σ[0]? = some (some (.ref f)) ∧ H c' = some (LamX.CodeO c' q) ∧ ∃ E : XK, (∀ cls d H', E cls d H' → W cls d σ H') ∧ tl E H (fun _ H' => D.nx σ H'))
      (ts := fun _ _ _ => tAsg (tVar ie) (gName ic)) rfl rfl rfl hN he hle ⟨hge, hdn, .inl hme⟩ LamX.takes0 (fun W pn xe tk _ => pss_one ⟨fun pins s' σ H' D I h' => ?_⟩)
      (fun a oe cls d pn _ _ => pss_one (ps_set (X := Z.suite a ((a, oe) :: pn)) (i := ic) hN hc (.inl hlc) (pe_var (i := ie) he (.inl hle) hde hce) (by rfl) (.inr hlc)))) (hrest s H hr ck)), ?_⟩
  · obtain ⟨h1, h2, E, hW, h3⟩ := h'
    exact (ps_expr (pos := p5) (act W pn xe p3 p4 tk)).run pins s' σ H' D I ⟨h1, h2, E, hW, h3⟩
  · have l0 : (L2.start Ng [V.ref f]).length = Ng.length := by
      have hp := congrArg List.length S.pre
      simp at hp
      unfold L2.start
      simp
      omega
    have lic : ic < Ng.length := (List.getElem?_eq_some_iff.mp hc).1
    have lie : ie < Ng.length := (List.getElem?_eq_some_iff.mp he).1
    have a0 : (L2.start Ng [V.ref f])[0]? = some (some (V.ref f)) := rfl
    refine ⟨by rw [List.getElem?_set_ne h0]; exact a0, hco, _, fun cls d H' hx => hx, h _ _ (fun cls d H' hx => ?_) fun v H' hx => ?_⟩
    · obtain ⟨A', x', e1, m1, ⟨ex, ed, _⟩, hd, ht, p⟩ := hx
      subst ex
      refine ⟨true, hto _ ht, fun _ b nb oe hz hf => ?_, fun z => by cases z⟩
      refine ⟨.ref b, by rw [List.getElem?_set_self (by rw [List.length_set, l0]; exact lie)], ?_⟩
      have i : IsNode (.frz oe ExtT) (.exn x'.C) [] := ⟨rfl, rfl, hz.1, by rw [hz.2, ed hd], hf⟩
      have m2 := m1.laid (u := .frz oe ExtT) nb
      have dv : DV X.K A' (upd H' b (.frz oe ExtT)) (.node (.exn x'.C) []) (.ref b) := (DP.laid (xs := []) (vs := []) m1 nb i rfl).dv
      have p2 := p.ext (Ext.laid (A := A') (u := .frz oe ExtT) nb)
      refine ⟨A', _, ⟨m2, one_env (n := Ng.length) (ic := ic) (by simp [l0]) ?_ dv, (Ext.laid (T := T) (A := A') (u := .frz oe ExtT) nb).tabs (e1.tabs tb)⟩, runW_po p2⟩
      rw [List.getElem?_set_ne hne]
      exact List.getElem?_set_self (by simp [l0]; exact lic)
    · obtain ⟨A', e1, m1, p⟩ := hx
      refine ⟨A', _, ⟨m1, one_env (n := Ng.length) (ic := ic) (d := .non) (v := .non) (by simp [l0]) (List.getElem?_set_self (by rw [l0]; exact lic)) rfl, e1.tabs tb⟩, runW_po p⟩
/-- the context of a lambda's body is a good one -/
theorem cok_lam {X : Cx} {k : Nat} {A : Around} {outer : List PySem.Env} {s : Shared} {H : Hp} {E : XK} {scope : Scope} {f c' L : Addr} (hN : X.N.Nodup) (hr : Room k (A.deeper (LamX.lamEnv X scope L f c'))) (hg : A.guards = some []) (hL : L = s.heap.objs.size) : Cok (LamX.lamCx X A outer s H E scope f c') E T where
  calm := rfl
  nd := hN
  un := by subst hL; have := hr.un; show (A.deeper _).units + 200 < cLine; omega
  gd := hg
  tk := L2.takes_of rfl rfl rfl rfl
/-- a def that calls what it got and tells the error's word -/
structure Wd (P : Program) (w : World) (K : PySem.W.Frag) (mg : Str → Option Value) (base : Heap) (T : List (Addr × Str)) (x a : Str) (k : Nat) (g : Addr) (told : Addr → Bool) (rw : D → Mem → R D) : Prop where
  ex : ∃ (pg : Arguments) (bg : List Stmt) (sg : Scope) (dV kV doc pm cdv ct oc : Value) (an od : Option Addr) (osl : Array (Option Value)) (Ng : List Str), K.lookup g = some ⟨oc, od, .func (PySem.W.fnOf x x pg bg sg dV kV doc pm an cdv ct), osl⟩ ∧ PySem.W.codeIn K cdv x = true ∧
    L2.Binds K (PySem.W.fnOf x x pg bg sg dV kV doc pm an cdv ct) [a] [] ∧ FnScope Ng [a] sg ∧ Ng[0]? = some a ∧ Vis sg a ∧
    ∀ (X : Cx) (q : Str), X.prog = P → X.w = w → X.K = K → X.mg = mg → X.base = base → X.A.guards = some [] → GivesG k X Ng x sg g cdv bg a q (TTw T K told rw)
  mg_ : mg x = some (.ref g)
  kp : PySem.W.keepIn K (.ref g) = true
  noexc : ∀ d M x M', rw d M ≠ .exc x M'
theorem e_word {W : XK} {x a : Str} {g cc P : Addr} {k : Nat} {told : Addr → Bool} {rw : D → Mem → R D} {params : Arguments} {body : Expr} {scope : Scope} {m : Ev} {p lpos pos : Pos} (c : Cok X W T) (d : Wd X.prog X.w X.K X.mg X.base T x a (k + 1) g told rw) (hg : Gl X x) (hr : Room (k + 2) X.A)
    (TBt : LamX.TabB X.base X.mg cc P) (hcode : X.env.code = .ref cc) (hmT : (P, X.env.qual ++ "<lambda>") ∈ T) (hu : ∀ p ∈ T, p.1 = P → p.2 = X.env.qual ++ "<lambda>") (L : LamX.LamS X.env.scope scope) (hdef : defaultsOf params X.env = ([], []))
    (hbind : ∀ (q : Str) (cl : List (Str × Addr)) (pm cv ctv : Value), bindArgs (PySem.W.kla_fn "<lambda>" q params body scope cl pm cv ctv) ⟨[], []⟩ = pure [])
    (hbody : ∀ (A : Around) (outer : List PySem.Env) (s : Shared) (H : Hp) (E : XK) (f c' : Addr), Room k (A.deeper (LamX.lamEnv X scope s.heap.objs.size f c')) → Cok (LamX.lamCx X A outer s H E scope f c') E T → PE (LamX.lamCx X A outer s H E scope f c') body (RdE E T X.K m))
    (hdb : (x == ("__debug__" : Str)) = false := by decide) (hd : (a == ("__debug__" : Str)) = false := by decide) (hcd : (a == ("__classdict__" : Str)) = false := by decide) :
    PE X (.Call (.Name x p) [.Lambda params body scope lpos] [] pos) (RdE W T X.K (mWord told rw m)) := by
  obtain ⟨pg, bg, sg, dV, kV, doc, pm, cdv, ct, oc, an, od, osl, Ng, lk, hcg, hb, Sg, hNg, hva, hG⟩ := d.ex
  refine (pe_lamcallG hg d.mg_ d.kp lk hcg hb Sg hNg hva (hG X _ rfl rfl rfl rfl rfl c.gd) TBt hcode hmT hu hr L hdef hbind (t := fun E => RdE E T X.K m) (fun A outer s H E f c' hr' hgd => hbody A outer s H E f c' hr' (cok_lam c.nd hr' (hgd.trans c.gd) rfl)) hdb hd hcd).imp fun σ H Q ⟨A, env, at0, p⟩ => ⟨at0.tabs, fun H1 e2 t1 => ?_⟩
  have e := Ext.of2 (A := A) e2 t1
  have m1 := at0.mem.of2 e2
  have a1 := at0.ext e m1
  refine ⟨A, m1, t1, fun E' Q' hE hQ => ⟨A, env, a1, ?_⟩⟩
  unfold mWord at p
  have noW : ∀ {A' : AM} {H' : Hp} {d' : D}, Po W T X.K A' H' (rw d' A'.ers) Q → Po W0 T X.K A' H' (rw d' A'.ers) Q := fun {A' H' d'} h => by
    cases q : rw d' A'.ers with
    | ok r M' => rw [q] at h; exact h
    | stuck => rw [q] at h; exact h
    | exc x M' => exact absurd q (d.noexc _ _ _ _)
  cases q : m env A.ers with
  | stuck => rw [q] at p; exact p.elim
  | ok d' M1 =>
    rw [q] at p
    intro A' H' v eM e' m' _
    subst eM
    exact hQ v H' ⟨A', e', m', noW (p.ext (e.trans e'))⟩
  | exc y M1 =>
    rw [q] at p
    simp only at p
    intro A' H' cls dd eM e' m' xo
    subst eM
    cases hy : y.d with
    | some z => rw [hy] at p; exact p.elim
    | none =>
      rw [hy] at p
      simp only at p
      cases ht : told y.C with
      | false => rw [ht] at p; exact p.elim
      | true =>
        rw [ht] at p
        exact hE cls dd H' ⟨A', y, e', m', xo, hy, ht, noW (p.ext (e.trans e'))⟩
end
end TB

set_option Elab.async false
set_option linter.all false
set_option maxRecDepth 100000
set_option maxHeartbeats 4000000
namespace TB
open PySem PySem.Spec PyProof.Rows L2
/-! ### isinstance of a caught error -/
/-- the program's errors, as isinstance asks them -/
structure ErrI (K : PySem.W.Frag) (Er : List Addr) (isE : Addr → Addr → Bool) : Prop where
  c : ∀ C ∈ Er, ExcC K C
  i : ∀ C ∈ Er, ∀ C' ∈ Er, PySem.W.kitOne K (.ref C) (.ref C') = some (isE C C')
  v : ∀ C ∈ Er, PySem.W.kitOne K (.ref C) (.type "ValueError") = some true
def gIsA (Cl Er : List Addr) (isE : Addr → Addr → Bool) : OpN := fun ds M => match ds with
  | [d, e] => match look M d with
    | some (.exn C, _) => match e with
      | .cls C' => match Er.contains C && Er.contains C' with
        | true => .ok (.bl (isE C C')) M
        | false => .stuck
      | .ty .ve => match Er.contains C with
        | true => .ok (.bl true) M
        | false => .stuck
      | _ => .stuck
    | _ => gIsi Cl ds M
  | _ => .stuck
section
variable {X : Cx} {W : XK} {T : List (Addr × Str)}
theorem exn_ask {pins : List (Addr × Obj)} {σ : L2.St} {H : Hp} {s : Shared} {Q : VK} {v : V} {u1 u2 cv : Value} {a C : Addr} {vs : List V} {b : Bool} (I : Inv X pins σ H s) (E : ExcC X.K C) (ra : ReadAt X.K H a (.exn C) vs) (r1 : u1 = .ref a) (e2 : u2 = cv) (h : PySem.W.kitOne X.K (.ref C) cv = some b) (q : Q (.bl b) H) :
    wpAny (model X.prog X.w) X.A (call (.builtin "isinstance") [u1, u2]) (EP X pins σ Q) X.xe s := by
  subst r1 e2
  rcases ra with ⟨u, r, i⟩ | k
  · cases u <;> first | exact i.elim | skip
    rename_i oe u'
    obtain ⟨rfl, _, h1, h2, ws, h3⟩ := i
    obtain ⟨hget, _⟩ := (show ObjOk X.prog X.w H s.heap a (.frz oe ExtT) from I.hok a _ r)
    have J : PySem.W.InstAt s.heap a oe C none := by
      obtain ⟨oc, od, oda, osl⟩ := oe
      dsimp only at h1 h2 h3
      subst h1 h2 h3
      exact ⟨hget, rfl, rfl, trivial⟩
    exact PySem.W.kia_one (PySem.W.handS_kitx_exc E.hg E.hk E.hs E.hd E.ha E.hn E.ht E.hm) I.kIn J h (fun z => nomatch z) fun tk => ⟨.bl b, H, I.kept (t' := tk) fun _ _ z => z, rfl, q⟩
  · exact k.elim
theorem call_gIsA {Cl Er : List Addr} {isE : Addr → Addr → Bool} (hC : ∀ C ∈ Cl, InsK X.K C) (hE : ErrI X.K Er isE) : CallR X (.builtin "isinstance") (RdN W T X.K (gIsA Cl Er isE)) := by
  rintro pins s σ H vs us Q I r ⟨A, ds, m, tb, dv, p⟩
  unfold gIsA at p
  split at p
  · rename_i d e
    obtain ⟨v, w, rfl, dx, dy⟩ := dvl2 dv
    obtain ⟨u1, u2, rfl, r1, r2⟩ := vals2 r
    split at p
    · rename_i C xs hl
      obtain ⟨a, ws, rfl, ra, _⟩ := look_at m dx hl
      split at p
      · rename_i C'
        split at p
        · rename_i hc
          rw [Bool.and_eq_true] at hc
          have c1 : C ∈ Er := by simpa using hc.1
          have c2 : C' ∈ Er := by simpa using hc.2
          cases (show w = V.ref C' from dy)
          exact exn_ask (v := .ref a) I (hE.c C c1) ra r1 r2 (hE.i C c1 C' c2) (p.fin m (show V.bl _ = V.bl _ from rfl))
        · exact p.elim
      · split at p
        · rename_i hc
          have c1 : C ∈ Er := by simpa using hc
          cases (show w = V.ty "ValueError" from dy)
          exact exn_ask (v := .ref a) I (hE.c C c1) ra r1 r2 (hE.v C c1) (p.fin m (show V.bl _ = V.bl _ from rfl))
        · exact p.elim
      · exact p.elim
    · exact call_gIsi hC pins s σ H _ _ Q I r ⟨A, _, m, tb, dv, p⟩
  · exact p.elim
end
end TB

set_option Elab.async false
set_option linter.all false
set_option maxRecDepth 100000
set_option maxHeartbeats 4000000
namespace TB
open PySem PySem.Spec PyProof.Rows L2
/-! ### what the printer leans on -/
section
variable {P : Program} {w : World} {K : PySem.W.Frag} {mg : Str → Option Value} {base : Heap} {T : List (Addr × Str)}
/-- a def whose code object is known -/
theorem okGL {x qual : Str} {st : Stmt} {f cc : Addr} {fd : FuncData} {N ps : List Str} {k : Nat} {sb : Sm} (F : L2.Fun K x qual st f fd) (S : FnScope N ps (defScope st)) (hcd : fd.code = .ref cc)
    (hbody : ∀ (A : Around) (outer : List PySem.Env) (s : Shared) (H : Hp) (E : XK), Room k (A.deeper (envOfC qual (defScope st) s.heap.objs.size f (.ref cc))) → Cok (cxOf (L2.CX P w) P w K mg base N qual (defScope st) f (.ref cc) A outer s H E) E T →
      PSs (cxOf (L2.CX P w) P w K mg base N qual (defScope st) f (.ref cc) A outer s H E) (defBody st) (RdS E T K sb)) : FnG P w K mg base T (k + 1) f fd ps (runF ps.length N.length sb) := by
  obtain ⟨oc, od, kV, doc, pm, an, cdv, ct, osl, rfl, lk, hc⟩ := F.ex
  cases (show cdv = .ref cc from hcd)
  exact fnG_of lk hc S fun A outer s H E hr c => hbody A outer s H E hr c
/-- fuel, where a turn takes st levels -/
theorem fuel_dfS {x : Str} {k st : Nat} {f : Addr} {fd : FuncData} {ps : List Str} {step : Fn → Fn} {m : Nat → Fn} (h0 : m 0 = fun _ _ => .stuck) (hS : ∀ n, m (n + 1) = step (m n)) (hb : Binds K fd ps [])
    (hs : ∀ j F, Df P w K mg base T x (k + j) f ps F → FnG P w K mg base T (k + j + st) f fd ps (step F)) (hl : ∀ F ds M, step F ds M ≠ .stuck → ds.length = ps.length) (g : mg x = some (.ref f)) (kp : PySem.W.keepIn K (.ref f) = true) : ∀ n, Df P w K mg base T x (k + st * n) f ps (m n)
  | 0 => ⟨⟨fd, by rw [h0]; exact FnG.none, hb⟩, g, kp, fun ds M h => absurd (by rw [h0]) h⟩
  | n + 1 => ⟨⟨fd, by
      rw [hS]
      have := hs (st * n) _ (fuel_dfS h0 hS hb hs hl g kp n)
      rw [Nat.add_assoc, ← Nat.mul_succ] at this
      exact this, hb⟩, g, kp, by rw [hS]; exact hl _⟩
/-- a def that tells the word of a call's error -/
theorem Wd.of {x a c e tn : Str} {st : Stmt} {g CS : Addr} {fd : FuncData} {Ng : List Str} {k ic ie j : Nat} {told : Addr → Bool} {rest : List Stmt} {sb : Sm} {p0 p1 p2 p3 p4 p5 p6 p7 p8 p9 pa pb : Pos} (F : L2.Fun K x x st g fd) (S : FnScope Ng [a] (defScope st)) (hb : Binds K fd [a] []) (hmg : mg x = some (.ref g))
    (hbd : defBody st = .Assign [.Name c p0] (.Constant .none j p1) p2 :: .Try [.Expr (.Call (.Name a p3) [] [] p4) p5] [.ExceptHandler (some (.Name tn p6)) (some e) [.Assign [.Name c p7] (.Name e p8) p9] pa] [] [] pb :: rest)
    (h00 : Ng[0]? = some a) (hva : Vis (defScope st) a) (hc : Ng[ic]? = some c) (he : Ng[ie]? = some e) (h0 : ic ≠ 0) (hne : ie ≠ ic) (hlc : (defScope st).names.lookup c = some .local) (hle : (defScope st).names.lookup e = some .local)
    (hge : (defScope st).names.lookup tn = some .globalImplicit) (hme : mg tn = some (.ref CS)) (hto : ∀ C, told C = true → PySem.W.exmOne K (.ref C) (.ref CS) = some true)
    (hrest : ∀ (cdv : Value) (A : Around) (outer : List PySem.Env) (s : Shared) (H : Hp), Room k (A.deeper (envOfC x (defScope st) s.heap.objs.size g cdv)) → Cok (cxOf C8.CX0 P w K mg base Ng x (defScope st) g cdv A outer s H C8.E0).nox W0 T → PSs (cxOf C8.CX0 P w K mg base Ng x (defScope st) g cdv A outer s H C8.E0).nox rest (RdS W0 T K sb))
    (hdn : (tn == ("__debug__" : Str)) = false := by decide) (hde : (e == ("__debug__" : Str)) = false := by decide) (hce : (e == ("__classdict__" : Str)) = false := by decide) : Wd P w K mg base T x a k g told (runW sb Ng.length ic) := by
  obtain ⟨oc, od, kV, doc, pm, an, cdv, ct, osl, rfl, lk, hcd⟩ := F.ex
  refine ⟨⟨defArgs st, defBody st, defScope st, .none, kV, doc, pm, cdv, ct, oc, an, od, osl, Ng, lk, hcd, hb, S, h00, hva, fun X q e1 e2 e3 e4 e5 hgd => ?_⟩, hmg, F.kp, fun d M x M' h => ?_⟩
  · subst e1 e2 e3 e4 e5
    rw [hbd]
    exact word_gives (pc := p0) S hc he h0 hne hlc hle hge hme hto hgd (fun s H hr ck => hrest cdv X.A X.stack s H hr ck) (fun _ _ => rfl) hdn hde hce
  · unfold runW at h
    split at h <;> cases h
theorem Wd.mono {x a : Str} {k k' : Nat} {g : Addr} {told : Addr → Bool} {rw : D → Mem → R D} (d : Wd P w K mg base T x a k g told rw) (h : k ≤ k') : Wd P w K mg base T x a k' g told rw := by
  obtain ⟨⟨pg, bg, sg, dV, kV, doc, pm, cdv, ct, oc, an, od, osl, Ng, h1, h2, h3, h4, h5, h6, h7⟩, m, kp, ne⟩ := d
  exact ⟨⟨pg, bg, sg, dV, kV, doc, pm, cdv, ct, oc, an, od, osl, Ng, h1, h2, h3, h4, h5, h6, fun X q e1 e2 e3 e4 e5 hgd f c' s H Q tl act hc hr => h7 X q e1 e2 e3 e4 e5 hgd f c' s H Q tl act hc (hr.mono h)⟩, m, kp, ne⟩
end
section
variable {X : Cx} {W : XK} {T : List (Addr × Str)} {st : Stmt} {ms : Evs}
/-- a if c else b, as a test -/
theorem t_ifx {cnd a b : Expr} {pos : Pos} {mc ma mb : Ev} (hc : PT X cnd (RdT W T X.K mc)) (ha : PT X a (RdT W T X.K ma)) (hb : PT X b (RdT W T X.K mb)) : PT X (.IfExp cnd a b pos) (RdT W T X.K (mIf mc ma mb)) := by
  refine ⟨fun pins s σ H Q I ⟨A, env, at0, p⟩ => ?_⟩
  have h := po_test (k := fun d M1 => match d with | .bl true => ma env M1 | .bl false => mb env M1 | _ => .stuck) at0 p fun d M n => by
    cases d <;> first | rfl | exact absurd rfl (n _)
  show wpAny _ _ (isTrue cnd X.env (eval cnd X.env) >>= fun t => if t = true then isTrue a X.env (eval a X.env) else isTrue b X.env (eval b X.env)) _ _ s
  refine wpAny_bind (thn (hc.run pins s σ H _ I h) fun k s1 ⟨H1, I1, A1, e1, a1, p1⟩ => ?_)
  cases k with
  | true => exact ha.run pins s1 σ H1 Q I1 ⟨A1, env, a1, p1⟩
  | false => exact hb.run pins s1 σ H1 Q I1 ⟨A1, env, a1, p1⟩
/-- a, b = x, y where one of the names is a cell -/
theorem s_parC {i j : Nat} (h : PS X st (tAsg (tTup (RdA W T X.K ms)) (gTup X.K 2 (gCons (gName i) (gCons (gName j) gNil))))) : PS X st (RdS W T X.K (sPar i j ms)) := h.imp fun E σ H ⟨A, env, at0, p⟩ => (PoS.steps at0 p).mono fun vs H1 ⟨A1, ds, _, a1, dv, p1⟩ => by
  split at p1
  · rename_i d e
    obtain ⟨v, w, rfl, dx, dy⟩ := dvl2 dv
    split at p1
    · refine ⟨by show 2 ≤ sizeLine; rw [sizeLine_eq]; omega, fun q hq => ⟨q, [v, w], rfl, .inl (.inl upd_same), rfl, v, [w], rfl, w, [], rfl, rfl, ?_⟩⟩
      have e1 : Ext T A1 H1 A1 (upd H1 q (.tup [v, w])) := Ext.laid hq
      exact p1 A1 _ rfl e1 (a1.mem.laid hq) (e1.tabs a1.tabs) _ ((((a1.env.ext e1).set (dx.ext e1))).set (dy.ext e1))
    · exact p1.elim
  · exact p1.elim
end
end TB

set_option Elab.async false
set_option linter.all false
set_option maxRecDepth 100000
set_option maxHeartbeats 4000000
namespace TB
open PySem PySem.Spec PyProof.Rows L2
/-! ### sorted(..) and *, whatever they are given -/
/-- the shape that sorted(..) is asked -/
def srtB (xs : List D) : Bool := xs.all flB && (alikeB (xs.map pyD) && ((xs.map pyD).all tupB || (xs.map pyD).all othB)) && (szB xs.length && (xs.map pyD).all fun p => Nat.ble p.depth 60)
def gSrt : OpN := fun ds M => match ds with
  | [d] => match look M d with
    | some (.lst, xs) => match srtB xs with
      | true => .ok (.node .lst (isort (PySem.W.dataLe false pyD) xs)) M
      | false => .stuck
    | _ => gSortedD ds M
  | _ => .stuck
def gMulX : Op2 := fun d e M => match d with
  | .node .lst _ => gRep d e M
  | _ => gMulI d e M
section
variable {X : Cx} {W : XK} {T : List (Addr × Str)}
theorem call_gSrt (c : Cok X W T) : CallR X (.builtin "sorted") (RdN W T X.K gSrt) := by
  rintro pins s σ H vs us Q I r ⟨A, ds, m, tb, dv, p⟩
  unfold gSrt at p
  split at p
  · rename_i d
    split at p
    · rename_i xs hl
      refine call_gSorted c pins s σ H vs us Q I r ⟨A, _, m, tb, dv, ?_⟩
      unfold gSorted
      simp only [hl]
      unfold srtB at p
      cases hb : (xs.all flB && (alikeB (xs.map pyD) && ((xs.map pyD).all tupB || (xs.map pyD).all othB)) && (szB xs.length && (xs.map pyD).all fun p => Nat.ble p.depth 60)) with
      | false => rw [hb] at p; exact p.elim
      | true =>
        rw [hb] at p
        simp only
        rw [sort_data]
        exact p
    · exact call_gSortedD c pins s σ H vs us Q I r ⟨A, _, m, tb, dv, p⟩
  · exact p.elim
theorem op_gMulX : OpR X (binaryOp .Mult) (Rd2 W T X.K gMulX) := by
  rintro pins s σ H x y v u Q I rx ry ⟨A, d, e, m, tb, dx, dy, p⟩
  unfold gMulX at p
  split at p
  · exact op_gRep pins s σ H x y v u Q I rx ry ⟨A, _, e, m, tb, dx, dy, p⟩
  · exact op_gMulI pins s σ H x y v u Q I rx ry ⟨A, _, e, m, tb, dx, dy, p⟩
end
end TB

set_option Elab.async false
set_option linter.all false
set_option maxRecDepth 100000
set_option maxHeartbeats 4000000
namespace TB
open PySem PySem.Spec PyProof.Rows L2
/-! ### mirrors run by hand: one step at a time -/
section
variable {sa sb : Sm} {env env1 : Env} {M M1 M2 : Mem} {r : R F} {d e : D} {m ma mb mc : Ev} {ms : Evs} {ds : List D} {g : Op2} {i : Nat} {q : R D}
theorem st_nx (h : sa env M = .ok (.nx env1) M1) (k : sb env1 M1 = r) : sSeq sa sb env M = r := by unfold sSeq; rw [h]; exact k
theorem st_rt (h : sa env M = .ok (.rt d) M1) : sSeq sa sb env M = .ok (.rt d) M1 := by unfold sSeq; rw [h]; rfl
theorem st_ex {x : Ex} (h : sa env M = .exc x M1) : sSeq sa sb env M = .exc x M1 := by unfold sSeq; rw [h]; rfl
theorem st_asg (h : m env M = .ok d M1) (hi : Nat.blt i env.length = true) : sAsg m (tNm i) env M = .ok (.nx (env.set i (some d))) M1 := by unfold sAsg; rw [h]; show (match tNm i d M1 env with | some env' => R.ok (F.nx env') M1 | none => .stuck) = _; unfold tNm; rw [hi]; rfl
theorem st_asgT {t : TgM} (h : m env M = .ok d M1) (ht : t d M1 env = some env1) : sAsg m t env M = .ok (.nx env1) M1 := by unfold sAsg; rw [h]; show (match t d M1 env with | some env' => R.ok (F.nx env') M1 | none => .stuck) = _; rw [ht]
theorem st_ift (h : mc env M = .ok (.bl true) M1) (k : sa env M1 = r) : sIf mc sa sb env M = r := by unfold sIf; rw [h]; exact k
theorem st_iff (h : mc env M = .ok (.bl false) M1) (k : sb env M1 = r) : sIf mc sa sb env M = r := by unfold sIf; rw [h]; exact k
theorem st_ret (h : m env M = .ok d M1) : sRet m env M = .ok (.rt d) M1 := by unfold sRet; rw [h]; rfl
theorem st_retE {x : Ex} (h : m env M = .exc x M1) : sRet m env M = .exc x M1 := by unfold sRet; rw [h]; rfl
theorem st_exp (h : m env M = .ok d M1) : sExpr m env M = .ok (.nx env) M1 := by unfold sExpr; rw [h]; rfl
theorem st_expE {x : Ex} (h : m env M = .exc x M1) : sExpr m env M = .exc x M1 := by unfold sExpr; rw [h]; rfl
theorem ev_op (h1 : ma env M = .ok d M1) (h2 : mb env M1 = .ok e M2) (h3 : g d e M2 = q) : mOp g ma mb env M = q := by unfold mOp; rw [h1]; show ((mb env M1).bind fun e M2 => g d e M2) = q; rw [h2]; exact h3
theorem ev_call {g : OpN} (h1 : ms env M = .ok ds M1) (h : g ds M1 = q) : mCall g ms env M = q := by unfold mCall; rw [h1]; exact h
theorem ev_cons (h1 : m env M = .ok d M1) (h2 : ms env M1 = .ok ds M2) : mCons m ms env M = .ok (d :: ds) M2 := by unfold mCons; rw [h1]; show ((ms env M1).bind fun ds M2 => .ok (d :: ds) M2) = _; rw [h2]; rfl
theorem ev_seq {t : Tag} (h1 : ms env M = .ok ds M1) (h : (ds.all still && szB ds.length) = true) : mSeq t ms env M = .ok (.node t ds) M1 := by unfold mSeq; rw [h1]; show (match ds.all still && szB ds.length with | true => R.ok (D.node t ds) M1 | false => .stuck) = _; rw [h]
theorem ev_ift (h : mc env M = .ok (.bl true) M1) (k : ma env M1 = q) : mIf mc ma mb env M = q := by unfold mIf; rw [h]; exact k
theorem ev_iff (h : mc env M = .ok (.bl false) M1) (k : mb env M1 = q) : mIf mc ma mb env M = q := by unfold mIf; rw [h]; exact k
theorem ev_andt (h : ma env M = .ok (.bl true) M1) (k : mb env M1 = q) : mAnd ma mb env M = q := by unfold mAnd; rw [h]; exact k
theorem ev_andf (h : ma env M = .ok (.bl false) M1) : mAnd ma mb env M = .ok (.bl false) M1 := by unfold mAnd; rw [h]; rfl
theorem ev_ort (h : ma env M = .ok (.bl true) M1) : mOr ma mb env M = .ok (.bl true) M1 := by unfold mOr; rw [h]; rfl
theorem ev_orf (h : ma env M = .ok (.bl false) M1) (k : mb env M1 = q) : mOr ma mb env M = q := by unfold mOr; rw [h]; exact k
theorem ev_not {b : Bool} (h : ma env M = .ok (.bl b) M1) : mNot ma env M = .ok (.bl (!b)) M1 := by unfold mNot; rw [h]; rfl
theorem mul_r {i c : Int} (h : -(2 ^ 64) < c ∧ c < 2 ^ 64) : gMulX (.int i) (.int c) M = .ok (.int (i * c)) M := by
  have e : ((decide (-(2 ^ 64 : Int) < i) && decide (i < 2 ^ 64)) || (decide (-(2 ^ 64 : Int) < c) && decide (c < 2 ^ 64))) = true := by
    rw [decide_eq_true h.1, decide_eq_true h.2]; simp
  show (match ((decide (-(2 ^ 64 : Int) < i) && decide (i < 2 ^ 64)) || (decide (-(2 ^ 64 : Int) < c) && decide (c < 2 ^ 64))) with | true => R.ok (D.int (i * c)) M | false => .stuck) = _
  rw [e]
theorem pw_ok {c j : Int} (h : (decide (0 ≤ j) && (decide (j ≤ 1000000) && decide (c.natAbs < 2 ^ 64))) = true) : gPow (.int c) (.int j) M = .ok (.int (c ^ j.toNat)) M := by
  show (match (decide (0 ≤ j) && (decide (j ≤ 1000000) && decide (c.natAbs < 2 ^ 64))) with | true => R.ok (D.int (c ^ j.toNat)) M | false => .stuck) = _
  rw [h]
theorem div_ok {i c : Int} (h : 0 < c ∧ c < 1073741824) : gDiv (.int i) (.int c) M = .ok (.int (i / c)) M := by
  have e : (decide (0 < c) && decide (c < 1073741824)) = true := by simp [h.1, h.2]
  show (match (decide (0 < c) && decide (c < 1073741824)) with | true => R.ok (D.int (i / c)) M | false => .stuck) = _
  rw [e]
theorem mod_ok {i c : Int} (h : 0 < c) : gMod (.int i) (.int c) M = .ok (.int (i % c)) M := by
  have e : decide (0 < c) = true := by simp [h]
  show (match decide (0 < c) with | true => R.ok (D.int (i % c)) M | false => .stuck) = _
  rw [e]
/-- a list of ints is data of a good shape -/
theorem ints_fl : ∀ xs : List Int, flBs (xs.map D.int) = true ∧ PyData.canLayAll0 (pyDs (xs.map D.int)) = true ∧ PyData.depthAll (pyDs (xs.map D.int)) ≤ 1
  | [] => ⟨rfl, rfl, by simp [pyDs, PyData.depthAll]⟩
  | x :: xs => by
    obtain ⟨h1, h2, h3⟩ := ints_fl xs
    refine ⟨by show (true && flBs (xs.map D.int)) = true; rw [h1]; rfl, by show (true && PyData.canLayAll0 (pyDs (xs.map D.int))) = true; rw [h2]; rfl, ?_⟩
    show max (PyData.depth (.int x)) (PyData.depthAll (pyDs (xs.map D.int))) ≤ 1
    have : PyData.depth (.int x) ≤ 1 := by simp [PyData.depth]
    omega
theorem ne_nil (xs : List Int) : gNe (.node .lst (xs.map D.int)) (.node .lst []) M = .ok (.bl (!xs.isEmpty)) M := by
  obtain ⟨h1, h2, h3⟩ := ints_fl xs
  have s1 : SeqAt.shaped (pyD (.node .lst (xs.map D.int))) = true := by
    show (PyData.canLayAll0 (pyDs (xs.map D.int)) && decide (PyData.depthAll (pyDs (xs.map D.int)) + 1 ≤ 64)) = true
    rw [h2, Bool.true_and, decide_eq_true_eq]
    omega
  have e : (flB (.node .lst (xs.map D.int)) && flB (.node .lst []) && (SeqAt.shaped (pyD (.node .lst (xs.map D.int))) && SeqAt.shaped (pyD (.node .lst [])))) = true := by
    rw [s1, show flB (.node .lst (xs.map D.int)) = true from h1]; decide +kernel
  show (match (flB (.node .lst (xs.map D.int)) && flB (.node .lst []) && (SeqAt.shaped (pyD (.node .lst (xs.map D.int))) && SeqAt.shaped (pyD (.node .lst [])))) with | true => R.ok (D.bl (!PyData.eqv (pyD (.node .lst (xs.map D.int))) (pyD (.node .lst [])))) M | false => .stuck) = _
  rw [e]
  cases xs <;> rfl
theorem ix_at {xs : List Int} {i : Int} (h0 : 0 ≤ i) (h1 : i < xs.length) : ∃ c, gIx (.node .lst (xs.map D.int)) (.int i) M = .ok (.int c) M := by
  have hk : i.toNat < xs.length := by omega
  refine ⟨xs[i.toNat], ?_⟩
  show (match atI (xs.map D.int) i with | some x => R.ok x M | none => .stuck) = _
  have e : atI (xs.map D.int) i = some (.int xs[i.toNat]) := by
    unfold atI ixN
    simp [List.length_map, h0, h1, hk]
    try omega
  rw [e]
end
end TB

set_option Elab.async false
set_option linter.all false
set_option maxRecDepth 100000
set_option maxHeartbeats 4000000
namespace TB
open PySem PySem.Spec PyProof.Rows L2
/-! ### repr of a list, part by part -/
def rpB (x : D) : Bool := datB x && ((pyD x).showable && (Nat.ble (pyD x).shown.length 100000 && Nat.ble (pyD x).depth 50))
theorem from_le : ∀ (ts : List Str) (k : Nat) (acc : Str), (∀ t ∈ ts, t.length ≤ 100000) → (textFrom k acc ts).length ≤ acc.length + 100002 * ts.length
  | [], k, acc, _ => by show acc.length ≤ _; omega
  | t :: r, k, acc, h => by
    have ih := from_le r (k + 1) (acc ++ (if k > 0 then ", " else "" : String) ++ t) fun u hu => h u (List.mem_cons_of_mem _ hu)
    have ht := h t List.mem_cons_self
    have e : (acc ++ (if k > 0 then ", " else "" : String) ++ t).length = acc.length + (if k > 0 then 2 else 0) + t.length := by
      rw [strLen_append, strLen_append]
      split <;> rfl
    rw [e] at ih
    show (textFrom (k + 1) (acc ++ (if k > 0 then ", " else "" : String) ++ t) r).length ≤ _
    rw [List.length_cons]
    have two : (if k > 0 then 2 else 0) ≤ 2 := by split <;> omega
    generalize (textFrom (k + 1) (acc ++ (if k > 0 then ", " else "" : String) ++ t) r).length = L at *
    omega
theorem all4 : ∀ (xs : List D), (∀ x ∈ xs, rpB x = true) → datBs xs = true ∧ PyData.showableAll (pyDs xs) = true ∧ (∀ t ∈ PyData.shownAll (pyDs xs), t.length ≤ 100000) ∧ PyData.depthAll (pyDs xs) ≤ 50 ∧ (PyData.shownAll (pyDs xs)).length = xs.length
  | [], _ => ⟨rfl, rfl, (fun t ht => nomatch (show t ∈ ([] : List Str) from ht)), Nat.zero_le _, rfl⟩
  | x :: xs, h => by
    obtain ⟨h1, h2, h3, h4, h5⟩ := all4 xs fun y hy => h y (List.mem_cons_of_mem _ hy)
    have hx := h x List.mem_cons_self
    unfold rpB at hx
    simp only [Bool.and_eq_true] at hx
    obtain ⟨a, b, c, d⟩ := hx
    refine ⟨?_, ?_, fun t ht => ?_, ?_, ?_⟩
    · show (datB x && datBs xs) = true; rw [a, h1]; rfl
    · show ((pyD x).showable && PyData.showableAll (pyDs xs)) = true; rw [b, h2]; rfl
    · rcases List.mem_cons.mp (show t ∈ (pyD x).shown :: PyData.shownAll (pyDs xs) from ht) with e | ht
      · rw [e]; exact Nat.le_of_ble_eq_true c
      · exact h3 t ht
    · show max (pyD x).depth (PyData.depthAll (pyDs xs)) ≤ 50
      have := Nat.le_of_ble_eq_true d
      omega
    · show ((pyD x).shown :: PyData.shownAll (pyDs xs)).length = _
      rw [List.length_cons, List.length_cons, h5]
theorem repr_list {xs : List D} (h : ∀ x ∈ xs, rpB x = true) (hn : xs.length ≤ 8) : ∃ z, ∀ M, gRepr [.node .lst xs] M = .ok (.str z) M := by
  obtain ⟨h1, h2, h3, h4, h5⟩ := all4 xs h
  have ln : (pyD (.node .lst xs)).shown.length ≤ 900000 := by
    show (listText (PyData.shownAll (pyDs xs))).length ≤ _
    unfold listText
    rw [strLen_append]
    have := from_le _ 0 "[" h3
    have e1 : (("[" : String) : Str).length = 1 := rfl
    have e2 : (("]" : String) : Str).length = 1 := rfl
    rw [h5] at this
    omega
  refine ⟨(pyD (.node .lst xs)).shown, fun M => ?_⟩
  have dd : Nat.ble (pyD (.node .lst xs)).depth 60 = true := Nat.ble_eq_true_of_le (by show PyData.depthAll (pyDs xs) + 1 ≤ 60; omega)
  have sz : szB (pyD (.node .lst xs)).shown.length = true := by
    unfold szB
    first
      | exact Nat.ble_eq_true_of_le (by omega)
      | (simp; omega)
  have c : (datB (.node .lst xs) && ((pyD (.node .lst xs)).showable && (szB (pyD (.node .lst xs)).shown.length && Nat.ble (pyD (.node .lst xs)).depth 60))) = true := by
    rw [show datB (.node .lst xs) = true from h1, show (pyD (.node .lst xs)).showable = true from h2, sz, dd]; rfl
  show (match (datB (.node .lst xs) && ((pyD (.node .lst xs)).showable && (szB (pyD (.node .lst xs)).shown.length && Nat.ble (pyD (.node .lst xs)).depth 60))) with | true => R.ok (D.str (pyD (.node .lst xs)).shown) M | false => .stuck) = _
  rw [c]
theorem seq_self (x : Str) : seq x x = true := by rw [seq_eq]; simp
/-! ### a call with data alone, told by its outcome -/
/-- none: a value came; some C: an error of the class C -/
def res (F : Fn) (ds : List D) : Option (Option Addr) := match ds.all still with
  | true => match F ds [] with
    | .ok d M' => match view M' d with
      | some _ => some none
      | none => none
    | .exc x _ => match x.d with
      | none => some (some x.C)
      | some _ => none
    | .stuck => none
  | false => none
theorem res_ok {F : Fn} {ds : List D} {ms : Evs} {env : Env} {M : Mem} (hm : ms env M = .ok ds M) (h : res F ds = some none) : ∃ d, mCall (gAuto F) ms env M = .ok d M := by
  unfold res at h
  cases hs : ds.all still with
  | false => rw [hs] at h; cases h
  | true =>
    rw [hs] at h
    simp only at h
    have e : mCall (gAuto F) ms env M = gFn F ds M := by unfold mCall; rw [hm]; show gAuto F ds M = _; unfold gAuto; rw [hs]
    unfold gFn at e
    rw [hs] at e
    cases q : F ds [] with
    | stuck => rw [q] at h; cases h
    | exc x M' =>
      rw [q] at h
      obtain ⟨xC, xd⟩ := x
      cases xd <;> cases h
    | ok d M' =>
      rw [q] at h e
      simp only at h e
      cases v : view M' d with
      | none => rw [v] at h; cases h
      | some d' => rw [v] at e; exact ⟨d', e⟩
theorem res_ex {F : Fn} {ds : List D} {ms : Evs} {env : Env} {M : Mem} {C : Addr} (hm : ms env M = .ok ds M) (h : res F ds = some (some C)) : mCall (gAuto F) ms env M = .exc { C := C } M := by
  unfold res at h
  cases hs : ds.all still with
  | false => rw [hs] at h; cases h
  | true =>
    rw [hs] at h
    simp only at h
    have e : mCall (gAuto F) ms env M = gFn F ds M := by unfold mCall; rw [hm]; show gAuto F ds M = _; unfold gAuto; rw [hs]
    unfold gFn at e
    rw [hs] at e
    cases q : F ds [] with
    | stuck => rw [q] at h; cases h
    | ok d M' => rw [q] at h; simp only at h; cases v : view M' d <;> rw [v] at h <;> cases h
    | exc x M' =>
      rw [q] at h e
      simp only at h e
      obtain ⟨xC, xd⟩ := x
      cases xd with
      | some z => cases h
      | none => cases h; exact e
theorem run_rt {np n : Nat} {sb : Sm} {ds : List D} {M M' : Mem} {d : D} (hl : (ds.length == np) = true) (h : sb (ds.map some ++ List.replicate (n - ds.length) none) M = .ok (.rt d) M') : runF np n sb ds M = .ok d M' := by
  unfold runF; rw [hl]; simp only; rw [h]
theorem run_nx {np n : Nat} {sb : Sm} {ds : List D} {M M' : Mem} {e : Env} (hl : (ds.length == np) = true) (h : sb (ds.map some ++ List.replicate (n - ds.length) none) M = .ok (.nx e) M') : runF np n sb ds M = .ok .non M' := by
  unfold runF; rw [hl]; simp only; rw [h]
theorem run_ex {np n : Nat} {sb : Sm} {ds : List D} {M M' : Mem} {x : Ex} (hl : (ds.length == np) = true) (h : sb (ds.map some ++ List.replicate (n - ds.length) none) M = .exc x M') : runF np n sb ds M = .exc x M' := by
  unfold runF; rw [hl]; simp only; rw [h]
end TB

set_option Elab.async false
set_option linter.all false
set_option maxRecDepth 100000
set_option maxHeartbeats 4000000
namespace LamZ
open PySem PySem.Spec PyProof.Rows L2 LamX TB
/-- law_call with tables: cs, the code objects and their tables -/
theorem law_callG {P : Program} {w : World} {K : PySem.W.Frag} {mg mb : Str → Option Value} {k : Nat} {fa a : Addr} {cs : List (Addr × Addr)} {fd : FuncData} {x : Str} {Fn' : TB.Fn} {T : List (Addr × Str)} {s₁ : Shared} {vs : List Value} {ns : List Int}
    (KX : K.In s₁.heap) (hns : s₁.heap.Ns mainGlobals mg) (hb : s₁.heap.Ns builtinsNs mb) (hbb : ∀ x : Str, x ≠ "__name__" → mb x = bootBuiltins x) (hlim : s₁.heap.NoLimit) (hg : s₁.gens = #[])
    (hT : ∀ p ∈ cs, s₁.heap.get? p.2 = some { cls := .none, data := .fields #[] }) (nT : ∀ p ∈ cs, K.lookup p.2 = none) (C : ∀ p ∈ cs, PySem.W.CodeHd s₁.heap p.1 p.2)
    (hbm : ∃ (bm : Addr) (ob : Obj), mg "__builtins__" = some (.ref bm) ∧ bm ≠ builtinsNs ∧ s₁.heap.get? bm = some ob ∧ ob.cls = .type "module" ∧ ob.dict = some builtinsNs ∧ ob.data = .plain)
    (hsys : ∃ o es ep, s₁.heap.get? sysModules = some o ∧ o.data = .dict es ep) (ha : s₁.heap.get? a = some { cls := .type "list", data := .seq vs.toArray }) (hi : IntsAre vs ns) (hl : ns.length ≤ sizeLine) (hr : Room k callerA)
    (F : ∀ base : Heap, K.In base → base.Ns mainGlobals mg → (∃ o es ep, base.get? sysModules = some o ∧ o.data = .dict es ep) → (∀ p ∈ cs, TabB base mg p.1 p.2) → FnG P w K mg base T k fa fd [x] Fn') (hbind : ∀ (s : Shared) (u : Value), BindsTo s fd ⟨[u], []⟩ [(x, u)])
    (hsp : ∀ H : Hp, (∀ p ∈ cs, H p.2 = some (.tbl #[])) → SqL K H a (ns.map V.int) → spF T K 1 Fn' [.ref a] H (fun v _ => v = .bl true) fun _ _ _ => False)
    (hCX : ∀ H e s', L2.CX P w [] H s₁ (fun _ _ _ => False) e s' → False) :
    codeAny (model P w) callerA (.call (.ref fa) ⟨[.ref a], []⟩) (fun r s' => r = .ok (.ret (.bool true)) ∧ OldK s₁.heap s'.heap ∧ s'.os = s₁.os ∧ AllBare s'.gens) s₁ := by
  have rv := vals_ints hi
  have lenV := hi.length
  have isT : ∀ b : Addr, b ∈ cs.map (·.2) → s₁.heap.get? b = some { cls := .none, data := .fields #[] } := fun b hb => by
    obtain ⟨p, hp, e⟩ := List.mem_map.mp hb
    rw [← e]
    exact hT p hp
  have aT : a ∉ cs.map (·.2) := fun z => by
    have q := isT a z
    rw [ha] at q
    have z' : Data.seq vs.toArray _ = Data.fields #[] := congrArg Obj.data (Option.some.inj q)
    cases z'
  have memT : ∀ p ∈ cs, p.2 ∈ cs.map (·.2) := fun p hp => List.mem_map.mpr ⟨p, hp, rfl⟩
  -- from an abstract heap in which nothing but the script and the tables may be tracked
  have core : ∀ H : Hp, (∀ p ∈ cs, H p.2 = some (.tbl #[])) → (∀ b, H b = none ∨ b ∈ cs.map (·.2) ∨ ∃ o xs, H b = some (.frz o (.lst xs))) → SqL K H a (ns.map V.int) → HOk P w H s₁.heap → (∀ b, H b ≠ none → b = a ∨ b ∈ cs.map (·.2)) → (H a ≠ none → K.lookup a = none) →
      codeAny (model P w) callerA (.call (.ref fa) ⟨[.ref a], []⟩) (fun r s' => r = .ok (.ret (.bool true)) ∧ OldK s₁.heap s'.heap ∧ s'.os = s₁.os ∧ AllBare s'.gens) s₁ := by
    intro H hH hO hS hok hA hK
    have base_of : ∀ {b : Addr} {o : Obj}, s₁.heap.get? b = some o → H b = none → (hidT s₁.heap H).get? b = some o := fun e n => hidT_get e n
    have noD : ∀ {b : Addr} {o : Obj}, s₁.heap.get? b = some o → (∀ vs n, o.data ≠ .seq vs n) → o.data ≠ .fields #[] → H b = none := fun {b o} e h1 h2 => by
      cases q : H b with
      | none => rfl
      | some u =>
        rcases hA b (by rw [q]; simp) with e' | e'
        · rw [e', ha] at e
          cases e
          exact (h1 _ _ rfl).elim
        · rw [isT b e'] at e
          cases e
          exact (h2 rfl).elim
    have noA : ∀ {b : Addr} {o : Obj} {es : Array DictEntry} {ep : Nat}, s₁.heap.get? b = some o → o.data = .dict es ep → H b = none := fun {b o es ep} e d => by
      refine noD e (fun vs n z => ?_) fun z => ?_
      · rw [d] at z
        cases z
      · rw [d] at z
        cases z
    have nsK : ∀ {b : Addr} {m : Str → Option Value}, s₁.heap.Ns b m → (hidT s₁.heap H).Ns b m := fun {b m} ⟨o, es, ep, e, d, r⟩ => ⟨o, es, ep, base_of e (noA e d), d, r⟩
    have hKb : K.In (hidT s₁.heap H) := fun b o e => base_of (KX b o e) (by
      cases q : H b with
      | none => rfl
      | some u =>
        rcases hA b (by rw [q]; simp) with e' | e'
        · rw [e'] at e q
          rw [hK (by rw [q]; simp)] at e
          cases e
        · obtain ⟨p, hp, ep⟩ := List.mem_map.mp e'
          rw [← ep, nT p hp] at e
          cases e)
    have hM : L2.Mod K mg (hidT s₁.heap H) := ⟨hKb, nsK hns, ⟨mb, nsK hb, hbb⟩, let ⟨mc, h1, h2⟩ := hlim; ⟨mc, nsK h1, h2⟩⟩
    have TB : ∀ p ∈ cs, TabB (hidT s₁.heap H) mg p.1 p.2 := fun p hp => by
      have hTp := hT p hp
      refine ⟨?_, ?_, fun z => ?_⟩
      · obtain ⟨o, us, file, tf, flags, tg, inF, text, tt, e1, r1, r2, r3, r4, r5, r6, r7, r8, hne⟩ := C p hp
        refine ⟨o, us, file, tf, flags, tg, inF, text, tt, base_of e1 (noD e1 (fun vs n z => ?_) fun z => ?_), r1, r2, r3, r4, r5, r6, r7, r8, hne⟩
        · rw [r2] at z
          cases z
        · rw [r2] at z
          cases z
          simp at r3
      · obtain ⟨bm, ob, b1, b2, b3, b4, b5, b6⟩ := hbm
        have nG : bm ≠ mainGlobals := fun q => by
          obtain ⟨o, es, ep, e, hd, _⟩ := hns
          rw [q, e] at b3
          cases b3
          rw [hd] at b6
          cases b6
        have nP : bm ≠ p.2 := fun q => by
          rw [q, hTp] at b3
          cases b3
          cases b6
        refine ⟨bm, ob, b1, b2, nG, nP, base_of b3 (noD b3 (fun vs n z => ?_) fun z => ?_), b4, b5, b6⟩
        · rw [b6] at z
          cases z
        · rw [b6] at z
          cases z
      · obtain ⟨o, es, ep, e, hd, _⟩ := hns
        rw [z, hTp] at e
        cases e
        cases hd
    have e0 : Env0 P w K mg (hidT s₁.heap H) callerA [] s₁ H := ⟨rfl, hM, fun b o e => of_hidT e, Nat.le_of_eq (hidT_size _ _), trivial, fun b hb => absurd (show b ∈ ([] : List Addr) from hb) (by simp), hok, .of_eq hg⟩
    refine codeAny_mono ((F _ hKb (nsK hns) (let ⟨o, es, ep, e, hd⟩ := hsys; ⟨o, es, ep, base_of e (noA e hd), hd⟩) TB).run callerA [] s₁ H ⟨[.ref a], []⟩ [.ref a] [.ref a] _ _ hr rfl e0 (hbind s₁ (.ref a)) (.cons rfl .nil) (hsp H hH hS)) fun r s' h => ?_
    cases r with
    | error e => exact (hCX H e s' h).elim
    | ok fl =>
      cases fl with
      | next => exact False.elim h
      | brk => exact False.elim h
      | cont => exact False.elim h
      | ret u =>
        obtain ⟨v, H', os, bare, un, hok', r', q⟩ := h
        have q' : v = .bl true := q
        subst q'
        obtain rfl : u = Value.bool true := r'
        have key : ∀ b o, b ∉ cs.map (·.2) → s₁.heap.get? b = some o → s'.heap.get? b = some o := fun b o nb e => by
          cases q : H b with
          | none => exact un.keep b o e q (by intro z; exact absurd (show b ∈ ([] : List Addr) from z) (by simp)) (by simp)
          | some u =>
            rcases hO b with z | z | ⟨ob, xs, z⟩
            · rw [q] at z; cases z
            · exact absurd z nb
            · have z2 := un.frzs b ob _ z
              obtain ⟨e1, _⟩ := hok b _ z
              obtain ⟨e2, _⟩ := hok' b _ z2
              rw [e] at e1; cases e1
              exact e2
        have grown : ∀ p ∈ cs, ∃ more : Array Value, s'.heap.get? p.2 = some { cls := .none, data := .fields more } := fun p hp => by
          obtain ⟨more, z⟩ := un.tbls p.2 #[] (hH p hp)
          exact ⟨_, hok' p.2 _ z⟩
        refine ⟨rfl, ⟨fun b o e => ?_, fun b o e => ?_⟩, os, bare⟩
        · by_cases hb : b ∈ cs.map (·.2)
          · obtain ⟨p, hp, ep⟩ := List.mem_map.mp hb
            obtain ⟨more, hm⟩ := grown p hp
            rw [← ep] at e ⊢
            rw [hT p hp] at e
            cases e
            exact .inr (.inl ⟨((C p hp).tab (hT p hp)).isCodeTable, rfl, #[], more, rfl, by rw [Array.empty_append]; exact hm⟩)
          · exact .inl (key b o hb e)
        · by_cases hb : b ∈ cs.map (·.2)
          · obtain ⟨p, hp, ep⟩ := List.mem_map.mp hb
            obtain ⟨more, hm⟩ := grown p hp
            rw [← ep]
            exact ⟨_, hm⟩
          · exact ⟨o, key b o hb e⟩
  cases hk : K.lookup a with
  | some o =>
    have e := KX a o hk
    rw [ha] at e
    cases e
    refine core (fun b => if b ∈ cs.map (·.2) then some (.tbl #[]) else none) (fun p hp => if_pos (memT p hp)) (fun b => ?_) (.inr ⟨_, vs.toArray, _, hk, rfl, rfl, rfl, by rw [List.size_toArray, lenV]; exact hl, by simpa using rv⟩) (fun b u z => ?_) (fun b z => ?_) fun z => absurd (show (if a ∈ cs.map (·.2) then some (HO.tbl #[]) else none) = none from if_neg aT) z
    · by_cases hb : b ∈ cs.map (·.2)
      · exact .inr (.inl hb)
      · exact .inl (if_neg hb)
    · by_cases hb : b ∈ cs.map (·.2)
      · have z' := (if_pos hb).symm.trans z
        cases z'
        exact isT b hb
      · have z' := (if_neg hb).symm.trans z
        cases z'
    · by_cases hb : b ∈ cs.map (·.2)
      · exact .inr hb
      · exact absurd (if_neg hb) z
  | none =>
    refine core (fun b => if b = a then some (.frz { cls := .type "list", data := .seq vs.toArray } (.lst (ns.map V.int))) else if b ∈ cs.map (·.2) then some (.tbl #[]) else none) (fun p hp => (if_neg (show ¬ p.2 = a from fun z => aT (by rw [← z]; exact memT p hp))).trans (if_pos (memT p hp))) (fun b => ?_)
      (.inl (.inr ⟨{ cls := .type "list", data := .seq vs.toArray }, if_pos rfl⟩)) (fun b u z => ?_) (fun b z => ?_) fun _ => hk
    · by_cases hb : b = a
      · exact .inr (.inr ⟨_, _, if_pos hb⟩)
      · by_cases hb2 : b ∈ cs.map (·.2)
        · exact .inr (.inl hb2)
        · exact .inl ((if_neg hb).trans (if_neg hb2))
    · by_cases hb : b = a
      · have z' := (if_pos hb).symm.trans z
        cases z'
        rw [hb]
        exact ⟨ha, by rw [List.length_map]; exact hl, vs, _, rv, ha⟩
      · have z1 := (if_neg hb).symm.trans z
        by_cases hb2 : b ∈ cs.map (·.2)
        · have z' := (if_pos hb2).symm.trans z1
          cases z'
          exact isT b hb2
        · have z' := (if_neg hb2).symm.trans z1
          cases z'
    · by_cases hb : b = a
      · exact .inl hb
      · by_cases hb2 : b ∈ cs.map (·.2)
        · exact .inr hb2
        · exact absurd ((if_neg hb).trans (if_neg hb2)) z
/-- what is known of the law at the head's heap h -/
def LawAtG (l : PySem.W.OpenLaw) (w : World) (K : PySem.W.Frag) (k n : Nat) (x : Str) (mg : Str → Option Value) (fa : Addr) (h : Heap) : Prop :=
  ∃ (fd : FuncData) (cs : List (Addr × Addr)) (T : List (Addr × Str)) (Fn' : TB.Fn), (∀ p ∈ cs, h.get? p.2 = some { cls := .none, data := .fields #[] }) ∧ (∀ p ∈ cs, K.lookup p.2 = none) ∧ (∀ p ∈ cs, PySem.W.CodeHd h p.1 p.2) ∧ (∀ (s : Shared) (u : Value), BindsTo s fd ⟨[u], []⟩ [(x, u)]) ∧
    (∀ (H : Hp) (a : Addr) (ns : List Int), ns.length ≤ n → (∀ p ∈ cs, H p.2 = some (.tbl #[])) → SqL K H a (ns.map V.int) → spF T K 1 Fn' [.ref a] H (fun v _ => v = .bl true) fun _ _ _ => False) ∧
    ∀ base : Heap, K.In base → base.Ns mainGlobals mg → (∃ o es ep, base.get? sysModules = some o ∧ o.data = .dict es ep) → (∀ p ∈ cs, TabB base mg p.1 p.2) → FnG l.prog w K mg base T k fa fd [x] Fn'
theorem walk_ofT {l : PySem.W.OpenLaw} {n k : Nat} {q : Program} {loose : List Str} {XP : (Str → Option Value) → Heap → Prop} {YP : World → Heap → Prop} {d : DefRec} {K : Params → PySem.W.Frag} {x : Str}
    (hn : l.most = some n) (hn2 : n ≤ sizeLine) (hdf : d.params.defaults = []) (hr : Room k callerA) (hI : PyProof.Rows.importsNone q = true) (hY : ∀ (w : World) (h : Heap), YP w h → (K w.params).In h)
    (F : ∀ (w : World) (mg : Str → Option Value) (fa : Addr) (h : Heap), YP w h → (K w.params).In h → h.Ns mainGlobals mg → mg d.name = some (.ref fa) → LawAtG l w (K w.params) k n x mg fa h)
    (hCX : ∀ (w : World) (H : Hp) (s : Shared) (e : Value) (s' : Shared), L2.CX l.prog w [] H s (fun _ _ _ => False) e s' → False) :
    PySem.W.WalkO q loose XP YP l.row.toRowW d [] (fun f vs => PySem.call f vs) := by
  refine Att.attach_callB hn hdf fun w s₀ s₁ mg mb fa o pm cd doc a vs ns G Y ho hd hcd hmg hobj hints hlen hbits hg => ?_
  have KX := hY w _ Y
  obtain ⟨fd, cs, T, Fn', hT, nT, C, hb, hsp, hF⟩ := F w mg fa _ Y KX G.T.g hmg
  exact law_callG KX G.T.g G.T.b G.T.builtins G.T.nolimit hg hT nT C G.T.bmain (let ⟨_, hm, _⟩ := (G.T.seer hI).mods; let ⟨o, es, ep, e, hd, _⟩ := hm; ⟨o, es, ep, e, hd⟩) hobj hints (Nat.le_trans hlen hn2) hr hF hb (fun H hH hS => hsp H a ns hlen hH hS) fun H e s' => hCX w H s₁ e s'
theorem no_leave {P : Program} {w : World} {H : Hp} {s : Shared} {e : Value} {s' : Shared} (h : L2.CX P w [] H s (fun _ _ _ => False) e s') : False := by
  obtain ⟨_, _, _, _, _, _, _, _, _, _, _, _, z⟩ := h
  exact z
end LamZ

set_option Elab.async false
set_option linter.all false
set_option maxRecDepth 100000
set_option maxHeartbeats 4000000
namespace TB
open PySem PySem.Spec PyProof.Rows L2
/-! ### facts of the fragment, by one check each -/
/-- a name of the module and what it holds -/
def nB (K : PySem.W.Frag) (x : Str) (v : Value) : Bool := PySem.W.nsIn K mainGlobals x == some (some v)
def zB (K : PySem.W.Frag) (x : Str) : Bool := PySem.W.nsIn K mainGlobals x == some none
def intB (K : PySem.W.Frag) (x : Str) (i : Int) : Bool := match PySem.W.nsIn K mainGlobals x with | some (some (.int j _)) => j == i | _ => false
def strB (K : PySem.W.Frag) (x : Str) (z : Str) : Bool := match PySem.W.nsIn K mainGlobals x with | some (some (.str y _)) => y == z | _ => false
mutual
/-- u shows the data d, for ever -/
def kD (K : PySem.W.Frag) : D → Value → Bool
  | .str s, u => match u with | .str z _ => s == z | _ => false
  | .int i, u => match u with | .int j _ => i == j | _ => false
  | .bl b, u => match u with | .bool c => b == c | _ => false
  | .non, u => match u with | .none => true | _ => false
  | .node .ktp xs, u => match u with
    | .ref a => match K.lookup a with
      | some ⟨c, dd, .seq its _, _⟩ => c == .type "tuple" && (dd.isNone && (Nat.ble its.toList.length 1000000 && kDs K xs its.toList))
      | _ => false
    | _ => false
  | _, _ => false
def kDs (K : PySem.W.Frag) : List D → List Value → Bool
  | [], us => us.isEmpty
  | x :: xs, us => match us with
    | u :: r => kD K x u && kDs K xs r
    | [] => false
end
def ktupB (K : PySem.W.Frag) (x : Str) (d : D) : Bool := match PySem.W.nsIn K mainGlobals x with | some (some (.ref b)) => kD K d (.ref b) | _ => false
def errKB (K : PySem.W.Frag) (x : Str) (C : Addr) : Bool := nB K x (.ref C) && (PySem.W.keepIn K (.ref C) && (PySem.W.excIn K C veBm "ValueError.__new__" && (PySem.W.subIn K (.ref C) (.type "BaseException") == some true && PySem.W.typeIn K (.ref C) == some (.type "type"))))
def clsB (K : PySem.W.Frag) (C : Addr) : Bool := PySem.W.plainGet K C Str.empty && (PySem.W.hasDictIn K C && (PySem.W.plainOver K C && PySem.W.findIn K (.ref C) "__setattr__" == some (some (.builtin "object.__setattr__"))))
def noAtB (K : PySem.W.Frag) (C : Addr) (f : Str) : Bool := PySem.W.findIn K (.ref C) f == some none
def mkB (K : PySem.W.Frag) (C f : Addr) : Bool := PySem.W.makesIn K C && (PySem.W.findIn K (.ref C) "__init__" == some (some (.ref f)) && (PySem.W.isFn K (.ref f) && PySem.W.keepIn K (.ref C)))
def methB (K : PySem.W.Frag) (C : Addr) (m : Str) (f : Addr) : Bool := PySem.W.findIn K (.ref C) m == some (some (.ref f)) && (PySem.W.isFn K (.ref f) && PySem.W.keepIn K (.ref f))
def propB (K : PySem.W.Frag) (C : Addr) (f : Str) (p g : Addr) : Bool := PySem.W.findIn K (.ref C) f == some (some (.ref p)) && (PySem.W.specialIn K (.ref p) "__get__" == some (some (.builtin "property.__get__")) && (PySem.W.takesIn K (.ref p) == some true &&
  (match PySem.W.recIn K p "property" with | some (v :: _) => v == .ref g | _ => false)))
def insKB (K : PySem.W.Frag) (C : Addr) : Bool := clsB K C && (PySem.W.findIn K (.ref C) "__class__" == some (some (.builtin "object.__class__")) && (PySem.W.specialIn K (.builtin "object.__class__") "__get__" == some (some (.builtin "getset_descriptor.__get__")) &&
  (PySem.W.takesIn K (.builtin "object.__class__") == some true && (PySem.W.mroIn K C (.type "object") == some true && (PySem.W.kitOne K (.ref C) (.ref C) == some true &&
  (([.bl, .int, .str, .tup, .lst, .dct] : List Ty).all (fun t => PySem.W.kitOne K (.ref C) (.type t.name) == some false) && ([.non, .bl, .int, .str, .tup, .lst, .dct] : List Ty).all (fun t => PySem.W.kitOne K (.type t.name) (.ref C) == some false)))))))
def excCB (K : PySem.W.Frag) (C : Addr) : Bool := PySem.W.findIn K (.ref C) "__getattribute__" == some (some (.builtin "BaseException.__getattribute__")) && (PySem.W.findIn K (.ref C) "__getattr__" == some none && (PySem.W.subIn K (.ref C) (.type "BaseException") == some true &&
  (PySem.W.hasDictIn K C && (PySem.W.findIn K (.ref C) "__class__" == some (some (.builtin "object.__class__")) && (PySem.W.specialIn K (.builtin "object.__class__") "__get__" == some (some (.builtin "getset_descriptor.__get__")) &&
  (PySem.W.takesIn K (.builtin "object.__class__") == some true && PySem.W.mroIn K C (.type "object") == some true))))))
def errIB (K : PySem.W.Frag) (Er : List Addr) (isE : Addr → Addr → Bool) : Bool := Er.all (fun C => excCB K C && (Er.all (fun C' => PySem.W.kitOne K (.ref C) (.ref C') == some (isE C C')) && PySem.W.kitOne K (.ref C) (.type "ValueError") == some true))
def smB (K : PySem.W.Frag) : Bool := match K.lookup sysModules with | some o => o.cls == .type "dict" | none => false
def defB (K : PySem.W.Frag) (x : Str) (f : Addr) : Bool := nB K x (.ref f) && PySem.W.keepIn K (.ref f)
section
variable {K : PySem.W.Frag} {h : Heap} {mg : Str → Option Value} {x m : Str} {C f p g : Addr}
theorem nB_of (X : K.In h) (G : h.Ns mainGlobals mg) {v : Value} (e : nB K x v = true) : mg x = some v := PySem.W.mg_of X G (beq_iff_eq.mp e)
theorem zB_of (X : K.In h) (G : h.Ns mainGlobals mg) (e : zB K x = true) : mg x = none := PySem.W.mg_none_of X G (beq_iff_eq.mp e)
theorem intB_of (X : K.In h) (G : h.Ns mainGlobals mg) {i : Int} (e : intB K x i = true) : ∃ t, mg x = some (.int i t) := by
  unfold intB at e
  split at e
  · rename_i j t q
    cases (beq_iff_eq.mp e)
    exact ⟨t, PySem.W.mg_of X G q⟩
  · cases e
theorem strB_of (X : K.In h) (G : h.Ns mainGlobals mg) {z : Str} (e : strB K x z = true) : ∃ t, mg x = some (.str z t) := by
  unfold strB at e
  split at e
  · rename_i j t q
    cases (beq_iff_eq.mp e)
    exact ⟨t, PySem.W.mg_of X G q⟩
  · cases e
mutual
theorem kD_of : ∀ {d : D} {u : Value}, kD K d u = true → ∃ v, RelV v u ∧ ∀ ρ H, DP K ρ H d v
  | .str s, u, e => by
    cases u <;> first | cases e | skip
    rename_i z t
    cases (beq_iff_eq.mp e)
    exact ⟨.str s, ⟨t, rfl⟩, fun _ _ => rfl⟩
  | .int i, u, e => by
    cases u <;> first | cases e | skip
    rename_i z t
    cases (beq_iff_eq.mp e)
    exact ⟨.int i, ⟨t, rfl⟩, fun _ _ => rfl⟩
  | .bl b, u, e => by
    cases u <;> first | cases e | skip
    rename_i z
    cases (beq_iff_eq.mp e)
    exact ⟨.bl b, rfl, fun _ _ => rfl⟩
  | .non, u, e => by
    cases u <;> first | cases e | skip
    exact ⟨.non, rfl, fun _ _ => rfl⟩
  | .node .ktp xs, u, e => by
    cases u <;> first | cases e | skip
    rename_i a
    unfold kD at e
    simp only at e
    split at e
    · rename_i c dd its n sl q
      simp only [Bool.and_eq_true] at e
      obtain ⟨e1, e2, e3, e4⟩ := e
      obtain ⟨vs, r, hd⟩ := kDs_of e4
      have hc : c = .type "tuple" := beq_iff_eq.mp e1
      have hn : dd = none := by cases dd; rfl; cases e2
      have hz : its.size ≤ sizeLine := by
        have := Nat.le_of_ble_eq_true e3
        rw [Array.length_toList] at this
        rw [sizeLine_eq]; omega
      exact ⟨.ref a, rfl, fun ρ H => ⟨a, vs, rfl, .inr ⟨fun H => .inr ⟨_, its, n, q, hc, rfl, hz, r⟩, _, q, hc, hn⟩, hd ρ H⟩⟩
    · cases e
  | .node .tup xs, u, e => by cases e
  | .node .lst xs, u, e => by cases e
  | .node .klst xs, u, e => by cases e
  | .node (.dK ks) xs, u, e => by cases e
  | .node (.dT ks) xs, u, e => by cases e
  | .node (.ins C ns) xs, u, e => by cases e
  | .node (.exn C) xs, u, e => by cases e
  | .ty t, u, e => by cases e
  | .cls C, u, e => by cases e
  | .obj n, u, e => by cases e
theorem kDs_of : ∀ {xs : List D} {us : List Value}, kDs K xs us = true → ∃ vs, Vals vs us ∧ ∀ ρ H, DPs K ρ H xs vs
  | [], us, e => by
    cases us with
    | nil => exact ⟨[], .nil, fun _ _ => rfl⟩
    | cons u r => cases e
  | x :: xs, us, e => by
    cases us with
    | nil => cases e
    | cons u r =>
      unfold kDs at e
      simp only [Bool.and_eq_true] at e
      obtain ⟨v, rv, hv⟩ := kD_of e.1
      obtain ⟨vs, rvs, hvs⟩ := kDs_of e.2
      exact ⟨v :: vs, .cons rv rvs, fun ρ H => ⟨v, vs, rfl, hv ρ H, hvs ρ H⟩⟩
end
theorem ktupB_of (X : K.In h) (G : h.Ns mainGlobals mg) {d : D} (e : ktupB K x d = true) : ∃ b, mg x = some (.ref b) ∧ ∀ ρ H, DP K ρ H d (.ref b) := by
  unfold ktupB at e
  split at e
  · rename_i b q
    obtain ⟨v, r, hd⟩ := kD_of e
    cases v <;> first | (cases r; done) | (obtain ⟨t, z⟩ := r; cases z; done) | skip
    cases (show Value.ref b = _ from r)
    exact ⟨b, PySem.W.mg_of X G q, hd⟩
  · cases e
theorem errKB_of (X : K.In h) (G : h.Ns mainGlobals mg) (e : errKB K x C = true) : ErrK K mg x C := by
  unfold errKB at e
  simp only [Bool.and_eq_true, beq_iff_eq] at e
  exact ⟨nB_of X G e.1, e.2.1, e.2.2.1, e.2.2.2.1, e.2.2.2.2⟩
theorem clsB_of (e : clsB K C = true) : Cls K C := by
  unfold clsB at e
  simp only [Bool.and_eq_true, beq_iff_eq] at e
  exact ⟨e.1, e.2.1, e.2.2.1, e.2.2.2⟩
theorem noAtB_of (e : noAtB K C x = true) : NoAttr K C x := beq_iff_eq.mp e
theorem mkB_of (e : mkB K C f = true) : L2.Mk K C f := by
  unfold mkB at e
  simp only [Bool.and_eq_true, beq_iff_eq] at e
  exact ⟨e.1, e.2.1, e.2.2.1, e.2.2.2⟩
theorem methB_of (e : methB K C m f = true) : L2.Meth K C m f := by
  unfold methB at e
  simp only [Bool.and_eq_true, beq_iff_eq] at e
  exact ⟨e.1, e.2.1, e.2.2⟩
theorem propB_of (e : propB K C m p g = true) : L2.PropOf K C m p g := by
  unfold propB at e
  simp only [Bool.and_eq_true, beq_iff_eq] at e
  obtain ⟨e1, e2, e3, e4⟩ := e
  refine ⟨e1, e2, e3, ?_⟩
  split at e4
  · rename_i v r q
    cases (beq_iff_eq.mp e4)
    exact ⟨r, q⟩
  · cases e4
theorem insKB_of (e : insKB K C = true) : InsK K C := by
  unfold insKB at e
  simp only [Bool.and_eq_true, beq_iff_eq, List.all_eq_true] at e
  obtain ⟨e1, e2, e3, e4, e5, e6, e7, e8⟩ := e
  exact ⟨⟨clsB_of e1, e2, e3, e4, e5, e6⟩, fun t ht => e7 t (by rcases ht with rfl | rfl | rfl | rfl | rfl | rfl <;> simp), fun t ht => e8 t (by rcases ht with rfl | rfl | rfl | rfl | rfl | rfl | rfl <;> simp)⟩
theorem excCB_of (e : excCB K C = true) : ExcC K C := by
  unfold excCB at e
  simp only [Bool.and_eq_true, beq_iff_eq] at e
  obtain ⟨e1, e2, e3, e4, e5, e6, e7, e8⟩ := e
  exact ⟨e1, e2, e3, e4, e5, e6, e7, e8⟩
theorem errIB_of {Er : List Addr} {isE : Addr → Addr → Bool} (e : errIB K Er isE = true) : ErrI K Er isE := by
  unfold errIB at e
  simp only [Bool.and_eq_true, beq_iff_eq, List.all_eq_true] at e
  exact ⟨fun C hC => excCB_of (e C hC).1, fun C hC C' hC' => (e C hC).2.1 C' hC', fun C hC => (e C hC).2.2⟩
theorem smB_of (e : smB K = true) : ∃ o, K.lookup sysModules = some o ∧ o.cls = .type "dict" := by
  unfold smB at e
  split at e
  · rename_i o q
    exact ⟨o, q, beq_iff_eq.mp e⟩
  · cases e
end
end TB
namespace TB
open PySem PySem.Spec PyProof.Rows L2
def FunA (K : PySem.W.Frag) (x qual : Str) (st : Stmt) (f : Addr) : Prop := ∃ fd, L2.Fun K x qual st f fd
def FunC (K : PySem.W.Frag) (x qual : Str) (st : Stmt) (f : Addr) (cdv : Value) : Prop := ∃ fd, L2.Fun K x qual st f fd ∧ fd.code = cdv
section
variable {K : PySem.W.Frag} {h : Heap} {mg : Str → Option Value} {x qual : Str} {st : Stmt} {f : Addr} {oc : Value} {od an : Option Addr} {osl : Array (Option Value)} {kV doc pm cdv ct : Value}
theorem FunA.mk (l : K.lookup f = some ⟨oc, od, .func (PySem.W.fnOf x qual (defArgs st) (defBody st) (defScope st) .none kV doc pm an cdv ct), osl⟩) (c : PySem.W.codeIn K cdv qual = true) (k : PySem.W.keepIn K (.ref f) = true) : FunA K x qual st f := ⟨_, fun_mk l c k⟩
theorem FunC.mk (l : K.lookup f = some ⟨oc, od, .func (PySem.W.fnOf x qual (defArgs st) (defBody st) (defScope st) .none kV doc pm an cdv ct), osl⟩) (c : PySem.W.codeIn K cdv qual = true) (k : PySem.W.keepIn K (.ref f) = true) : FunC K x qual st f cdv := ⟨_, fun_mk l c k, rfl⟩
theorem defB_g (X : K.In h) (G : h.Ns mainGlobals mg) (e : defB K x f = true) : mg x = some (.ref f) := by
  unfold defB at e
  rw [Bool.and_eq_true] at e
  exact nB_of X G e.1
theorem defB_k (e : defB K x f = true) : PySem.W.keepIn K (.ref f) = true := by
  unfold defB at e
  rw [Bool.and_eq_true] at e
  exact e.2
end
/-- a law's promise at the script -/
theorem law_sp {K : PySem.W.Frag} {T0 : List (Addr × Str)} {cs : List (Addr × Addr)} {F : Fn} {H : Hp} {a : Addr} {ns : List Int} (ht : (T0.all fun p => cs.any fun q => Nat.beq q.2 p.1) = true) (hH : ∀ p ∈ cs, H p.2 = some (.tbl #[])) (hS : SqL K H a (ns.map V.int))
    (h : ∃ M', F [.node .klst (ns.map D.int)] [] = .ok (.bl true) M') : spF T0 K 1 F [.ref a] H (fun v _ => v = .bl true) fun _ _ _ => False := by
  obtain ⟨M', e⟩ := h
  have dps : ∀ (ρ : List Addr) (ns : List Int), DPs K ρ H (ns.map D.int) (ns.map V.int) := fun ρ ns => by
    induction ns with
    | nil => rfl
    | cons n ns ih => exact ⟨.int n, ns.map V.int, rfl, rfl, ih⟩
  have na : NodeAt K [] H a .klst (ns.map V.int) := by
    rcases hS with (h | ⟨o, h⟩) | ⟨o, its, n, h⟩
    · exact .inl ⟨_, by simp, Rq.of h, rfl⟩
    · exact .inl ⟨_, by simp, Rq.of h, rfl⟩
    · exact .inr fun H' => .inr ⟨o, its, n, h⟩
  refine ⟨rfl, ⟨[], []⟩, [.node .klst (ns.map D.int)], ⟨List.nodup_nil, fun n a t xs h => by simp at h, fun a ha => by simp at ha⟩, fun p hp => ?_, .cons ⟨a, _, rfl, na, dps _ ns⟩ .nil, ?_⟩
  · obtain ⟨q, hq, e⟩ := List.any_eq_true.mp (List.all_eq_true.mp ht p hp)
    refine ⟨#[], ?_, ?_, ?_⟩
    · rw [← Nat.eq_of_beq_eq_true e]; exact hH q hq
    · exact trivial
    · intro pos cv h
      cases h
  · show Po _ T0 K ⟨[], []⟩ H (F [.node .klst (ns.map D.int)] []) _
    rw [e]
    intro A' H' v _ _ _ d
    exact d
end TB

set_option Elab.async false
set_option linter.all false
set_option maxRecDepth 100000
set_option maxHeartbeats 4000000
namespace Lw
open PySem L2 TB
abbrev top (i : Nat) : Stmt := PySem.Challenge.pw_toldbyrest_k09_errors_of_fillings.main.body.getD i (.Pass ⟨0, 0, 0, 0⟩)
/-- where the defs and classes stand -/
structure Ad where
  f_is_integer : Addr
  f_is_name : Addr
  f_is_column : Addr
  f_is_table : Addr
  f_are_values : Addr
  f_is_row : Addr
  f_are_lists : Addr
  f_are_rows : Addr
  f_check_rows : Addr
  f_spot_of : Addr
  f_values_in : Addr
  f_is_has : Addr
  f_is_known : Addr
  f_seen_values : Addr
  f_met_by : Addr
  f_is_rule : Addr
  f_is_book : Addr
  f_check_book : Addr
  f_breaches : Addr
  f_does_keep : Addr
  f_keeps : Addr
  f_are_places : Addr
  f_is_place : Addr
  f_check_lacking : Addr
  f_bared : Addr
  f_bare : Addr
  f_is_bare_row : Addr
  f_are_known_bare : Addr
  f_are_bare : Addr
  f_check_bare : Addr
  f_is_filling : Addr
  f_gaps_in : Addr
  f_filled : Addr
  f_all_fillings : Addr
  f_fillings : Addr
  f_how_many : Addr
  f_agreed : Addr
  f_sure : Addr
  f__law_pen : Addr
  f__law_next : Addr
  f__law_draw : Addr
  f__law_schema : Addr
  f__law_books : Addr
  f__law_gaps : Addr
  f__law_word : Addr
  f__law_pick : Addr
  f__law_first : Addr
  f__law_rows_here : Addr
  f__law_calls_right : Addr
  f_law : Addr
  f_Schema___init__ : Addr
  f_Schema_tables : Addr
  f_Schema_flag_places : Addr
  f_Schema_check_table : Addr
  f_Schema_columns : Addr
  f_Schema_flags : Addr
  f_Schema_kind_of : Addr
  f_Schema_places : Addr
  f_Schema___eq__ : Addr
  p_Schema_tables : Addr
  p_Schema_flag_places : Addr
  C_ToldError : Addr
  C_InvalidBook : Addr
  C_InvalidCondition : Addr
  C_InvalidKept : Addr
  C_InvalidKind : Addr
  C_InvalidLacking : Addr
  C_InvalidNumber : Addr
  C_InvalidRows : Addr
  C_InvalidSchema : Addr
  C_UnknownFlag : Addr
  C_UnknownRow : Addr
  C_UnknownTable : Addr
  C_Schema : Addr
  kc__law_calls_right : Addr
  kt__law_calls_right : Addr
def Ad.Er (a : Ad) : List Addr := [a.C_ToldError, a.C_InvalidBook, a.C_InvalidCondition, a.C_InvalidKept, a.C_InvalidKind, a.C_InvalidLacking, a.C_InvalidNumber, a.C_InvalidRows, a.C_InvalidSchema, a.C_UnknownFlag, a.C_UnknownRow, a.C_UnknownTable]
def Ad.isE (a : Ad) (C C' : Addr) : Bool := ([(a.C_ToldError, a.C_ToldError), (a.C_InvalidBook, a.C_InvalidBook), (a.C_InvalidBook, a.C_ToldError), (a.C_InvalidCondition, a.C_InvalidCondition), (a.C_InvalidCondition, a.C_ToldError), (a.C_InvalidKept, a.C_InvalidKept), (a.C_InvalidKept, a.C_ToldError), (a.C_InvalidKind, a.C_InvalidKind), (a.C_InvalidKind, a.C_ToldError), (a.C_InvalidLacking, a.C_InvalidLacking), (a.C_InvalidLacking, a.C_ToldError), (a.C_InvalidNumber, a.C_InvalidNumber), (a.C_InvalidNumber, a.C_ToldError), (a.C_InvalidRows, a.C_InvalidRows), (a.C_InvalidRows, a.C_ToldError), (a.C_InvalidSchema, a.C_InvalidSchema), (a.C_InvalidSchema, a.C_ToldError), (a.C_UnknownFlag, a.C_UnknownFlag), (a.C_UnknownFlag, a.C_ToldError), (a.C_UnknownRow, a.C_UnknownRow), (a.C_UnknownRow, a.C_ToldError), (a.C_UnknownTable, a.C_UnknownTable), (a.C_UnknownTable, a.C_ToldError)] : List (Addr × Addr)).any fun p => Nat.beq p.1 C && Nat.beq p.2 C'
def Ad.told (a : Ad) (C : Addr) : Bool := a.Er.any fun x => Nat.beq x C
def Ad.Cl (a : Ad) : List Addr := [a.C_Schema]
def d_RESERVED : D := .node .ktp [.str "and", .str "or", .str "not", .str "has", .str "yes", .str "flag"]
structure Tx (P : Program) (K : PySem.W.Frag) (mg : Str → Option Value) (base : Heap) (a : Ad) : Prop where
  z_isinstance : mg "isinstance" = none
  z_len : mg "len" = none
  z_all : mg "all" = none
  z_sorted : mg "sorted" = none
  z_repr : mg "repr" = none
  z_range : mg "range" = none
  z_enumerate : mg "enumerate" = none
  z_zip : mg "zip" = none
  z_int : mg "int" = none
  z_bool : mg "bool" = none
  z_str : mg "str" = none
  z_tuple : mg "tuple" = none
  z_list : mg "list" = none
  z_dict : mg "dict" = none
  z_set : mg "set" = none
  z_ValueError : mg "ValueError" = none
  n_LETTERS : ∃ t, mg "LETTERS" = some (.str "abcdefghijklmnopqrstuvwxyz" t)
  n_RESERVED : ∃ b, mg "RESERVED" = some (.ref b) ∧ ∀ ρ H, DP K ρ H d_RESERVED (.ref b)
  n_MOST_TABLES : ∃ t, mg "MOST_TABLES" = some (.int 4 t)
  n_MOST_COLUMNS : ∃ t, mg "MOST_COLUMNS" = some (.int 3 t)
  n_MOST_FLAGS : ∃ t, mg "MOST_FLAGS" = some (.int 3 t)
  n_MOST_LETTERS : ∃ t, mg "MOST_LETTERS" = some (.int 8 t)
  n_MOST_RULES : ∃ t, mg "MOST_RULES" = some (.int 6 t)
  n_Schema : mg "Schema" = some (.ref a.C_Schema)
  r_ToldError : ErrK K mg "ToldError" a.C_ToldError
  r_InvalidBook : ErrK K mg "InvalidBook" a.C_InvalidBook
  r_InvalidCondition : ErrK K mg "InvalidCondition" a.C_InvalidCondition
  r_InvalidKept : ErrK K mg "InvalidKept" a.C_InvalidKept
  r_InvalidKind : ErrK K mg "InvalidKind" a.C_InvalidKind
  r_InvalidLacking : ErrK K mg "InvalidLacking" a.C_InvalidLacking
  r_InvalidNumber : ErrK K mg "InvalidNumber" a.C_InvalidNumber
  r_InvalidRows : ErrK K mg "InvalidRows" a.C_InvalidRows
  r_InvalidSchema : ErrK K mg "InvalidSchema" a.C_InvalidSchema
  r_UnknownFlag : ErrK K mg "UnknownFlag" a.C_UnknownFlag
  r_UnknownRow : ErrK K mg "UnknownRow" a.C_UnknownRow
  r_UnknownTable : ErrK K mg "UnknownTable" a.C_UnknownTable
  c_Schema : Cls K a.C_Schema
  na_Schema_parts : NoAttr K a.C_Schema "parts"
  ik : ∀ C ∈ a.Cl, InsK K C
  er : ErrI K a.Er a.isE
  told : ∀ C, a.told C = true → PySem.W.exmOne K (.ref C) (.ref a.C_ToldError) = some true
  sm : ∃ o es ep, base.get? sysModules = some o ∧ o.data = .dict es ep
section
variable {P : Program} {w : World} {K : PySem.W.Frag} {mg : Str → Option Value} {base : Heap} {TT : List (Addr × Str)}
abbrev s__law_books : Stmt := top 71
theorem sc__law_books : FnScope ["seen", "right", "good", "odd"] [] (defScope s__law_books) := ⟨rfl, rfl, rfl, by decide +kernel, rfl, by decide +kernel, by decide +kernel⟩
def m__law_books (a : Ad) : Fn := runF 0 4 (
  (sSeq (sAsg (mSeq .tup (mCons (mC (.str "has")) (mCons (mC (.str "id")) (mCons (mC (.str "shop")) (mCons (mC (.str "at")) (mCons (mSeq .tup (mCons (mC (.str "flag")) (mCons (mC (.str "open")) mNil))) mNil)))))) (tNm 0))
  (sSeq (sAsg (mSeq .lst (mCons (mSeq .lst mNil) (mCons (mSeq .lst (mCons (mSeq .tup (mCons (mC (.str "town")) (mCons (mVar 0) mNil))) mNil)) (mCons (mSeq .lst (mCons (mSeq .tup (mCons (mC (.str "town")) (mCons (mSeq .tup (mCons (mC (.str "or")) (mCons (mSeq .tup (mCons (mC (.str "flag")) (mCons (mC (.str "busy")) mNil))) (mCons (mVar 0) mNil)))) mNil))) (mCons (mSeq .tup (mCons (mC (.str "shop")) (mCons (mSeq .tup (mCons (mC (.str "not")) (mCons (mSeq .tup (mCons (mC (.str "flag")) (mCons (mC (.str "open")) mNil))) mNil))) mNil))) mNil))) mNil)))) (tNm 1))
  (sSeq (sPar 2 3 (mCons (mSeq .tup (mCons (mC (.str "shop")) (mCons (mSeq .tup (mCons (mC (.str "yes")) mNil)) mNil))) (mCons (mSeq .lst (mCons (mC .non) (mCons (mC (.int 0)) (mCons (mC (.str "")) (mCons (mSeq .tup mNil) (mCons (mC (.node (.dK []) [])) (mCons (mSeq .lst (mCons (mC .non) mNil)) (mCons (mSeq .lst (mCons (mC (.str "x")) mNil)) (mCons (mC (.bl true)) mNil))))))))) mNil)))
  (sSeq (sAsg (mOp gAdd (mVar 3) (mSeq .lst (mCons (mOp gMulX (mSeq .lst (mCons (mVar 2) mNil)) (mC (.int 7))) (mCons (mSeq .tup (mCons (mVar 2) mNil)) (mCons (mVar 2) (mCons (mSeq .lst (mCons (mCall gList (mCons (mVar 2) mNil)) mNil)) (mCons (mSeq .lst (mCons (mVar 2) (mCons (mSeq .tup (mCons (mC (.str "house")) (mCons (mSeq .tup (mCons (mC (.str "yes")) mNil)) mNil))) mNil))) (mCons (mSeq .lst (mCons (mSeq .tup (mCons (mC (.str "shop")) (mCons (mSeq .tup (mCons (mC (.str "flag")) (mCons (mC (.str "busy")) mNil))) mNil))) mNil)) mNil)))))))) (tNm 3))
  (sSeq (sAsg (mOp gAdd (mVar 3) (mSeq .lst (mCons (mSeq .lst (mCons (mSeq .tup (mCons (mC (.str "shop")) mNil)) mNil)) (mCons (mSeq .lst (mCons (mSeq .tup (mCons (mC (.str "shop")) (mCons (mSeq .tup (mCons (mC (.str "yes")) mNil)) (mCons (mC (.int 0)) mNil)))) mNil)) (mCons (mSeq .lst (mCons (mSeq .tup (mCons (mC .non) (mCons (mSeq .tup (mCons (mC (.str "yes")) mNil)) mNil))) mNil)) (mCons (mSeq .lst (mCons (mVar 2) (mCons (mC .non) mNil))) mNil)))))) (tNm 3))
  (sRet (mSeq .tup (mCons (mVar 1) (mCons (mOp gAdd (mVar 3) (mSeq .lst (mCons (mSeq .lst (mCons (mVar 2) (mCons (mSeq .tup (mCons (mC (.str "town")) (mCons (mSeq .tup (mCons (mC (.str "not")) (mCons (mC (.str "yes")) mNil))) mNil))) mNil))) mNil))) mNil))))))))))
theorem ok__law_books {a : Ad} (T : Tx P K mg base a)  {f : Addr} {fd : FuncData} (F : L2.Fun K "_law_books" "_law_books" s__law_books f fd) : FnG P w K mg base TT 1 f fd [] (m__law_books a) :=
  F.okG sc__law_books fun cdv A outer s H E hr c =>
  (s_seq (s_set (ps_set (i := 0) sc__law_books.nd rfl (Or.inl rfl) (e_tup (a_cons e_str (a_cons e_str (a_cons e_str (a_cons e_str (a_cons (e_tup (a_cons e_str (a_cons e_str a_nil))) a_nil))))))))
  (s_seq (s_set (ps_set (i := 1) sc__law_books.nd rfl (Or.inl rfl) (e_lst (a_cons (e_lst a_nil) (a_cons (e_lst (a_cons (e_tup (a_cons e_str (a_cons (e_var (pv 0)) a_nil))) a_nil)) (a_cons (e_lst (a_cons (e_tup (a_cons e_str (a_cons (e_tup (a_cons e_str (a_cons (e_tup (a_cons e_str (a_cons e_str a_nil))) (a_cons (e_var (pv 0)) a_nil)))) a_nil))) (a_cons (e_tup (a_cons e_str (a_cons (e_tup (a_cons e_str (a_cons (e_tup (a_cons e_str (a_cons e_str a_nil))) a_nil))) a_nil))) a_nil))) a_nil))))))
  (s_seq (s_par (ps_par (by rfl) sc__law_books.nd rfl rfl (by decide) rfl rfl (a_cons (e_tup (a_cons e_str (a_cons (e_tup (a_cons e_str a_nil)) a_nil))) (a_cons (e_lst (a_cons e_non (a_cons e_int (a_cons e_str (a_cons (e_tup a_nil) (a_cons e_dict0 (a_cons (e_lst (a_cons e_non a_nil)) (a_cons (e_lst (a_cons e_str a_nil)) (a_cons e_bl a_nil))))))))) a_nil)) (by rfl)))
  (s_seq (s_set (ps_set (i := 3) sc__law_books.nd rfl (Or.inl rfl) (e_op op_gAdd (e_var (pv 3)) (e_lst (a_cons (e_op op_gMulX (e_lst (a_cons (e_var (pv 2)) a_nil)) e_int) (a_cons (e_tup (a_cons (e_var (pv 2)) a_nil)) (a_cons (e_var (pv 2)) (a_cons (e_lst (a_cons (e_callTy (call_gList c) (by rfl) T.z_list (by decide +kernel) (a_cons (e_var (pv 2)) a_nil)) a_nil)) (a_cons (e_lst (a_cons (e_var (pv 2)) (a_cons (e_tup (a_cons e_str (a_cons (e_tup (a_cons e_str a_nil)) a_nil))) a_nil))) (a_cons (e_lst (a_cons (e_tup (a_cons e_str (a_cons (e_tup (a_cons e_str (a_cons e_str a_nil))) a_nil))) a_nil)) a_nil))))))))))
  (s_seq (s_set (ps_set (i := 3) sc__law_books.nd rfl (Or.inl rfl) (e_op op_gAdd (e_var (pv 3)) (e_lst (a_cons (e_lst (a_cons (e_tup (a_cons e_str a_nil)) a_nil)) (a_cons (e_lst (a_cons (e_tup (a_cons e_str (a_cons (e_tup (a_cons e_str a_nil)) (a_cons e_int a_nil)))) a_nil)) (a_cons (e_lst (a_cons (e_tup (a_cons e_non (a_cons (e_tup (a_cons e_str a_nil)) a_nil))) a_nil)) (a_cons (e_lst (a_cons (e_var (pv 2)) (a_cons e_non a_nil))) a_nil))))))))
  (s_one (s_ret (e_tup (a_cons (e_var (pv 1)) (a_cons (e_op op_gAdd (e_var (pv 3)) (e_lst (a_cons (e_lst (a_cons (e_var (pv 2)) (a_cons (e_tup (a_cons e_str (a_cons (e_tup (a_cons e_str (a_cons e_str a_nil))) a_nil))) a_nil))) a_nil))) a_nil))))))))))

abbrev s__law_word : Stmt := top 73
theorem sc__law_word : FnScope ["act", "caught", "kinds", "words", "e"] ["act"] (defScope s__law_word) := ⟨rfl, rfl, rfl, by decide +kernel, rfl, by decide +kernel, by decide +kernel⟩
def w__law_word (a : Ad) : D → Mem → R D := runW (
  (sSeq (sIf (mOp gIs (mVar 1) (mC .non)) (sRet (mC (.str ""))) sNil)
  (sSeq (sAsg (mSeq .lst (mCons (mCall (gIsA a.Cl a.Er a.isE) (mCons (mVar 1) (mCons (mC (.cls a.C_InvalidBook)) mNil))) (mCons (mCall (gIsA a.Cl a.Er a.isE) (mCons (mVar 1) (mCons (mC (.cls a.C_InvalidLacking)) mNil))) (mCons (mCall (gIsA a.Cl a.Er a.isE) (mCons (mVar 1) (mCons (mC (.cls a.C_InvalidRows)) mNil))) mNil)))) (tNm 2))
  (sSeq (sAsg (mOp gAdd (mVar 2) (mSeq .lst (mCons (mCall (gIsA a.Cl a.Er a.isE) (mCons (mVar 1) (mCons (mC (.cls a.C_UnknownTable)) mNil))) (mCons (mCall (gIsA a.Cl a.Er a.isE) (mCons (mVar 1) (mCons (mC (.cls a.C_UnknownFlag)) mNil))) (mCons (mCall (gIsA a.Cl a.Er a.isE) (mCons (mVar 1) (mCons (mC (.cls a.C_UnknownRow)) mNil))) mNil))))) (tNm 2))
  (sSeq (sAsg (mOp gAdd (mVar 2) (mSeq .lst (mCons (mCall (gIsA a.Cl a.Er a.isE) (mCons (mVar 1) (mCons (mC (.cls a.C_InvalidCondition)) mNil))) (mCons (mCall (gIsA a.Cl a.Er a.isE) (mCons (mVar 1) (mCons (mC (.cls a.C_InvalidKept)) mNil))) mNil)))) (tNm 2))
  (sSeq (sAsg (mOp gAdd (mVar 2) (mSeq .lst (mCons (mCall (gIsA a.Cl a.Er a.isE) (mCons (mVar 1) (mCons (mC (.cls a.C_InvalidNumber)) mNil))) (mCons (mCall (gIsA a.Cl a.Er a.isE) (mCons (mVar 1) (mCons (mC (.cls a.C_InvalidKind)) mNil))) mNil)))) (tNm 2))
  (sSeq (sIf (mOr (mOp gNe (mCnt (mVar 2) (mCons (mC (.bl true)) mNil)) (mC (.int 1))) (mNot (mCall (gIsA a.Cl a.Er a.isE) (mCons (mVar 1) (mCons (mC (.ty .ve)) mNil))))) (sRet (mC (.str "odd"))) sNil)
  (sSeq (sAsg (mSeq .lst (mCons (mC (.str "book")) (mCons (mC (.str "lacking")) (mCons (mC (.str "rows")) (mCons (mC (.str "table")) (mCons (mC (.str "flag")) (mCons (mC (.str "row")) (mCons (mC (.str "condition")) (mCons (mC (.str "kept")) (mCons (mC (.str "number")) (mCons (mC (.str "kind")) mNil))))))))))) (tNm 3))
  (sRet (mOp gIx (mVar 3) (mIdx (mVar 2) (mCons (mC (.bl true)) mNil)))))))))))) 5 1
theorem ok__law_word {a : Ad} (T : Tx P K mg base a)  {f : Addr} {fd : FuncData} (F : L2.Fun K "_law_word" "_law_word" s__law_word f fd) (hb : Binds K fd ["act"] []) (g : mg "_law_word" = some (.ref f)) : Wd P w K mg base TT "_law_word" "act" 1 f a.told (w__law_word a) :=
  Wd.of (tn := "ToldError") (c := "caught") (e := "e") (ic := 1) (ie := 4) F sc__law_word hb g rfl rfl (.inl rfl) rfl rfl (by decide) (by decide) (by decide +kernel) (by decide +kernel) (by decide +kernel) T.r_ToldError.g T.told fun cdv A outer s H hr c =>
  (s_seq (s_if (t_cmp op_gIs (e_var (pv 1)) e_non (nomark _)) (s_one (s_ret e_str)) s_nil)
  (s_seq (s_set (ps_set (i := 2) sc__law_word.nd rfl (Or.inl rfl) (e_lst (a_cons (e_callB (call_gIsA T.ik T.er) (by rfl) T.z_isinstance (by decide +kernel) (a_cons (e_var (pv 1)) (a_cons (e_clsn (by rfl) T.r_InvalidBook.g) a_nil))) (a_cons (e_callB (call_gIsA T.ik T.er) (by rfl) T.z_isinstance (by decide +kernel) (a_cons (e_var (pv 1)) (a_cons (e_clsn (by rfl) T.r_InvalidLacking.g) a_nil))) (a_cons (e_callB (call_gIsA T.ik T.er) (by rfl) T.z_isinstance (by decide +kernel) (a_cons (e_var (pv 1)) (a_cons (e_clsn (by rfl) T.r_InvalidRows.g) a_nil))) a_nil))))))
  (s_seq (s_set (ps_set (i := 2) sc__law_word.nd rfl (Or.inl rfl) (e_op op_gAdd (e_var (pv 2)) (e_lst (a_cons (e_callB (call_gIsA T.ik T.er) (by rfl) T.z_isinstance (by decide +kernel) (a_cons (e_var (pv 1)) (a_cons (e_clsn (by rfl) T.r_UnknownTable.g) a_nil))) (a_cons (e_callB (call_gIsA T.ik T.er) (by rfl) T.z_isinstance (by decide +kernel) (a_cons (e_var (pv 1)) (a_cons (e_clsn (by rfl) T.r_UnknownFlag.g) a_nil))) (a_cons (e_callB (call_gIsA T.ik T.er) (by rfl) T.z_isinstance (by decide +kernel) (a_cons (e_var (pv 1)) (a_cons (e_clsn (by rfl) T.r_UnknownRow.g) a_nil))) a_nil)))))))
  (s_seq (s_set (ps_set (i := 2) sc__law_word.nd rfl (Or.inl rfl) (e_op op_gAdd (e_var (pv 2)) (e_lst (a_cons (e_callB (call_gIsA T.ik T.er) (by rfl) T.z_isinstance (by decide +kernel) (a_cons (e_var (pv 1)) (a_cons (e_clsn (by rfl) T.r_InvalidCondition.g) a_nil))) (a_cons (e_callB (call_gIsA T.ik T.er) (by rfl) T.z_isinstance (by decide +kernel) (a_cons (e_var (pv 1)) (a_cons (e_clsn (by rfl) T.r_InvalidKept.g) a_nil))) a_nil))))))
  (s_seq (s_set (ps_set (i := 2) sc__law_word.nd rfl (Or.inl rfl) (e_op op_gAdd (e_var (pv 2)) (e_lst (a_cons (e_callB (call_gIsA T.ik T.er) (by rfl) T.z_isinstance (by decide +kernel) (a_cons (e_var (pv 1)) (a_cons (e_clsn (by rfl) T.r_InvalidNumber.g) a_nil))) (a_cons (e_callB (call_gIsA T.ik T.er) (by rfl) T.z_isinstance (by decide +kernel) (a_cons (e_var (pv 1)) (a_cons (e_clsn (by rfl) T.r_InvalidKind.g) a_nil))) a_nil))))))
  (s_seq (s_if (PW.pt (w_or (t_cmp (op_gNe c) (e_count c (e_var (pv 2)) (a_cons e_bl a_nil)) e_int (nomark _)) (w_or1 (t_not (t_val (e_callB (call_gIsA T.ik T.er) (by rfl) T.z_isinstance (by decide +kernel) (a_cons (e_var (pv 1)) (a_cons (e_bltn (t := .ve) (by rfl) T.z_ValueError (by decide +kernel) rfl) a_nil)))))))) (s_one (s_ret e_str)) s_nil)
  (s_seq (s_set (ps_set (i := 3) sc__law_word.nd rfl (Or.inl rfl) (e_lst (a_cons e_str (a_cons e_str (a_cons e_str (a_cons e_str (a_cons e_str (a_cons e_str (a_cons e_str (a_cons e_str (a_cons e_str (a_cons e_str a_nil)))))))))))))
  (s_one (s_ret (e_ix c (e_var (pv 3)) (e_index c (e_var (pv 2)) (a_cons e_bl a_nil)) (fun _ _ => rfl)))))))))))

abbrev s_Schema_tables : Stmt := L2.inClass (top 25) 1
theorem sc_Schema_tables : FnScope ["self"] ["self"] (defScope s_Schema_tables) := ⟨rfl, rfl, rfl, by decide +kernel, rfl, by decide +kernel, by decide +kernel⟩
def m_Schema_tables (a : Ad) : Fn := runF 1 1 (
  (sRet (mCall gList (mCons (mFld a.C_Schema "parts" (mVar 0)) mNil))))
theorem ok_Schema_tables {a : Ad} (T : Tx P K mg base a)  {f : Addr} {fd : FuncData} (F : L2.Fun K "tables" "Schema.tables" s_Schema_tables f fd) : FnG P w K mg base TT 1 f fd ["self"] (m_Schema_tables a) :=
  F.okG sc_Schema_tables fun cdv A outer s H E hr c =>
  (s_one (s_ret (e_callTy (call_gList c) (by rfl) T.z_list (by decide +kernel) (a_cons (e_fld (e_var (pv 0)) T.c_Schema T.na_Schema_parts (by rfl)) a_nil))))

abbrev s_is_name : Stmt := top 22
theorem sc_is_name : FnScope ["thing", "letter"] ["thing"] (defScope s_is_name) := ⟨rfl, rfl, rfl, by decide +kernel, rfl, by decide +kernel, by decide +kernel⟩
def m_is_name (a : Ad) : Fn := runF 1 2 (
  (sSeq (sIf (mOr (mNot (mCall (gIsA a.Cl a.Er a.isE) (mCons (mVar 0) (mCons (mC (.ty .str)) mNil)))) (mOr (mNot (mChain gLe gLe (mC (.int 1)) (mCall gLen (mCons (mVar 0) mNil)) (mC (.int 8)))) (mOp gIn (mVar 0) (mC d_RESERVED)))) (sRet (mC (.bl false))) sNil)
  (sRet (mCall gAll (mCons (mLc (itAny (mVar 0)) (tNm 1) (mC (.bl true)) (mOp gIn (mVar 1) (mC (.str "abcdefghijklmnopqrstuvwxyz"))) [1]) mNil)))))
theorem ok_is_name {a : Ad} (T : Tx P K mg base a)  {f : Addr} {fd : FuncData} (F : L2.Fun K "is_name" "is_name" s_is_name f fd) : FnG P w K mg base TT 1 f fd ["thing"] (m_is_name a) :=
  F.okG sc_is_name fun cdv A outer s H E hr c =>
  (s_seq (s_if (PW.pt (w_or (t_not (t_val (e_callB (call_gIsA T.ik T.er) (by rfl) T.z_isinstance (by decide +kernel) (a_cons (e_var (pv 0)) (a_cons (e_bltn (t := .str) (by rfl) T.z_str (by decide +kernel) rfl) a_nil))))) (w_or (t_not (t_chain op_gLe op_gLe e_int (e_callB call_gLen (by rfl) T.z_len (by decide +kernel) (a_cons (e_var (pv 0)) a_nil)) (e_cint T.n_MOST_LETTERS (by rfl)))) (w_or1 (t_cmp (op_gIn c) (e_var (pv 0)) (e_ctup T.n_RESERVED (by rfl)) (by rfl)))))) (s_one (s_ret e_bl)) s_nil)
  (s_one (s_ret (e_callB (call_gAll c) (by rfl) T.z_all (by decide +kernel) (a_cons (e_lc (lb := true) (own := [("letter", 1)]) c (i_any (e_var (pv 0))) (blkOk_by (own := [("letter", 1)]) (N := ["thing", "letter"]) (sc := defScope s_is_name) (by decide +kernel)) (fun _ _ _ _ _ => (pg_name (i := 1) sc_is_name.nd rfl (Or.inl rfl))) tg_nm (by decide) (fun _ _ _ _ _ => ts_nil) (fun _ _ _ _ _ => (e_cmp (op_gIn c.blk) (e_var (pv 1)) (e_cstr T.n_LETTERS (by rfl)) (by rfl)))) a_nil)))))

abbrev s_Schema_check_table : Stmt := L2.inClass (top 25) 3
theorem sc_Schema_check_table : FnScope ["self", "table"] ["self", "table"] (defScope s_Schema_check_table) := ⟨rfl, rfl, rfl, by decide +kernel, rfl, by decide +kernel, by decide +kernel⟩
def m_Schema_check_table (a : Ad) : Fn := runF 2 2 (
  (sIf (mOr (mNot (mCall (gAuto (m_is_name a)) (mCons (mVar 1) mNil))) (mOp gNin (mVar 1) (mFld a.C_Schema "parts" (mVar 0)))) (sRaise a.C_UnknownTable) sNil))
theorem ok_Schema_check_table {a : Ad} (T : Tx P K mg base a) (D_is_name : Df P w K mg base TT "is_name" 1 a.f_is_name ["thing"] (m_is_name a)) {f : Addr} {fd : FuncData} (F : L2.Fun K "check_table" "Schema.check_table" s_Schema_check_table f fd) : FnG P w K mg base TT 2 f fd ["self", "table"] (m_Schema_check_table a) :=
  F.okG sc_Schema_check_table fun cdv A outer s H E hr c =>
  (s_one (s_if (PW.pt (w_or (t_not (t_val (e_defA D_is_name c hr (by decide) (by rfl) (a_cons (e_var (pv 1)) a_nil)))) (w_or1 (t_cmp (op_gNin c) (e_var (pv 1)) (e_fld (e_var (pv 0)) T.c_Schema T.na_Schema_parts (by rfl)) (by rfl))))) (s_one (s_raise c (T.r_UnknownTable.mk_ (by rfl)))) s_nil))

abbrev s_Schema_columns : Stmt := L2.inClass (top 25) 4
theorem sc_Schema_columns : FnScope ["self", "table"] ["self", "table"] (defScope s_Schema_columns) := ⟨rfl, rfl, rfl, by decide +kernel, rfl, by decide +kernel, by decide +kernel⟩
def m_Schema_columns (a : Ad) : Fn := runF 2 2 (
  (sSeq (sExpr (mMeth a.C_Schema "check_table" (gAuto (m_Schema_check_table a)) (mVar 0) (mCons (mVar 1) mNil)))
  (sRet (mOp gIx (mOp gIx (mFld a.C_Schema "parts" (mVar 0)) (mVar 1)) (mC (.int 0))))))
theorem ok_Schema_columns {a : Ad} (T : Tx P K mg base a) (D_Schema_check_table : Dm P w K mg base TT a.C_Schema "check_table" 2 a.f_Schema_check_table ["self", "table"] (m_Schema_check_table a)) {f : Addr} {fd : FuncData} (F : L2.Fun K "columns" "Schema.columns" s_Schema_columns f fd) : FnG P w K mg base TT 3 f fd ["self", "table"] (m_Schema_columns a) :=
  F.okG sc_Schema_columns fun cdv A outer s H E hr c =>
  (s_seq (s_expr (e_methA D_Schema_check_table c hr (by decide) (e_var (pv 0)) (a_cons (e_var (pv 1)) a_nil)))
  (s_one (s_ret (e_ix c (e_ix c (e_fld (e_var (pv 0)) T.c_Schema T.na_Schema_parts (by rfl)) (e_var (pv 1)) (fun _ _ => rfl)) e_int (fun _ _ => rfl)))))

abbrev s_Schema_flags : Stmt := L2.inClass (top 25) 5
theorem sc_Schema_flags : FnScope ["self", "table"] ["self", "table"] (defScope s_Schema_flags) := ⟨rfl, rfl, rfl, by decide +kernel, rfl, by decide +kernel, by decide +kernel⟩
def m_Schema_flags (a : Ad) : Fn := runF 2 2 (
  (sSeq (sExpr (mMeth a.C_Schema "check_table" (gAuto (m_Schema_check_table a)) (mVar 0) (mCons (mVar 1) mNil)))
  (sRet (mOp gIx (mOp gIx (mFld a.C_Schema "parts" (mVar 0)) (mVar 1)) (mC (.int 1))))))
theorem ok_Schema_flags {a : Ad} (T : Tx P K mg base a) (D_Schema_check_table : Dm P w K mg base TT a.C_Schema "check_table" 2 a.f_Schema_check_table ["self", "table"] (m_Schema_check_table a)) {f : Addr} {fd : FuncData} (F : L2.Fun K "flags" "Schema.flags" s_Schema_flags f fd) : FnG P w K mg base TT 3 f fd ["self", "table"] (m_Schema_flags a) :=
  F.okG sc_Schema_flags fun cdv A outer s H E hr c =>
  (s_seq (s_expr (e_methA D_Schema_check_table c hr (by decide) (e_var (pv 0)) (a_cons (e_var (pv 1)) a_nil)))
  (s_one (s_ret (e_ix c (e_ix c (e_fld (e_var (pv 0)) T.c_Schema T.na_Schema_parts (by rfl)) (e_var (pv 1)) (fun _ _ => rfl)) e_int (fun _ _ => rfl)))))

abbrev s_is_integer : Stmt := top 21
theorem sc_is_integer : FnScope ["thing"] ["thing"] (defScope s_is_integer) := ⟨rfl, rfl, rfl, by decide +kernel, rfl, by decide +kernel, by decide +kernel⟩
def m_is_integer (a : Ad) : Fn := runF 1 1 (
  (sRet (mAnd (mCall (gIsA a.Cl a.Er a.isE) (mCons (mVar 0) (mCons (mC (.ty .int)) mNil))) (mNot (mCall (gIsA a.Cl a.Er a.isE) (mCons (mVar 0) (mCons (mC (.ty .bl)) mNil)))))))
theorem ok_is_integer {a : Ad} (T : Tx P K mg base a)  {f : Addr} {fd : FuncData} (F : L2.Fun K "is_integer" "is_integer" s_is_integer f fd) : FnG P w K mg base TT 1 f fd ["thing"] (m_is_integer a) :=
  F.okG sc_is_integer fun cdv A outer s H E hr c =>
  (s_one (s_ret (e_and (e_callB (call_gIsA T.ik T.er) (by rfl) T.z_isinstance (by decide +kernel) (a_cons (e_var (pv 0)) (a_cons (e_bltn (t := .int) (by rfl) T.z_int (by decide +kernel) rfl) a_nil))) (e_one (e_not (e_callB (call_gIsA T.ik T.er) (by rfl) T.z_isinstance (by decide +kernel) (a_cons (e_var (pv 0)) (a_cons (e_bltn (t := .bl) (by rfl) T.z_bool (by decide +kernel) rfl) a_nil))))))))

abbrev s_is_bare_row : Stmt := top 53
theorem sc_is_bare_row : FnScope ["schema", "table", "lacking", "thing", "part", "values", "flags", "value", "name", "flag"] ["schema", "table", "lacking", "thing"] (defScope s_is_bare_row) := ⟨rfl, rfl, rfl, by decide +kernel, rfl, by decide +kernel, by decide +kernel⟩
def m_is_bare_row (a : Ad) : Fn := runF 4 10 (
  (sSeq (sIf (mOr (mNot (mCall (gIsA a.Cl a.Er a.isE) (mCons (mVar 3) (mCons (mC (.ty .tup)) mNil)))) (mOr (mOp gNe (mCall gLen (mCons (mVar 3) mNil)) (mC (.int 2))) (mNot (mCall gAll (mCons (mLc (itAny (mVar 3)) (tNm 4) (mC (.bl true)) (mCall (gIsA a.Cl a.Er a.isE) (mCons (mVar 4) (mCons (mC (.ty .tup)) mNil))) [4]) mNil))))) (sRet (mC (.bl false))) sNil)
  (sSeq (sAsg (mVar 3) (tTp (tsCons (tNm 5) (tsCons (tNm 6) tsNil))))
  (sSeq (sIf (mOr (mOp gNe (mCall gLen (mCons (mVar 5) mNil)) (mCall gLen (mCons (mMeth a.C_Schema "columns" (gAuto (m_Schema_columns a)) (mVar 0) (mCons (mVar 1) mNil)) mNil))) (mOp gNe (mCall gLen (mCons (mVar 6) mNil)) (mCall gLen (mCons (mMeth a.C_Schema "flags" (gAuto (m_Schema_flags a)) (mVar 0) (mCons (mVar 1) mNil)) mNil)))) (sRet (mC (.bl false))) sNil)
  (sSeq (sIf (mNot (mCall gAll (mCons (mLc (itAny (mVar 5)) (tNm 7) (mC (.bl true)) (mAnd (mCall (gAuto (m_is_integer a)) (mCons (mVar 7) mNil)) (mOp gGe (mVar 7) (mC (.int 0)))) [7]) mNil))) (sRet (mC (.bl false))) sNil)
  (sSeq (sFor (itZipS (mCons (mMeth a.C_Schema "flags" (gAuto (m_Schema_flags a)) (mVar 0) (mCons (mVar 1) mNil)) (mCons (mVar 6) mNil))) (tTp (tsCons (tNm 8) (tsCons (tNm 9) tsNil))) (sIf (mNot (mIf (mOp gIn (mSeq .tup (mCons (mVar 1) (mCons (mVar 8) mNil))) (mVar 2)) (mOp gIs (mVar 9) (mC .non)) (mCall (gIsA a.Cl a.Er a.isE) (mCons (mVar 9) (mCons (mC (.ty .bl)) mNil))))) (sRet (mC (.bl false))) sNil))
  (sRet (mC (.bl true)))))))))
theorem ok_is_bare_row {a : Ad} (T : Tx P K mg base a) (D_Schema_flags : Dm P w K mg base TT a.C_Schema "flags" 3 a.f_Schema_flags ["self", "table"] (m_Schema_flags a)) (D_Schema_columns : Dm P w K mg base TT a.C_Schema "columns" 3 a.f_Schema_columns ["self", "table"] (m_Schema_columns a)) (D_is_integer : Df P w K mg base TT "is_integer" 1 a.f_is_integer ["thing"] (m_is_integer a)) {f : Addr} {fd : FuncData} (F : L2.Fun K "is_bare_row" "is_bare_row" s_is_bare_row f fd) : FnG P w K mg base TT 4 f fd ["schema", "table", "lacking", "thing"] (m_is_bare_row a) :=
  F.okG sc_is_bare_row fun cdv A outer s H E hr c =>
  (s_seq (s_if (PW.pt (w_or (t_not (t_val (e_callB (call_gIsA T.ik T.er) (by rfl) T.z_isinstance (by decide +kernel) (a_cons (e_var (pv 3)) (a_cons (e_bltn (t := .tup) (by rfl) T.z_tuple (by decide +kernel) rfl) a_nil))))) (w_or (t_cmp (op_gNe c) (e_callB call_gLen (by rfl) T.z_len (by decide +kernel) (a_cons (e_var (pv 3)) a_nil)) e_int (nomark _)) (w_or1 (t_not (t_val (e_callB (call_gAll c) (by rfl) T.z_all (by decide +kernel) (a_cons (e_lc (lb := true) (own := [("part", 4)]) c (i_any (e_var (pv 3))) (blkOk_by (own := [("part", 4)]) (N := ["schema", "table", "lacking", "thing", "part", "values", "flags", "value", "name", "flag"]) (sc := defScope s_is_bare_row) (by decide +kernel)) (fun _ _ _ _ _ => (pg_name (i := 4) sc_is_bare_row.nd rfl (Or.inl rfl))) tg_nm (by decide) (fun _ _ _ _ _ => ts_nil) (fun _ _ _ _ _ => (e_callB (call_gIsA T.ik T.er) (by rfl) T.z_isinstance (by decide +kernel) (a_cons (e_var (pv 4)) (a_cons (e_bltn (t := .tup) (by rfl) T.z_tuple (by decide +kernel) rfl) a_nil))))) a_nil)))))))) (s_one (s_ret e_bl)) s_nil)
  (s_seq (s_asg (ps_asg (e_var (pv 3)) (pg_tup rfl (pgs_cons (pg_name (i := 5) sc_is_bare_row.nd rfl (Or.inl rfl)) (pgs_cons (pg_name (i := 6) sc_is_bare_row.nd rfl (Or.inl rfl)) pgs_nil)))) (tg_tp (tgs_cons tg_nm (tgs_cons tg_nm tgs_nil)) (len_cons (len_cons len_nil))))
  (s_seq (s_if (PW.pt (w_or (t_cmp (op_gNe c) (e_callB call_gLen (by rfl) T.z_len (by decide +kernel) (a_cons (e_var (pv 5)) a_nil)) (e_callB call_gLen (by rfl) T.z_len (by decide +kernel) (a_cons (e_methA D_Schema_columns c hr (by decide) (e_var (pv 0)) (a_cons (e_var (pv 1)) a_nil)) a_nil)) (nomark _)) (w_or1 (t_cmp (op_gNe c) (e_callB call_gLen (by rfl) T.z_len (by decide +kernel) (a_cons (e_var (pv 6)) a_nil)) (e_callB call_gLen (by rfl) T.z_len (by decide +kernel) (a_cons (e_methA D_Schema_flags c hr (by decide) (e_var (pv 0)) (a_cons (e_var (pv 1)) a_nil)) a_nil)) (nomark _))))) (s_one (s_ret e_bl)) s_nil)
  (s_seq (s_if (t_not (t_val (e_callB (call_gAll c) (by rfl) T.z_all (by decide +kernel) (a_cons (e_lc (lb := true) (own := [("value", 7)]) c (i_any (e_var (pv 5))) (blkOk_by (own := [("value", 7)]) (N := ["schema", "table", "lacking", "thing", "part", "values", "flags", "value", "name", "flag"]) (sc := defScope s_is_bare_row) (by decide +kernel)) (fun _ _ _ _ _ => (pg_name (i := 7) sc_is_bare_row.nd rfl (Or.inl rfl))) tg_nm (by decide) (fun _ _ _ _ _ => ts_nil) (fun _ _ _ _ _ => (e_and (e_defA D_is_integer c.blk hr (by decide) (by rfl) (a_cons (e_var (pv 7)) a_nil)) (e_one (e_cmp op_gGe (e_var (pv 7)) e_int (nomark _)))))) a_nil)))) (s_one (s_ret e_bl)) s_nil)
  (s_seq (s_for c (L2.passes_of rfl) (i_zipS (by rfl) T.z_zip (a_cons (e_methA D_Schema_flags c hr (by decide) (e_var (pv 0)) (a_cons (e_var (pv 1)) a_nil)) (a_cons (e_var (pv 6)) a_nil))) (pg_tup rfl (pgs_cons (pg_name (i := 8) sc_is_bare_row.nd rfl (Or.inl rfl)) (pgs_cons (pg_name (i := 9) sc_is_bare_row.nd rfl (Or.inl rfl)) pgs_nil))) (tg_tp (tgs_cons tg_nm (tgs_cons tg_nm tgs_nil)) (len_cons (len_cons len_nil))) (s_one (s_if (t_not (t_ifx (t_cmp (op_gIn c) (e_tup (a_cons (e_var (pv 1)) (a_cons (e_var (pv 8)) a_nil))) (e_var (pv 2)) (by rfl)) (t_cmp op_gIs (e_var (pv 9)) e_non (nomark _)) (t_val (e_callB (call_gIsA T.ik T.er) (by rfl) T.z_isinstance (by decide +kernel) (a_cons (e_var (pv 9)) (a_cons (e_bltn (t := .bl) (by rfl) T.z_bool (by decide +kernel) rfl) a_nil)))))) (s_one (s_ret e_bl)) s_nil)))
  (s_one (s_ret e_bl)))))))

abbrev s_are_known_bare : Stmt := top 54
theorem sc_are_known_bare : FnScope ["schema", "lacking", "thing", "table", "row"] ["schema", "lacking", "thing"] (defScope s_are_known_bare) := ⟨rfl, rfl, rfl, by decide +kernel, rfl, by decide +kernel, by decide +kernel⟩
def m_are_known_bare (a : Ad) : Fn := runF 3 5 (
  (sSeq (sIf (mOr (mNot (mCall (gIsA a.Cl a.Er a.isE) (mCons (mVar 2) (mCons (mC (.ty .dct)) mNil)))) (mOp gNe (mCall gLen (mCons (mVar 2) mNil)) (mCall gLen (mCons (mProp a.C_Schema (gFn (m_Schema_tables a)) (mVar 0)) mNil)))) (sRet (mC (.bl false))) sNil)
  (sSeq (sFor (itSeq (mProp a.C_Schema (gFn (m_Schema_tables a)) (mVar 0))) (tNm 3) (sSeq (sIf (mOr (mOp gNin (mVar 3) (mVar 2)) (mNot (mCall (gIsA a.Cl a.Er a.isE) (mCons (mOp gIx (mVar 2) (mVar 3)) (mCons (mC (.ty .lst)) mNil))))) (sRet (mC (.bl false))) sNil)
  (sIf (mNot (mCall gAll (mCons (mLc (itAny (mOp gIx (mVar 2) (mVar 3))) (tNm 4) (mC (.bl true)) (mCall (gAuto (m_is_bare_row a)) (mCons (mVar 0) (mCons (mVar 3) (mCons (mVar 1) (mCons (mVar 4) mNil))))) [4]) mNil))) (sRet (mC (.bl false))) sNil)))
  (sRet (mC (.bl true))))))
theorem ok_are_known_bare {a : Ad} (T : Tx P K mg base a) (D_Schema_tables : Dp' P w K mg base TT a.C_Schema "tables" 1 a.p_Schema_tables a.f_Schema_tables (m_Schema_tables a)) (D_is_bare_row : Df P w K mg base TT "is_bare_row" 4 a.f_is_bare_row ["schema", "table", "lacking", "thing"] (m_is_bare_row a)) {f : Addr} {fd : FuncData} (F : L2.Fun K "are_known_bare" "are_known_bare" s_are_known_bare f fd) : FnG P w K mg base TT 5 f fd ["schema", "lacking", "thing"] (m_are_known_bare a) :=
  F.okG sc_are_known_bare fun cdv A outer s H E hr c =>
  (s_seq (s_if (PW.pt (w_or (t_not (t_val (e_callB (call_gIsA T.ik T.er) (by rfl) T.z_isinstance (by decide +kernel) (a_cons (e_var (pv 2)) (a_cons (e_bltn (t := .dct) (by rfl) T.z_dict (by decide +kernel) rfl) a_nil))))) (w_or1 (t_cmp (op_gNe c) (e_callB call_gLen (by rfl) T.z_len (by decide +kernel) (a_cons (e_var (pv 2)) a_nil)) (e_callB call_gLen (by rfl) T.z_len (by decide +kernel) (a_cons (e_prop D_Schema_tables c hr (by decide) (e_var (pv 0)) (by rfl)) a_nil)) (nomark _))))) (s_one (s_ret e_bl)) s_nil)
  (s_seq (s_for c (L2.passes_of rfl) (i_seq (e_prop D_Schema_tables c hr (by decide) (e_var (pv 0)) (by rfl))) (pg_name (i := 3) sc_are_known_bare.nd rfl (Or.inr rfl)) tg_nm (s_seq (s_if (PW.pt (w_or (t_cmp (op_gNin c) (e_var (pv 3)) (e_var (pv 2)) (by rfl)) (w_or1 (t_not (t_val (e_callB (call_gIsA T.ik T.er) (by rfl) T.z_isinstance (by decide +kernel) (a_cons (e_ix c (e_var (pv 2)) (e_var (pv 3)) (fun _ _ => rfl)) (a_cons (e_bltn (t := .lst) (by rfl) T.z_list (by decide +kernel) rfl) a_nil)))))))) (s_one (s_ret e_bl)) s_nil)
  (s_one (s_if (t_not (t_val (e_callB (call_gAll c) (by rfl) T.z_all (by decide +kernel) (a_cons (e_lc (lb := true) (own := [("row", 4)]) c (i_any (e_ix c (e_var (pv 2)) (e_var (pv 3)) (fun _ _ => rfl))) (blkOk_by (own := [("row", 4)]) (N := ["schema", "lacking", "thing", "table", "row"]) (sc := defScope s_are_known_bare) (by decide +kernel)) (fun _ _ _ _ _ => (pg_name (i := 4) sc_are_known_bare.nd rfl (Or.inl rfl))) tg_nm (by decide) (fun _ _ _ _ _ => ts_nil) (fun _ _ _ _ _ => (e_defA D_is_bare_row c.blk hr (by decide) (by rfl) (a_cons (e_var (pv 0)) (a_cons (e_var (pv 3)) (a_cons (e_var (pv 1)) (a_cons (e_var (pv 4)) a_nil))))))) a_nil)))) (s_one (s_ret e_bl)) s_nil))))
  (s_one (s_ret e_bl))))

abbrev s_Schema_flag_places : Stmt := L2.inClass (top 25) 2
theorem sc_Schema_flag_places : FnScope ["self", "table", "flag"] ["self"] (defScope s_Schema_flag_places) := ⟨rfl, rfl, rfl, by decide +kernel, rfl, by decide +kernel, by decide +kernel⟩
def m_Schema_flag_places (a : Ad) : Fn := runF 1 3 (
  (sRet (mCall gSrt (mCons (mLc2 (itAny (mFld a.C_Schema "parts" (mVar 0))) (tNm 1) (mC (.bl true)) (itSeq (mOp gIx (mOp gIx (mFld a.C_Schema "parts" (mVar 0)) (mVar 1)) (mC (.int 1)))) (tNm 2) (mC (.bl true)) (mSeq .tup (mCons (mVar 1) (mCons (mVar 2) mNil))) [1, 2] [2]) mNil))))
theorem ok_Schema_flag_places {a : Ad} (T : Tx P K mg base a)  {f : Addr} {fd : FuncData} (F : L2.Fun K "flag_places" "Schema.flag_places" s_Schema_flag_places f fd) : FnG P w K mg base TT 1 f fd ["self"] (m_Schema_flag_places a) :=
  F.okG sc_Schema_flag_places fun cdv A outer s H E hr c =>
  (s_one (s_ret (e_callB (call_gSrt c) (by rfl) T.z_sorted (by decide +kernel) (a_cons (e_lc2 (lb := true) (own := [("table", 1), ("flag", 2)]) (vs1 := [2]) c (i_any (e_fld (e_var (pv 0)) T.c_Schema T.na_Schema_parts (by rfl))) (blkOk_by (own := [("table", 1), ("flag", 2)]) (N := ["self", "table", "flag"]) (sc := defScope s_Schema_flag_places) (by decide +kernel)) (by decide) (fun _ _ _ _ _ => (pg_name (i := 1) sc_Schema_flag_places.nd rfl (Or.inl rfl))) tg_nm (by decide) (fun _ _ _ _ _ => ts_nil) (fun _ _ _ _ _ => (i_seq (e_ix c.blk (e_ix c.blk (e_fld (e_var (pv 0)) T.c_Schema T.na_Schema_parts (by rfl)) (e_var (pv 1)) (fun _ _ => rfl)) e_int (fun _ _ => rfl)))) (fun _ _ _ _ _ => (pg_name (i := 2) sc_Schema_flag_places.nd rfl (Or.inl rfl))) tg_nm (by decide) (fun _ _ _ _ _ => ts_nil) (fun _ _ _ _ _ => (e_tup (a_cons (e_var (pv 1)) (a_cons (e_var (pv 2)) a_nil))))) a_nil))))

abbrev s_is_place : Stmt := top 49
theorem sc_is_place : FnScope ["schema", "thing", "name"] ["schema", "thing"] (defScope s_is_place) := ⟨rfl, rfl, rfl, by decide +kernel, rfl, by decide +kernel, by decide +kernel⟩
def m_is_place (a : Ad) : Fn := runF 2 3 (
  (sSeq (sIf (mOr (mNot (mCall (gIsA a.Cl a.Er a.isE) (mCons (mVar 1) (mCons (mC (.ty .tup)) mNil)))) (mOr (mOp gNe (mCall gLen (mCons (mVar 1) mNil)) (mC (.int 2))) (mNot (mCall gAll (mCons (mLc (itAny (mVar 1)) (tNm 2) (mC (.bl true)) (mCall (gIsA a.Cl a.Er a.isE) (mCons (mVar 2) (mCons (mC (.ty .str)) mNil))) [2]) mNil))))) (sRet (mC (.bl false))) sNil)
  (sRet (mOp gIn (mVar 1) (mProp a.C_Schema (gFn (m_Schema_flag_places a)) (mVar 0))))))
theorem ok_is_place {a : Ad} (T : Tx P K mg base a) (D_Schema_flag_places : Dp' P w K mg base TT a.C_Schema "flag_places" 1 a.p_Schema_flag_places a.f_Schema_flag_places (m_Schema_flag_places a)) {f : Addr} {fd : FuncData} (F : L2.Fun K "is_place" "is_place" s_is_place f fd) : FnG P w K mg base TT 3 f fd ["schema", "thing"] (m_is_place a) :=
  F.okG sc_is_place fun cdv A outer s H E hr c =>
  (s_seq (s_if (PW.pt (w_or (t_not (t_val (e_callB (call_gIsA T.ik T.er) (by rfl) T.z_isinstance (by decide +kernel) (a_cons (e_var (pv 1)) (a_cons (e_bltn (t := .tup) (by rfl) T.z_tuple (by decide +kernel) rfl) a_nil))))) (w_or (t_cmp (op_gNe c) (e_callB call_gLen (by rfl) T.z_len (by decide +kernel) (a_cons (e_var (pv 1)) a_nil)) e_int (nomark _)) (w_or1 (t_not (t_val (e_callB (call_gAll c) (by rfl) T.z_all (by decide +kernel) (a_cons (e_lc (lb := true) (own := [("name", 2)]) c (i_any (e_var (pv 1))) (blkOk_by (own := [("name", 2)]) (N := ["schema", "thing", "name"]) (sc := defScope s_is_place) (by decide +kernel)) (fun _ _ _ _ _ => (pg_name (i := 2) sc_is_place.nd rfl (Or.inl rfl))) tg_nm (by decide) (fun _ _ _ _ _ => ts_nil) (fun _ _ _ _ _ => (e_callB (call_gIsA T.ik T.er) (by rfl) T.z_isinstance (by decide +kernel) (a_cons (e_var (pv 2)) (a_cons (e_bltn (t := .str) (by rfl) T.z_str (by decide +kernel) rfl) a_nil))))) a_nil)))))))) (s_one (s_ret e_bl)) s_nil)
  (s_one (s_ret (e_cmp (op_gIn c) (e_var (pv 1)) (e_prop D_Schema_flag_places c hr (by decide) (e_var (pv 0)) (by rfl)) (by rfl)))))

abbrev s_are_places : Stmt := top 48
theorem sc_are_places : FnScope ["schema", "thing", "place"] ["schema", "thing"] (defScope s_are_places) := ⟨rfl, rfl, rfl, by decide +kernel, rfl, by decide +kernel, by decide +kernel⟩
def m_are_places (a : Ad) : Fn := runF 2 3 (
  (sSeq (sIf (mOr (mNot (mCall (gIsA a.Cl a.Er a.isE) (mCons (mVar 1) (mCons (mC (.ty .lst)) mNil)))) (mNot (mCall gAll (mCons (mLc (itAny (mVar 1)) (tNm 2) (mC (.bl true)) (mCall (gAuto (m_is_place a)) (mCons (mVar 0) (mCons (mVar 2) mNil))) [2]) mNil)))) (sRet (mC (.bl false))) sNil)
  (sRet (mOp gEq (mLenSet (mVar 1)) (mCall gLen (mCons (mVar 1) mNil))))))
theorem ok_are_places {a : Ad} (T : Tx P K mg base a) (D_is_place : Df P w K mg base TT "is_place" 3 a.f_is_place ["schema", "thing"] (m_is_place a)) {f : Addr} {fd : FuncData} (F : L2.Fun K "are_places" "are_places" s_are_places f fd) : FnG P w K mg base TT 4 f fd ["schema", "thing"] (m_are_places a) :=
  F.okG sc_are_places fun cdv A outer s H E hr c =>
  (s_seq (s_if (PW.pt (w_or (t_not (t_val (e_callB (call_gIsA T.ik T.er) (by rfl) T.z_isinstance (by decide +kernel) (a_cons (e_var (pv 1)) (a_cons (e_bltn (t := .lst) (by rfl) T.z_list (by decide +kernel) rfl) a_nil))))) (w_or1 (t_not (t_val (e_callB (call_gAll c) (by rfl) T.z_all (by decide +kernel) (a_cons (e_lc (lb := true) (own := [("place", 2)]) c (i_any (e_var (pv 1))) (blkOk_by (own := [("place", 2)]) (N := ["schema", "thing", "place"]) (sc := defScope s_are_places) (by decide +kernel)) (fun _ _ _ _ _ => (pg_name (i := 2) sc_are_places.nd rfl (Or.inl rfl))) tg_nm (by decide) (fun _ _ _ _ _ => ts_nil) (fun _ _ _ _ _ => (e_defA D_is_place c.blk hr (by decide) (by rfl) (a_cons (e_var (pv 0)) (a_cons (e_var (pv 2)) a_nil))))) a_nil))))))) (s_one (s_ret e_bl)) s_nil)
  (s_one (s_ret (e_cmp (op_gEq c) (e_lenSet c (by rfl) T.z_len (by rfl) T.z_set (e_var (pv 1))) (e_callB call_gLen (by rfl) T.z_len (by decide +kernel) (a_cons (e_var (pv 1)) a_nil)) (nomark _)))))

abbrev s_check_lacking : Stmt := top 50
theorem sc_check_lacking : FnScope ["schema", "thing"] ["schema", "thing"] (defScope s_check_lacking) := ⟨rfl, rfl, rfl, by decide +kernel, rfl, by decide +kernel, by decide +kernel⟩
def m_check_lacking (a : Ad) : Fn := runF 2 2 (
  (sIf (mNot (mCall (gAuto (m_are_places a)) (mCons (mVar 0) (mCons (mVar 1) mNil)))) (sRaise a.C_InvalidLacking) sNil))
theorem ok_check_lacking {a : Ad} (T : Tx P K mg base a) (D_are_places : Df P w K mg base TT "are_places" 4 a.f_are_places ["schema", "thing"] (m_are_places a)) {f : Addr} {fd : FuncData} (F : L2.Fun K "check_lacking" "check_lacking" s_check_lacking f fd) : FnG P w K mg base TT 5 f fd ["schema", "thing"] (m_check_lacking a) :=
  F.okG sc_check_lacking fun cdv A outer s H E hr c =>
  (s_one (s_if (t_not (t_val (e_defA D_are_places c hr (by decide) (by rfl) (a_cons (e_var (pv 0)) (a_cons (e_var (pv 1)) a_nil))))) (s_one (s_raise c (T.r_InvalidLacking.mk_ (by rfl)))) s_nil))

abbrev s_are_bare : Stmt := top 55
theorem sc_are_bare : FnScope ["schema", "lacking", "thing"] ["schema", "lacking", "thing"] (defScope s_are_bare) := ⟨rfl, rfl, rfl, by decide +kernel, rfl, by decide +kernel, by decide +kernel⟩
def m_are_bare (a : Ad) : Fn := runF 3 3 (
  (sSeq (sExpr (mCall (gAuto (m_check_lacking a)) (mCons (mVar 0) (mCons (mVar 1) mNil))))
  (sRet (mCall (gAuto (m_are_known_bare a)) (mCons (mVar 0) (mCons (mVar 1) (mCons (mVar 2) mNil)))))))
theorem ok_are_bare {a : Ad} (T : Tx P K mg base a) (D_check_lacking : Df P w K mg base TT "check_lacking" 5 a.f_check_lacking ["schema", "thing"] (m_check_lacking a)) (D_are_known_bare : Df P w K mg base TT "are_known_bare" 5 a.f_are_known_bare ["schema", "lacking", "thing"] (m_are_known_bare a)) {f : Addr} {fd : FuncData} (F : L2.Fun K "are_bare" "are_bare" s_are_bare f fd) : FnG P w K mg base TT 6 f fd ["schema", "lacking", "thing"] (m_are_bare a) :=
  F.okG sc_are_bare fun cdv A outer s H E hr c =>
  (s_seq (s_expr (e_defA D_check_lacking c hr (by decide) (by rfl) (a_cons (e_var (pv 0)) (a_cons (e_var (pv 1)) a_nil))))
  (s_one (s_ret (e_defA D_are_known_bare c hr (by decide) (by rfl) (a_cons (e_var (pv 0)) (a_cons (e_var (pv 1)) (a_cons (e_var (pv 2)) a_nil)))))))

abbrev s_bared : Stmt := top 51
theorem sc_bared : FnScope ["schema", "rows", "lacking", "found", "table", "names", "values", "flags", "some", "name", "flag"] ["schema", "rows", "lacking"] (defScope s_bared) := ⟨rfl, rfl, rfl, by decide +kernel, rfl, by decide +kernel, by decide +kernel⟩
def m_bared (a : Ad) : Fn := runF 3 11 (
  (sSeq (sAsg (mOwn (.dK []) mNil) (tNm 3))
  (sSeq (sFor (itSeq (mProp a.C_Schema (gFn (m_Schema_tables a)) (mVar 0))) (tNm 4) (sSeq (sAsg (mMeth a.C_Schema "flags" (gAuto (m_Schema_flags a)) (mVar 0) (mCons (mVar 4) mNil)) (tNm 5))
  (sSeq (sSet (mOwn .lst mNil) (mVar 3) (mVar 4))
  (sFor (itSeq (mOp gIx (mVar 1) (mVar 4))) (tTp (tsCons (tNm 6) (tsCons (tNm 7) tsNil))) (sSeq (sAsg (mLc (itZipS (mCons (mVar 5) (mCons (mVar 7) mNil))) (tTp (tsCons (tNm 9) (tsCons (tNm 10) tsNil))) (mC (.bl true)) (mIf (mOp gIn (mSeq .tup (mCons (mVar 4) (mCons (mVar 9) mNil))) (mVar 2)) (mC .non) (mVar 10)) [9, 10]) (tNm 8))
  (sExpr (mCm isL (mOp gIx (mVar 3) (mVar 4)) (mCons (mSeq .tup (mCons (mVar 6) (mCons (mCall gTuple (mCons (mVar 8) mNil)) mNil))) mNil) gApp)))))))
  (sRet (mVar 3)))))
theorem ok_bared {a : Ad} (T : Tx P K mg base a) (D_Schema_tables : Dp' P w K mg base TT a.C_Schema "tables" 1 a.p_Schema_tables a.f_Schema_tables (m_Schema_tables a)) (D_Schema_flags : Dm P w K mg base TT a.C_Schema "flags" 3 a.f_Schema_flags ["self", "table"] (m_Schema_flags a)) {f : Addr} {fd : FuncData} (F : L2.Fun K "bared" "bared" s_bared f fd) : FnG P w K mg base TT 4 f fd ["schema", "rows", "lacking"] (m_bared a) :=
  F.okG sc_bared fun cdv A outer s H E hr c =>
  (s_seq (s_set (ps_set (i := 3) sc_bared.nd rfl (Or.inl rfl) e_dict0O))
  (s_seq (s_for c (L2.passes_of rfl) (i_seq (e_prop D_Schema_tables c hr (by decide) (e_var (pv 0)) (by rfl))) (pg_name (i := 4) sc_bared.nd rfl (Or.inr rfl)) tg_nm (s_seq (s_set (ps_set (i := 5) sc_bared.nd rfl (Or.inl rfl) (e_methA D_Schema_flags c hr (by decide) (e_var (pv 0)) (a_cons (e_var (pv 4)) a_nil))))
  (s_seq (s_store c (e_var (pv 3)) (e_var (pv 4)) (e_lstO a_nil))
  (s_one (s_for c (L2.passes_of rfl) (i_seq (e_ix c (e_var (pv 1)) (e_var (pv 4)) (fun _ _ => rfl))) (pg_tup rfl (pgs_cons (pg_name (i := 6) sc_bared.nd rfl (Or.inl rfl)) (pgs_cons (pg_name (i := 7) sc_bared.nd rfl (Or.inl rfl)) pgs_nil))) (tg_tp (tgs_cons tg_nm (tgs_cons tg_nm tgs_nil)) (len_cons (len_cons len_nil))) (s_seq (s_setLc (lb := false) (ps_setLc (i := 8) (own := [("name", 9), ("flag", 10)]) rfl sc_bared.nd rfl rfl (sw_true rfl rfl rfl (by decide +kernel)) (i_zipS (by rfl) T.z_zip (a_cons (e_var (pv 5)) (a_cons (e_var (pv 7)) a_nil))) (blkOk_by (own := [("name", 9), ("flag", 10)]) (N := ["schema", "rows", "lacking", "found", "table", "names", "values", "flags", "some", "name", "flag"]) (sc := defScope s_bared) (by decide +kernel)) (fun _ _ _ _ _ => (pg_tup rfl (pgs_cons (pg_name (i := 9) sc_bared.nd rfl (Or.inl rfl)) (pgs_cons (pg_name (i := 10) sc_bared.nd rfl (Or.inl rfl)) pgs_nil)))) (fun _ _ _ _ _ => ts_nil) (fun _ _ _ _ _ => (e_if (t_cmp (op_gIn c.blk) (e_tup (a_cons (e_var (pv 4)) (a_cons (e_var (pv 9)) a_nil))) (e_var (pv 2)) (by rfl)) e_non (e_var (pv 10))))) (tg_tp (tgs_cons tg_nm (tgs_cons tg_nm tgs_nil)) (len_cons (len_cons len_nil))) (by decide))
  (s_one (s_expr (e_append (e_ix c (e_var (pv 3)) (e_var (pv 4)) (fun _ _ => rfl)) (a_cons (e_tup (a_cons (e_var (pv 6)) (a_cons (e_callTy (call_gTuple c) (by rfl) T.z_tuple (by decide +kernel) (a_cons (e_var (pv 8)) a_nil)) a_nil))) a_nil))))))))))
  (s_one (s_ret (e_var (pv 3))))))

abbrev s_are_lists : Stmt := top 29
theorem sc_are_lists : FnScope ["schema", "thing", "table"] ["schema", "thing"] (defScope s_are_lists) := ⟨rfl, rfl, rfl, by decide +kernel, rfl, by decide +kernel, by decide +kernel⟩
def m_are_lists (a : Ad) : Fn := runF 2 3 (
  (sSeq (sIf (mOr (mNot (mCall (gIsA a.Cl a.Er a.isE) (mCons (mVar 1) (mCons (mC (.ty .dct)) mNil)))) (mOp gNe (mCall gLen (mCons (mVar 1) mNil)) (mCall gLen (mCons (mProp a.C_Schema (gFn (m_Schema_tables a)) (mVar 0)) mNil)))) (sRet (mC (.bl false))) sNil)
  (sRet (mCall gAll (mCons (mLc (itAny (mProp a.C_Schema (gFn (m_Schema_tables a)) (mVar 0))) (tNm 2) (mC (.bl true)) (mAnd (mOp gIn (mVar 2) (mVar 1)) (mCall (gIsA a.Cl a.Er a.isE) (mCons (mOp gIx (mVar 1) (mVar 2)) (mCons (mC (.ty .lst)) mNil)))) [2]) mNil)))))
theorem ok_are_lists {a : Ad} (T : Tx P K mg base a) (D_Schema_tables : Dp' P w K mg base TT a.C_Schema "tables" 1 a.p_Schema_tables a.f_Schema_tables (m_Schema_tables a)) {f : Addr} {fd : FuncData} (F : L2.Fun K "are_lists" "are_lists" s_are_lists f fd) : FnG P w K mg base TT 3 f fd ["schema", "thing"] (m_are_lists a) :=
  F.okG sc_are_lists fun cdv A outer s H E hr c =>
  (s_seq (s_if (PW.pt (w_or (t_not (t_val (e_callB (call_gIsA T.ik T.er) (by rfl) T.z_isinstance (by decide +kernel) (a_cons (e_var (pv 1)) (a_cons (e_bltn (t := .dct) (by rfl) T.z_dict (by decide +kernel) rfl) a_nil))))) (w_or1 (t_cmp (op_gNe c) (e_callB call_gLen (by rfl) T.z_len (by decide +kernel) (a_cons (e_var (pv 1)) a_nil)) (e_callB call_gLen (by rfl) T.z_len (by decide +kernel) (a_cons (e_prop D_Schema_tables c hr (by decide) (e_var (pv 0)) (by rfl)) a_nil)) (nomark _))))) (s_one (s_ret e_bl)) s_nil)
  (s_one (s_ret (e_callB (call_gAll c) (by rfl) T.z_all (by decide +kernel) (a_cons (e_lc (lb := true) (own := [("table", 2)]) c (i_any (e_prop D_Schema_tables c hr (by decide) (e_var (pv 0)) (by rfl))) (blkOk_by (own := [("table", 2)]) (N := ["schema", "thing", "table"]) (sc := defScope s_are_lists) (by decide +kernel)) (fun _ _ _ _ _ => (pg_name (i := 2) sc_are_lists.nd rfl (Or.inl rfl))) tg_nm (by decide) (fun _ _ _ _ _ => ts_nil) (fun _ _ _ _ _ => (e_and (e_cmp (op_gIn c.blk) (e_var (pv 2)) (e_var (pv 1)) (by rfl)) (e_one (e_callB (call_gIsA T.ik T.er) (by rfl) T.z_isinstance (by decide +kernel) (a_cons (e_ix c.blk (e_var (pv 1)) (e_var (pv 2)) (fun _ _ => rfl)) (a_cons (e_bltn (t := .lst) (by rfl) T.z_list (by decide +kernel) rfl) a_nil))))))) a_nil)))))

abbrev s_are_values : Stmt := top 27
theorem sc_are_values : FnScope ["schema", "table", "thing", "value"] ["schema", "table", "thing"] (defScope s_are_values) := ⟨rfl, rfl, rfl, by decide +kernel, rfl, by decide +kernel, by decide +kernel⟩
def m_are_values (a : Ad) : Fn := runF 3 4 (
  (sSeq (sIf (mOr (mNot (mCall (gIsA a.Cl a.Er a.isE) (mCons (mVar 2) (mCons (mC (.ty .tup)) mNil)))) (mOp gNe (mCall gLen (mCons (mVar 2) mNil)) (mCall gLen (mCons (mMeth a.C_Schema "columns" (gAuto (m_Schema_columns a)) (mVar 0) (mCons (mVar 1) mNil)) mNil)))) (sRet (mC (.bl false))) sNil)
  (sRet (mCall gAll (mCons (mLc (itAny (mVar 2)) (tNm 3) (mC (.bl true)) (mAnd (mCall (gAuto (m_is_integer a)) (mCons (mVar 3) mNil)) (mOp gGe (mVar 3) (mC (.int 0)))) [3]) mNil)))))
theorem ok_are_values {a : Ad} (T : Tx P K mg base a) (D_Schema_columns : Dm P w K mg base TT a.C_Schema "columns" 3 a.f_Schema_columns ["self", "table"] (m_Schema_columns a)) (D_is_integer : Df P w K mg base TT "is_integer" 1 a.f_is_integer ["thing"] (m_is_integer a)) {f : Addr} {fd : FuncData} (F : L2.Fun K "are_values" "are_values" s_are_values f fd) : FnG P w K mg base TT 4 f fd ["schema", "table", "thing"] (m_are_values a) :=
  F.okG sc_are_values fun cdv A outer s H E hr c =>
  (s_seq (s_if (PW.pt (w_or (t_not (t_val (e_callB (call_gIsA T.ik T.er) (by rfl) T.z_isinstance (by decide +kernel) (a_cons (e_var (pv 2)) (a_cons (e_bltn (t := .tup) (by rfl) T.z_tuple (by decide +kernel) rfl) a_nil))))) (w_or1 (t_cmp (op_gNe c) (e_callB call_gLen (by rfl) T.z_len (by decide +kernel) (a_cons (e_var (pv 2)) a_nil)) (e_callB call_gLen (by rfl) T.z_len (by decide +kernel) (a_cons (e_methA D_Schema_columns c hr (by decide) (e_var (pv 0)) (a_cons (e_var (pv 1)) a_nil)) a_nil)) (nomark _))))) (s_one (s_ret e_bl)) s_nil)
  (s_one (s_ret (e_callB (call_gAll c) (by rfl) T.z_all (by decide +kernel) (a_cons (e_lc (lb := true) (own := [("value", 3)]) c (i_any (e_var (pv 2))) (blkOk_by (own := [("value", 3)]) (N := ["schema", "table", "thing", "value"]) (sc := defScope s_are_values) (by decide +kernel)) (fun _ _ _ _ _ => (pg_name (i := 3) sc_are_values.nd rfl (Or.inl rfl))) tg_nm (by decide) (fun _ _ _ _ _ => ts_nil) (fun _ _ _ _ _ => (e_and (e_defA D_is_integer c.blk hr (by decide) (by rfl) (a_cons (e_var (pv 3)) a_nil)) (e_one (e_cmp op_gGe (e_var (pv 3)) e_int (nomark _)))))) a_nil)))))

abbrev s_is_row : Stmt := top 28
theorem sc_is_row : FnScope ["schema", "table", "thing", "flag"] ["schema", "table", "thing"] (defScope s_is_row) := ⟨rfl, rfl, rfl, by decide +kernel, rfl, by decide +kernel, by decide +kernel⟩
def m_is_row (a : Ad) : Fn := runF 3 4 (
  (sSeq (sIf (mOr (mNot (mCall (gIsA a.Cl a.Er a.isE) (mCons (mVar 2) (mCons (mC (.ty .tup)) mNil)))) (mOr (mOp gNe (mCall gLen (mCons (mVar 2) mNil)) (mC (.int 2))) (mNot (mCall (gAuto (m_are_values a)) (mCons (mVar 0) (mCons (mVar 1) (mCons (mOp gIx (mVar 2) (mC (.int 0))) mNil))))))) (sRet (mC (.bl false))) sNil)
  (sSeq (sIf (mOr (mNot (mCall (gIsA a.Cl a.Er a.isE) (mCons (mOp gIx (mVar 2) (mC (.int 1))) (mCons (mC (.ty .tup)) mNil)))) (mOp gNe (mCall gLen (mCons (mOp gIx (mVar 2) (mC (.int 1))) mNil)) (mCall gLen (mCons (mMeth a.C_Schema "flags" (gAuto (m_Schema_flags a)) (mVar 0) (mCons (mVar 1) mNil)) mNil)))) (sRet (mC (.bl false))) sNil)
  (sRet (mCall gAll (mCons (mLc (itAny (mOp gIx (mVar 2) (mC (.int 1)))) (tNm 3) (mC (.bl true)) (mCall (gIsA a.Cl a.Er a.isE) (mCons (mVar 3) (mCons (mC (.ty .bl)) mNil))) [3]) mNil))))))
theorem ok_is_row {a : Ad} (T : Tx P K mg base a) (D_are_values : Df P w K mg base TT "are_values" 4 a.f_are_values ["schema", "table", "thing"] (m_are_values a)) (D_Schema_flags : Dm P w K mg base TT a.C_Schema "flags" 3 a.f_Schema_flags ["self", "table"] (m_Schema_flags a)) {f : Addr} {fd : FuncData} (F : L2.Fun K "is_row" "is_row" s_is_row f fd) : FnG P w K mg base TT 5 f fd ["schema", "table", "thing"] (m_is_row a) :=
  F.okG sc_is_row fun cdv A outer s H E hr c =>
  (s_seq (s_if (PW.pt (w_or (t_not (t_val (e_callB (call_gIsA T.ik T.er) (by rfl) T.z_isinstance (by decide +kernel) (a_cons (e_var (pv 2)) (a_cons (e_bltn (t := .tup) (by rfl) T.z_tuple (by decide +kernel) rfl) a_nil))))) (w_or (t_cmp (op_gNe c) (e_callB call_gLen (by rfl) T.z_len (by decide +kernel) (a_cons (e_var (pv 2)) a_nil)) e_int (nomark _)) (w_or1 (t_not (t_val (e_defA D_are_values c hr (by decide) (by rfl) (a_cons (e_var (pv 0)) (a_cons (e_var (pv 1)) (a_cons (e_ix c (e_var (pv 2)) e_int (fun _ _ => rfl)) a_nil)))))))))) (s_one (s_ret e_bl)) s_nil)
  (s_seq (s_if (PW.pt (w_or (t_not (t_val (e_callB (call_gIsA T.ik T.er) (by rfl) T.z_isinstance (by decide +kernel) (a_cons (e_ix c (e_var (pv 2)) e_int (fun _ _ => rfl)) (a_cons (e_bltn (t := .tup) (by rfl) T.z_tuple (by decide +kernel) rfl) a_nil))))) (w_or1 (t_cmp (op_gNe c) (e_callB call_gLen (by rfl) T.z_len (by decide +kernel) (a_cons (e_ix c (e_var (pv 2)) e_int (fun _ _ => rfl)) a_nil)) (e_callB call_gLen (by rfl) T.z_len (by decide +kernel) (a_cons (e_methA D_Schema_flags c hr (by decide) (e_var (pv 0)) (a_cons (e_var (pv 1)) a_nil)) a_nil)) (nomark _))))) (s_one (s_ret e_bl)) s_nil)
  (s_one (s_ret (e_callB (call_gAll c) (by rfl) T.z_all (by decide +kernel) (a_cons (e_lc (lb := true) (own := [("flag", 3)]) c (i_any (e_ix c (e_var (pv 2)) e_int (fun _ _ => rfl))) (blkOk_by (own := [("flag", 3)]) (N := ["schema", "table", "thing", "flag"]) (sc := defScope s_is_row) (by decide +kernel)) (fun _ _ _ _ _ => (pg_name (i := 3) sc_is_row.nd rfl (Or.inl rfl))) tg_nm (by decide) (fun _ _ _ _ _ => ts_nil) (fun _ _ _ _ _ => (e_callB (call_gIsA T.ik T.er) (by rfl) T.z_isinstance (by decide +kernel) (a_cons (e_var (pv 3)) (a_cons (e_bltn (t := .bl) (by rfl) T.z_bool (by decide +kernel) rfl) a_nil))))) a_nil))))))

abbrev s_are_rows : Stmt := top 30
theorem sc_are_rows : FnScope ["schema", "thing", "table", "row"] ["schema", "thing"] (defScope s_are_rows) := ⟨rfl, rfl, rfl, by decide +kernel, rfl, by decide +kernel, by decide +kernel⟩
def m_are_rows (a : Ad) : Fn := runF 2 4 (
  (sSeq (sIf (mNot (mCall (gAuto (m_are_lists a)) (mCons (mVar 0) (mCons (mVar 1) mNil)))) (sRet (mC (.bl false))) sNil)
  (sRet (mCall gAll (mCons (mLc2 (itAny (mProp a.C_Schema (gFn (m_Schema_tables a)) (mVar 0))) (tNm 2) (mC (.bl true)) (itSeq (mOp gIx (mVar 1) (mVar 2))) (tNm 3) (mC (.bl true)) (mCall (gAuto (m_is_row a)) (mCons (mVar 0) (mCons (mVar 2) (mCons (mVar 3) mNil)))) [2, 3] [3]) mNil)))))
theorem ok_are_rows {a : Ad} (T : Tx P K mg base a) (D_are_lists : Df P w K mg base TT "are_lists" 3 a.f_are_lists ["schema", "thing"] (m_are_lists a)) (D_Schema_tables : Dp' P w K mg base TT a.C_Schema "tables" 1 a.p_Schema_tables a.f_Schema_tables (m_Schema_tables a)) (D_is_row : Df P w K mg base TT "is_row" 5 a.f_is_row ["schema", "table", "thing"] (m_is_row a)) {f : Addr} {fd : FuncData} (F : L2.Fun K "are_rows" "are_rows" s_are_rows f fd) : FnG P w K mg base TT 6 f fd ["schema", "thing"] (m_are_rows a) :=
  F.okG sc_are_rows fun cdv A outer s H E hr c =>
  (s_seq (s_if (t_not (t_val (e_defA D_are_lists c hr (by decide) (by rfl) (a_cons (e_var (pv 0)) (a_cons (e_var (pv 1)) a_nil))))) (s_one (s_ret e_bl)) s_nil)
  (s_one (s_ret (e_callB (call_gAll c) (by rfl) T.z_all (by decide +kernel) (a_cons (e_lc2 (lb := true) (own := [("table", 2), ("row", 3)]) (vs1 := [3]) c (i_any (e_prop D_Schema_tables c hr (by decide) (e_var (pv 0)) (by rfl))) (blkOk_by (own := [("table", 2), ("row", 3)]) (N := ["schema", "thing", "table", "row"]) (sc := defScope s_are_rows) (by decide +kernel)) (by decide) (fun _ _ _ _ _ => (pg_name (i := 2) sc_are_rows.nd rfl (Or.inl rfl))) tg_nm (by decide) (fun _ _ _ _ _ => ts_nil) (fun _ _ _ _ _ => (i_seq (e_ix c.blk (e_var (pv 1)) (e_var (pv 2)) (fun _ _ => rfl)))) (fun _ _ _ _ _ => (pg_name (i := 3) sc_are_rows.nd rfl (Or.inl rfl))) tg_nm (by decide) (fun _ _ _ _ _ => ts_nil) (fun _ _ _ _ _ => (e_defA D_is_row c.blk hr (by decide) (by rfl) (a_cons (e_var (pv 0)) (a_cons (e_var (pv 2)) (a_cons (e_var (pv 3)) a_nil)))))) a_nil)))))

abbrev s_check_rows : Stmt := top 31
theorem sc_check_rows : FnScope ["schema", "thing"] ["schema", "thing"] (defScope s_check_rows) := ⟨rfl, rfl, rfl, by decide +kernel, rfl, by decide +kernel, by decide +kernel⟩
def m_check_rows (a : Ad) : Fn := runF 2 2 (
  (sIf (mNot (mCall (gAuto (m_are_rows a)) (mCons (mVar 0) (mCons (mVar 1) mNil)))) (sRaise a.C_InvalidRows) sNil))
theorem ok_check_rows {a : Ad} (T : Tx P K mg base a) (D_are_rows : Df P w K mg base TT "are_rows" 6 a.f_are_rows ["schema", "thing"] (m_are_rows a)) {f : Addr} {fd : FuncData} (F : L2.Fun K "check_rows" "check_rows" s_check_rows f fd) : FnG P w K mg base TT 7 f fd ["schema", "thing"] (m_check_rows a) :=
  F.okG sc_check_rows fun cdv A outer s H E hr c =>
  (s_one (s_if (t_not (t_val (e_defA D_are_rows c hr (by decide) (by rfl) (a_cons (e_var (pv 0)) (a_cons (e_var (pv 1)) a_nil))))) (s_one (s_raise c (T.r_InvalidRows.mk_ (by rfl)))) s_nil))

abbrev s_bare : Stmt := top 52
theorem sc_bare : FnScope ["schema", "rows", "lacking"] ["schema", "rows", "lacking"] (defScope s_bare) := ⟨rfl, rfl, rfl, by decide +kernel, rfl, by decide +kernel, by decide +kernel⟩
def m_bare (a : Ad) : Fn := runF 3 3 (
  (sSeq (sExpr (mCall (gAuto (m_check_rows a)) (mCons (mVar 0) (mCons (mVar 1) mNil))))
  (sSeq (sExpr (mCall (gAuto (m_check_lacking a)) (mCons (mVar 0) (mCons (mVar 2) mNil))))
  (sRet (mCall (gAuto (m_bared a)) (mCons (mVar 0) (mCons (mVar 1) (mCons (mVar 2) mNil))))))))
theorem ok_bare {a : Ad} (T : Tx P K mg base a) (D_check_rows : Df P w K mg base TT "check_rows" 7 a.f_check_rows ["schema", "thing"] (m_check_rows a)) (D_check_lacking : Df P w K mg base TT "check_lacking" 5 a.f_check_lacking ["schema", "thing"] (m_check_lacking a)) (D_bared : Df P w K mg base TT "bared" 4 a.f_bared ["schema", "rows", "lacking"] (m_bared a)) {f : Addr} {fd : FuncData} (F : L2.Fun K "bare" "bare" s_bare f fd) : FnG P w K mg base TT 8 f fd ["schema", "rows", "lacking"] (m_bare a) :=
  F.okG sc_bare fun cdv A outer s H E hr c =>
  (s_seq (s_expr (e_defA D_check_rows c hr (by decide) (by rfl) (a_cons (e_var (pv 0)) (a_cons (e_var (pv 1)) a_nil))))
  (s_seq (s_expr (e_defA D_check_lacking c hr (by decide) (by rfl) (a_cons (e_var (pv 0)) (a_cons (e_var (pv 2)) a_nil))))
  (s_one (s_ret (e_defA D_bared c hr (by decide) (by rfl) (a_cons (e_var (pv 0)) (a_cons (e_var (pv 1)) (a_cons (e_var (pv 2)) a_nil))))))))

abbrev s_filled : Stmt := top 60
theorem sc_filled : FnScope ["schema", "rows", "gaps", "worths", "known", "gap", "worth", "found", "table", "index", "values", "flags", "some", "spot", "flag"] ["schema", "rows", "gaps", "worths"] (defScope s_filled) := ⟨rfl, rfl, rfl, by decide +kernel, rfl, by decide +kernel, by decide +kernel⟩
def m_filled (a : Ad) : Fn := runF 4 15 (
  (sSeq (sAsg (mDg kdT (itZipS (mCons (mVar 2) (mCons (mVar 3) mNil))) (tTp (tsCons (tNm 5) (tsCons (tNm 6) tsNil))) (mC (.bl true)) (mVar 5) (mVar 6) [5, 6]) (tNm 4))
  (sSeq (sAsg (mOwn (.dK []) mNil) (tNm 7))
  (sSeq (sFor (itSeq (mProp a.C_Schema (gFn (m_Schema_tables a)) (mVar 0))) (tNm 8) (sSeq (sSet (mOwn .lst mNil) (mVar 7) (mVar 8))
  (sFor (itEn (mCons (mOp gIx (mVar 1) (mVar 8)) mNil)) (tTp (tsCons (tNm 9) (tsCons (tTp (tsCons (tNm 10) (tsCons (tNm 11) tsNil))) tsNil))) (sSeq (sAsg (mLc (itEn (mCons (mVar 11) mNil)) (tTp (tsCons (tNm 13) (tsCons (tNm 14) tsNil))) (mC (.bl true)) (mGet2 (mVar 4) (mSeq .tup (mCons (mVar 8) (mCons (mVar 9) (mCons (mVar 13) mNil)))) (mVar 14)) [13, 14]) (tNm 12))
  (sExpr (mCm isL (mOp gIx (mVar 7) (mVar 8)) (mCons (mSeq .tup (mCons (mVar 10) (mCons (mCall gTuple (mCons (mVar 12) mNil)) mNil))) mNil) gApp))))))
  (sRet (mVar 7))))))
theorem ok_filled {a : Ad} (T : Tx P K mg base a) (D_Schema_tables : Dp' P w K mg base TT a.C_Schema "tables" 1 a.p_Schema_tables a.f_Schema_tables (m_Schema_tables a)) {f : Addr} {fd : FuncData} (F : L2.Fun K "filled" "filled" s_filled f fd) : FnG P w K mg base TT 3 f fd ["schema", "rows", "gaps", "worths"] (m_filled a) :=
  F.okG sc_filled fun cdv A outer s H E hr c =>
  (s_seq (s_set (ps_set (i := 4) sc_filled.nd rfl (Or.inr rfl) (e_dg kdT (lb := false) (own := [("gap", 5), ("worth", 6)]) c (i_zipS (by rfl) T.z_zip (a_cons (e_var (pv 2)) (a_cons (e_var (pv 3)) a_nil))) (blkOk_by (own := [("gap", 5), ("worth", 6)]) (N := ["schema", "rows", "gaps", "worths", "known", "gap", "worth", "found", "table", "index", "values", "flags", "some", "spot", "flag"]) (sc := defScope s_filled) (by decide +kernel)) (fun _ _ _ _ _ => (pg_tup rfl (pgs_cons (pg_name (i := 5) sc_filled.nd rfl (Or.inl rfl)) (pgs_cons (pg_name (i := 6) sc_filled.nd rfl (Or.inl rfl)) pgs_nil)))) (tg_tp (tgs_cons tg_nm (tgs_cons tg_nm tgs_nil)) (len_cons (len_cons len_nil))) (by decide) (fun _ _ _ _ _ => ts_nil) (fun _ _ _ _ _ => (e_var (pv 5))) (fun _ _ _ _ _ => (e_var (pv 6))))))
  (s_seq (s_set (ps_set (i := 7) sc_filled.nd rfl (Or.inl rfl) e_dict0O))
  (s_seq (s_for c (L2.passes_of rfl) (i_seq (e_prop D_Schema_tables c hr (by decide) (e_var (pv 0)) (by rfl))) (pg_name (i := 8) sc_filled.nd rfl (Or.inr rfl)) tg_nm (s_seq (s_store c (e_var (pv 7)) (e_var (pv 8)) (e_lstO a_nil))
  (s_one (s_for c (L2.passes_of rfl) (i_en (by rfl) T.z_enumerate (a_cons (e_ix c (e_var (pv 1)) (e_var (pv 8)) (fun _ _ => rfl)) a_nil)) (pg_tup rfl (pgs_cons (pg_name (i := 9) sc_filled.nd rfl (Or.inr rfl)) (pgs_cons (pg_tup rfl (pgs_cons (pg_name (i := 10) sc_filled.nd rfl (Or.inl rfl)) (pgs_cons (pg_name (i := 11) sc_filled.nd rfl (Or.inl rfl)) pgs_nil))) pgs_nil))) (tg_tp (tgs_cons tg_nm (tgs_cons (tg_tp (tgs_cons tg_nm (tgs_cons tg_nm tgs_nil)) (len_cons (len_cons len_nil))) tgs_nil)) (len_cons (len_cons len_nil))) (s_seq (s_setLc (lb := false) (ps_setLc (i := 12) (own := [("spot", 13), ("flag", 14)]) rfl sc_filled.nd rfl rfl (sw_true rfl rfl rfl (by decide +kernel)) (i_en (by rfl) T.z_enumerate (a_cons (e_var (pv 11)) a_nil)) (blkOk_by (own := [("spot", 13), ("flag", 14)]) (N := ["schema", "rows", "gaps", "worths", "known", "gap", "worth", "found", "table", "index", "values", "flags", "some", "spot", "flag"]) (sc := defScope s_filled) (by decide +kernel)) (fun _ _ _ _ _ => (pg_tup rfl (pgs_cons (pg_name (i := 13) sc_filled.nd rfl (Or.inl rfl)) (pgs_cons (pg_name (i := 14) sc_filled.nd rfl (Or.inl rfl)) pgs_nil)))) (fun _ _ _ _ _ => ts_nil) (fun _ _ _ _ _ => (e_get2 c.blk (e_var (pv 4)) (e_tup (a_cons (e_var (pv 8)) (a_cons (e_var (pv 9)) (a_cons (e_var (pv 13)) a_nil)))) (e_var (pv 14)) ⟨by rfl, by rfl, by rfl, by rfl⟩))) (tg_tp (tgs_cons tg_nm (tgs_cons tg_nm tgs_nil)) (len_cons (len_cons len_nil))) (by decide))
  (s_one (s_expr (e_append (e_ix c (e_var (pv 7)) (e_var (pv 8)) (fun _ _ => rfl)) (a_cons (e_tup (a_cons (e_var (pv 10)) (a_cons (e_callTy (call_gTuple c) (by rfl) T.z_tuple (by decide +kernel) (a_cons (e_var (pv 12)) a_nil)) a_nil))) a_nil)))))))))
  (s_one (s_ret (e_var (pv 7)))))))

abbrev s_gaps_in : Stmt := top 59
theorem sc_gaps_in : FnScope ["schema", "rows", "found", "table", "index", "values", "flags", "spot", "flag"] ["schema", "rows"] (defScope s_gaps_in) := ⟨rfl, rfl, rfl, by decide +kernel, rfl, by decide +kernel, by decide +kernel⟩
def m_gaps_in (a : Ad) : Fn := runF 2 9 (
  (sSeq (sAsg (mOwn .lst mNil) (tNm 2))
  (sSeq (sFor (itSeq (mProp a.C_Schema (gFn (m_Schema_tables a)) (mVar 0))) (tNm 3) (sFor (itEn (mCons (mOp gIx (mVar 1) (mVar 3)) mNil)) (tTp (tsCons (tNm 4) (tsCons (tTp (tsCons (tNm 5) (tsCons (tNm 6) tsNil))) tsNil))) (sExpr (mCm isL (mVar 2) (mCons (mLc (itEn (mCons (mVar 6) mNil)) (tTp (tsCons (tNm 7) (tsCons (tNm 8) tsNil))) (mOp gIs (mVar 8) (mC .non)) (mSeq .tup (mCons (mVar 3) (mCons (mVar 4) (mCons (mVar 7) mNil)))) [7, 8]) mNil) gExt))))
  (sRet (mVar 2)))))
theorem ok_gaps_in {a : Ad} (T : Tx P K mg base a) (D_Schema_tables : Dp' P w K mg base TT a.C_Schema "tables" 1 a.p_Schema_tables a.f_Schema_tables (m_Schema_tables a)) {f : Addr} {fd : FuncData} (F : L2.Fun K "gaps_in" "gaps_in" s_gaps_in f fd) : FnG P w K mg base TT 3 f fd ["schema", "rows"] (m_gaps_in a) :=
  F.okG sc_gaps_in fun cdv A outer s H E hr c =>
  (s_seq (s_set (ps_set (i := 2) sc_gaps_in.nd rfl (Or.inl rfl) (e_lstO a_nil)))
  (s_seq (s_for c (L2.passes_of rfl) (i_seq (e_prop D_Schema_tables c hr (by decide) (e_var (pv 0)) (by rfl))) (pg_name (i := 3) sc_gaps_in.nd rfl (Or.inr rfl)) tg_nm (s_one (s_for c (L2.passes_of rfl) (i_en (by rfl) T.z_enumerate (a_cons (e_ix c (e_var (pv 1)) (e_var (pv 3)) (fun _ _ => rfl)) a_nil)) (pg_tup rfl (pgs_cons (pg_name (i := 4) sc_gaps_in.nd rfl (Or.inr rfl)) (pgs_cons (pg_tup rfl (pgs_cons (pg_name (i := 5) sc_gaps_in.nd rfl (Or.inl rfl)) (pgs_cons (pg_name (i := 6) sc_gaps_in.nd rfl (Or.inl rfl)) pgs_nil))) pgs_nil))) (tg_tp (tgs_cons tg_nm (tgs_cons (tg_tp (tgs_cons tg_nm (tgs_cons tg_nm tgs_nil)) (len_cons (len_cons len_nil))) tgs_nil)) (len_cons (len_cons len_nil))) (s_one (s_expr (e_extend (e_var (pv 2)) (a_cons (e_lc (lb := false) (own := [("spot", 7), ("flag", 8)]) c (i_en (by rfl) T.z_enumerate (a_cons (e_var (pv 6)) a_nil)) (blkOk_by (own := [("spot", 7), ("flag", 8)]) (N := ["schema", "rows", "found", "table", "index", "values", "flags", "spot", "flag"]) (sc := defScope s_gaps_in) (by decide +kernel)) (fun _ _ _ _ _ => (pg_tup rfl (pgs_cons (pg_name (i := 7) sc_gaps_in.nd rfl (Or.inl rfl)) (pgs_cons (pg_name (i := 8) sc_gaps_in.nd rfl (Or.inl rfl)) pgs_nil)))) (tg_tp (tgs_cons tg_nm (tgs_cons tg_nm tgs_nil)) (len_cons (len_cons len_nil))) (by decide) (fun _ _ _ _ _ => (ts_one (t_cmp op_gIs (e_var (pv 8)) e_non (nomark _)))) (fun _ _ _ _ _ => (e_tup (a_cons (e_var (pv 3)) (a_cons (e_var (pv 4)) (a_cons (e_var (pv 7)) a_nil)))))) a_nil)))))))
  (s_one (s_ret (e_var (pv 2))))))

abbrev s_is_has : Stmt := top 36
theorem sc_is_has : FnScope ["schema", "table", "thing", "name", "column", "other", "target", "kind"] ["schema", "table", "thing"] (defScope s_is_has) := ⟨rfl, rfl, rfl, by decide +kernel, rfl, by decide +kernel, by decide +kernel⟩
def m_is_has (a : Ad) (F_is_known : Fn) : Fn := runF 3 8 (
  (sSeq (sIf (mOr (mOp gNe (mCall gLen (mCons (mVar 2) mNil)) (mC (.int 5))) (mOr (mNot (mCall gAll (mCons (mLc (itAny (mSl (mVar 2) (some (mC (.int 1))) (some (mC (.int 4))))) (tNm 3) (mC (.bl true)) (mCall (gAuto (m_is_name a)) (mCons (mVar 3) mNil)) [3]) mNil))) (mOp gNin (mOp gIx (mVar 2) (mC (.int 2))) (mProp a.C_Schema (gFn (m_Schema_tables a)) (mVar 0))))) (sRet (mC (.bl false))) sNil)
  (sSeq (sAsg (mSl (mVar 2) (some (mC (.int 1))) (some (mC (.int 4)))) (tTp (tsCons (tNm 4) (tsCons (tNm 5) (tsCons (tNm 6) tsNil)))))
  (sSeq (sAsg (mGet2 (mCall gDict (mCons (mMeth a.C_Schema "columns" (gAuto (m_Schema_columns a)) (mVar 0) (mCons (mVar 1) mNil)) mNil)) (mVar 4) (mC .non)) (tNm 7))
  (sSeq (sIf (mOr (mOp gIs (mVar 7) (mC .non)) (mOp gNe (mVar 7) (mGet2 (mCall gDict (mCons (mMeth a.C_Schema "columns" (gAuto (m_Schema_columns a)) (mVar 0) (mCons (mVar 5) mNil)) mNil)) (mVar 6) (mC .non)))) (sRet (mC (.bl false))) sNil)
  (sRet (mCall (gAuto F_is_known) (mCons (mVar 0) (mCons (mVar 5) (mCons (mOp gIx (mVar 2) (mC (.int 4))) mNil))))))))))
theorem ok_is_has {a : Ad} {F_is_known : Fn} {j : Nat} (T : Tx P K mg base a) (D_Schema_tables : Dp' P w K mg base TT a.C_Schema "tables" 1 a.p_Schema_tables a.f_Schema_tables (m_Schema_tables a)) (D_is_name : Df P w K mg base TT "is_name" 1 a.f_is_name ["thing"] (m_is_name a)) (D_Schema_columns : Dm P w K mg base TT a.C_Schema "columns" 3 a.f_Schema_columns ["self", "table"] (m_Schema_columns a)) (D_is_known : Df P w K mg base TT "is_known" (3 + j) a.f_is_known ["schema", "table", "thing"] F_is_known) {f : Addr} {fd : FuncData} (F : L2.Fun K "is_has" "is_has" s_is_has f fd) : FnG P w K mg base TT (3 + j + 1) f fd ["schema", "table", "thing"] (m_is_has a F_is_known) :=
  F.okG sc_is_has fun cdv A outer s H E hr c =>
  (s_seq (s_if (PW.pt (w_or (t_cmp (op_gNe c) (e_callB call_gLen (by rfl) T.z_len (by decide +kernel) (a_cons (e_var (pv 2)) a_nil)) e_int (nomark _)) (w_or (t_not (t_val (e_callB (call_gAll c) (by rfl) T.z_all (by decide +kernel) (a_cons (e_lc (lb := true) (own := [("name", 3)]) c (i_any (e_sl (e_var (pv 2)) (part_some e_int) (part_some e_int))) (blkOk_by (own := [("name", 3)]) (N := ["schema", "table", "thing", "name", "column", "other", "target", "kind"]) (sc := defScope s_is_has) (by decide +kernel)) (fun _ _ _ _ _ => (pg_name (i := 3) sc_is_has.nd rfl (Or.inl rfl))) tg_nm (by decide) (fun _ _ _ _ _ => ts_nil) (fun _ _ _ _ _ => (e_defA D_is_name c.blk hr (by omega) (by rfl) (a_cons (e_var (pv 3)) a_nil)))) a_nil)))) (w_or1 (t_cmp (op_gNin c) (e_ix c (e_var (pv 2)) e_int (fun _ _ => rfl)) (e_prop D_Schema_tables c hr (by omega) (e_var (pv 0)) (by rfl)) (by rfl)))))) (s_one (s_ret e_bl)) s_nil)
  (s_seq (s_asg (ps_asg (e_sl (e_var (pv 2)) (part_some e_int) (part_some e_int)) (pg_tup rfl (pgs_cons (pg_name (i := 4) sc_is_has.nd rfl (Or.inl rfl)) (pgs_cons (pg_name (i := 5) sc_is_has.nd rfl (Or.inl rfl)) (pgs_cons (pg_name (i := 6) sc_is_has.nd rfl (Or.inl rfl)) pgs_nil))))) (tg_tp (tgs_cons tg_nm (tgs_cons tg_nm (tgs_cons tg_nm tgs_nil))) (len_cons (len_cons (len_cons len_nil)))))
  (s_seq (s_set (ps_set (i := 7) sc_is_has.nd rfl (Or.inl rfl) (e_get2 c (e_callTy (call_gDict c) (by rfl) T.z_dict (by decide +kernel) (a_cons (e_methA D_Schema_columns c hr (by omega) (e_var (pv 0)) (a_cons (e_var (pv 1)) a_nil)) a_nil)) (e_var (pv 4)) e_non ⟨by rfl, by rfl, by rfl, by rfl⟩)))
  (s_seq (s_if (PW.pt (w_or (t_cmp op_gIs (e_var (pv 7)) e_non (nomark _)) (w_or1 (t_cmp (op_gNe c) (e_var (pv 7)) (e_get2 c (e_callTy (call_gDict c) (by rfl) T.z_dict (by decide +kernel) (a_cons (e_methA D_Schema_columns c hr (by omega) (e_var (pv 0)) (a_cons (e_var (pv 5)) a_nil)) a_nil)) (e_var (pv 6)) e_non ⟨by rfl, by rfl, by rfl, by rfl⟩) (nomark _))))) (s_one (s_ret e_bl)) s_nil)
  (s_one (s_ret (e_defA D_is_known c hr (by omega) (by rfl) (a_cons (e_var (pv 0)) (a_cons (e_var (pv 5)) (a_cons (e_ix c (e_var (pv 2)) e_int (fun _ _ => rfl)) a_nil))))))))))

abbrev s_is_known : Stmt := top 37
theorem sc_is_known : FnScope ["schema", "table", "thing", "part"] ["schema", "table", "thing"] (defScope s_is_known) := ⟨rfl, rfl, rfl, by decide +kernel, rfl, by decide +kernel, by decide +kernel⟩
def n_is_known (a : Ad) (F_is_known : Fn) : Fn := runF 3 4 (
  (sSeq (sIf (mOr (mNot (mCall (gIsA a.Cl a.Er a.isE) (mCons (mVar 2) (mCons (mC (.ty .tup)) mNil)))) (mOr (mOp gEq (mVar 2) (mSeq .tup mNil)) (mNot (mCall (gIsA a.Cl a.Er a.isE) (mCons (mOp gIx (mVar 2) (mC (.int 0))) (mCons (mC (.ty .str)) mNil)))))) (sRet (mC (.bl false))) sNil)
  (sSeq (sMatch (mOp gIx (mVar 2) (mC (.int 0))) [(["yes"], (sRet (mOp gEq (mCall gLen (mCons (mVar 2) mNil)) (mC (.int 1))))), (["flag"], (sRet (mAnd (mOp gEq (mCall gLen (mCons (mVar 2) mNil)) (mC (.int 2))) (mAnd (mCall (gAuto (m_is_name a)) (mCons (mOp gIx (mVar 2) (mC (.int 1))) mNil)) (mOp gIn (mOp gIx (mVar 2) (mC (.int 1))) (mMeth a.C_Schema "flags" (gAuto (m_Schema_flags a)) (mVar 0) (mCons (mVar 1) mNil))))))), (["has"], (sRet (mCall (gAuto (m_is_has a F_is_known)) (mCons (mVar 0) (mCons (mVar 1) (mCons (mVar 2) mNil)))))), (["not"], (sRet (mAnd (mOp gEq (mCall gLen (mCons (mVar 2) mNil)) (mC (.int 2))) (mCall (gAuto F_is_known) (mCons (mVar 0) (mCons (mVar 1) (mCons (mOp gIx (mVar 2) (mC (.int 1))) mNil))))))), ((["and"] : List Str) ++ ((["or"] : List Str) ++ ([])), (sRet (mAnd (mOp gEq (mCall gLen (mCons (mVar 2) mNil)) (mC (.int 3))) (mCall gAll (mCons (mLc (itAny (mSl (mVar 2) (some (mC (.int 1))) none)) (tNm 3) (mC (.bl true)) (mCall (gAuto F_is_known) (mCons (mVar 0) (mCons (mVar 1) (mCons (mVar 3) mNil)))) [3]) mNil)))))])
  (sRet (mC (.bl false))))))
def m_is_known (a : Ad) : Nat → Fn
  | 0 => fun _ _ => .stuck
  | n + 1 => n_is_known a (m_is_known a n)
theorem ok_is_known {a : Ad} {F_is_known : Fn} {j : Nat} (T : Tx P K mg base a) (D_Schema_flags : Dm P w K mg base TT a.C_Schema "flags" 3 a.f_Schema_flags ["self", "table"] (m_Schema_flags a)) (D_is_name : Df P w K mg base TT "is_name" 1 a.f_is_name ["thing"] (m_is_name a)) (D_is_has : Df P w K mg base TT "is_has" (3 + j + 1) a.f_is_has ["schema", "table", "thing"] (m_is_has a F_is_known)) (D_is_known : Df P w K mg base TT "is_known" (3 + j) a.f_is_known ["schema", "table", "thing"] F_is_known) {f : Addr} {fd : FuncData} (F : L2.Fun K "is_known" "is_known" s_is_known f fd) : FnG P w K mg base TT (3 + j + 2) f fd ["schema", "table", "thing"] (n_is_known a F_is_known) :=
  F.okG sc_is_known fun cdv A outer s H E hr c =>
  (s_seq (s_if (PW.pt (w_or (t_not (t_val (e_callB (call_gIsA T.ik T.er) (by rfl) T.z_isinstance (by decide +kernel) (a_cons (e_var (pv 2)) (a_cons (e_bltn (t := .tup) (by rfl) T.z_tuple (by decide +kernel) rfl) a_nil))))) (w_or (t_cmp (op_gEq c) (e_var (pv 2)) (e_tup a_nil) (nomark _)) (w_or1 (t_not (t_val (e_callB (call_gIsA T.ik T.er) (by rfl) T.z_isinstance (by decide +kernel) (a_cons (e_ix c (e_var (pv 2)) e_int (fun _ _ => rfl)) (a_cons (e_bltn (t := .str) (by rfl) T.z_str (by decide +kernel) rfl) a_nil))))))))) (s_one (s_ret e_bl)) s_nil)
  (s_seq (s_match (e_ix c (e_var (pv 2)) e_int (fun _ _ => rfl)) (cs_cons p_val (s_one (s_ret (e_cmp (op_gEq c) (e_callB call_gLen (by rfl) T.z_len (by decide +kernel) (a_cons (e_var (pv 2)) a_nil)) e_int (nomark _)))) (cs_cons p_val (s_one (s_ret (e_and (e_cmp (op_gEq c) (e_callB call_gLen (by rfl) T.z_len (by decide +kernel) (a_cons (e_var (pv 2)) a_nil)) e_int (nomark _)) (e_and (e_defA D_is_name c hr (by omega) (by rfl) (a_cons (e_ix c (e_var (pv 2)) e_int (fun _ _ => rfl)) a_nil)) (e_one (e_cmp (op_gIn c) (e_ix c (e_var (pv 2)) e_int (fun _ _ => rfl)) (e_methA D_Schema_flags c hr (by omega) (e_var (pv 0)) (a_cons (e_var (pv 1)) a_nil)) (by rfl))))))) (cs_cons p_val (s_one (s_ret (e_defA D_is_has c hr (by omega) (by rfl) (a_cons (e_var (pv 0)) (a_cons (e_var (pv 1)) (a_cons (e_var (pv 2)) a_nil)))))) (cs_cons p_val (s_one (s_ret (e_and (e_cmp (op_gEq c) (e_callB call_gLen (by rfl) T.z_len (by decide +kernel) (a_cons (e_var (pv 2)) a_nil)) e_int (nomark _)) (e_one (e_defA D_is_known c hr (by omega) (by rfl) (a_cons (e_var (pv 0)) (a_cons (e_var (pv 1)) (a_cons (e_ix c (e_var (pv 2)) e_int (fun _ _ => rfl)) a_nil)))))))) (cs_cons (p_or (f_cons p_val (f_cons p_val f_nil))) (s_one (s_ret (e_and (e_cmp (op_gEq c) (e_callB call_gLen (by rfl) T.z_len (by decide +kernel) (a_cons (e_var (pv 2)) a_nil)) e_int (nomark _)) (e_one (e_callB (call_gAll c) (by rfl) T.z_all (by decide +kernel) (a_cons (e_lc (lb := true) (own := [("part", 3)]) c (i_any (e_sl (e_var (pv 2)) (part_some e_int) part_none)) (blkOk_by (own := [("part", 3)]) (N := ["schema", "table", "thing", "part"]) (sc := defScope s_is_known) (by decide +kernel)) (fun _ _ _ _ _ => (pg_name (i := 3) sc_is_known.nd rfl (Or.inl rfl))) tg_nm (by decide) (fun _ _ _ _ _ => ts_nil) (fun _ _ _ _ _ => (e_defA D_is_known c.blk hr (by omega) (by rfl) (a_cons (e_var (pv 0)) (a_cons (e_var (pv 1)) (a_cons (e_var (pv 3)) a_nil)))))) a_nil)))))) cs_nil))))))
  (s_one (s_ret e_bl))))

abbrev s_is_rule : Stmt := top 41
theorem sc_is_rule : FnScope ["schema", "thing"] ["schema", "thing"] (defScope s_is_rule) := ⟨rfl, rfl, rfl, by decide +kernel, rfl, by decide +kernel, by decide +kernel⟩
def m_is_rule (a : Ad) : Fn := runF 2 2 (
  (sSeq (sIf (mOr (mNot (mCall (gIsA a.Cl a.Er a.isE) (mCons (mVar 1) (mCons (mC (.ty .tup)) mNil)))) (mOr (mOp gNe (mCall gLen (mCons (mVar 1) mNil)) (mC (.int 2))) (mNot (mCall (gIsA a.Cl a.Er a.isE) (mCons (mOp gIx (mVar 1) (mC (.int 0))) (mCons (mC (.ty .str)) mNil)))))) (sRet (mC (.bl false))) sNil)
  (sRet (mAnd (mOp gIn (mOp gIx (mVar 1) (mC (.int 0))) (mProp a.C_Schema (gFn (m_Schema_tables a)) (mVar 0))) (mCall (gAuto (m_is_known a 6)) (mCons (mVar 0) (mCons (mOp gIx (mVar 1) (mC (.int 0))) (mCons (mOp gIx (mVar 1) (mC (.int 1))) mNil))))))))
theorem ok_is_rule {a : Ad} (T : Tx P K mg base a) (D_is_known : Df P w K mg base TT "is_known" 15 a.f_is_known ["schema", "table", "thing"] (m_is_known a 6)) (D_Schema_tables : Dp' P w K mg base TT a.C_Schema "tables" 1 a.p_Schema_tables a.f_Schema_tables (m_Schema_tables a)) {f : Addr} {fd : FuncData} (F : L2.Fun K "is_rule" "is_rule" s_is_rule f fd) : FnG P w K mg base TT 16 f fd ["schema", "thing"] (m_is_rule a) :=
  F.okG sc_is_rule fun cdv A outer s H E hr c =>
  (s_seq (s_if (PW.pt (w_or (t_not (t_val (e_callB (call_gIsA T.ik T.er) (by rfl) T.z_isinstance (by decide +kernel) (a_cons (e_var (pv 1)) (a_cons (e_bltn (t := .tup) (by rfl) T.z_tuple (by decide +kernel) rfl) a_nil))))) (w_or (t_cmp (op_gNe c) (e_callB call_gLen (by rfl) T.z_len (by decide +kernel) (a_cons (e_var (pv 1)) a_nil)) e_int (nomark _)) (w_or1 (t_not (t_val (e_callB (call_gIsA T.ik T.er) (by rfl) T.z_isinstance (by decide +kernel) (a_cons (e_ix c (e_var (pv 1)) e_int (fun _ _ => rfl)) (a_cons (e_bltn (t := .str) (by rfl) T.z_str (by decide +kernel) rfl) a_nil))))))))) (s_one (s_ret e_bl)) s_nil)
  (s_one (s_ret (e_and (e_cmp (op_gIn c) (e_ix c (e_var (pv 1)) e_int (fun _ _ => rfl)) (e_prop D_Schema_tables c hr (by decide) (e_var (pv 0)) (by rfl)) (by rfl)) (e_one (e_defA D_is_known c hr (by decide) (by rfl) (a_cons (e_var (pv 0)) (a_cons (e_ix c (e_var (pv 1)) e_int (fun _ _ => rfl)) (a_cons (e_ix c (e_var (pv 1)) e_int (fun _ _ => rfl)) a_nil)))))))))

abbrev s_is_book : Stmt := top 42
theorem sc_is_book : FnScope ["schema", "thing", "rule"] ["schema", "thing"] (defScope s_is_book) := ⟨rfl, rfl, rfl, by decide +kernel, rfl, by decide +kernel, by decide +kernel⟩
def m_is_book (a : Ad) : Fn := runF 2 3 (
  (sRet (mAnd (mCall (gIsA a.Cl a.Er a.isE) (mCons (mVar 1) (mCons (mC (.ty .lst)) mNil))) (mAnd (mOp gLe (mCall gLen (mCons (mVar 1) mNil)) (mC (.int 6))) (mCall gAll (mCons (mLc (itAny (mVar 1)) (tNm 2) (mC (.bl true)) (mCall (gAuto (m_is_rule a)) (mCons (mVar 0) (mCons (mVar 2) mNil))) [2]) mNil))))))
theorem ok_is_book {a : Ad} (T : Tx P K mg base a) (D_is_rule : Df P w K mg base TT "is_rule" 16 a.f_is_rule ["schema", "thing"] (m_is_rule a)) {f : Addr} {fd : FuncData} (F : L2.Fun K "is_book" "is_book" s_is_book f fd) : FnG P w K mg base TT 17 f fd ["schema", "thing"] (m_is_book a) :=
  F.okG sc_is_book fun cdv A outer s H E hr c =>
  (s_one (s_ret (e_and (e_callB (call_gIsA T.ik T.er) (by rfl) T.z_isinstance (by decide +kernel) (a_cons (e_var (pv 1)) (a_cons (e_bltn (t := .lst) (by rfl) T.z_list (by decide +kernel) rfl) a_nil))) (e_and (e_cmp op_gLe (e_callB call_gLen (by rfl) T.z_len (by decide +kernel) (a_cons (e_var (pv 1)) a_nil)) (e_cint T.n_MOST_RULES (by rfl)) (nomark _)) (e_one (e_callB (call_gAll c) (by rfl) T.z_all (by decide +kernel) (a_cons (e_lc (lb := true) (own := [("rule", 2)]) c (i_any (e_var (pv 1))) (blkOk_by (own := [("rule", 2)]) (N := ["schema", "thing", "rule"]) (sc := defScope s_is_book) (by decide +kernel)) (fun _ _ _ _ _ => (pg_name (i := 2) sc_is_book.nd rfl (Or.inl rfl))) tg_nm (by decide) (fun _ _ _ _ _ => ts_nil) (fun _ _ _ _ _ => (e_defA D_is_rule c.blk hr (by decide) (by rfl) (a_cons (e_var (pv 0)) (a_cons (e_var (pv 2)) a_nil))))) a_nil)))))))

abbrev s_check_book : Stmt := top 43
theorem sc_check_book : FnScope ["schema", "thing"] ["schema", "thing"] (defScope s_check_book) := ⟨rfl, rfl, rfl, by decide +kernel, rfl, by decide +kernel, by decide +kernel⟩
def m_check_book (a : Ad) : Fn := runF 2 2 (
  (sIf (mNot (mCall (gAuto (m_is_book a)) (mCons (mVar 0) (mCons (mVar 1) mNil)))) (sRaise a.C_InvalidBook) sNil))
theorem ok_check_book {a : Ad} (T : Tx P K mg base a) (D_is_book : Df P w K mg base TT "is_book" 17 a.f_is_book ["schema", "thing"] (m_is_book a)) {f : Addr} {fd : FuncData} (F : L2.Fun K "check_book" "check_book" s_check_book f fd) : FnG P w K mg base TT 18 f fd ["schema", "thing"] (m_check_book a) :=
  F.okG sc_check_book fun cdv A outer s H E hr c =>
  (s_one (s_if (t_not (t_val (e_defA D_is_book c hr (by decide) (by rfl) (a_cons (e_var (pv 0)) (a_cons (e_var (pv 1)) a_nil))))) (s_one (s_raise c (T.r_InvalidBook.mk_ (by rfl)))) s_nil))

abbrev s_spot_of : Stmt := top 32
theorem sc_spot_of : FnScope ["schema", "table", "column", "name", "kind"] ["schema", "table", "column"] (defScope s_spot_of) := ⟨rfl, rfl, rfl, by decide +kernel, rfl, by decide +kernel, by decide +kernel⟩
def m_spot_of (a : Ad) : Fn := runF 3 5 (
  (sRet (mIdx (mLc (itAny (mMeth a.C_Schema "columns" (gAuto (m_Schema_columns a)) (mVar 0) (mCons (mVar 1) mNil))) (tTp (tsCons (tNm 3) (tsCons (tNm 4) tsNil))) (mC (.bl true)) (mVar 3) [3, 4]) (mCons (mVar 2) mNil))))
theorem ok_spot_of {a : Ad} (T : Tx P K mg base a) (D_Schema_columns : Dm P w K mg base TT a.C_Schema "columns" 3 a.f_Schema_columns ["self", "table"] (m_Schema_columns a)) {f : Addr} {fd : FuncData} (F : L2.Fun K "spot_of" "spot_of" s_spot_of f fd) : FnG P w K mg base TT 4 f fd ["schema", "table", "column"] (m_spot_of a) :=
  F.okG sc_spot_of fun cdv A outer s H E hr c =>
  (s_one (s_ret (e_index c (e_lc (lb := true) (own := [("name", 3), ("kind", 4)]) c (i_any (e_methA D_Schema_columns c hr (by decide) (e_var (pv 0)) (a_cons (e_var (pv 1)) a_nil))) (blkOk_by (own := [("name", 3), ("kind", 4)]) (N := ["schema", "table", "column", "name", "kind"]) (sc := defScope s_spot_of) (by decide +kernel)) (fun _ _ _ _ _ => (pg_tup rfl (pgs_cons (pg_name (i := 3) sc_spot_of.nd rfl (Or.inl rfl)) (pgs_cons (pg_name (i := 4) sc_spot_of.nd rfl (Or.inl rfl)) pgs_nil)))) (tg_tp (tgs_cons tg_nm (tgs_cons tg_nm tgs_nil)) (len_cons (len_cons len_nil))) (by decide) (fun _ _ _ _ _ => ts_nil) (fun _ _ _ _ _ => (e_var (pv 3)))) (a_cons (e_var (pv 2)) a_nil))))

abbrev s_values_in : Stmt := top 33
theorem sc_values_in : FnScope ["schema", "rows", "table", "column", "spot", "values", "flags"] ["schema", "rows", "table", "column"] (defScope s_values_in) := ⟨rfl, rfl, rfl, by decide +kernel, rfl, by decide +kernel, by decide +kernel⟩
def m_values_in (a : Ad) : Fn := runF 4 7 (
  (sSeq (sAsg (mCall (gAuto (m_spot_of a)) (mCons (mVar 0) (mCons (mVar 2) (mCons (mVar 3) mNil)))) (tNm 4))
  (sRet (mLc (itAny (mOp gIx (mVar 1) (mVar 2))) (tTp (tsCons (tNm 5) (tsCons (tNm 6) tsNil))) (mC (.bl true)) (mOp gIx (mVar 5) (mVar 4)) [5, 6]))))
theorem ok_values_in {a : Ad} (T : Tx P K mg base a) (D_spot_of : Df P w K mg base TT "spot_of" 4 a.f_spot_of ["schema", "table", "column"] (m_spot_of a)) {f : Addr} {fd : FuncData} (F : L2.Fun K "values_in" "values_in" s_values_in f fd) : FnG P w K mg base TT 5 f fd ["schema", "rows", "table", "column"] (m_values_in a) :=
  F.okG sc_values_in fun cdv A outer s H E hr c =>
  (s_seq (s_set (ps_set (i := 4) sc_values_in.nd rfl (Or.inr rfl) (e_defA D_spot_of c hr (by decide) (by rfl) (a_cons (e_var (pv 0)) (a_cons (e_var (pv 2)) (a_cons (e_var (pv 3)) a_nil))))))
  (s_one (s_ret (e_lc (lb := true) (own := [("values", 5), ("flags", 6)]) c (i_any (e_ix c (e_var (pv 1)) (e_var (pv 2)) (fun _ _ => rfl))) (blkOk_by (own := [("values", 5), ("flags", 6)]) (N := ["schema", "rows", "table", "column", "spot", "values", "flags"]) (sc := defScope s_values_in) (by decide +kernel)) (fun _ _ _ _ _ => (pg_tup rfl (pgs_cons (pg_name (i := 5) sc_values_in.nd rfl (Or.inl rfl)) (pgs_cons (pg_name (i := 6) sc_values_in.nd rfl (Or.inl rfl)) pgs_nil)))) (tg_tp (tgs_cons tg_nm (tgs_cons tg_nm tgs_nil)) (len_cons (len_cons len_nil))) (by decide) (fun _ _ _ _ _ => ts_nil) (fun _ _ _ _ _ => (e_ix c.blk (e_var (pv 5)) (e_var (pv 4)) (fun _ _ => rfl)))))))

abbrev s_seen_values : Stmt := top 38
theorem sc_seen_values : FnScope ["schema", "rows", "has", "known", "other", "target", "condition", "word", "met", "values", "value", "is_met"] ["schema", "rows", "has", "known"] (defScope s_seen_values) := ⟨rfl, rfl, rfl, by decide +kernel, rfl, by decide +kernel, by decide +kernel⟩
def m_seen_values (a : Ad) (F_met_by : Fn) : Fn := runF 4 12 (
  (sSeq (sAsg (mSl (mVar 2) (some (mC (.int 2))) none) (tTp (tsCons (tNm 4) (tsCons (tNm 5) (tsCons (tNm 6) tsNil)))))
  (sSeq (sAsg (mCall gRepr (mCons (mSl (mVar 2) (some (mC (.int 2))) none) mNil)) (tNm 7))
  (sSeq (sIf (mOp gNin (mVar 7) (mVar 3)) (sSeq (sAsg (mCall (gAuto F_met_by) (mCons (mVar 0) (mCons (mVar 1) (mCons (mVar 4) (mCons (mVar 6) (mCons (mVar 3) mNil)))))) (tNm 8))
  (sSeq (sAsg (mCall (gAuto (m_values_in a)) (mCons (mVar 0) (mCons (mVar 1) (mCons (mVar 4) (mCons (mVar 5) mNil))))) (tNm 9))
  (sSet (mDg kdK (itZipS (mCons (mVar 9) (mCons (mVar 8) mNil))) (tTp (tsCons (tNm 10) (tsCons (tNm 11) tsNil))) (mVar 11) (mVar 10) (mC (.bl true)) [10, 11]) (mVar 3) (mVar 7)))) sNil)
  (sRet (mOp gIx (mVar 3) (mVar 7)))))))
theorem ok_seen_values {a : Ad} {F_met_by : Fn} {j : Nat} (T : Tx P K mg base a) (D_met_by : Df P w K mg base TT "met_by" (5 + j) a.f_met_by ["schema", "rows", "table", "condition", "known"] F_met_by) (D_values_in : Df P w K mg base TT "values_in" 5 a.f_values_in ["schema", "rows", "table", "column"] (m_values_in a)) {f : Addr} {fd : FuncData} (F : L2.Fun K "seen_values" "seen_values" s_seen_values f fd) : FnG P w K mg base TT (5 + j + 1) f fd ["schema", "rows", "has", "known"] (m_seen_values a F_met_by) :=
  F.okG sc_seen_values fun cdv A outer s H E hr c =>
  (s_seq (s_asg (ps_asg (e_sl (e_var (pv 2)) (part_some e_int) part_none) (pg_tup rfl (pgs_cons (pg_name (i := 4) sc_seen_values.nd rfl (Or.inl rfl)) (pgs_cons (pg_name (i := 5) sc_seen_values.nd rfl (Or.inl rfl)) (pgs_cons (pg_name (i := 6) sc_seen_values.nd rfl (Or.inl rfl)) pgs_nil))))) (tg_tp (tgs_cons tg_nm (tgs_cons tg_nm (tgs_cons tg_nm tgs_nil))) (len_cons (len_cons (len_cons len_nil)))))
  (s_seq (s_set (ps_set (i := 7) sc_seen_values.nd rfl (Or.inl rfl) (e_callB (call_gRepr c T.sm) (by rfl) T.z_repr (by decide +kernel) (a_cons (e_sl (e_var (pv 2)) (part_some e_int) part_none) a_nil))))
  (s_seq (s_if (t_cmp (op_gNin c) (e_var (pv 7)) (e_var (pv 3)) (by rfl)) (s_seq (s_set (ps_set (i := 8) sc_seen_values.nd rfl (Or.inl rfl) (e_defA D_met_by c hr (by omega) (by rfl) (a_cons (e_var (pv 0)) (a_cons (e_var (pv 1)) (a_cons (e_var (pv 4)) (a_cons (e_var (pv 6)) (a_cons (e_var (pv 3)) a_nil))))))))
  (s_seq (s_set (ps_set (i := 9) sc_seen_values.nd rfl (Or.inl rfl) (e_defA D_values_in c hr (by omega) (by rfl) (a_cons (e_var (pv 0)) (a_cons (e_var (pv 1)) (a_cons (e_var (pv 4)) (a_cons (e_var (pv 5)) a_nil)))))))
  (s_one (s_store c (e_var (pv 3)) (e_var (pv 7)) (e_dg kdK (lb := false) (own := [("value", 10), ("is_met", 11)]) c (i_zipS (by rfl) T.z_zip (a_cons (e_var (pv 9)) (a_cons (e_var (pv 8)) a_nil))) (blkOk_by (own := [("value", 10), ("is_met", 11)]) (N := ["schema", "rows", "has", "known", "other", "target", "condition", "word", "met", "values", "value", "is_met"]) (sc := defScope s_seen_values) (by decide +kernel)) (fun _ _ _ _ _ => (pg_tup rfl (pgs_cons (pg_name (i := 10) sc_seen_values.nd rfl (Or.inl rfl)) (pgs_cons (pg_name (i := 11) sc_seen_values.nd rfl (Or.inl rfl)) pgs_nil)))) (tg_tp (tgs_cons tg_nm (tgs_cons tg_nm tgs_nil)) (len_cons (len_cons len_nil))) (by decide) (fun _ _ _ _ _ => (ts_one (t_val (e_var (pv 11))))) (fun _ _ _ _ _ => (e_var (pv 10))) (fun _ _ _ _ _ => e_bl)))))) s_nil)
  (s_one (s_ret (e_ix c (e_var (pv 3)) (e_var (pv 7)) (fun _ _ => rfl)))))))

abbrev s_met_by : Stmt := top 39
theorem sc_met_by : FnScope ["schema", "rows", "table", "condition", "known", "spot", "values", "flags", "seen", "is_met", "first", "second", "part", "one", "other", "row"] ["schema", "rows", "table", "condition", "known"] (defScope s_met_by) := ⟨rfl, rfl, rfl, by decide +kernel, rfl, by decide +kernel, by decide +kernel⟩
def n_met_by (a : Ad) (F_met_by : Fn) : Fn := runF 5 16 (
  (sSeq (sMatch (mOp gIx (mVar 3) (mC (.int 0))) [(["flag"], (sSeq (sAsg (mTIdx (mMeth a.C_Schema "flags" (gAuto (m_Schema_flags a)) (mVar 0) (mCons (mVar 2) mNil)) (mCons (mOp gIx (mVar 3) (mC (.int 1))) mNil)) (tNm 5))
  (sRet (mLc (itAny (mOp gIx (mVar 1) (mVar 2))) (tTp (tsCons (tNm 6) (tsCons (tNm 7) tsNil))) (mC (.bl true)) (mOp gIx (mVar 7) (mVar 5)) [6, 7])))), (["has"], (sSeq (sPar 5 8 (mCons (mCall (gAuto (m_spot_of a)) (mCons (mVar 0) (mCons (mVar 2) (mCons (mOp gIx (mVar 3) (mC (.int 1))) mNil)))) (mCons (mCall (gAuto (m_seen_values a F_met_by)) (mCons (mVar 0) (mCons (mVar 1) (mCons (mVar 3) (mCons (mVar 4) mNil))))) mNil)))
  (sRet (mLc (itAny (mOp gIx (mVar 1) (mVar 2))) (tTp (tsCons (tNm 6) (tsCons (tNm 7) tsNil))) (mC (.bl true)) (mOp gIn (mOp gIx (mVar 6) (mVar 5)) (mVar 8)) [6, 7])))), (["not"], (sRet (mLc (itAny (mCall (gAuto F_met_by) (mCons (mVar 0) (mCons (mVar 1) (mCons (mVar 2) (mCons (mOp gIx (mVar 3) (mC (.int 1))) (mCons (mVar 4) mNil))))))) (tNm 9) (mC (.bl true)) (mNot (mVar 9)) [9]))), ((["and"] : List Str) ++ ((["or"] : List Str) ++ ([])), (sSeq (sAsg (mLc (itAny (mSl (mVar 3) (some (mC (.int 1))) none)) (tNm 12) (mC (.bl true)) (mCall (gAuto F_met_by) (mCons (mVar 0) (mCons (mVar 1) (mCons (mVar 2) (mCons (mVar 12) (mCons (mVar 4) mNil)))))) [12]) (tLs (tsCons (tNm 10) (tsCons (tNm 11) tsNil))))
  (sSeq (sIf (mOp gEq (mOp gIx (mVar 3) (mC (.int 0))) (mC (.str "and"))) (sRet (mLc (itZipS (mCons (mVar 10) (mCons (mVar 11) mNil))) (tTp (tsCons (tNm 13) (tsCons (tNm 14) tsNil))) (mC (.bl true)) (mAnd (mVar 13) (mVar 14)) [13, 14])) sNil)
  (sRet (mLc (itZipS (mCons (mVar 10) (mCons (mVar 11) mNil))) (tTp (tsCons (tNm 13) (tsCons (tNm 14) tsNil))) (mC (.bl true)) (mOr (mVar 13) (mVar 14)) [13, 14])))))])
  (sRet (mLc (itAny (mOp gIx (mVar 1) (mVar 2))) (tNm 15) (mC (.bl true)) (mC (.bl true)) [15]))))
def m_met_by (a : Ad) : Nat → Fn
  | 0 => fun _ _ => .stuck
  | n + 1 => n_met_by a (m_met_by a n)
theorem ok_met_by {a : Ad} {F_met_by : Fn} {j : Nat} (T : Tx P K mg base a) (D_Schema_flags : Dm P w K mg base TT a.C_Schema "flags" 3 a.f_Schema_flags ["self", "table"] (m_Schema_flags a)) (D_seen_values : Df P w K mg base TT "seen_values" (5 + j + 1) a.f_seen_values ["schema", "rows", "has", "known"] (m_seen_values a F_met_by)) (D_spot_of : Df P w K mg base TT "spot_of" 4 a.f_spot_of ["schema", "table", "column"] (m_spot_of a)) (D_met_by : Df P w K mg base TT "met_by" (5 + j) a.f_met_by ["schema", "rows", "table", "condition", "known"] F_met_by) {f : Addr} {fd : FuncData} (F : L2.Fun K "met_by" "met_by" s_met_by f fd) : FnG P w K mg base TT (5 + j + 2) f fd ["schema", "rows", "table", "condition", "known"] (n_met_by a F_met_by) :=
  F.okG sc_met_by fun cdv A outer s H E hr c =>
  (s_seq (s_match (e_ix c (e_var (pv 3)) e_int (fun _ _ => rfl)) (cs_cons p_val (s_seq (s_set (ps_set (i := 5) sc_met_by.nd rfl (Or.inr rfl) (e_tindex c (e_methA D_Schema_flags c hr (by omega) (e_var (pv 0)) (a_cons (e_var (pv 2)) a_nil)) (a_cons (e_ix c (e_var (pv 3)) e_int (fun _ _ => rfl)) a_nil))))
  (s_one (s_ret (e_lc (lb := true) (own := [("values", 6), ("flags", 7)]) c (i_any (e_ix c (e_var (pv 1)) (e_var (pv 2)) (fun _ _ => rfl))) (blkOk_by (own := [("values", 6), ("flags", 7)]) (N := ["schema", "rows", "table", "condition", "known", "spot", "values", "flags", "seen", "is_met", "first", "second", "part", "one", "other", "row"]) (sc := defScope s_met_by) (by decide +kernel)) (fun _ _ _ _ _ => (pg_tup rfl (pgs_cons (pg_name (i := 6) sc_met_by.nd rfl (Or.inl rfl)) (pgs_cons (pg_name (i := 7) sc_met_by.nd rfl (Or.inl rfl)) pgs_nil)))) (tg_tp (tgs_cons tg_nm (tgs_cons tg_nm tgs_nil)) (len_cons (len_cons len_nil))) (by decide) (fun _ _ _ _ _ => ts_nil) (fun _ _ _ _ _ => (e_ix c.blk (e_var (pv 7)) (e_var (pv 5)) (fun _ _ => rfl))))))) (cs_cons p_val (s_seq (s_parC (ps_asg (pe_tup (a_cons (e_defA D_spot_of c hr (by omega) (by rfl) (a_cons (e_var (pv 0)) (a_cons (e_var (pv 2)) (a_cons (e_ix c (e_var (pv 3)) e_int (fun _ _ => rfl)) a_nil)))) (a_cons (e_defA D_seen_values c hr (by omega) (by rfl) (a_cons (e_var (pv 0)) (a_cons (e_var (pv 1)) (a_cons (e_var (pv 3)) (a_cons (e_var (pv 4)) a_nil))))) a_nil))) (pg_tup rfl (pgs_cons (pg_name (i := 5) sc_met_by.nd rfl (Or.inr rfl)) (pgs_cons (pg_name (i := 8) sc_met_by.nd rfl (Or.inr rfl)) pgs_nil)))))
  (s_one (s_ret (e_lc (lb := true) (own := [("values", 6), ("flags", 7)]) c (i_any (e_ix c (e_var (pv 1)) (e_var (pv 2)) (fun _ _ => rfl))) (blkOk_by (own := [("values", 6), ("flags", 7)]) (N := ["schema", "rows", "table", "condition", "known", "spot", "values", "flags", "seen", "is_met", "first", "second", "part", "one", "other", "row"]) (sc := defScope s_met_by) (by decide +kernel)) (fun _ _ _ _ _ => (pg_tup rfl (pgs_cons (pg_name (i := 6) sc_met_by.nd rfl (Or.inl rfl)) (pgs_cons (pg_name (i := 7) sc_met_by.nd rfl (Or.inl rfl)) pgs_nil)))) (tg_tp (tgs_cons tg_nm (tgs_cons tg_nm tgs_nil)) (len_cons (len_cons len_nil))) (by decide) (fun _ _ _ _ _ => ts_nil) (fun _ _ _ _ _ => (e_cmp (op_gIn c.blk) (e_ix c.blk (e_var (pv 6)) (e_var (pv 5)) (fun _ _ => rfl)) (e_var (pv 8)) (by rfl))))))) (cs_cons p_val (s_one (s_ret (e_lc (lb := true) (own := [("is_met", 9)]) c (i_any (e_defA D_met_by c hr (by omega) (by rfl) (a_cons (e_var (pv 0)) (a_cons (e_var (pv 1)) (a_cons (e_var (pv 2)) (a_cons (e_ix c (e_var (pv 3)) e_int (fun _ _ => rfl)) (a_cons (e_var (pv 4)) a_nil))))))) (blkOk_by (own := [("is_met", 9)]) (N := ["schema", "rows", "table", "condition", "known", "spot", "values", "flags", "seen", "is_met", "first", "second", "part", "one", "other", "row"]) (sc := defScope s_met_by) (by decide +kernel)) (fun _ _ _ _ _ => (pg_name (i := 9) sc_met_by.nd rfl (Or.inl rfl))) tg_nm (by decide) (fun _ _ _ _ _ => ts_nil) (fun _ _ _ _ _ => (e_not (e_var (pv 9))))))) (cs_cons (p_or (f_cons p_val (f_cons p_val f_nil))) (s_seq (s_asg (ps_asg (e_lc (lb := true) (own := [("part", 12)]) c (i_any (e_sl (e_var (pv 3)) (part_some e_int) part_none)) (blkOk_by (own := [("part", 12)]) (N := ["schema", "rows", "table", "condition", "known", "spot", "values", "flags", "seen", "is_met", "first", "second", "part", "one", "other", "row"]) (sc := defScope s_met_by) (by decide +kernel)) (fun _ _ _ _ _ => (pg_name (i := 12) sc_met_by.nd rfl (Or.inl rfl))) tg_nm (by decide) (fun _ _ _ _ _ => ts_nil) (fun _ _ _ _ _ => (e_defA D_met_by c.blk hr (by omega) (by rfl) (a_cons (e_var (pv 0)) (a_cons (e_var (pv 1)) (a_cons (e_var (pv 2)) (a_cons (e_var (pv 12)) (a_cons (e_var (pv 4)) a_nil)))))))) (pg_unl rfl (pgs_cons (pg_name (i := 10) sc_met_by.nd rfl (Or.inl rfl)) (pgs_cons (pg_name (i := 11) sc_met_by.nd rfl (Or.inl rfl)) pgs_nil)))) (tg_ls (tgs_cons tg_nm (tgs_cons tg_nm tgs_nil)) (len_cons (len_cons len_nil))))
  (s_seq (s_if (t_cmp (op_gEq c) (e_ix c (e_var (pv 3)) e_int (fun _ _ => rfl)) e_str (nomark _)) (s_one (s_ret (e_lc (lb := false) (own := [("one", 13), ("other", 14)]) c (i_zipS (by rfl) T.z_zip (a_cons (e_var (pv 10)) (a_cons (e_var (pv 11)) a_nil))) (blkOk_by (own := [("one", 13), ("other", 14)]) (N := ["schema", "rows", "table", "condition", "known", "spot", "values", "flags", "seen", "is_met", "first", "second", "part", "one", "other", "row"]) (sc := defScope s_met_by) (by decide +kernel)) (fun _ _ _ _ _ => (pg_tup rfl (pgs_cons (pg_name (i := 13) sc_met_by.nd rfl (Or.inl rfl)) (pgs_cons (pg_name (i := 14) sc_met_by.nd rfl (Or.inl rfl)) pgs_nil)))) (tg_tp (tgs_cons tg_nm (tgs_cons tg_nm tgs_nil)) (len_cons (len_cons len_nil))) (by decide) (fun _ _ _ _ _ => ts_nil) (fun _ _ _ _ _ => (e_and (e_var (pv 13)) (e_one (e_var (pv 14)))))))) s_nil)
  (s_one (s_ret (e_lc (lb := false) (own := [("one", 13), ("other", 14)]) c (i_zipS (by rfl) T.z_zip (a_cons (e_var (pv 10)) (a_cons (e_var (pv 11)) a_nil))) (blkOk_by (own := [("one", 13), ("other", 14)]) (N := ["schema", "rows", "table", "condition", "known", "spot", "values", "flags", "seen", "is_met", "first", "second", "part", "one", "other", "row"]) (sc := defScope s_met_by) (by decide +kernel)) (fun _ _ _ _ _ => (pg_tup rfl (pgs_cons (pg_name (i := 13) sc_met_by.nd rfl (Or.inl rfl)) (pgs_cons (pg_name (i := 14) sc_met_by.nd rfl (Or.inl rfl)) pgs_nil)))) (tg_tp (tgs_cons tg_nm (tgs_cons tg_nm tgs_nil)) (len_cons (len_cons len_nil))) (by decide) (fun _ _ _ _ _ => ts_nil) (fun _ _ _ _ _ => (e_or (e_var (pv 13)) (e_one (e_var (pv 14)))))))))) cs_nil)))))
  (s_one (s_ret (e_lc (lb := true) (own := [("row", 15)]) c (i_any (e_ix c (e_var (pv 1)) (e_var (pv 2)) (fun _ _ => rfl))) (blkOk_by (own := [("row", 15)]) (N := ["schema", "rows", "table", "condition", "known", "spot", "values", "flags", "seen", "is_met", "first", "second", "part", "one", "other", "row"]) (sc := defScope s_met_by) (by decide +kernel)) (fun _ _ _ _ _ => (pg_name (i := 15) sc_met_by.nd rfl (Or.inl rfl))) tg_nm (by decide) (fun _ _ _ _ _ => ts_nil) (fun _ _ _ _ _ => e_bl)))))

abbrev s_breaches : Stmt := top 44
theorem sc_breaches : FnScope ["schema", "book", "rows", "found", "known", "number", "table", "condition", "met", "index", "is_met"] ["schema", "book", "rows"] (defScope s_breaches) := ⟨rfl, rfl, rfl, by decide +kernel, rfl, by decide +kernel, by decide +kernel⟩
def m_breaches (a : Ad) : Fn := runF 3 11 (
  (sSeq (sPar 3 4 (mCons (mSeq .lst mNil) (mCons (mOwn (.dK []) mNil) mNil)))
  (sSeq (sFor (itEn (mCons (mVar 1) mNil)) (tTp (tsCons (tNm 5) (tsCons (tTp (tsCons (tNm 6) (tsCons (tNm 7) tsNil))) tsNil))) (sSeq (sAsg (mCall (gAuto (m_met_by a 6)) (mCons (mVar 0) (mCons (mVar 2) (mCons (mVar 6) (mCons (mVar 7) (mCons (mVar 4) mNil)))))) (tNm 8))
  (sAsg (mSeq .lst (mStar (mVar 3) (mStar (mLc (itEn (mCons (mVar 8) mNil)) (tTp (tsCons (tNm 9) (tsCons (tNm 10) tsNil))) (mNot (mVar 10)) (mSeq .tup (mCons (mVar 5) (mCons (mVar 9) mNil))) [9, 10]) mNil))) (tNm 3))))
  (sRet (mVar 3)))))
theorem ok_breaches {a : Ad} (T : Tx P K mg base a) (D_met_by : Df P w K mg base TT "met_by" 17 a.f_met_by ["schema", "rows", "table", "condition", "known"] (m_met_by a 6)) {f : Addr} {fd : FuncData} (F : L2.Fun K "breaches" "breaches" s_breaches f fd) : FnG P w K mg base TT 18 f fd ["schema", "book", "rows"] (m_breaches a) :=
  F.okG sc_breaches fun cdv A outer s H E hr c =>
  (s_seq (s_par (ps_par (by rfl) sc_breaches.nd rfl rfl (by decide) rfl rfl (a_cons (e_lst a_nil) (a_cons e_dict0O a_nil)) (by rfl)))
  (s_seq (s_for c (L2.passes_of rfl) (i_en (by rfl) T.z_enumerate (a_cons (e_var (pv 1)) a_nil)) (pg_tup rfl (pgs_cons (pg_name (i := 5) sc_breaches.nd rfl (Or.inr rfl)) (pgs_cons (pg_tup rfl (pgs_cons (pg_name (i := 6) sc_breaches.nd rfl (Or.inl rfl)) (pgs_cons (pg_name (i := 7) sc_breaches.nd rfl (Or.inl rfl)) pgs_nil))) pgs_nil))) (tg_tp (tgs_cons tg_nm (tgs_cons (tg_tp (tgs_cons tg_nm (tgs_cons tg_nm tgs_nil)) (len_cons (len_cons len_nil))) tgs_nil)) (len_cons (len_cons len_nil))) (s_seq (s_set (ps_set (i := 8) sc_breaches.nd rfl (Or.inl rfl) (e_defA D_met_by c hr (by decide) (by rfl) (a_cons (e_var (pv 0)) (a_cons (e_var (pv 2)) (a_cons (e_var (pv 6)) (a_cons (e_var (pv 7)) (a_cons (e_var (pv 4)) a_nil))))))))
  (s_one (s_set (ps_set (i := 3) sc_breaches.nd rfl (Or.inl rfl) (e_lst (a_star (e_var (pv 3)) (a_star (e_lc (lb := false) (own := [("index", 9), ("is_met", 10)]) c (i_en (by rfl) T.z_enumerate (a_cons (e_var (pv 8)) a_nil)) (blkOk_by (own := [("index", 9), ("is_met", 10)]) (N := ["schema", "book", "rows", "found", "known", "number", "table", "condition", "met", "index", "is_met"]) (sc := defScope s_breaches) (by decide +kernel)) (fun _ _ _ _ _ => (pg_tup rfl (pgs_cons (pg_name (i := 9) sc_breaches.nd rfl (Or.inl rfl)) (pgs_cons (pg_name (i := 10) sc_breaches.nd rfl (Or.inl rfl)) pgs_nil)))) (tg_tp (tgs_cons tg_nm (tgs_cons tg_nm tgs_nil)) (len_cons (len_cons len_nil))) (by decide) (fun _ _ _ _ _ => (ts_one (t_not (t_val (e_var (pv 10)))))) (fun _ _ _ _ _ => (e_tup (a_cons (e_var (pv 5)) (a_cons (e_var (pv 9)) a_nil))))) a_nil))))))))
  (s_one (s_ret (e_var (pv 3))))))

abbrev s_does_keep : Stmt := top 45
theorem sc_does_keep : FnScope ["schema", "book", "rows"] ["schema", "book", "rows"] (defScope s_does_keep) := ⟨rfl, rfl, rfl, by decide +kernel, rfl, by decide +kernel, by decide +kernel⟩
def m_does_keep (a : Ad) : Fn := runF 3 3 (
  (sRet (mOp gEq (mCall (gAuto (m_breaches a)) (mCons (mVar 0) (mCons (mVar 1) (mCons (mVar 2) mNil)))) (mSeq .lst mNil))))
theorem ok_does_keep {a : Ad} (T : Tx P K mg base a) (D_breaches : Df P w K mg base TT "breaches" 18 a.f_breaches ["schema", "book", "rows"] (m_breaches a)) {f : Addr} {fd : FuncData} (F : L2.Fun K "does_keep" "does_keep" s_does_keep f fd) : FnG P w K mg base TT 19 f fd ["schema", "book", "rows"] (m_does_keep a) :=
  F.okG sc_does_keep fun cdv A outer s H E hr c =>
  (s_one (s_ret (e_cmp (op_gEq c) (e_defA D_breaches c hr (by decide) (by rfl) (a_cons (e_var (pv 0)) (a_cons (e_var (pv 1)) (a_cons (e_var (pv 2)) a_nil)))) (e_lst a_nil) (nomark _))))

abbrev s_keeps : Stmt := top 46
theorem sc_keeps : FnScope ["schema", "book", "rows"] ["schema", "book", "rows"] (defScope s_keeps) := ⟨rfl, rfl, rfl, by decide +kernel, rfl, by decide +kernel, by decide +kernel⟩
def m_keeps (a : Ad) : Fn := runF 3 3 (
  (sSeq (sExpr (mCall (gAuto (m_check_book a)) (mCons (mVar 0) (mCons (mVar 1) mNil))))
  (sSeq (sExpr (mCall (gAuto (m_check_rows a)) (mCons (mVar 0) (mCons (mVar 2) mNil))))
  (sRet (mCall (gAuto (m_does_keep a)) (mCons (mVar 0) (mCons (mVar 1) (mCons (mVar 2) mNil))))))))
theorem ok_keeps {a : Ad} (T : Tx P K mg base a) (D_check_book : Df P w K mg base TT "check_book" 18 a.f_check_book ["schema", "thing"] (m_check_book a)) (D_check_rows : Df P w K mg base TT "check_rows" 7 a.f_check_rows ["schema", "thing"] (m_check_rows a)) (D_does_keep : Df P w K mg base TT "does_keep" 19 a.f_does_keep ["schema", "book", "rows"] (m_does_keep a)) {f : Addr} {fd : FuncData} (F : L2.Fun K "keeps" "keeps" s_keeps f fd) : FnG P w K mg base TT 20 f fd ["schema", "book", "rows"] (m_keeps a) :=
  F.okG sc_keeps fun cdv A outer s H E hr c =>
  (s_seq (s_expr (e_defA D_check_book c hr (by decide) (by rfl) (a_cons (e_var (pv 0)) (a_cons (e_var (pv 1)) a_nil))))
  (s_seq (s_expr (e_defA D_check_rows c hr (by decide) (by rfl) (a_cons (e_var (pv 0)) (a_cons (e_var (pv 2)) a_nil))))
  (s_one (s_ret (e_defA D_does_keep c hr (by decide) (by rfl) (a_cons (e_var (pv 0)) (a_cons (e_var (pv 1)) (a_cons (e_var (pv 2)) a_nil))))))))

abbrev s_all_fillings : Stmt := top 61
theorem sc_all_fillings : FnScope ["schema", "book", "rows", "gaps", "found", "gap", "worths", "worth", "made", "one"] ["schema", "book", "rows"] (defScope s_all_fillings) := ⟨rfl, rfl, rfl, by decide +kernel, rfl, by decide +kernel, by decide +kernel⟩
def m_all_fillings (a : Ad) : Fn := runF 3 10 (
  (sSeq (sPar 3 4 (mCons (mCall (gAuto (m_gaps_in a)) (mCons (mVar 0) (mCons (mVar 2) mNil))) (mCons (mSeq .lst (mCons (mSeq .tup mNil) mNil)) mNil)))
  (sSeq (sFor (itSeq (mVar 3)) (tNm 5) (sAsg (mLc2 (itAny (mVar 4)) (tNm 6) (mC (.bl true)) (itSeq (mSeq .tup (mCons (mC (.bl false)) (mCons (mC (.bl true)) mNil)))) (tNm 7) (mC (.bl true)) (mSeq .tup (mStar (mVar 6) (mCons (mVar 7) mNil))) [6, 7] [7]) (tNm 4)))
  (sSeq (sAsg (mLc (itAny (mVar 4)) (tNm 6) (mC (.bl true)) (mCall (gAuto (m_filled a)) (mCons (mVar 0) (mCons (mVar 2) (mCons (mVar 3) (mCons (mVar 6) mNil))))) [6]) (tNm 8))
  (sRet (mLc (itAny (mVar 8)) (tNm 9) (mCall (gAuto (m_keeps a)) (mCons (mVar 0) (mCons (mVar 1) (mCons (mVar 9) mNil)))) (mVar 9) [9]))))))
theorem ok_all_fillings {a : Ad} (T : Tx P K mg base a) (D_gaps_in : Df P w K mg base TT "gaps_in" 3 a.f_gaps_in ["schema", "rows"] (m_gaps_in a)) (D_filled : Df P w K mg base TT "filled" 3 a.f_filled ["schema", "rows", "gaps", "worths"] (m_filled a)) (D_keeps : Df P w K mg base TT "keeps" 20 a.f_keeps ["schema", "book", "rows"] (m_keeps a)) {f : Addr} {fd : FuncData} (F : L2.Fun K "all_fillings" "all_fillings" s_all_fillings f fd) : FnG P w K mg base TT 21 f fd ["schema", "book", "rows"] (m_all_fillings a) :=
  F.okG sc_all_fillings fun cdv A outer s H E hr c =>
  (s_seq (s_parC (ps_asg (pe_tup (a_cons (e_defA D_gaps_in c hr (by decide) (by rfl) (a_cons (e_var (pv 0)) (a_cons (e_var (pv 2)) a_nil))) (a_cons (e_lst (a_cons (e_tup a_nil) a_nil)) a_nil))) (pg_tup rfl (pgs_cons (pg_name (i := 3) sc_all_fillings.nd rfl (Or.inr rfl)) (pgs_cons (pg_name (i := 4) sc_all_fillings.nd rfl (Or.inl rfl)) pgs_nil)))))
  (s_seq (s_for c (L2.passes_of rfl) (i_seq (e_var (pv 3))) (pg_name (i := 5) sc_all_fillings.nd rfl (Or.inl rfl)) tg_nm (s_one (s_setLc2 (lb := true) (ps_setLc2 (i := 4) (own := [("worths", 6), ("worth", 7)]) (vs1 := [7]) rfl sc_all_fillings.nd rfl rfl (sw_true rfl rfl rfl (by decide +kernel)) (i_any (e_var (pv 4))) (blkOk_by (own := [("worths", 6), ("worth", 7)]) (N := ["schema", "book", "rows", "gaps", "found", "gap", "worths", "worth", "made", "one"]) (sc := defScope s_all_fillings) (by decide +kernel)) (by decide) (fun _ _ _ _ _ => (pg_name (i := 6) sc_all_fillings.nd rfl (Or.inl rfl))) (fun _ _ _ _ _ => ts_nil) (i_ctx (fun _ _ _ _ _ => (i_seq (e_tup (a_cons e_bl (a_cons e_bl a_nil)))))) (fun _ _ _ _ _ => (pg_name (i := 7) sc_all_fillings.nd rfl (Or.inl rfl))) (fun _ _ _ _ _ => ts_nil) (fun _ _ _ _ _ => (e_tup (a_star (e_var (pv 6)) (a_cons (e_var (pv 7)) a_nil))))) tg_nm (by decide) tg_nm (by decide))))
  (s_seq (s_setLc (lb := true) (ps_setLc (i := 8) (own := [("worths", 6)]) rfl sc_all_fillings.nd rfl rfl (sw_true rfl rfl rfl (by decide +kernel)) (i_any (e_var (pv 4))) (blkOk_by (own := [("worths", 6)]) (N := ["schema", "book", "rows", "gaps", "found", "gap", "worths", "worth", "made", "one"]) (sc := defScope s_all_fillings) (by decide +kernel)) (fun _ _ _ _ _ => (pg_name (i := 6) sc_all_fillings.nd rfl (Or.inl rfl))) (fun _ _ _ _ _ => ts_nil) (fun _ _ _ _ _ => (e_defA D_filled c.blk hr (by decide) (by rfl) (a_cons (e_var (pv 0)) (a_cons (e_var (pv 2)) (a_cons (e_var (pv 3)) (a_cons (e_var (pv 6)) a_nil))))))) tg_nm (by decide))
  (s_one (s_ret (e_lc (lb := true) (own := [("one", 9)]) c (i_any (e_var (pv 8))) (blkOk_by (own := [("one", 9)]) (N := ["schema", "book", "rows", "gaps", "found", "gap", "worths", "worth", "made", "one"]) (sc := defScope s_all_fillings) (by decide +kernel)) (fun _ _ _ _ _ => (pg_name (i := 9) sc_all_fillings.nd rfl (Or.inl rfl))) tg_nm (by decide) (fun _ _ _ _ _ => (ts_one (t_val (e_defA D_keeps c.blk hr (by decide) (by rfl) (a_cons (e_var (pv 0)) (a_cons (e_var (pv 1)) (a_cons (e_var (pv 9)) a_nil))))))) (fun _ _ _ _ _ => (e_var (pv 9)))))))))

abbrev s_check_bare : Stmt := top 56
theorem sc_check_bare : FnScope ["schema", "book", "lacking", "rows"] ["schema", "book", "lacking", "rows"] (defScope s_check_bare) := ⟨rfl, rfl, rfl, by decide +kernel, rfl, by decide +kernel, by decide +kernel⟩
def m_check_bare (a : Ad) : Fn := runF 4 4 (
  (sSeq (sExpr (mCall (gAuto (m_check_book a)) (mCons (mVar 0) (mCons (mVar 1) mNil))))
  (sSeq (sExpr (mCall (gAuto (m_check_lacking a)) (mCons (mVar 0) (mCons (mVar 2) mNil))))
  (sIf (mNot (mCall (gAuto (m_are_known_bare a)) (mCons (mVar 0) (mCons (mVar 2) (mCons (mVar 3) mNil))))) (sRaise a.C_InvalidRows) sNil))))
theorem ok_check_bare {a : Ad} (T : Tx P K mg base a) (D_check_book : Df P w K mg base TT "check_book" 18 a.f_check_book ["schema", "thing"] (m_check_book a)) (D_check_lacking : Df P w K mg base TT "check_lacking" 5 a.f_check_lacking ["schema", "thing"] (m_check_lacking a)) (D_are_known_bare : Df P w K mg base TT "are_known_bare" 5 a.f_are_known_bare ["schema", "lacking", "thing"] (m_are_known_bare a)) {f : Addr} {fd : FuncData} (F : L2.Fun K "check_bare" "check_bare" s_check_bare f fd) : FnG P w K mg base TT 19 f fd ["schema", "book", "lacking", "rows"] (m_check_bare a) :=
  F.okG sc_check_bare fun cdv A outer s H E hr c =>
  (s_seq (s_expr (e_defA D_check_book c hr (by decide) (by rfl) (a_cons (e_var (pv 0)) (a_cons (e_var (pv 1)) a_nil))))
  (s_seq (s_expr (e_defA D_check_lacking c hr (by decide) (by rfl) (a_cons (e_var (pv 0)) (a_cons (e_var (pv 2)) a_nil))))
  (s_one (s_if (t_not (t_val (e_defA D_are_known_bare c hr (by decide) (by rfl) (a_cons (e_var (pv 0)) (a_cons (e_var (pv 2)) (a_cons (e_var (pv 3)) a_nil)))))) (s_one (s_raise c (T.r_InvalidRows.mk_ (by rfl)))) s_nil))))

abbrev s_fillings : Stmt := top 62
theorem sc_fillings : FnScope ["schema", "book", "lacking", "rows"] ["schema", "book", "lacking", "rows"] (defScope s_fillings) := ⟨rfl, rfl, rfl, by decide +kernel, rfl, by decide +kernel, by decide +kernel⟩
def m_fillings (a : Ad) : Fn := runF 4 4 (
  (sSeq (sExpr (mCall (gAuto (m_check_bare a)) (mCons (mVar 0) (mCons (mVar 1) (mCons (mVar 2) (mCons (mVar 3) mNil))))))
  (sRet (mCall (gAuto (m_all_fillings a)) (mCons (mVar 0) (mCons (mVar 1) (mCons (mVar 3) mNil)))))))
theorem ok_fillings {a : Ad} (T : Tx P K mg base a) (D_check_bare : Df P w K mg base TT "check_bare" 19 a.f_check_bare ["schema", "book", "lacking", "rows"] (m_check_bare a)) (D_all_fillings : Df P w K mg base TT "all_fillings" 21 a.f_all_fillings ["schema", "book", "rows"] (m_all_fillings a)) {f : Addr} {fd : FuncData} (F : L2.Fun K "fillings" "fillings" s_fillings f fd) : FnG P w K mg base TT 22 f fd ["schema", "book", "lacking", "rows"] (m_fillings a) :=
  F.okG sc_fillings fun cdv A outer s H E hr c =>
  (s_seq (s_expr (e_defA D_check_bare c hr (by decide) (by rfl) (a_cons (e_var (pv 0)) (a_cons (e_var (pv 1)) (a_cons (e_var (pv 2)) (a_cons (e_var (pv 3)) a_nil))))))
  (s_one (s_ret (e_defA D_all_fillings c hr (by decide) (by rfl) (a_cons (e_var (pv 0)) (a_cons (e_var (pv 1)) (a_cons (e_var (pv 3)) a_nil)))))))

abbrev s_how_many : Stmt := top 63
theorem sc_how_many : FnScope ["schema", "book", "lacking", "rows"] ["schema", "book", "lacking", "rows"] (defScope s_how_many) := ⟨rfl, rfl, rfl, by decide +kernel, rfl, by decide +kernel, by decide +kernel⟩
def m_how_many (a : Ad) : Fn := runF 4 4 (
  (sRet (mCall gLen (mCons (mCall (gAuto (m_fillings a)) (mCons (mVar 0) (mCons (mVar 1) (mCons (mVar 2) (mCons (mVar 3) mNil))))) mNil))))
theorem ok_how_many {a : Ad} (T : Tx P K mg base a) (D_fillings : Df P w K mg base TT "fillings" 22 a.f_fillings ["schema", "book", "lacking", "rows"] (m_fillings a)) {f : Addr} {fd : FuncData} (F : L2.Fun K "how_many" "how_many" s_how_many f fd) : FnG P w K mg base TT 23 f fd ["schema", "book", "lacking", "rows"] (m_how_many a) :=
  F.okG sc_how_many fun cdv A outer s H E hr c =>
  (s_one (s_ret (e_callB call_gLen (by rfl) T.z_len (by decide +kernel) (a_cons (e_defA D_fillings c hr (by decide) (by rfl) (a_cons (e_var (pv 0)) (a_cons (e_var (pv 1)) (a_cons (e_var (pv 2)) (a_cons (e_var (pv 3)) a_nil))))) a_nil))))

abbrev s_is_filling : Stmt := top 57
theorem sc_is_filling : FnScope ["schema", "book", "lacking", "rows", "thing", "table"] ["schema", "book", "lacking", "rows", "thing"] (defScope s_is_filling) := ⟨rfl, rfl, rfl, by decide +kernel, rfl, by decide +kernel, by decide +kernel⟩
def m_is_filling (a : Ad) : Fn := runF 5 6 (
  (sSeq (sExpr (mCall (gAuto (m_check_bare a)) (mCons (mVar 0) (mCons (mVar 1) (mCons (mVar 2) (mCons (mVar 3) mNil))))))
  (sSeq (sIf (mOr (mNot (mCall (gAuto (m_are_rows a)) (mCons (mVar 0) (mCons (mVar 4) mNil)))) (mNot (mCall (gAuto (m_keeps a)) (mCons (mVar 0) (mCons (mVar 1) (mCons (mVar 4) mNil)))))) (sRet (mC (.bl false))) sNil)
  (sRet (mOp gEq (mCall (gAuto (m_bared a)) (mCons (mVar 0) (mCons (mVar 4) (mCons (mVar 2) mNil)))) (mDg kdK (itAny (mProp a.C_Schema (gFn (m_Schema_tables a)) (mVar 0))) (tNm 5) (mC (.bl true)) (mVar 5) (mOp gIx (mVar 3) (mVar 5)) [5]))))))
theorem ok_is_filling {a : Ad} (T : Tx P K mg base a) (D_check_bare : Df P w K mg base TT "check_bare" 19 a.f_check_bare ["schema", "book", "lacking", "rows"] (m_check_bare a)) (D_keeps : Df P w K mg base TT "keeps" 20 a.f_keeps ["schema", "book", "rows"] (m_keeps a)) (D_are_rows : Df P w K mg base TT "are_rows" 6 a.f_are_rows ["schema", "thing"] (m_are_rows a)) (D_bared : Df P w K mg base TT "bared" 4 a.f_bared ["schema", "rows", "lacking"] (m_bared a)) (D_Schema_tables : Dp' P w K mg base TT a.C_Schema "tables" 1 a.p_Schema_tables a.f_Schema_tables (m_Schema_tables a)) {f : Addr} {fd : FuncData} (F : L2.Fun K "is_filling" "is_filling" s_is_filling f fd) : FnG P w K mg base TT 21 f fd ["schema", "book", "lacking", "rows", "thing"] (m_is_filling a) :=
  F.okG sc_is_filling fun cdv A outer s H E hr c =>
  (s_seq (s_expr (e_defA D_check_bare c hr (by decide) (by rfl) (a_cons (e_var (pv 0)) (a_cons (e_var (pv 1)) (a_cons (e_var (pv 2)) (a_cons (e_var (pv 3)) a_nil))))))
  (s_seq (s_if (PW.pt (w_or (t_not (t_val (e_defA D_are_rows c hr (by decide) (by rfl) (a_cons (e_var (pv 0)) (a_cons (e_var (pv 4)) a_nil))))) (w_or1 (t_not (t_val (e_defA D_keeps c hr (by decide) (by rfl) (a_cons (e_var (pv 0)) (a_cons (e_var (pv 1)) (a_cons (e_var (pv 4)) a_nil))))))))) (s_one (s_ret e_bl)) s_nil)
  (s_one (s_ret (e_cmp (op_gEq c) (e_defA D_bared c hr (by decide) (by rfl) (a_cons (e_var (pv 0)) (a_cons (e_var (pv 4)) (a_cons (e_var (pv 2)) a_nil)))) (e_dg kdK (lb := true) (own := [("table", 5)]) c (i_any (e_prop D_Schema_tables c hr (by decide) (e_var (pv 0)) (by rfl))) (blkOk_by (own := [("table", 5)]) (N := ["schema", "book", "lacking", "rows", "thing", "table"]) (sc := defScope s_is_filling) (by decide +kernel)) (fun _ _ _ _ _ => (pg_name (i := 5) sc_is_filling.nd rfl (Or.inl rfl))) tg_nm (by decide) (fun _ _ _ _ _ => ts_nil) (fun _ _ _ _ _ => (e_var (pv 5))) (fun _ _ _ _ _ => (e_ix c.blk (e_var (pv 3)) (e_var (pv 5)) (fun _ _ => rfl)))) (nomark _))))))

abbrev s_agreed : Stmt := top 64
theorem sc_agreed : FnScope ["flags"] ["flags"] (defScope s_agreed) := ⟨rfl, rfl, rfl, by decide +kernel, rfl, by decide +kernel, by decide +kernel⟩
def m_agreed (a : Ad) : Fn := runF 1 1 (
  (sRet (mIf (mOp gEq (mCnt (mVar 0) (mCons (mOp gIx (mVar 0) (mC (.int 0))) mNil)) (mCall gLen (mCons (mVar 0) mNil))) (mOp gIx (mVar 0) (mC (.int 0))) (mC .non))))
theorem ok_agreed {a : Ad} (T : Tx P K mg base a)  {f : Addr} {fd : FuncData} (F : L2.Fun K "agreed" "agreed" s_agreed f fd) : FnG P w K mg base TT 1 f fd ["flags"] (m_agreed a) :=
  F.okG sc_agreed fun cdv A outer s H E hr c =>
  (s_one (s_ret (e_if (t_cmp (op_gEq c) (e_count c (e_var (pv 0)) (a_cons (e_ix c (e_var (pv 0)) e_int (fun _ _ => rfl)) a_nil)) (e_callB call_gLen (by rfl) T.z_len (by decide +kernel) (a_cons (e_var (pv 0)) a_nil)) (nomark _)) (e_ix c (e_var (pv 0)) e_int (fun _ _ => rfl)) e_non)))

abbrev s_sure : Stmt := top 65
theorem sc_sure : FnScope ["schema", "book", "lacking", "rows", "every", "found", "table", "index", "values", "flags", "some", "one", "spot", "worths"] ["schema", "book", "lacking", "rows"] (defScope s_sure) := ⟨rfl, rfl, rfl, by decide +kernel, rfl, by decide +kernel, by decide +kernel⟩
def m_sure (a : Ad) : Fn := runF 4 14 (
  (sSeq (sAsg (mCall (gAuto (m_fillings a)) (mCons (mVar 0) (mCons (mVar 1) (mCons (mVar 2) (mCons (mVar 3) mNil))))) (tNm 4))
  (sSeq (sIf (mOp gEq (mVar 4) (mSeq .lst mNil)) (sRet (mC .non)) sNil)
  (sSeq (sAsg (mOwn (.dK []) mNil) (tNm 5))
  (sSeq (sFor (itSeq (mProp a.C_Schema (gFn (m_Schema_tables a)) (mVar 0))) (tNm 6) (sSeq (sSet (mOwn .lst mNil) (mVar 5) (mVar 6))
  (sFor (itEn (mCons (mOp gIx (mVar 3) (mVar 6)) mNil)) (tTp (tsCons (tNm 7) (tsCons (tTp (tsCons (tNm 8) (tsCons (tNm 9) tsNil))) tsNil))) (sSeq (sAsg (mLc (itRng1 (mCons (mCall gLen (mCons (mVar 9) mNil)) mNil)) (tNm 12) (mC (.bl true)) (mLc (itAny (mVar 4)) (tNm 11) (mC (.bl true)) (mOp gIx (mOp gIx (mOp gIx (mOp gIx (mVar 11) (mVar 6)) (mVar 7)) (mC (.int 1))) (mVar 12)) [11]) [12]) (tNm 10))
  (sExpr (mCm isL (mOp gIx (mVar 5) (mVar 6)) (mCons (mSeq .tup (mCons (mVar 8) (mCons (mCall gTuple (mCons (mLc (itAny (mVar 10)) (tNm 13) (mC (.bl true)) (mCall (gAuto (m_agreed a)) (mCons (mVar 13) mNil)) [13]) mNil)) mNil))) mNil) gApp))))))
  (sRet (mVar 5)))))))
theorem ok_sure {a : Ad} (T : Tx P K mg base a) (D_fillings : Df P w K mg base TT "fillings" 22 a.f_fillings ["schema", "book", "lacking", "rows"] (m_fillings a)) (D_Schema_tables : Dp' P w K mg base TT a.C_Schema "tables" 1 a.p_Schema_tables a.f_Schema_tables (m_Schema_tables a)) (D_agreed : Df P w K mg base TT "agreed" 1 a.f_agreed ["flags"] (m_agreed a)) {f : Addr} {fd : FuncData} (F : L2.Fun K "sure" "sure" s_sure f fd) : FnG P w K mg base TT 23 f fd ["schema", "book", "lacking", "rows"] (m_sure a) :=
  F.okG sc_sure fun cdv A outer s H E hr c =>
  (s_seq (s_set (ps_set (i := 4) sc_sure.nd rfl (Or.inr rfl) (e_defA D_fillings c hr (by decide) (by rfl) (a_cons (e_var (pv 0)) (a_cons (e_var (pv 1)) (a_cons (e_var (pv 2)) (a_cons (e_var (pv 3)) a_nil)))))))
  (s_seq (s_if (t_cmp (op_gEq c) (e_var (pv 4)) (e_lst a_nil) (nomark _)) (s_one (s_ret e_non)) s_nil)
  (s_seq (s_set (ps_set (i := 5) sc_sure.nd rfl (Or.inl rfl) e_dict0O))
  (s_seq (s_for c (L2.passes_of rfl) (i_seq (e_prop D_Schema_tables c hr (by decide) (e_var (pv 0)) (by rfl))) (pg_name (i := 6) sc_sure.nd rfl (Or.inr rfl)) tg_nm (s_seq (s_store c (e_var (pv 5)) (e_var (pv 6)) (e_lstO a_nil))
  (s_one (s_for c (L2.passes_of rfl) (i_en (by rfl) T.z_enumerate (a_cons (e_ix c (e_var (pv 3)) (e_var (pv 6)) (fun _ _ => rfl)) a_nil)) (pg_tup rfl (pgs_cons (pg_name (i := 7) sc_sure.nd rfl (Or.inr rfl)) (pgs_cons (pg_tup rfl (pgs_cons (pg_name (i := 8) sc_sure.nd rfl (Or.inl rfl)) (pgs_cons (pg_name (i := 9) sc_sure.nd rfl (Or.inl rfl)) pgs_nil))) pgs_nil))) (tg_tp (tgs_cons tg_nm (tgs_cons (tg_tp (tgs_cons tg_nm (tgs_cons tg_nm tgs_nil)) (len_cons (len_cons len_nil))) tgs_nil)) (len_cons (len_cons len_nil))) (s_seq (s_setLc (lb := false) (ps_setLc (i := 10) (own := [("spot", 12)]) rfl sc_sure.nd rfl rfl (sw_true rfl rfl rfl (by decide +kernel)) (i_rng1 (by rfl) T.z_range (a_cons (e_callB call_gLen (by rfl) T.z_len (by decide +kernel) (a_cons (e_var (pv 9)) a_nil)) a_nil)) (blkOk_by (own := [("spot", 12)]) (N := ["schema", "book", "lacking", "rows", "every", "found", "table", "index", "values", "flags", "some", "one", "spot", "worths"]) (sc := defScope s_sure) (by decide +kernel)) (fun _ _ _ _ _ => (pg_name (i := 12) sc_sure.nd rfl (Or.inr rfl))) (fun _ _ _ _ _ => ts_nil) (fun _ _ _ _ _ => (e_lc (lb := true) (own := [("one", 11)]) c.blk (i_any (e_var (pv 4))) (blkOk_by (own := [("one", 11)]) (N := ["schema", "book", "lacking", "rows", "every", "found", "table", "index", "values", "flags", "some", "one", "spot", "worths"]) (by kernel_rfl)) (fun _ _ _ _ _ => (pg_name (i := 11) sc_sure.nd rfl (Or.inl rfl))) tg_nm (by decide) (fun _ _ _ _ _ => ts_nil) (fun _ _ _ _ _ => (e_ix c.blk.blk (e_ix c.blk.blk (e_ix c.blk.blk (e_ix c.blk.blk (e_var (pv 11)) (e_var (pv 6)) (fun _ _ => rfl)) (e_var (pv 7)) (fun _ _ => rfl)) e_int (fun _ _ => rfl)) (e_var (pv 12)) (fun _ _ => rfl)))))) tg_nm (by decide))
  (s_one (s_expr (e_append (e_ix c (e_var (pv 5)) (e_var (pv 6)) (fun _ _ => rfl)) (a_cons (e_tup (a_cons (e_var (pv 8)) (a_cons (e_callTy (call_gTuple c) (by rfl) T.z_tuple (by decide +kernel) (a_cons (e_lc (lb := true) (own := [("worths", 13)]) c (i_any (e_var (pv 10))) (blkOk_by (own := [("worths", 13)]) (N := ["schema", "book", "lacking", "rows", "every", "found", "table", "index", "values", "flags", "some", "one", "spot", "worths"]) (sc := defScope s_sure) (by decide +kernel)) (fun _ _ _ _ _ => (pg_name (i := 13) sc_sure.nd rfl (Or.inl rfl))) tg_nm (by decide) (fun _ _ _ _ _ => ts_nil) (fun _ _ _ _ _ => (e_defA D_agreed c.blk hr (by decide) (by rfl) (a_cons (e_var (pv 13)) a_nil)))) a_nil)) a_nil))) a_nil)))))))))
  (s_one (s_ret (e_var (pv 5))))))))

abbrev s__law_calls_right : Stmt := top 77
theorem sc__law_calls_right : FnScope ["made", "rules", "lacking", "rows", "thing", "dues", "seen", "found"] ["made", "rules", "lacking", "rows", "thing", "dues"] (defScope s__law_calls_right) := ⟨rfl, rfl, rfl, by decide +kernel, rfl, by decide +kernel, by decide +kernel⟩
def m__law_calls_right (a : Ad) : Fn := runF 6 8 (
  (sSeq (sAsg (mCall gRepr (mCons (mSeq .lst (mCons (mVar 1) (mCons (mVar 2) (mCons (mVar 3) (mCons (mVar 4) mNil))))) mNil)) (tNm 6))
  (sSeq (sAsg (mOwn .lst (mCons (mWord a.told (w__law_word a) (mCall (gAuto (m_bare a)) (mCons (mVar 0) (mCons (mVar 4) (mCons (mVar 2) mNil))))) mNil)) (tNm 7))
  (sSeq (sExpr (mCm isL (mVar 7) (mCons (mWord a.told (w__law_word a) (mCall (gAuto (m_are_bare a)) (mCons (mVar 0) (mCons (mVar 2) (mCons (mVar 4) mNil))))) mNil) gApp))
  (sSeq (sExpr (mCm isL (mVar 7) (mCons (mWord a.told (w__law_word a) (mCall (gAuto (m_is_filling a)) (mCons (mVar 0) (mCons (mVar 1) (mCons (mVar 2) (mCons (mVar 3) (mCons (mVar 4) mNil))))))) mNil) gApp))
  (sSeq (sExpr (mCm isL (mVar 7) (mCons (mWord a.told (w__law_word a) (mCall (gAuto (m_fillings a)) (mCons (mVar 0) (mCons (mVar 1) (mCons (mVar 2) (mCons (mVar 3) mNil)))))) mNil) gApp))
  (sSeq (sExpr (mCm isL (mVar 7) (mCons (mWord a.told (w__law_word a) (mCall (gAuto (m_how_many a)) (mCons (mVar 0) (mCons (mVar 1) (mCons (mVar 2) (mCons (mVar 3) mNil)))))) mNil) gApp))
  (sSeq (sExpr (mCm isL (mVar 7) (mCons (mWord a.told (w__law_word a) (mCall (gAuto (m_sure a)) (mCons (mVar 0) (mCons (mVar 1) (mCons (mVar 2) (mCons (mVar 3) mNil)))))) mNil) gApp))
  (sRet (mAnd (mOp gEq (mVar 7) (mVar 5)) (mOp gEq (mCall gRepr (mCons (mSeq .lst (mCons (mVar 1) (mCons (mVar 2) (mCons (mVar 3) (mCons (mVar 4) mNil))))) mNil)) (mVar 6))))))))))))
theorem ok__law_calls_right {a : Ad} (T : Tx P K mg base a) (D__law_word : Wd P w K mg base TT "_law_word" "act" 1 a.f__law_word a.told (w__law_word a)) (D_bare : Df P w K mg base TT "bare" 8 a.f_bare ["schema", "rows", "lacking"] (m_bare a)) (D_are_bare : Df P w K mg base TT "are_bare" 6 a.f_are_bare ["schema", "lacking", "thing"] (m_are_bare a)) (D_is_filling : Df P w K mg base TT "is_filling" 21 a.f_is_filling ["schema", "book", "lacking", "rows", "thing"] (m_is_filling a)) (D_fillings : Df P w K mg base TT "fillings" 22 a.f_fillings ["schema", "book", "lacking", "rows"] (m_fillings a)) (D_how_many : Df P w K mg base TT "how_many" 23 a.f_how_many ["schema", "book", "lacking", "rows"] (m_how_many a)) (D_sure : Df P w K mg base TT "sure" 23 a.f_sure ["schema", "book", "lacking", "rows"] (m_sure a)) (TBt : LamX.TabB base mg a.kc__law_calls_right a.kt__law_calls_right) (hmT : (a.kt__law_calls_right, ((("_law_calls_right" : Str) ++ (".<locals>." : Str)) ++ ("<lambda>" : Str))) ∈ TT) (hu : ∀ p ∈ TT, p.1 = a.kt__law_calls_right → p.2 = ((("_law_calls_right" : Str) ++ (".<locals>." : Str)) ++ ("<lambda>" : Str))) {f : Addr} {fd : FuncData} (F : L2.Fun K "_law_calls_right" "_law_calls_right" s__law_calls_right f fd) (hcd : fd.code = .ref a.kc__law_calls_right) : FnG P w K mg base TT 26 f fd ["made", "rules", "lacking", "rows", "thing", "dues"] (m__law_calls_right a) :=
  okGL F sc__law_calls_right hcd fun A outer s H E hr c =>
  (s_seq (s_set (ps_set (i := 6) sc__law_calls_right.nd rfl (Or.inl rfl) (e_callB (call_gRepr c T.sm) (by rfl) T.z_repr (by decide +kernel) (a_cons (e_lst (a_cons (e_var (pv 1)) (a_cons (e_var (pv 2)) (a_cons (e_var (pv 3)) (a_cons (e_var (pv 4)) a_nil))))) a_nil))))
  (s_seq (s_set (ps_set (i := 7) sc__law_calls_right.nd rfl (Or.inl rfl) (e_lstO (a_cons (e_word (k := 23) c (D__law_word.mono (by omega)) (by rfl) hr TBt rfl hmT hu (LamX.lamS_by (by kernel_rfl)) rfl (fun _ _ _ _ _ => rfl) (fun _ _ _ _ _ _ _ hr2 c2 => (e_defA D_bare c2 hr2 (by omega) (by rfl) (a_cons (e_var (pv 0)) (a_cons (e_var (pv 4)) (a_cons (e_var (pv 2)) a_nil)))))) a_nil))))
  (s_seq (s_expr (e_append (e_var (pv 7)) (a_cons (e_word (k := 23) c (D__law_word.mono (by omega)) (by rfl) hr TBt rfl hmT hu (LamX.lamS_by (by kernel_rfl)) rfl (fun _ _ _ _ _ => rfl) (fun _ _ _ _ _ _ _ hr2 c2 => (e_defA D_are_bare c2 hr2 (by omega) (by rfl) (a_cons (e_var (pv 0)) (a_cons (e_var (pv 2)) (a_cons (e_var (pv 4)) a_nil)))))) a_nil)))
  (s_seq (s_expr (e_append (e_var (pv 7)) (a_cons (e_word (k := 23) c (D__law_word.mono (by omega)) (by rfl) hr TBt rfl hmT hu (LamX.lamS_by (by kernel_rfl)) rfl (fun _ _ _ _ _ => rfl) (fun _ _ _ _ _ _ _ hr2 c2 => (e_defA D_is_filling c2 hr2 (by omega) (by rfl) (a_cons (e_var (pv 0)) (a_cons (e_var (pv 1)) (a_cons (e_var (pv 2)) (a_cons (e_var (pv 3)) (a_cons (e_var (pv 4)) a_nil)))))))) a_nil)))
  (s_seq (s_expr (e_append (e_var (pv 7)) (a_cons (e_word (k := 23) c (D__law_word.mono (by omega)) (by rfl) hr TBt rfl hmT hu (LamX.lamS_by (by kernel_rfl)) rfl (fun _ _ _ _ _ => rfl) (fun _ _ _ _ _ _ _ hr2 c2 => (e_defA D_fillings c2 hr2 (by omega) (by rfl) (a_cons (e_var (pv 0)) (a_cons (e_var (pv 1)) (a_cons (e_var (pv 2)) (a_cons (e_var (pv 3)) a_nil))))))) a_nil)))
  (s_seq (s_expr (e_append (e_var (pv 7)) (a_cons (e_word (k := 23) c (D__law_word.mono (by omega)) (by rfl) hr TBt rfl hmT hu (LamX.lamS_by (by kernel_rfl)) rfl (fun _ _ _ _ _ => rfl) (fun _ _ _ _ _ _ _ hr2 c2 => (e_defA D_how_many c2 hr2 (by omega) (by rfl) (a_cons (e_var (pv 0)) (a_cons (e_var (pv 1)) (a_cons (e_var (pv 2)) (a_cons (e_var (pv 3)) a_nil))))))) a_nil)))
  (s_seq (s_expr (e_append (e_var (pv 7)) (a_cons (e_word (k := 23) c (D__law_word.mono (by omega)) (by rfl) hr TBt rfl hmT hu (LamX.lamS_by (by kernel_rfl)) rfl (fun _ _ _ _ _ => rfl) (fun _ _ _ _ _ _ _ hr2 c2 => (e_defA D_sure c2 hr2 (by omega) (by rfl) (a_cons (e_var (pv 0)) (a_cons (e_var (pv 1)) (a_cons (e_var (pv 2)) (a_cons (e_var (pv 3)) a_nil))))))) a_nil)))
  (s_one (s_ret (e_and (e_cmp (op_gEq c) (e_var (pv 7)) (e_var (pv 5)) (nomark _)) (e_one (e_cmp (op_gEq c) (e_callB (call_gRepr c T.sm) (by rfl) T.z_repr (by decide +kernel) (a_cons (e_lst (a_cons (e_var (pv 1)) (a_cons (e_var (pv 2)) (a_cons (e_var (pv 3)) (a_cons (e_var (pv 4)) a_nil))))) a_nil)) (e_var (pv 6)) (nomark _)))))))))))))

abbrev s__law_first : Stmt := top 75
theorem sc__law_first : FnScope ["words", "found", "word"] ["words"] (defScope s__law_first) := ⟨rfl, rfl, rfl, by decide +kernel, rfl, by decide +kernel, by decide +kernel⟩
def m__law_first (a : Ad) : Fn := runF 1 3 (
  (sSeq (sAsg (mLc (itAny (mVar 0)) (tNm 2) (mOp gNe (mVar 2) (mC (.str ""))) (mVar 2) [2]) (tNm 1))
  (sRet (mIf (mOp gNe (mVar 1) (mSeq .lst mNil)) (mOp gIx (mVar 1) (mC (.int 0))) (mC (.str ""))))))
theorem ok__law_first {a : Ad} (T : Tx P K mg base a)  {f : Addr} {fd : FuncData} (F : L2.Fun K "_law_first" "_law_first" s__law_first f fd) : FnG P w K mg base TT 1 f fd ["words"] (m__law_first a) :=
  F.okG sc__law_first fun cdv A outer s H E hr c =>
  (s_seq (s_setLc (lb := true) (ps_setLc (i := 1) (own := [("word", 2)]) rfl sc__law_first.nd rfl rfl (sw_true rfl rfl rfl (by decide +kernel)) (i_any (e_var (pv 0))) (blkOk_by (own := [("word", 2)]) (N := ["words", "found", "word"]) (sc := defScope s__law_first) (by decide +kernel)) (fun _ _ _ _ _ => (pg_name (i := 2) sc__law_first.nd rfl (Or.inl rfl))) (fun _ _ _ _ _ => (ts_one (t_cmp (op_gNe c.blk) (e_var (pv 2)) e_str (nomark _)))) (fun _ _ _ _ _ => (e_var (pv 2)))) tg_nm (by decide))
  (s_one (s_ret (e_if (t_cmp (op_gNe c) (e_var (pv 1)) (e_lst a_nil) (nomark _)) (e_ix c (e_var (pv 1)) e_int (fun _ _ => rfl)) e_str))))

abbrev s__law_gaps : Stmt := top 72
theorem sc__law_gaps : FnScope ["busy", "shut", "odd"] [] (defScope s__law_gaps) := ⟨rfl, rfl, rfl, by decide +kernel, rfl, by decide +kernel, by decide +kernel⟩
def m__law_gaps (a : Ad) : Fn := runF 0 3 (
  (sSeq (sAsg (mSeq .tup (mCons (mSeq .tup (mCons (mC (.str "town")) (mCons (mC (.str "busy")) mNil))) (mCons (mSeq .tup (mCons (mC (.str "shop")) (mCons (mC (.str "open")) mNil))) mNil))) (tTp (tsCons (tNm 0) (tsCons (tNm 1) tsNil))))
  (sSeq (sAsg (mSeq .lst (mCons (mC .non) (mCons (mSeq .tup mNil) (mCons (mC (.node (.dK []) [])) (mCons (mC (.str "")) (mCons (mC (.int 0)) (mCons (mSeq .lst (mCons (mC .non) mNil)) (mCons (mSeq .lst (mCons (mVar 0) (mCons (mVar 0) mNil))) (mCons (mSeq .lst (mCons (mCall gList (mCons (mVar 0) mNil)) mNil)) (mCons (mSeq .tup (mCons (mVar 0) mNil)) (mCons (mSeq .lst (mCons (mSeq .tup (mCons (mC (.str "town")) (mCons (mC (.str "open")) mNil))) mNil)) (mCons (mSeq .lst (mCons (mSl (mVar 0) none (some (mC (.int 1)))) mNil)) (mCons (mSeq .lst (mCons (mC (.str "town")) mNil)) mNil))))))))))))) (tNm 2))
  (sRet (mSeq .tup (mCons (mSeq .lst (mCons (mSeq .lst (mCons (mVar 0) mNil)) (mCons (mSeq .lst (mCons (mVar 1) (mCons (mVar 0) mNil))) (mCons (mSeq .lst (mCons (mSeq .tup (mCons (mC (.str "town")) (mCons (mC (.str "old")) mNil))) (mCons (mVar 0) mNil))) mNil)))) (mCons (mOp gAdd (mVar 2) (mSeq .lst (mCons (mSeq .lst (mCons (mVar 0) (mCons (mSeq .tup (mCons (mC (.str "house")) (mCons (mC (.str "busy")) mNil))) mNil))) (mCons (mSeq .lst (mCons (mSeq .tup (mCons (mC (.str "town")) (mCons (mC .non) mNil))) mNil)) (mCons (mVar 0) mNil))))) mNil)))))))
theorem ok__law_gaps {a : Ad} (T : Tx P K mg base a)  {f : Addr} {fd : FuncData} (F : L2.Fun K "_law_gaps" "_law_gaps" s__law_gaps f fd) : FnG P w K mg base TT 1 f fd [] (m__law_gaps a) :=
  F.okG sc__law_gaps fun cdv A outer s H E hr c =>
  (s_seq (s_asg (ps_asg (e_tup (a_cons (e_tup (a_cons e_str (a_cons e_str a_nil))) (a_cons (e_tup (a_cons e_str (a_cons e_str a_nil))) a_nil))) (pg_tup rfl (pgs_cons (pg_name (i := 0) sc__law_gaps.nd rfl (Or.inl rfl)) (pgs_cons (pg_name (i := 1) sc__law_gaps.nd rfl (Or.inl rfl)) pgs_nil)))) (tg_tp (tgs_cons tg_nm (tgs_cons tg_nm tgs_nil)) (len_cons (len_cons len_nil))))
  (s_seq (s_set (ps_set (i := 2) sc__law_gaps.nd rfl (Or.inl rfl) (e_lst (a_cons e_non (a_cons (e_tup a_nil) (a_cons e_dict0 (a_cons e_str (a_cons e_int (a_cons (e_lst (a_cons e_non a_nil)) (a_cons (e_lst (a_cons (e_var (pv 0)) (a_cons (e_var (pv 0)) a_nil))) (a_cons (e_lst (a_cons (e_callTy (call_gList c) (by rfl) T.z_list (by decide +kernel) (a_cons (e_var (pv 0)) a_nil)) a_nil)) (a_cons (e_tup (a_cons (e_var (pv 0)) a_nil)) (a_cons (e_lst (a_cons (e_tup (a_cons e_str (a_cons e_str a_nil))) a_nil)) (a_cons (e_lst (a_cons (e_sl (e_var (pv 0)) part_none (part_some e_int)) a_nil)) (a_cons (e_lst (a_cons e_str a_nil)) a_nil)))))))))))))))
  (s_one (s_ret (e_tup (a_cons (e_lst (a_cons (e_lst (a_cons (e_var (pv 0)) a_nil)) (a_cons (e_lst (a_cons (e_var (pv 1)) (a_cons (e_var (pv 0)) a_nil))) (a_cons (e_lst (a_cons (e_tup (a_cons e_str (a_cons e_str a_nil))) (a_cons (e_var (pv 0)) a_nil))) a_nil)))) (a_cons (e_op op_gAdd (e_var (pv 2)) (e_lst (a_cons (e_lst (a_cons (e_var (pv 0)) (a_cons (e_tup (a_cons e_str (a_cons e_str a_nil))) a_nil))) (a_cons (e_lst (a_cons (e_tup (a_cons e_str (a_cons e_non a_nil))) a_nil)) (a_cons (e_var (pv 0)) a_nil))))) a_nil)))))))

abbrev s__law_pen : Stmt := top 67
theorem sc__law_pen : FnScope ["script"] ["script"] (defScope s__law_pen) := ⟨rfl, rfl, rfl, by decide +kernel, rfl, by decide +kernel, by decide +kernel⟩
def m__law_pen (a : Ad) : Fn := runF 1 1 (
  (sRet (mOwn .lst (mCons (mCall gList (mCons (mSl (mVar 0) none (some (mC (.int 60)))) mNil)) (mCons (mC (.int 0)) (mCons (mC (.int 0)) mNil))))))
theorem ok__law_pen {a : Ad} (T : Tx P K mg base a)  {f : Addr} {fd : FuncData} (F : L2.Fun K "_law_pen" "_law_pen" s__law_pen f fd) : FnG P w K mg base TT 1 f fd ["script"] (m__law_pen a) :=
  F.okG sc__law_pen fun cdv A outer s H E hr c =>
  (s_one (s_ret (e_lstO (a_cons (e_callTy (call_gList c) (by rfl) T.z_list (by decide +kernel) (a_cons (e_sl (e_var (pv 0)) part_none (part_some e_int)) a_nil)) (a_cons e_int (a_cons e_int a_nil))))))

abbrev s__law_next : Stmt := top 68
theorem sc__law_next : FnScope ["pen", "index", "cell_here", "some", "more", "high"] ["pen"] (defScope s__law_next) := ⟨rfl, rfl, rfl, by decide +kernel, rfl, by decide +kernel, by decide +kernel⟩
def m__law_next (a : Ad) : Fn := runF 1 6 (
  (sSeq (sAsg (mOp gIx (mVar 0) (mC (.int 1))) (tNm 1))
  (sSeq (sSet (mOp gAdd (mVar 1) (mC (.int 1))) (mVar 0) (mC (.int 1)))
  (sSeq (sAsg (mOp gAdd (mOp gMulX (mVar 1) (mC (.int 1051))) (mC (.int 53))) (tNm 2))
  (sSeq (sIf (mOp gNe (mOp gIx (mVar 0) (mC (.int 0))) (mSeq .lst mNil)) (sAsg (mOp gIx (mOp gIx (mVar 0) (mC (.int 0))) (mOp gMod (mCall gInt (mCons (mVar 1) mNil)) (mCall gLen (mCons (mOp gIx (mVar 0) (mC (.int 0))) mNil)))) (tNm 2)) sNil)
  (sSeq (sIf (mAnd (mOp gLt (mVar 1) (mCall gLen (mCons (mOp gIx (mVar 0) (mC (.int 0))) mNil))) (mOp gGe (mVar 2) (mOp gPow (mC (.int 10)) (mC (.int 18))))) (sRet (mVar 2)) sNil)
  (sSeq (sAsg (mOp gMod (mCall gInt (mCons (mOp gAdd (mOp gAdd (mOp gMod (mCall gInt (mCons (mVar 2) mNil)) (mC (.int 2147483587))) (mOp gMulX (mVar 1) (mC (.int 30103)))) (mC (.int 79))) mNil)) (mC (.int 2147483587))) (tNm 3))
  (sSeq (sAsg (mOp gMod (mCall gInt (mCons (mOp gAdd (mOp gAdd (mOp gMulX (mVar 3) (mVar 3)) (mOp gMulX (mVar 1) (mC (.int 70039)))) (mC (.int 61))) mNil)) (mC (.int 2147483563))) (tNm 4))
  (sSeq (sAsg (mOp gMod (mCall gInt (mCons (mOp gAdd (mOp gAdd (mOp gMulX (mVar 4) (mVar 4)) (mVar 3)) (mOp gMulX (mOp gMulX (mVar 1) (mVar 1)) (mC (.int 37)))) mNil)) (mC (.int 2147483549))) (tNm 5))
  (sRet (mOp gAdd (mOp gMulX (mOp gAdd (mOp gMulX (mVar 5) (mC (.int 2147483587))) (mVar 4)) (mC (.int 2147483563))) (mVar 3))))))))))))
theorem ok__law_next {a : Ad} (T : Tx P K mg base a)  {f : Addr} {fd : FuncData} (F : L2.Fun K "_law_next" "_law_next" s__law_next f fd) : FnG P w K mg base TT 1 f fd ["pen"] (m__law_next a) :=
  F.okG sc__law_next fun cdv A outer s H E hr c =>
  (s_seq (s_set (ps_set (i := 1) sc__law_next.nd rfl (Or.inl rfl) (e_ix c (e_var (pv 0)) e_int (fun _ _ => rfl))))
  (s_seq (s_store c (e_var (pv 0)) e_int (e_op op_gAdd (e_var (pv 1)) e_int))
  (s_seq (s_set (ps_set (i := 2) sc__law_next.nd rfl (Or.inl rfl) (e_op op_gAdd (e_op op_gMulX (e_var (pv 1)) e_int) e_int)))
  (s_seq (s_if (t_cmp (op_gNe c) (e_ix c (e_var (pv 0)) e_int (fun _ _ => rfl)) (e_lst a_nil) (nomark _)) (s_one (s_set (ps_set (i := 2) sc__law_next.nd rfl (Or.inl rfl) (e_ix c (e_ix c (e_var (pv 0)) e_int (fun _ _ => rfl)) (e_op op_gMod (e_callTy call_gInt (by rfl) T.z_int (by decide +kernel) (a_cons (e_var (pv 1)) a_nil)) (e_callB call_gLen (by rfl) T.z_len (by decide +kernel) (a_cons (e_ix c (e_var (pv 0)) e_int (fun _ _ => rfl)) a_nil))) (fun _ _ => rfl))))) s_nil)
  (s_seq (s_if (PW.pt (w_and (t_cmp op_gLt (e_var (pv 1)) (e_callB call_gLen (by rfl) T.z_len (by decide +kernel) (a_cons (e_ix c (e_var (pv 0)) e_int (fun _ _ => rfl)) a_nil)) (nomark _)) (w_and1 (t_cmp op_gGe (e_var (pv 2)) (e_op op_gPow e_int e_int) (nomark _))))) (s_one (s_ret (e_var (pv 2)))) s_nil)
  (s_seq (s_set (ps_set (i := 3) sc__law_next.nd rfl (Or.inl rfl) (e_op op_gMod (e_callTy call_gInt (by rfl) T.z_int (by decide +kernel) (a_cons (e_op op_gAdd (e_op op_gAdd (e_op op_gMod (e_callTy call_gInt (by rfl) T.z_int (by decide +kernel) (a_cons (e_var (pv 2)) a_nil)) e_int) (e_op op_gMulX (e_var (pv 1)) e_int)) e_int) a_nil)) e_int)))
  (s_seq (s_set (ps_set (i := 4) sc__law_next.nd rfl (Or.inl rfl) (e_op op_gMod (e_callTy call_gInt (by rfl) T.z_int (by decide +kernel) (a_cons (e_op op_gAdd (e_op op_gAdd (e_op op_gMulX (e_var (pv 3)) (e_var (pv 3))) (e_op op_gMulX (e_var (pv 1)) e_int)) e_int) a_nil)) e_int)))
  (s_seq (s_set (ps_set (i := 5) sc__law_next.nd rfl (Or.inl rfl) (e_op op_gMod (e_callTy call_gInt (by rfl) T.z_int (by decide +kernel) (a_cons (e_op op_gAdd (e_op op_gAdd (e_op op_gMulX (e_var (pv 4)) (e_var (pv 4))) (e_var (pv 3))) (e_op op_gMulX (e_op op_gMulX (e_var (pv 1)) (e_var (pv 1))) e_int)) a_nil)) e_int)))
  (s_one (s_ret (e_op op_gAdd (e_op op_gMulX (e_op op_gAdd (e_op op_gMulX (e_var (pv 5)) e_int) (e_var (pv 4))) e_int) (e_var (pv 3)))))))))))))

abbrev s__law_draw : Stmt := top 69
theorem sc__law_draw : FnScope ["pen", "under", "digit"] ["pen", "under"] (defScope s__law_draw) := ⟨rfl, rfl, rfl, by decide +kernel, rfl, by decide +kernel, by decide +kernel⟩
def m__law_draw (a : Ad) : Fn := runF 2 3 (
  (sSeq (sIf (mOp gLt (mOp gIx (mVar 0) (mC (.int 2))) (mVar 1)) (sSet (mCall (gAuto (m__law_next a)) (mCons (mVar 0) mNil)) (mVar 0) (mC (.int 2))) sNil)
  (sSeq (sAsg (mOp gMod (mCall gInt (mCons (mOp gIx (mVar 0) (mC (.int 2))) mNil)) (mVar 1)) (tNm 2))
  (sSeq (sSet (mOp gDiv (mOp gIx (mVar 0) (mC (.int 2))) (mVar 1)) (mVar 0) (mC (.int 2)))
  (sRet (mVar 2))))))
theorem ok__law_draw {a : Ad} (T : Tx P K mg base a) (D__law_next : Df P w K mg base TT "_law_next" 1 a.f__law_next ["pen"] (m__law_next a)) {f : Addr} {fd : FuncData} (F : L2.Fun K "_law_draw" "_law_draw" s__law_draw f fd) : FnG P w K mg base TT 2 f fd ["pen", "under"] (m__law_draw a) :=
  F.okG sc__law_draw fun cdv A outer s H E hr c =>
  (s_seq (s_if (t_cmp op_gLt (e_ix c (e_var (pv 0)) e_int (fun _ _ => rfl)) (e_var (pv 1)) (nomark _)) (s_one (s_store c (e_var (pv 0)) e_int (e_defA D__law_next c hr (by decide) (by rfl) (a_cons (e_var (pv 0)) a_nil)))) s_nil)
  (s_seq (s_set (ps_set (i := 2) sc__law_draw.nd rfl (Or.inl rfl) (e_op op_gMod (e_callTy call_gInt (by rfl) T.z_int (by decide +kernel) (a_cons (e_ix c (e_var (pv 0)) e_int (fun _ _ => rfl)) a_nil)) (e_var (pv 1)))))
  (s_seq (s_store c (e_var (pv 0)) e_int (e_op op_gDiv (e_ix c (e_var (pv 0)) e_int (fun _ _ => rfl)) (e_var (pv 1))))
  (s_one (s_ret (e_var (pv 2)))))))

abbrev s__law_pick : Stmt := top 74
theorem sc__law_pick : FnScope ["pen", "two", "is_fine", "pool"] ["pen", "two"] (defScope s__law_pick) := ⟨rfl, rfl, rfl, by decide +kernel, rfl, by decide +kernel, by decide +kernel⟩
def m__law_pick (a : Ad) : Fn := runF 2 4 (
  (sSeq (sAsg (mOp gGt (mCall (gAuto (m__law_draw a)) (mCons (mVar 0) (mCons (mC (.int 3)) mNil))) (mC (.int 0))) (tNm 2))
  (sSeq (sAsg (mIf (mVar 2) (mOp gIx (mVar 1) (mC (.int 0))) (mOp gIx (mVar 1) (mC (.int 1)))) (tNm 3))
  (sRet (mSeq .tup (mCons (mOp gIx (mVar 3) (mCall (gAuto (m__law_draw a)) (mCons (mVar 0) (mCons (mCall gLen (mCons (mVar 3) mNil)) mNil)))) (mCons (mVar 2) mNil)))))))
theorem ok__law_pick {a : Ad} (T : Tx P K mg base a) (D__law_draw : Df P w K mg base TT "_law_draw" 2 a.f__law_draw ["pen", "under"] (m__law_draw a)) {f : Addr} {fd : FuncData} (F : L2.Fun K "_law_pick" "_law_pick" s__law_pick f fd) : FnG P w K mg base TT 3 f fd ["pen", "two"] (m__law_pick a) :=
  F.okG sc__law_pick fun cdv A outer s H E hr c =>
  (s_seq (s_set (ps_set (i := 2) sc__law_pick.nd rfl (Or.inl rfl) (e_cmp op_gGt (e_defA D__law_draw c hr (by decide) (by rfl) (a_cons (e_var (pv 0)) (a_cons e_int a_nil))) e_int (nomark _))))
  (s_seq (s_set (ps_set (i := 3) sc__law_pick.nd rfl (Or.inl rfl) (e_if (t_val (e_var (pv 2))) (e_ix c (e_var (pv 1)) e_int (fun _ _ => rfl)) (e_ix c (e_var (pv 1)) e_int (fun _ _ => rfl)))))
  (s_one (s_ret (e_tup (a_cons (e_ix c (e_var (pv 3)) (e_defA D__law_draw c hr (by decide) (by rfl) (a_cons (e_var (pv 0)) (a_cons (e_callB call_gLen (by rfl) T.z_len (by decide +kernel) (a_cons (e_var (pv 3)) a_nil)) a_nil))) (fun _ _ => rfl)) (a_cons (e_var (pv 2)) a_nil)))))))

abbrev s__law_rows_here : Stmt := top 76
theorem sc__law_rows_here : FnScope ["lacking", "worth", "shut", "whole", "some", "odd"] ["lacking"] (defScope s__law_rows_here) := ⟨rfl, rfl, rfl, by decide +kernel, rfl, by decide +kernel, by decide +kernel⟩
def m__law_rows_here (a : Ad) : Fn := runF 1 6 (
  (sSeq (sAsg (mIf (mOp gIn (mSeq .tup (mCons (mC (.str "town")) (mCons (mC (.str "old")) mNil))) (mVar 0)) (mC .non) (mC (.bl true))) (tNm 1))
  (sSeq (sAsg (mIf (mOp gIn (mSeq .tup (mCons (mC (.str "shop")) (mCons (mC (.str "open")) mNil))) (mVar 0)) (mC .non) (mC (.bl false))) (tNm 2))
  (sSeq (sAsg (mSeq .lst (mCons (mDisp [((mC (.str "shop")), (mSeq .lst mNil)), ((mC (.str "town")), (mSeq .lst mNil))]) (mCons (mDisp [((mC (.str "shop")), (mSeq .lst (mCons (mSeq .tup (mCons (mSeq .tup (mCons (mC (.int 1)) mNil)) (mCons (mSeq .tup (mCons (mC (.bl true)) mNil)) mNil))) mNil))), ((mC (.str "town")), (mSeq .lst (mCons (mSeq .tup (mCons (mSeq .tup (mCons (mC (.int 1)) mNil)) (mCons (mSeq .tup (mCons (mC (.bl false)) (mCons (mC (.bl true)) mNil))) mNil))) mNil)))]) mNil))) (tNm 3))
  (sSeq (sAsg (mSeq .lst (mCons (mDisp [((mC (.str "shop")), (mSeq .lst mNil)), ((mC (.str "town")), (mSeq .lst mNil))]) (mCons (mDisp [((mC (.str "town")), (mSeq .lst (mCons (mSeq .tup (mCons (mSeq .tup (mCons (mC (.int 2)) mNil)) (mCons (mSeq .tup (mCons (mC .non) (mCons (mVar 1) mNil))) mNil))) mNil))), ((mC (.str "shop")), (mSeq .lst (mCons (mSeq .tup (mCons (mSeq .tup (mCons (mC (.int 1)) mNil)) (mCons (mSeq .tup (mCons (mVar 2) mNil)) mNil))) (mCons (mSeq .tup (mCons (mSeq .tup (mCons (mC (.int 2)) mNil)) (mCons (mSeq .tup (mCons (mVar 2) mNil)) mNil))) mNil))))]) mNil))) (tNm 4))
  (sSeq (sAsg (mSeq .lst (mCons (mC .non) (mCons (mSeq .lst mNil) (mCons (mC (.node (.dK []) [])) (mCons (mSeq .tup mNil) (mCons (mC (.int 0)) (mCons (mC (.str "")) (mCons (mDisp [((mC (.str "shop")), (mSeq .lst mNil))]) (mCons (mDisp [((mC (.str "shop")), (mSeq .lst mNil)), ((mC (.str "town")), (mSeq .lst mNil)), ((mC (.str "x")), (mSeq .lst mNil))]) (mCons (mDisp [((mC (.str "shop")), (mSeq .lst mNil)), ((mC (.str "town")), (mC .non))]) mNil)))))))))) (tNm 5))
  (sSeq (sAsg (mOp gAdd (mVar 5) (mSeq .lst (mCons (mDisp [((mC (.str "shop")), (mSeq .lst mNil)), ((mC (.str "town")), (mSeq .lst (mCons (mSeq .tup (mCons (mSeq .tup (mCons (mC (.int 1)) mNil)) (mCons (mSeq .tup (mCons (mC (.bl true)) mNil)) mNil))) mNil)))]) (mCons (mDisp [((mC (.str "shop")), (mSeq .lst (mCons (mSeq .tup (mCons (mSeq .tup (mCons (mC (.int 1)) mNil)) (mCons (mSeq .tup (mCons (mC (.str "y")) mNil)) mNil))) mNil))), ((mC (.str "town")), (mSeq .lst mNil))]) mNil)))) (tNm 5))
  (sSeq (sAsg (mOp gAdd (mVar 5) (mSeq .lst (mCons (mDisp [((mC (.str "shop")), (mSeq .lst (mCons (mSeq .tup (mCons (mSeq .tup (mCons (mNeg (mC (.int 1))) mNil)) (mCons (mSeq .tup (mCons (mC (.bl true)) mNil)) mNil))) mNil))), ((mC (.str "town")), (mSeq .lst mNil))]) (mCons (mDisp [((mC (.str "shop")), (mSeq .lst (mCons (mSeq .lst (mCons (mSeq .tup (mCons (mC (.int 1)) mNil)) (mCons (mSeq .tup (mCons (mC (.bl true)) mNil)) mNil))) mNil))), ((mC (.str "town")), (mSeq .lst mNil))]) mNil)))) (tNm 5))
  (sRet (mSeq .tup (mCons (mVar 3) (mCons (mVar 4) (mCons (mVar 5) mNil)))))))))))))
theorem ok__law_rows_here {a : Ad} (T : Tx P K mg base a)  {f : Addr} {fd : FuncData} (F : L2.Fun K "_law_rows_here" "_law_rows_here" s__law_rows_here f fd) : FnG P w K mg base TT 1 f fd ["lacking"] (m__law_rows_here a) :=
  F.okG sc__law_rows_here fun cdv A outer s H E hr c =>
  (s_seq (s_set (ps_set (i := 1) sc__law_rows_here.nd rfl (Or.inl rfl) (e_if (t_cmp (op_gIn c) (e_tup (a_cons e_str (a_cons e_str a_nil))) (e_var (pv 0)) (by rfl)) e_non e_bl)))
  (s_seq (s_set (ps_set (i := 2) sc__law_rows_here.nd rfl (Or.inl rfl) (e_if (t_cmp (op_gIn c) (e_tup (a_cons e_str (a_cons e_str a_nil))) (e_var (pv 0)) (by rfl)) e_non e_bl)))
  (s_seq (s_set (ps_set (i := 3) sc__law_rows_here.nd rfl (Or.inl rfl) (e_lst (a_cons (e_disp (pr_cons e_str (e_lst a_nil) (pr_cons e_str (e_lst a_nil) pr_nil))) (a_cons (e_disp (pr_cons e_str (e_lst (a_cons (e_tup (a_cons (e_tup (a_cons e_int a_nil)) (a_cons (e_tup (a_cons e_bl a_nil)) a_nil))) a_nil)) (pr_cons e_str (e_lst (a_cons (e_tup (a_cons (e_tup (a_cons e_int a_nil)) (a_cons (e_tup (a_cons e_bl (a_cons e_bl a_nil))) a_nil))) a_nil)) pr_nil))) a_nil)))))
  (s_seq (s_set (ps_set (i := 4) sc__law_rows_here.nd rfl (Or.inl rfl) (e_lst (a_cons (e_disp (pr_cons e_str (e_lst a_nil) (pr_cons e_str (e_lst a_nil) pr_nil))) (a_cons (e_disp (pr_cons e_str (e_lst (a_cons (e_tup (a_cons (e_tup (a_cons e_int a_nil)) (a_cons (e_tup (a_cons e_non (a_cons (e_var (pv 1)) a_nil))) a_nil))) a_nil)) (pr_cons e_str (e_lst (a_cons (e_tup (a_cons (e_tup (a_cons e_int a_nil)) (a_cons (e_tup (a_cons (e_var (pv 2)) a_nil)) a_nil))) (a_cons (e_tup (a_cons (e_tup (a_cons e_int a_nil)) (a_cons (e_tup (a_cons (e_var (pv 2)) a_nil)) a_nil))) a_nil))) pr_nil))) a_nil)))))
  (s_seq (s_set (ps_set (i := 5) sc__law_rows_here.nd rfl (Or.inl rfl) (e_lst (a_cons e_non (a_cons (e_lst a_nil) (a_cons e_dict0 (a_cons (e_tup a_nil) (a_cons e_int (a_cons e_str (a_cons (e_disp (pr_cons e_str (e_lst a_nil) pr_nil)) (a_cons (e_disp (pr_cons e_str (e_lst a_nil) (pr_cons e_str (e_lst a_nil) (pr_cons e_str (e_lst a_nil) pr_nil)))) (a_cons (e_disp (pr_cons e_str (e_lst a_nil) (pr_cons e_str e_non pr_nil))) a_nil))))))))))))
  (s_seq (s_set (ps_set (i := 5) sc__law_rows_here.nd rfl (Or.inl rfl) (e_op op_gAdd (e_var (pv 5)) (e_lst (a_cons (e_disp (pr_cons e_str (e_lst a_nil) (pr_cons e_str (e_lst (a_cons (e_tup (a_cons (e_tup (a_cons e_int a_nil)) (a_cons (e_tup (a_cons e_bl a_nil)) a_nil))) a_nil)) pr_nil))) (a_cons (e_disp (pr_cons e_str (e_lst (a_cons (e_tup (a_cons (e_tup (a_cons e_int a_nil)) (a_cons (e_tup (a_cons e_str a_nil)) a_nil))) a_nil)) (pr_cons e_str (e_lst a_nil) pr_nil))) a_nil))))))
  (s_seq (s_set (ps_set (i := 5) sc__law_rows_here.nd rfl (Or.inl rfl) (e_op op_gAdd (e_var (pv 5)) (e_lst (a_cons (e_disp (pr_cons e_str (e_lst (a_cons (e_tup (a_cons (e_tup (a_cons (e_neg e_int) a_nil)) (a_cons (e_tup (a_cons e_bl a_nil)) a_nil))) a_nil)) (pr_cons e_str (e_lst a_nil) pr_nil))) (a_cons (e_disp (pr_cons e_str (e_lst (a_cons (e_lst (a_cons (e_tup (a_cons e_int a_nil)) (a_cons (e_tup (a_cons e_bl a_nil)) a_nil))) a_nil)) (pr_cons e_str (e_lst a_nil) pr_nil))) a_nil))))))
  (s_one (s_ret (e_tup (a_cons (e_var (pv 3)) (a_cons (e_var (pv 4)) (a_cons (e_var (pv 5)) a_nil)))))))))))))

abbrev s_is_column : Stmt := top 23
theorem sc_is_column : FnScope ["thing", "name"] ["thing"] (defScope s_is_column) := ⟨rfl, rfl, rfl, by decide +kernel, rfl, by decide +kernel, by decide +kernel⟩
def m_is_column (a : Ad) : Fn := runF 1 2 (
  (sRet (mAnd (mCall (gIsA a.Cl a.Er a.isE) (mCons (mVar 0) (mCons (mC (.ty .tup)) mNil))) (mAnd (mOp gEq (mCall gLen (mCons (mVar 0) mNil)) (mC (.int 2))) (mCall gAll (mCons (mLc (itAny (mVar 0)) (tNm 1) (mC (.bl true)) (mCall (gAuto (m_is_name a)) (mCons (mVar 1) mNil)) [1]) mNil))))))
theorem ok_is_column {a : Ad} (T : Tx P K mg base a) (D_is_name : Df P w K mg base TT "is_name" 1 a.f_is_name ["thing"] (m_is_name a)) {f : Addr} {fd : FuncData} (F : L2.Fun K "is_column" "is_column" s_is_column f fd) : FnG P w K mg base TT 2 f fd ["thing"] (m_is_column a) :=
  F.okG sc_is_column fun cdv A outer s H E hr c =>
  (s_one (s_ret (e_and (e_callB (call_gIsA T.ik T.er) (by rfl) T.z_isinstance (by decide +kernel) (a_cons (e_var (pv 0)) (a_cons (e_bltn (t := .tup) (by rfl) T.z_tuple (by decide +kernel) rfl) a_nil))) (e_and (e_cmp (op_gEq c) (e_callB call_gLen (by rfl) T.z_len (by decide +kernel) (a_cons (e_var (pv 0)) a_nil)) e_int (nomark _)) (e_one (e_callB (call_gAll c) (by rfl) T.z_all (by decide +kernel) (a_cons (e_lc (lb := true) (own := [("name", 1)]) c (i_any (e_var (pv 0))) (blkOk_by (own := [("name", 1)]) (N := ["thing", "name"]) (sc := defScope s_is_column) (by decide +kernel)) (fun _ _ _ _ _ => (pg_name (i := 1) sc_is_column.nd rfl (Or.inl rfl))) tg_nm (by decide) (fun _ _ _ _ _ => ts_nil) (fun _ _ _ _ _ => (e_defA D_is_name c.blk hr (by decide) (by rfl) (a_cons (e_var (pv 1)) a_nil)))) a_nil)))))))

abbrev s_is_table : Stmt := top 24
theorem sc_is_table : FnScope ["thing", "part", "columns", "flags", "column", "flag", "names", "name", "kind"] ["thing"] (defScope s_is_table) := ⟨rfl, rfl, rfl, by decide +kernel, rfl, by decide +kernel, by decide +kernel⟩
def m_is_table (a : Ad) : Fn := runF 1 9 (
  (sSeq (sIf (mOr (mNot (mCall (gIsA a.Cl a.Er a.isE) (mCons (mVar 0) (mCons (mC (.ty .tup)) mNil)))) (mOr (mOp gNe (mCall gLen (mCons (mVar 0) mNil)) (mC (.int 2))) (mNot (mCall gAll (mCons (mLc (itAny (mVar 0)) (tNm 1) (mC (.bl true)) (mCall (gIsA a.Cl a.Er a.isE) (mCons (mVar 1) (mCons (mC (.ty .tup)) mNil))) [1]) mNil))))) (sRet (mC (.bl false))) sNil)
  (sSeq (sAsg (mVar 0) (tTp (tsCons (tNm 2) (tsCons (tNm 3) tsNil))))
  (sSeq (sIf (mOr (mNot (mChain gLe gLe (mC (.int 1)) (mCall gLen (mCons (mVar 2) mNil)) (mC (.int 3)))) (mOp gGt (mCall gLen (mCons (mVar 3) mNil)) (mC (.int 3)))) (sRet (mC (.bl false))) sNil)
  (sSeq (sIf (mOr (mNot (mCall gAll (mCons (mLc (itAny (mVar 2)) (tNm 4) (mC (.bl true)) (mCall (gAuto (m_is_column a)) (mCons (mVar 4) mNil)) [4]) mNil))) (mNot (mCall gAll (mCons (mLc (itAny (mVar 3)) (tNm 5) (mC (.bl true)) (mCall (gAuto (m_is_name a)) (mCons (mVar 5) mNil)) [5]) mNil)))) (sRet (mC (.bl false))) sNil)
  (sSeq (sAsg (mSeq .lst (mStar (mLc (itAny (mVar 2)) (tTp (tsCons (tNm 7) (tsCons (tNm 8) tsNil))) (mC (.bl true)) (mVar 7) [7, 8]) (mStar (mVar 3) mNil))) (tNm 6))
  (sRet (mOp gEq (mLenSet (mVar 6)) (mCall gLen (mCons (mVar 6) mNil))))))))))
theorem ok_is_table {a : Ad} (T : Tx P K mg base a) (D_is_name : Df P w K mg base TT "is_name" 1 a.f_is_name ["thing"] (m_is_name a)) (D_is_column : Df P w K mg base TT "is_column" 2 a.f_is_column ["thing"] (m_is_column a)) {f : Addr} {fd : FuncData} (F : L2.Fun K "is_table" "is_table" s_is_table f fd) : FnG P w K mg base TT 3 f fd ["thing"] (m_is_table a) :=
  F.okG sc_is_table fun cdv A outer s H E hr c =>
  (s_seq (s_if (PW.pt (w_or (t_not (t_val (e_callB (call_gIsA T.ik T.er) (by rfl) T.z_isinstance (by decide +kernel) (a_cons (e_var (pv 0)) (a_cons (e_bltn (t := .tup) (by rfl) T.z_tuple (by decide +kernel) rfl) a_nil))))) (w_or (t_cmp (op_gNe c) (e_callB call_gLen (by rfl) T.z_len (by decide +kernel) (a_cons (e_var (pv 0)) a_nil)) e_int (nomark _)) (w_or1 (t_not (t_val (e_callB (call_gAll c) (by rfl) T.z_all (by decide +kernel) (a_cons (e_lc (lb := true) (own := [("part", 1)]) c (i_any (e_var (pv 0))) (blkOk_by (own := [("part", 1)]) (N := ["thing", "part", "columns", "flags", "column", "flag", "names", "name", "kind"]) (sc := defScope s_is_table) (by decide +kernel)) (fun _ _ _ _ _ => (pg_name (i := 1) sc_is_table.nd rfl (Or.inl rfl))) tg_nm (by decide) (fun _ _ _ _ _ => ts_nil) (fun _ _ _ _ _ => (e_callB (call_gIsA T.ik T.er) (by rfl) T.z_isinstance (by decide +kernel) (a_cons (e_var (pv 1)) (a_cons (e_bltn (t := .tup) (by rfl) T.z_tuple (by decide +kernel) rfl) a_nil))))) a_nil)))))))) (s_one (s_ret e_bl)) s_nil)
  (s_seq (s_asg (ps_asg (e_var (pv 0)) (pg_tup rfl (pgs_cons (pg_name (i := 2) sc_is_table.nd rfl (Or.inl rfl)) (pgs_cons (pg_name (i := 3) sc_is_table.nd rfl (Or.inl rfl)) pgs_nil)))) (tg_tp (tgs_cons tg_nm (tgs_cons tg_nm tgs_nil)) (len_cons (len_cons len_nil))))
  (s_seq (s_if (PW.pt (w_or (t_not (t_chain op_gLe op_gLe e_int (e_callB call_gLen (by rfl) T.z_len (by decide +kernel) (a_cons (e_var (pv 2)) a_nil)) (e_cint T.n_MOST_COLUMNS (by rfl)))) (w_or1 (t_cmp op_gGt (e_callB call_gLen (by rfl) T.z_len (by decide +kernel) (a_cons (e_var (pv 3)) a_nil)) (e_cint T.n_MOST_FLAGS (by rfl)) (nomark _))))) (s_one (s_ret e_bl)) s_nil)
  (s_seq (s_if (PW.pt (w_or (t_not (t_val (e_callB (call_gAll c) (by rfl) T.z_all (by decide +kernel) (a_cons (e_lc (lb := true) (own := [("column", 4)]) c (i_any (e_var (pv 2))) (blkOk_by (own := [("column", 4)]) (N := ["thing", "part", "columns", "flags", "column", "flag", "names", "name", "kind"]) (sc := defScope s_is_table) (by decide +kernel)) (fun _ _ _ _ _ => (pg_name (i := 4) sc_is_table.nd rfl (Or.inl rfl))) tg_nm (by decide) (fun _ _ _ _ _ => ts_nil) (fun _ _ _ _ _ => (e_defA D_is_column c.blk hr (by decide) (by rfl) (a_cons (e_var (pv 4)) a_nil)))) a_nil)))) (w_or1 (t_not (t_val (e_callB (call_gAll c) (by rfl) T.z_all (by decide +kernel) (a_cons (e_lc (lb := true) (own := [("flag", 5)]) c (i_any (e_var (pv 3))) (blkOk_by (own := [("flag", 5)]) (N := ["thing", "part", "columns", "flags", "column", "flag", "names", "name", "kind"]) (sc := defScope s_is_table) (by decide +kernel)) (fun _ _ _ _ _ => (pg_name (i := 5) sc_is_table.nd rfl (Or.inl rfl))) tg_nm (by decide) (fun _ _ _ _ _ => ts_nil) (fun _ _ _ _ _ => (e_defA D_is_name c.blk hr (by decide) (by rfl) (a_cons (e_var (pv 5)) a_nil)))) a_nil))))))) (s_one (s_ret e_bl)) s_nil)
  (s_seq (s_set (ps_set (i := 6) sc_is_table.nd rfl (Or.inl rfl) (e_lst (a_star (e_lc (lb := true) (own := [("name", 7), ("kind", 8)]) c (i_any (e_var (pv 2))) (blkOk_by (own := [("name", 7), ("kind", 8)]) (N := ["thing", "part", "columns", "flags", "column", "flag", "names", "name", "kind"]) (sc := defScope s_is_table) (by decide +kernel)) (fun _ _ _ _ _ => (pg_tup rfl (pgs_cons (pg_name (i := 7) sc_is_table.nd rfl (Or.inl rfl)) (pgs_cons (pg_name (i := 8) sc_is_table.nd rfl (Or.inl rfl)) pgs_nil)))) (tg_tp (tgs_cons tg_nm (tgs_cons tg_nm tgs_nil)) (len_cons (len_cons len_nil))) (by decide) (fun _ _ _ _ _ => ts_nil) (fun _ _ _ _ _ => (e_var (pv 7)))) (a_star (e_var (pv 3)) a_nil)))))
  (s_one (s_ret (e_cmp (op_gEq c) (e_lenSet c (by rfl) T.z_len (by rfl) T.z_set (e_var (pv 6))) (e_callB call_gLen (by rfl) T.z_len (by decide +kernel) (a_cons (e_var (pv 6)) a_nil)) (nomark _)))))))))

abbrev s_Schema___init__ : Stmt := L2.inClass (top 25) 0
theorem sc_Schema___init__ : FnScope ["self", "tables", "name", "table"] ["self", "tables"] (defScope s_Schema___init__) := ⟨rfl, rfl, rfl, by decide +kernel, rfl, by decide +kernel, by decide +kernel⟩
def m_Schema___init__ (a : Ad) : Fn := runF 2 4 (
  (sSeq (sIf (mOr (mNot (mCall (gIsA a.Cl a.Er a.isE) (mCons (mVar 1) (mCons (mC (.ty .dct)) mNil)))) (mNot (mChain gLe gLe (mC (.int 1)) (mCall gLen (mCons (mVar 1) mNil)) (mC (.int 4))))) (sRaise a.C_InvalidSchema) sNil)
  (sSeq (sIf (mNot (mCall gAll (mCons (mLc (itItems (mVar 1)) (tTp (tsCons (tNm 2) (tsCons (tNm 3) tsNil))) (mC (.bl true)) (mAnd (mCall (gAuto (m_is_name a)) (mCons (mVar 2) mNil)) (mCall (gAuto (m_is_table a)) (mCons (mVar 3) mNil))) [2, 3]) mNil))) (sRaise a.C_InvalidSchema) sNil)
  (sFldSet a.C_Schema "parts" (mDg kdK (itAny (mCall gSrt (mCons (mVar 1) mNil))) (tNm 2) (mC (.bl true)) (mVar 2) (mOp gIx (mVar 1) (mVar 2)) [2]) (mVar 0)))))
theorem ok_Schema___init__ {a : Ad} (T : Tx P K mg base a) (D_is_table : Df P w K mg base TT "is_table" 3 a.f_is_table ["thing"] (m_is_table a)) (D_is_name : Df P w K mg base TT "is_name" 1 a.f_is_name ["thing"] (m_is_name a)) {f : Addr} {fd : FuncData} (F : L2.Fun K "__init__" "Schema.__init__" s_Schema___init__ f fd) : FnG P w K mg base TT 4 f fd ["self", "tables"] (m_Schema___init__ a) :=
  F.okG sc_Schema___init__ fun cdv A outer s H E hr c =>
  (s_seq (s_if (PW.pt (w_or (t_not (t_val (e_callB (call_gIsA T.ik T.er) (by rfl) T.z_isinstance (by decide +kernel) (a_cons (e_var (pv 1)) (a_cons (e_bltn (t := .dct) (by rfl) T.z_dict (by decide +kernel) rfl) a_nil))))) (w_or1 (t_not (t_chain op_gLe op_gLe e_int (e_callB call_gLen (by rfl) T.z_len (by decide +kernel) (a_cons (e_var (pv 1)) a_nil)) (e_cint T.n_MOST_TABLES (by rfl))))))) (s_one (s_raise c (T.r_InvalidSchema.mk_ (by rfl)))) s_nil)
  (s_seq (s_if (t_not (t_val (e_callB (call_gAll c) (by rfl) T.z_all (by decide +kernel) (a_cons (e_lc (lb := true) (own := [("name", 2), ("table", 3)]) c (i_items (e_var (pv 1))) (blkOk_by (own := [("name", 2), ("table", 3)]) (N := ["self", "tables", "name", "table"]) (sc := defScope s_Schema___init__) (by decide +kernel)) (fun _ _ _ _ _ => (pg_tup rfl (pgs_cons (pg_name (i := 2) sc_Schema___init__.nd rfl (Or.inl rfl)) (pgs_cons (pg_name (i := 3) sc_Schema___init__.nd rfl (Or.inl rfl)) pgs_nil)))) (tg_tp (tgs_cons tg_nm (tgs_cons tg_nm tgs_nil)) (len_cons (len_cons len_nil))) (by decide) (fun _ _ _ _ _ => ts_nil) (fun _ _ _ _ _ => (e_and (e_defA D_is_name c.blk hr (by decide) (by rfl) (a_cons (e_var (pv 2)) a_nil)) (e_one (e_defA D_is_table c.blk hr (by decide) (by rfl) (a_cons (e_var (pv 3)) a_nil)))))) a_nil)))) (s_one (s_raise c (T.r_InvalidSchema.mk_ (by rfl)))) s_nil)
  (s_one (s_fld (e_var (pv 0)) (e_dg kdK (lb := true) (own := [("name", 2)]) c (i_any (e_callB (call_gSrt c) (by rfl) T.z_sorted (by decide +kernel) (a_cons (e_var (pv 1)) a_nil))) (blkOk_by (own := [("name", 2)]) (N := ["self", "tables", "name", "table"]) (sc := defScope s_Schema___init__) (by decide +kernel)) (fun _ _ _ _ _ => (pg_name (i := 2) sc_Schema___init__.nd rfl (Or.inl rfl))) tg_nm (by decide) (fun _ _ _ _ _ => ts_nil) (fun _ _ _ _ _ => (e_var (pv 2))) (fun _ _ _ _ _ => (e_ix c.blk (e_var (pv 1)) (e_var (pv 2)) (fun _ _ => rfl)))) T.c_Schema T.na_Schema_parts))))

abbrev s__law_schema : Stmt := top 70
theorem sc__law_schema : FnScope [] [] (defScope s__law_schema) := ⟨rfl, rfl, rfl, by decide +kernel, rfl, by decide +kernel, by decide +kernel⟩
def m__law_schema (a : Ad) : Fn := runF 0 0 (
  (sRet (mCall (gMk a.C_Schema (m_Schema___init__ a)) (mCons (mDisp [((mC (.str "shop")), (mSeq .tup (mCons (mSeq .ktp (mCons (mSeq .tup (mCons (mC (.str "at")) (mCons (mC (.str "t")) mNil))) mNil)) (mCons (mSeq .ktp (mCons (mC (.str "open")) mNil)) mNil)))), ((mC (.str "town")), (mSeq .tup (mCons (mSeq .ktp (mCons (mSeq .tup (mCons (mC (.str "id")) (mCons (mC (.str "t")) mNil))) mNil)) (mCons (mSeq .ktp (mCons (mC (.str "busy")) (mCons (mC (.str "old")) mNil))) mNil))))]) mNil))))
theorem ok__law_schema {a : Ad} (T : Tx P K mg base a) (D_Schema : Dk P w K mg base TT "Schema" 4 a.C_Schema a.f_Schema___init__ ["self", "tables"] (m_Schema___init__ a)) {f : Addr} {fd : FuncData} (F : L2.Fun K "_law_schema" "_law_schema" s__law_schema f fd) : FnG P w K mg base TT 6 f fd [] (m__law_schema a) :=
  F.okG sc__law_schema fun cdv A outer s H E hr c =>
  (s_one (s_ret (e_mk D_Schema c hr (by decide) (by rfl) (a_cons (e_disp (pr_cons e_str (e_tup (a_cons (e_tupF (a_cons (e_tup (a_cons e_str (a_cons e_str a_nil))) a_nil)) (a_cons (e_tupF (a_cons e_str a_nil)) a_nil))) (pr_cons e_str (e_tup (a_cons (e_tupF (a_cons (e_tup (a_cons e_str (a_cons e_str a_nil))) a_nil)) (a_cons (e_tupF (a_cons e_str (a_cons e_str a_nil))) a_nil))) pr_nil))) a_nil))))

abbrev s_law : Stmt := top 78
theorem sc_law : FnScope ["script", "pen", "made", "turn", "rules", "is_good", "lacking", "is_lack", "whole", "some", "odd", "rows", "is_bare", "thing", "is_whole", "wrong", "due", "dues", "again"] ["script"] (defScope s_law) := ⟨rfl, rfl, rfl, by decide +kernel, rfl, by decide +kernel, by decide +kernel⟩
def m_law (a : Ad) : Fn := runF 1 19 (
  (sSeq (sPar 1 2 (mCons (mCall (m__law_pen a) (mCons (mVar 0) mNil)) (mCons (mCall (gFn (m__law_schema a)) mNil) mNil)))
  (sSeq (sFor (itRng1 (mCons (mC (.int 16)) mNil)) (tNm 3) (sSeq (sAsg (mCall (gAuto (m__law_pick a)) (mCons (mVar 1) (mCons (mCall (gFn (m__law_books a)) mNil) mNil))) (tTp (tsCons (tNm 4) (tsCons (tNm 5) tsNil))))
  (sSeq (sAsg (mCall (gAuto (m__law_pick a)) (mCons (mVar 1) (mCons (mCall (gFn (m__law_gaps a)) mNil) mNil))) (tTp (tsCons (tNm 6) (tsCons (tNm 7) tsNil))))
  (sSeq (sAsg (mCall (gAuto (m__law_rows_here a)) (mCons (mIf (mVar 7) (mVar 6) (mSeq .lst mNil)) mNil)) (tTp (tsCons (tNm 8) (tsCons (tNm 9) (tsCons (tNm 10) tsNil)))))
  (sSeq (sAsg (mCall (gAuto (m__law_pick a)) (mCons (mVar 1) (mCons (mSeq .tup (mCons (mVar 9) (mCons (mVar 10) mNil))) mNil))) (tTp (tsCons (tNm 11) (tsCons (tNm 12) tsNil))))
  (sSeq (sAsg (mCall (gAuto (m__law_pick a)) (mCons (mVar 1) (mCons (mSeq .tup (mCons (mVar 8) (mCons (mVar 10) mNil))) mNil))) (tTp (tsCons (tNm 13) (tsCons (tNm 14) tsNil))))
  (sSeq (sAsg (mIf (mVar 7) (mC (.str "")) (mC (.str "lacking"))) (tNm 15))
  (sSeq (sAsg (mCall (gAuto (m__law_first a)) (mCons (mSeq .lst (mCons (mIf (mVar 5) (mC (.str "")) (mC (.str "book"))) (mCons (mVar 15) (mCons (mIf (mVar 12) (mC (.str "")) (mC (.str "rows"))) mNil)))) mNil)) (tNm 16))
  (sSeq (sAsg (mSeq .lst (mCons (mCall (gAuto (m__law_first a)) (mCons (mSeq .lst (mCons (mIf (mVar 14) (mC (.str "")) (mC (.str "rows"))) (mCons (mVar 15) mNil))) mNil)) (mCons (mVar 15) (mCons (mVar 16) (mCons (mVar 16) (mCons (mVar 16) (mCons (mVar 16) mNil))))))) (tNm 17))
  (sFor (itRng1 (mCons (mC (.int 2)) mNil)) (tNm 18) (sIf (mNot (mCall (gAuto (m__law_calls_right a)) (mCons (mVar 2) (mCons (mVar 4) (mCons (mVar 6) (mCons (mVar 11) (mCons (mVar 13) (mCons (mVar 17) mNil)))))))) (sRet (mC (.bl false))) sNil)))))))))))
  (sRet (mC (.bl true))))))
theorem ok_law {a : Ad} (T : Tx P K mg base a) (D__law_schema : Df P w K mg base TT "_law_schema" 6 a.f__law_schema [] (m__law_schema a)) (D__law_pen : Df P w K mg base TT "_law_pen" 1 a.f__law_pen ["script"] (m__law_pen a)) (D__law_books : Df P w K mg base TT "_law_books" 1 a.f__law_books [] (m__law_books a)) (D__law_pick : Df P w K mg base TT "_law_pick" 3 a.f__law_pick ["pen", "two"] (m__law_pick a)) (D__law_gaps : Df P w K mg base TT "_law_gaps" 1 a.f__law_gaps [] (m__law_gaps a)) (D__law_rows_here : Df P w K mg base TT "_law_rows_here" 1 a.f__law_rows_here ["lacking"] (m__law_rows_here a)) (D__law_first : Df P w K mg base TT "_law_first" 1 a.f__law_first ["words"] (m__law_first a)) (D__law_calls_right : Df P w K mg base TT "_law_calls_right" 26 a.f__law_calls_right ["made", "rules", "lacking", "rows", "thing", "dues"] (m__law_calls_right a)) {f : Addr} {fd : FuncData} (F : L2.Fun K "law" "law" s_law f fd) : FnG P w K mg base TT 27 f fd ["script"] (m_law a) :=
  F.okG sc_law fun cdv A outer s H E hr c =>
  (s_seq (s_par (ps_par (by rfl) sc_law.nd rfl rfl (by decide) rfl rfl (a_cons (e_defM D__law_pen c hr (by decide) (by rfl) (a_cons (e_var (pv 0)) a_nil)) (a_cons (e_def0 D__law_schema c hr (by decide) (by rfl)) a_nil)) (by rfl)))
  (s_seq (s_for c (L2.passes_of rfl) (i_rng1 (by rfl) T.z_range (a_cons e_int a_nil)) (pg_name (i := 3) sc_law.nd rfl (Or.inl rfl)) tg_nm (s_seq (s_asg (ps_asg (e_defA D__law_pick c hr (by decide) (by rfl) (a_cons (e_var (pv 1)) (a_cons (e_def0 D__law_books c hr (by decide) (by rfl)) a_nil))) (pg_tup rfl (pgs_cons (pg_name (i := 4) sc_law.nd rfl (Or.inl rfl)) (pgs_cons (pg_name (i := 5) sc_law.nd rfl (Or.inl rfl)) pgs_nil)))) (tg_tp (tgs_cons tg_nm (tgs_cons tg_nm tgs_nil)) (len_cons (len_cons len_nil))))
  (s_seq (s_asg (ps_asg (e_defA D__law_pick c hr (by decide) (by rfl) (a_cons (e_var (pv 1)) (a_cons (e_def0 D__law_gaps c hr (by decide) (by rfl)) a_nil))) (pg_tup rfl (pgs_cons (pg_name (i := 6) sc_law.nd rfl (Or.inl rfl)) (pgs_cons (pg_name (i := 7) sc_law.nd rfl (Or.inl rfl)) pgs_nil)))) (tg_tp (tgs_cons tg_nm (tgs_cons tg_nm tgs_nil)) (len_cons (len_cons len_nil))))
  (s_seq (s_asg (ps_asg (e_defA D__law_rows_here c hr (by decide) (by rfl) (a_cons (e_if (t_val (e_var (pv 7))) (e_var (pv 6)) (e_lst a_nil)) a_nil)) (pg_tup rfl (pgs_cons (pg_name (i := 8) sc_law.nd rfl (Or.inl rfl)) (pgs_cons (pg_name (i := 9) sc_law.nd rfl (Or.inl rfl)) (pgs_cons (pg_name (i := 10) sc_law.nd rfl (Or.inl rfl)) pgs_nil))))) (tg_tp (tgs_cons tg_nm (tgs_cons tg_nm (tgs_cons tg_nm tgs_nil))) (len_cons (len_cons (len_cons len_nil)))))
  (s_seq (s_asg (ps_asg (e_defA D__law_pick c hr (by decide) (by rfl) (a_cons (e_var (pv 1)) (a_cons (e_tup (a_cons (e_var (pv 9)) (a_cons (e_var (pv 10)) a_nil))) a_nil))) (pg_tup rfl (pgs_cons (pg_name (i := 11) sc_law.nd rfl (Or.inl rfl)) (pgs_cons (pg_name (i := 12) sc_law.nd rfl (Or.inl rfl)) pgs_nil)))) (tg_tp (tgs_cons tg_nm (tgs_cons tg_nm tgs_nil)) (len_cons (len_cons len_nil))))
  (s_seq (s_asg (ps_asg (e_defA D__law_pick c hr (by decide) (by rfl) (a_cons (e_var (pv 1)) (a_cons (e_tup (a_cons (e_var (pv 8)) (a_cons (e_var (pv 10)) a_nil))) a_nil))) (pg_tup rfl (pgs_cons (pg_name (i := 13) sc_law.nd rfl (Or.inl rfl)) (pgs_cons (pg_name (i := 14) sc_law.nd rfl (Or.inl rfl)) pgs_nil)))) (tg_tp (tgs_cons tg_nm (tgs_cons tg_nm tgs_nil)) (len_cons (len_cons len_nil))))
  (s_seq (s_set (ps_set (i := 15) sc_law.nd rfl (Or.inl rfl) (e_if (t_val (e_var (pv 7))) e_str e_str)))
  (s_seq (s_set (ps_set (i := 16) sc_law.nd rfl (Or.inl rfl) (e_defA D__law_first c hr (by decide) (by rfl) (a_cons (e_lst (a_cons (e_if (t_val (e_var (pv 5))) e_str e_str) (a_cons (e_var (pv 15)) (a_cons (e_if (t_val (e_var (pv 12))) e_str e_str) a_nil)))) a_nil))))
  (s_seq (s_set (ps_set (i := 17) sc_law.nd rfl (Or.inl rfl) (e_lst (a_cons (e_defA D__law_first c hr (by decide) (by rfl) (a_cons (e_lst (a_cons (e_if (t_val (e_var (pv 14))) e_str e_str) (a_cons (e_var (pv 15)) a_nil))) a_nil)) (a_cons (e_var (pv 15)) (a_cons (e_var (pv 16)) (a_cons (e_var (pv 16)) (a_cons (e_var (pv 16)) (a_cons (e_var (pv 16)) a_nil)))))))))
  (s_one (s_for c (L2.passes_of rfl) (i_rng1 (by rfl) T.z_range (a_cons e_int a_nil)) (pg_name (i := 18) sc_law.nd rfl (Or.inl rfl)) tg_nm (s_one (s_if (t_not (t_val (e_defA D__law_calls_right c hr (by decide) (by rfl) (a_cons (e_var (pv 2)) (a_cons (e_var (pv 4)) (a_cons (e_var (pv 6)) (a_cons (e_var (pv 11)) (a_cons (e_var (pv 13)) (a_cons (e_var (pv 17)) a_nil))))))))) (s_one (s_ret e_bl)) s_nil)))))))))))))
  (s_one (s_ret e_bl))))

end
end Lw

set_option Elab.async false
set_option linter.all false
set_option maxRecDepth 100000
set_option maxHeartbeats 4000000
namespace Lw
open PySem L2 TB
def pen (xs : List Int) (i p : Int) : Mem := [(.lst, [.node .lst (xs.map D.int), .int i, .int p])]
theorem modb {x m : Int} (h : 0 < m) (hm : m < 2 ^ 32) : -(2 ^ 64) < x % m ∧ x % m < 2 ^ 64 := by
  have h1 := Int.emod_nonneg x (by omega : m ≠ 0)
  have h2 := Int.emod_lt_of_pos x h
  omega
theorem next_ok (a : Ad) (xs : List Int) (i p : Int) (h0 : 0 ≤ i) (h1 : i < 2 ^ 60) : ∃ r, m__law_next a [.obj 0] (pen xs i p) = .ok (.int r) (pen xs (i + 1) p) := by
  have hi : -(2 ^ 64) < i ∧ i < 2 ^ 64 := by omega
  let M := pen xs (i + 1) p
  -- the script's number here
  have key : ∀ c : Int, ∃ r, (sSeq (sIf (mAnd (mOp gLt (mVar 1) (mCall gLen (mCons (mOp gIx (mVar 0) (mC (.int 0))) mNil))) (mOp gGe (mVar 2) (mOp gPow (mC (.int 10)) (mC (.int 18))))) (sRet (mVar 2)) sNil)
  (sSeq (sAsg (mOp gMod (mCall gInt (mCons (mOp gAdd (mOp gAdd (mOp gMod (mCall gInt (mCons (mVar 2) mNil)) (mC (.int 2147483587))) (mOp gMulX (mVar 1) (mC (.int 30103)))) (mC (.int 79))) mNil)) (mC (.int 2147483587))) (tNm 3))
  (sSeq (sAsg (mOp gMod (mCall gInt (mCons (mOp gAdd (mOp gAdd (mOp gMulX (mVar 3) (mVar 3)) (mOp gMulX (mVar 1) (mC (.int 70039)))) (mC (.int 61))) mNil)) (mC (.int 2147483563))) (tNm 4))
  (sSeq (sAsg (mOp gMod (mCall gInt (mCons (mOp gAdd (mOp gAdd (mOp gMulX (mVar 4) (mVar 4)) (mVar 3)) (mOp gMulX (mOp gMulX (mVar 1) (mVar 1)) (mC (.int 37)))) mNil)) (mC (.int 2147483549))) (tNm 5))
  (sRet (mOp gAdd (mOp gMulX (mOp gAdd (mOp gMulX (mVar 5) (mC (.int 2147483587))) (mVar 4)) (mC (.int 2147483563))) (mVar 3))))))) [some (.obj 0), some (.int i), some (.int c), none, none, none] (pen xs (i + 1) p) = .ok (.rt (.int r)) (pen xs (i + 1) p) := fun c => by
    have lt : mOp gLt (mVar 1) (mCall gLen (mCons (mOp gIx (mVar 0) (mC (.int 0))) mNil)) [some (.obj 0), some (.int i), some (.int c), none, none, none] M = .ok (.bl (decide (i < ((xs.map D.int).length : Int)))) M := rfl
    have rest : ∃ r, (sSeq (sAsg (mOp gMod (mCall gInt (mCons (mOp gAdd (mOp gAdd (mOp gMod (mCall gInt (mCons (mVar 2) mNil)) (mC (.int 2147483587))) (mOp gMulX (mVar 1) (mC (.int 30103)))) (mC (.int 79))) mNil)) (mC (.int 2147483587))) (tNm 3))
  (sSeq (sAsg (mOp gMod (mCall gInt (mCons (mOp gAdd (mOp gAdd (mOp gMulX (mVar 3) (mVar 3)) (mOp gMulX (mVar 1) (mC (.int 70039)))) (mC (.int 61))) mNil)) (mC (.int 2147483563))) (tNm 4))
  (sSeq (sAsg (mOp gMod (mCall gInt (mCons (mOp gAdd (mOp gAdd (mOp gMulX (mVar 4) (mVar 4)) (mVar 3)) (mOp gMulX (mOp gMulX (mVar 1) (mVar 1)) (mC (.int 37)))) mNil)) (mC (.int 2147483549))) (tNm 5))
  (sRet (mOp gAdd (mOp gMulX (mOp gAdd (mOp gMulX (mVar 5) (mC (.int 2147483587))) (mVar 4)) (mC (.int 2147483563))) (mVar 3)))))) [some (.obj 0), some (.int i), some (.int c), none, none, none] M = .ok (.rt (.int r)) M := by
      generalize e1 : (c % 2147483587 + i * 30103 + 79) % 2147483587 = s1
      have b1 : -(2 ^ 64) < s1 ∧ s1 < 2 ^ 64 := by rw [← e1]; exact modb (by decide) (by decide)
      refine ⟨((((s1 * s1 + i * 70039 + 61) % 2147483563 * ((s1 * s1 + i * 70039 + 61) % 2147483563) + s1 + i * i * 37) % 2147483549) * 2147483587 + (s1 * s1 + i * 70039 + 61) % 2147483563) * 2147483563 + s1, ?_⟩
      refine st_nx (M1 := M) (env1 := [some (.obj 0), some (.int i), some (.int c), some (.int s1), none, none]) (st_asg (by subst e1; exact ev_op (ev_call (ev_cons (ev_op (ev_op (ev_op (ev_call (ev_cons rfl rfl) rfl) rfl (mod_ok (by decide))) (ev_op rfl rfl (mul_r (by decide))) rfl) rfl rfl) rfl) rfl) rfl (mod_ok (by decide))) rfl) ?_
      refine st_nx (st_asg (ev_op (ev_call (ev_cons (ev_op (ev_op (ev_op rfl rfl (mul_r b1)) (ev_op rfl rfl (mul_r (by decide))) rfl) rfl rfl) rfl) rfl) rfl (mod_ok (by decide))) rfl) ?_
      refine st_nx (st_asg (ev_op (ev_call (ev_cons (ev_op (ev_op (ev_op rfl rfl (mul_r (modb (by decide) (by decide)))) rfl rfl) (ev_op (ev_op rfl rfl (mul_r hi)) rfl (mul_r (by decide))) rfl) rfl) rfl) rfl (mod_ok (by decide))) rfl) ?_
      exact st_ret (ev_op (ev_op (ev_op (ev_op rfl rfl (mul_r (by decide))) rfl rfl) rfl (mul_r (by decide))) rfl rfl)
    cases hd : decide (i < ((xs.map D.int).length : Int)) with
    | false =>
      rw [hd] at lt
      obtain ⟨r, e⟩ := rest
      exact ⟨r, st_nx (st_iff (ev_andf lt) rfl) e⟩
    | true =>
      rw [hd] at lt
      have ge : mOp gGe (mVar 2) (mOp gPow (mC (.int 10)) (mC (.int 18))) [some (.obj 0), some (.int i), some (.int c), none, none, none] M = .ok (.bl (decide ((10 : Int) ^ (18 : Int).toNat ≤ c))) M := ev_op rfl (ev_op rfl rfl (pw_ok (by decide))) rfl
      cases hg : decide ((10 : Int) ^ (18 : Int).toNat ≤ c) with
      | false =>
        rw [hg] at ge
        obtain ⟨r, e⟩ := rest
        exact ⟨r, st_nx (st_iff (ev_andt lt ge) rfl) e⟩
      | true =>
        rw [hg] at ge
        exact ⟨c, st_rt (st_ift (ev_andt lt ge) (st_ret rfl))⟩
  have fin : ∀ c0 : Int, ∃ r c, sIf (mOp gNe (mOp gIx (mVar 0) (mC (.int 0))) (mSeq .lst mNil)) (sAsg (mOp gIx (mOp gIx (mVar 0) (mC (.int 0))) (mOp gMod (mCall gInt (mCons (mVar 1) mNil)) (mCall gLen (mCons (mOp gIx (mVar 0) (mC (.int 0))) mNil)))) (tNm 2)) sNil [some (.obj 0), some (.int i), some (.int c0), none, none, none] M = .ok (.nx [some (.obj 0), some (.int i), some (.int c), none, none, none]) M := fun c0 => by
    have ne : mOp gNe (mOp gIx (mVar 0) (mC (.int 0))) (mSeq .lst mNil) [some (.obj 0), some (.int i), some (.int c0), none, none, none] M = .ok (.bl (!xs.isEmpty)) M := ev_op rfl rfl (ne_nil xs)
    cases hx : xs.isEmpty with
    | true => rw [hx] at ne; exact ⟨0, c0, st_iff ne rfl⟩
    | false =>
      rw [hx] at ne
      have hl : 0 < (xs.length : Int) := by
        cases xs with
        | nil => cases hx
        | cons x r => simp only [List.length_cons]; omega
      obtain ⟨c, e⟩ := ix_at (M := M) (xs := xs) (i := i % ((xs.map D.int).length : Int)) (Int.emod_nonneg _ (by rw [List.length_map]; exact fun z => by rw [z] at hl; exact absurd hl (by decide))) (by simpa using Int.emod_lt_of_pos i hl)
      exact ⟨0, c, st_ift ne (st_asg (ev_op rfl (ev_op rfl rfl (mod_ok (by simpa using hl))) e) rfl)⟩
  obtain ⟨_, c, ec⟩ := fin (i * 1051 + 53)
  obtain ⟨r, er⟩ := key c
  refine ⟨r, ?_⟩
  have all : (sSeq (sAsg (mOp gIx (mVar 0) (mC (.int 1))) (tNm 1))
  (sSeq (sSet (mOp gAdd (mVar 1) (mC (.int 1))) (mVar 0) (mC (.int 1)))
  (sSeq (sAsg (mOp gAdd (mOp gMulX (mVar 1) (mC (.int 1051))) (mC (.int 53))) (tNm 2)) _))) [some (.obj 0), none, none, none, none, none] (pen xs i p) = .ok (.rt (.int r)) M :=
    st_nx (st_asg (d := .int i) rfl rfl) (st_nx (env1 := [some (.obj 0), some (.int i), none, none, none, none]) (M1 := M) rfl (st_nx (st_asg (ev_op (ev_op rfl rfl (mul_r (by decide))) rfl rfl) rfl) (st_nx ec er)))
  unfold m__law_next runF
  show (match (sSeq _ _) [some (.obj 0), none, none, none, none, none] (pen xs i p) with | .ok (.rt d) M' => R.ok d M' | .ok (.nx _) M' => .ok .non M' | .exc x M' => .exc x M' | _ => .stuck) = _
  rw [all]
theorem draw_ok (a : Ad) (xs : List Int) (i p n : Int) (h0 : 0 ≤ i) (h1 : i < 2 ^ 59) (n0 : 0 < n) (n1 : n < 1073741824) : ∃ d i' p', m__law_draw a [.obj 0, .int n] (pen xs i p) = .ok (.int d) (pen xs i' p') ∧ 0 ≤ d ∧ d < n ∧ i ≤ i' ∧ i' ≤ i + 1 := by
  have st1 : ∃ i' p', (sIf (mOp gLt (mOp gIx (mVar 0) (mC (.int 2))) (mVar 1)) (sSet (mCall (gAuto (m__law_next a)) (mCons (mVar 0) mNil)) (mVar 0) (mC (.int 2))) sNil) [some (.obj 0), some (.int n), none] (pen xs i p) = .ok (.nx [some (.obj 0), some (.int n), none]) (pen xs i' p') ∧ i ≤ i' ∧ i' ≤ i + 1 := by
    have lt : mOp gLt (mOp gIx (mVar 0) (mC (.int 2))) (mVar 1) [some (.obj 0), some (.int n), none] (pen xs i p) = .ok (.bl (decide (p < n))) (pen xs i p) := rfl
    cases hd : decide (p < n) with
    | false => rw [hd] at lt; exact ⟨i, p, st_iff lt rfl, by omega, by omega⟩
    | true =>
      rw [hd] at lt
      obtain ⟨r, e⟩ := next_ok a xs i p h0 (by omega)
      refine ⟨i + 1, r, st_ift lt ?_, by omega, by omega⟩
      have c : mCall (gAuto (m__law_next a)) (mCons (mVar 0) mNil) [some (.obj 0), some (.int n), none] (pen xs i p) = .ok (.int r) (pen xs (i + 1) p) := e
      unfold sSet
      rw [c]
      rfl
  obtain ⟨i', p', e, h2, h3⟩ := st1
  refine ⟨p' % n, i', p' / n, ?_, Int.emod_nonneg _ (by omega), Int.emod_lt_of_pos _ n0, h2, h3⟩
  have dv : mOp gDiv (mOp gIx (mVar 0) (mC (.int 2))) (mVar 1) [some (.obj 0), some (.int n), some (.int (p' % n))] (pen xs i' p') = .ok (.int (p' / n)) (pen xs i' p') := ev_op (ev_op rfl rfl rfl) rfl (div_ok ⟨n0, n1⟩)
  have st3 : sSet (mOp gDiv (mOp gIx (mVar 0) (mC (.int 2))) (mVar 1)) (mVar 0) (mC (.int 2)) [some (.obj 0), some (.int n), some (.int (p' % n))] (pen xs i' p') = .ok (.nx [some (.obj 0), some (.int n), some (.int (p' % n))]) (pen xs i' (p' / n)) := by
    unfold sSet
    rw [dv]
    rfl
  have all := st_nx e (st_nx (st_asg (i := 2) (ev_op (g := gMod) (ma := mCall gInt (mCons (mOp gIx (mVar 0) (mC (.int 2))) mNil)) (mb := mVar 1) (ev_call (ev_cons (ev_op rfl rfl rfl) rfl) rfl) rfl (mod_ok n0)) rfl) (st_nx st3 (st_ret (m := mVar 2) rfl)))
  unfold m__law_draw runF
  show (match (sSeq _ _) [some (.obj 0), some (.int n), none] (pen xs i p) with | .ok (.rt d) M' => R.ok d M' | .ok (.nx _) M' => .ok .non M' | .exc x M' => .exc x M' | _ => .stuck) = _
  rw [all]
theorem pick_ok (a : Ad) (xs : List Int) (i p : Int) (ps qs : List D) (h0 : 0 ≤ i) (h1 : i < 2 ^ 58) (hp : 0 < ps.length ∧ ps.length < 1000) (hq : 0 < qs.length ∧ qs.length < 1000) (sp : ∀ x ∈ ps, still x = true) (sq : ∀ x ∈ qs, still x = true) :
    ∃ x b i' p', m__law_pick a [.obj 0, .node .tup [.node .lst ps, .node .lst qs]] (pen xs i p) = .ok (.node .tup [x, .bl b]) (pen xs i' p') ∧ x ∈ (bif b then ps else qs) ∧ i ≤ i' ∧ i' ≤ i + 2 := by
  obtain ⟨d1, i1, p1, e1, d10, d11, i10, i11⟩ := draw_ok a xs i p 3 h0 (by omega) (by decide) (by decide)
  obtain ⟨b, hb⟩ : ∃ b, decide (0 < d1) = b := ⟨_, rfl⟩
  obtain ⟨pool, hpool⟩ : ∃ pool, (bif b then ps else qs) = pool := ⟨_, rfl⟩
  have lp : 0 < pool.length ∧ pool.length < 1000 := by rw [← hpool]; cases b <;> assumption
  have stl : ∀ x ∈ pool, still x = true := by rw [← hpool]; cases b <;> assumption
  obtain ⟨d2, i2, p2, e2, d20, d21, i20, i21⟩ := draw_ok a xs i1 p1 (pool.length : Int) (by omega) (by omega) (by omega) (by omega)
  have hk : d2.toNat < pool.length := by omega
  refine ⟨pool[d2.toNat], b, i2, p2, ?_, by rw [hpool]; exact List.getElem_mem hk, by omega, by omega⟩
  have s1 : sAsg (mOp gGt (mCall (gAuto (m__law_draw a)) (mCons (mVar 0) (mCons (mC (.int 3)) mNil))) (mC (.int 0))) (tNm 2) [some (.obj 0), some (.node .tup [.node .lst ps, .node .lst qs]), none, none] (pen xs i p) = .ok (.nx [some (.obj 0), some (.node .tup [.node .lst ps, .node .lst qs]), some (.bl b), none]) (pen xs i1 p1) :=
    by subst hb; exact st_asg (ev_op (ev_call (ev_cons rfl (ev_cons rfl rfl)) e1) rfl rfl) rfl
  have s2 : sAsg (mIf (mVar 2) (mOp gIx (mVar 1) (mC (.int 0))) (mOp gIx (mVar 1) (mC (.int 1)))) (tNm 3) [some (.obj 0), some (.node .tup [.node .lst ps, .node .lst qs]), some (.bl b), none] (pen xs i1 p1) = .ok (.nx [some (.obj 0), some (.node .tup [.node .lst ps, .node .lst qs]), some (.bl b), some (.node .lst pool)]) (pen xs i1 p1) := by
    rw [← hpool]
    cases b <;> rfl
  have at_ : gIx (.node .lst pool) (.int d2) (pen xs i2 p2) = .ok pool[d2.toNat] (pen xs i2 p2) := by
    show (match atI pool d2 with | some x => R.ok x (pen xs i2 p2) | none => .stuck) = _
    have e : atI pool d2 = some pool[d2.toNat] := by
      unfold atI ixN
      simp [d20, d21, hk]
    rw [e]
  have s3 : sRet (mSeq .tup (mCons (mOp gIx (mVar 3) (mCall (gAuto (m__law_draw a)) (mCons (mVar 0) (mCons (mCall gLen (mCons (mVar 3) mNil)) mNil)))) (mCons (mVar 2) mNil))) [some (.obj 0), some (.node .tup [.node .lst ps, .node .lst qs]), some (.bl b), some (.node .lst pool)] (pen xs i1 p1) = .ok (.rt (.node .tup [pool[d2.toNat], .bl b])) (pen xs i2 p2) :=
    st_ret (ev_seq (ev_cons (ev_op rfl (ev_call (ev_cons rfl (ev_cons (ev_call (ev_cons rfl rfl) rfl) rfl)) e2) at_) (ev_cons rfl rfl)) (by
      have := stl _ (List.getElem_mem hk)
      rw [List.all_cons, this]
      rfl))
  unfold m__law_pick runF
  show (match (sSeq _ _) [some (.obj 0), some (.node .tup [.node .lst ps, .node .lst qs]), none, none] (pen xs i p) with | .ok (.rt d) M' => R.ok d M' | .ok (.nx _) M' => .ok .non M' | .exc x M' => .exc x M' | _ => .stuck) = _
  rw [st_nx s1 (st_nx s2 s3)]
end Lw

set_option Elab.async false
set_option linter.all false
set_option maxRecDepth 100000
set_option maxHeartbeats 4000000
namespace Lw
open PySem L2 TB
def a0 : Ad := ⟨174, 179, 184, 189, 267, 272, 277, 282, 289, 294, 299, 304, 309, 314, 319, 326, 331, 338, 343, 350, 357, 362, 367, 374, 379, 386, 391, 396, 403, 410, 415, 420, 425, 430, 437, 444, 451, 456, 463, 470, 477, 484, 491, 498, 505, 512, 517, 524, 531, 538, 201, 208, 214, 222, 229, 236, 243, 248, 255, 209, 215, 31, 44, 56, 68, 80, 92, 104, 116, 128, 140, 152, 164, 258, 530, 526⟩
/-- the word of an outcome -/
def wd : Option Addr → Str
  | none => ""
  | some C => if C = a0.C_InvalidBook then "book" else if C = a0.C_InvalidLacking then "lacking" else "rows"
def Errs : List (Option Addr) := [none, some a0.C_InvalidBook, some a0.C_InvalidLacking, some a0.C_InvalidRows]
theorem w_non (M : Mem) : w__law_word a0 .non M = .ok (.str (wd none)) M := rfl
theorem w_b (M : Mem) : w__law_word a0 (.node (.exn a0.C_InvalidBook) []) M = .ok (.str (wd (some a0.C_InvalidBook))) M := rfl
theorem w_l (M : Mem) : w__law_word a0 (.node (.exn a0.C_InvalidLacking) []) M = .ok (.str (wd (some a0.C_InvalidLacking))) M := rfl
theorem w_r (M : Mem) : w__law_word a0 (.node (.exn a0.C_InvalidRows) []) M = .ok (.str (wd (some a0.C_InvalidRows))) M := rfl
theorem word_ok {F : Fn} {ds : List D} {ms : Evs} {env : TB.Env} {M : Mem} {o : Option Addr} (hm : ms env M = .ok ds M) (h : res F ds = some o) (ho : o ∈ Errs) : mWord a0.told (w__law_word a0) (mCall (gAuto F) ms) env M = .ok (.str (wd o)) M := by
  unfold mWord
  cases o with
  | none =>
    obtain ⟨d, e⟩ := res_ok hm h
    rw [e]
    exact w_non M
  | some C =>
    rw [res_ex hm h]
    simp only [Errs, List.mem_cons, List.not_mem_nil, or_false, reduceCtorEq, Option.some.injEq, false_or] at ho
    rcases ho with rfl | rfl | rfl
    · exact w_b M
    · exact w_l M
    · exact w_r M
/-- the six words come as they are due -/
theorem calls_ok {s r l w t : D} {o1 o2 o3 o4 o5 o6 : Option Addr} (h1 : res (m_bare a0) [s, t, l] = some o1) (h2 : res (m_are_bare a0) [s, l, t] = some o2) (h3 : res (m_is_filling a0) [s, r, l, w, t] = some o3)
    (h4 : res (m_fillings a0) [s, r, l, w] = some o4) (h5 : res (m_how_many a0) [s, r, l, w] = some o5) (h6 : res (m_sure a0) [s, r, l, w] = some o6) (e1 : o1 ∈ Errs) (e2 : o2 ∈ Errs) (e3 : o3 ∈ Errs) (e4 : o4 ∈ Errs) (e5 : o5 ∈ Errs) (e6 : o6 ∈ Errs)
    (hr : ∀ x ∈ [r, l, w, t], rpB x = true) (st : still r = true ∧ still l = true ∧ still w = true ∧ still t = true) :
    ∃ M', m__law_calls_right a0 [s, r, l, w, t, .node .lst [.str (wd o1), .str (wd o2), .str (wd o3), .str (wd o4), .str (wd o5), .str (wd o6)]] [] = .ok (.bl true) M' := by
  obtain ⟨z, hz⟩ := repr_list hr (by show 4 ≤ 8; decide)
  let dues : D := .node .lst [.str (wd o1), .str (wd o2), .str (wd o3), .str (wd o4), .str (wd o5), .str (wd o6)]
  let E0 : TB.Env := [some s, some r, some l, some w, some t, some dues, some (.str z), none]
  let E1 : TB.Env := [some s, some r, some l, some w, some t, some dues, some (.str z), some (.obj 0)]
  let Mm : List D → Mem := fun xs => [(.lst, xs)]
  have rp : ∀ (e : TB.Env) (M : Mem), e[1]? = some (some r) → e[2]? = some (some l) → e[3]? = some (some w) → e[4]? = some (some t) → mCall gRepr (mCons (mSeq .lst (mCons (mVar 1) (mCons (mVar 2) (mCons (mVar 3) (mCons (mVar 4) mNil))))) mNil) e M = .ok (.str z) M := fun e M q1 q2 q3 q4 => by
    have v : ∀ (i : Nat) (d : D), e[i]? = some (some d) → mVar i e M = .ok d M := fun i d q => by unfold mVar; rw [q]
    refine ev_call (ev_cons (ev_seq (ev_cons (v 1 r q1) (ev_cons (v 2 l q2) (ev_cons (v 3 w q3) (ev_cons (v 4 t q4) rfl)))) ?_) rfl) (hz M)
    rw [List.all_cons, List.all_cons, List.all_cons, List.all_cons, st.1, st.2.1, st.2.2.1, st.2.2.2]
    rfl
  have app : ∀ (xs : List D) (y : D) (ms : Evs), ms E1 (Mm xs) = .ok [y] (Mm xs) → szB (xs.length + 1) = true → sExpr (mCm isL (mVar 7) ms gApp) E1 (Mm xs) = .ok (.nx E1) (Mm (xs ++ [y])) := fun xs y ms h hsz => by
    refine st_exp (d := .non) ?_
    unfold mCm
    have e0 : mVar 7 E1 (Mm xs) = .ok (.obj 0) (Mm xs) := rfl
    rw [e0]
    show ((ms E1 (Mm xs)).bind fun ds M2 => match M2[0]? with
      | some (t2, ys) => (match gApp ds M2 t2 ys with
        | some (t', xs', r) => R.ok r (M2.set 0 (t', xs'))
        | none => .stuck)
      | none => .stuck) = _
    rw [h]
    show (match gApp [y] (Mm xs) .lst xs with | some (t', xs', r) => R.ok r ((Mm xs).set 0 (t', xs')) | none => .stuck) = _
    unfold gApp
    simp only [hsz, if_true]
    rfl
  have a1 : mOwn .lst (mCons (mWord a0.told (w__law_word a0) (mCall (gAuto (m_bare a0)) (mCons (mVar 0) (mCons (mVar 4) (mCons (mVar 2) mNil))))) mNil) E0 [] = .ok (.obj 0) (Mm [.str (wd o1)]) := by
    have q : mCons (mWord a0.told (w__law_word a0) (mCall (gAuto (m_bare a0)) (mCons (mVar 0) (mCons (mVar 4) (mCons (mVar 2) mNil))))) mNil E0 [] = .ok [.str (wd o1)] [] := ev_cons (word_ok (ds := [s, t, l]) rfl h1 e1) rfl
    unfold mOwn
    rw [q]
    rfl
  refine ⟨Mm [.str (wd o1), .str (wd o2), .str (wd o3), .str (wd o4), .str (wd o5), .str (wd o6)], ?_⟩
  unfold m__law_calls_right
  refine run_rt rfl (st_nx (st_asg (i := 6) (rp _ [] rfl rfl rfl rfl) rfl)
    (st_nx (st_asg (i := 7) a1 rfl)
    (st_nx (app [.str (wd o1)] _ _ (ev_cons (word_ok (ds := [s, l, t]) rfl h2 e2) rfl) rfl)
    (st_nx (app [.str (wd o1), .str (wd o2)] _ _ (ev_cons (word_ok (ds := [s, r, l, w, t]) rfl h3 e3) rfl) rfl)
    (st_nx (app [.str (wd o1), .str (wd o2), .str (wd o3)] _ _ (ev_cons (word_ok (ds := [s, r, l, w]) rfl h4 e4) rfl) rfl)
    (st_nx (app [.str (wd o1), .str (wd o2), .str (wd o3), .str (wd o4)] _ _ (ev_cons (word_ok (ds := [s, r, l, w]) rfl h5 e5) rfl) rfl)
    (st_nx (app [.str (wd o1), .str (wd o2), .str (wd o3), .str (wd o4), .str (wd o5)] _ _ (ev_cons (word_ok (ds := [s, r, l, w]) rfl h6 e6) rfl) rfl)
    (st_ret (ev_andt (M1 := Mm [.str (wd o1), .str (wd o2), .str (wd o3), .str (wd o4), .str (wd o5), .str (wd o6)]) (ev_op (M1 := Mm [.str (wd o1), .str (wd o2), .str (wd o3), .str (wd o4), .str (wd o5), .str (wd o6)]) (M2 := Mm [.str (wd o1), .str (wd o2), .str (wd o3), .str (wd o4), .str (wd o5), .str (wd o6)]) rfl rfl ?_) (ev_op (rp _ (Mm [.str (wd o1), .str (wd o2), .str (wd o3), .str (wd o4), .str (wd o5), .str (wd o6)]) rfl rfl rfl rfl) rfl ?_))))))))))
  · show (match deq 24 (.node .lst [.str (wd o1), .str (wd o2), .str (wd o3), .str (wd o4), .str (wd o5), .str (wd o6)]) dues with | some b => R.ok (D.bl b) _ | none => .stuck) = _
    have e : deq 24 (.node .lst [.str (wd o1), .str (wd o2), .str (wd o3), .str (wd o4), .str (wd o5), .str (wd o6)]) dues = some true := by
      show (match allB [some (seq (wd o1) (wd o1)), some (seq (wd o2) (wd o2)), some (seq (wd o3) (wd o3)), some (seq (wd o4) (wd o4)), some (seq (wd o5) (wd o5)), some (seq (wd o6) (wd o6))] with | r => r) = some true
      simp only [seq_self]
      rfl
    rw [e]
  · show (match deq 24 (.str z) (.str z) with | some b => R.ok (D.bl b) _ | none => .stuck) = _
    show (match some (seq z z) with | some b => R.ok (D.bl b) _ | none => .stuck) = _
    rw [seq_self]
end Lw

set_option Elab.async false
set_option linter.all false
set_option maxRecDepth 100000
set_option maxHeartbeats 4000000
namespace Lw
open PySem L2 TB
/-- the data that a call with data alone gives -/
def gOut (F : Fn) (ds : List D) : Option D := match ds.all still with
  | true => match F ds [] with
    | .ok d M' => view M' d
    | _ => none
  | false => none
theorem gOut_auto {F : Fn} {ds : List D} {d : D} {M : Mem} (h : gOut F ds = some d) : gAuto F ds M = .ok d M ∧ gFn F ds M = .ok d M := by
  unfold gOut at h
  cases hs : ds.all still with
  | false => rw [hs] at h; cases h
  | true =>
    rw [hs] at h
    simp only at h
    have e : gFn F ds M = .ok d M := by
      unfold gFn
      rw [hs]
      simp only
      cases q : F ds [] with
      | stuck => rw [q] at h; cases h
      | exc x M' => rw [q] at h; cases h
      | ok d' M' => rw [q] at h; simp only at h ⊢; rw [h]
    exact ⟨by unfold gAuto; rw [hs]; exact e, e⟩
def ot (o : Option D) : D := o.getD .non
def prt (d : D) (i : Nat) : D := match d with | .node _ xs => (xs[i]?).getD .non | _ => .non
def lst (d : D) : List D := match d with | .node _ xs => xs | _ => []
def sch : D := ot (gOut (m__law_schema a0) [])
def RL (b : Bool) : List D := lst (prt (ot (gOut (m__law_books a0) [])) (bif b then 0 else 1))
def LL (b : Bool) : List D := lst (prt (ot (gOut (m__law_gaps a0) [])) (bif b then 0 else 1))
def hereOf (b2 : Bool) (l : D) : D := ot (gOut (m__law_rows_here a0) [bif b2 then l else .node .lst []])
/-- whole or odd: the same whatever is lacking -/
def TL (b : Bool) : List D := lst (prt (hereOf false .non) (bif b then 0 else 2))
def WL (b2 b3 : Bool) (l : D) : List D := lst (prt (hereOf b2 l) (bif b3 then 1 else 2))
def isO (x : Option (Option Addr)) (o : Option Addr) : Bool := match x, o with
  | some none, none => true
  | some (some c), some d => Nat.beq c d
  | _, _ => false
theorem isO_eq {x : Option (Option Addr)} {o : Option Addr} (h : isO x o = true) : x = some o := by
  unfold isO at h
  split at h
  · rfl
  · rw [Nat.eq_of_beq_eq_true h]
  · cases h
def oB : Option Addr := some a0.C_InvalidBook
def oL : Option Addr := some a0.C_InvalidLacking
def oR : Option Addr := some a0.C_InvalidRows
def due1 (b4 b2 : Bool) : Option Addr := bif b4 then (bif b2 then none else oL) else oR
def due2 (b2 : Bool) : Option Addr := bif b2 then none else oL
def due (b1 b2 b3 : Bool) : Option Addr := bif b1 then (bif b2 then (bif b3 then none else oR) else oL) else oB
def TF : List Bool := [true, false]
theorem c_sch : gOut (m__law_schema a0) [] = some sch := by kernel_rfl
theorem c_books : gOut (m__law_books a0) [] = some (.node .tup [.node .lst (RL true), .node .lst (RL false)]) := by kernel_rfl
theorem c_gaps : gOut (m__law_gaps a0) [] = some (.node .tup [.node .lst (LL true), .node .lst (LL false)]) := by kernel_rfl
/-- whole, some, odd: of the right shape -/
def hereB (d : D) : Bool := match d with
  | .node .tup [.node .lst _, .node .lst _, .node .lst _] => true
  | _ => false
theorem c_still : (TF.all fun b => (RL b).all (fun x => still x && rpB x) && ((LL b).all (fun x => still x && rpB x) && (TL b).all (fun x => still x && rpB x))) = true := by kernel_rfl
theorem c_stillW : (TF.all fun b2 => (LL b2).all fun l => TF.all fun b3 => (WL b2 b3 l).all (fun x => still x && rpB x) && (Nat.blt 0 (WL b2 b3 l).length && Nat.blt (WL b2 b3 l).length 1000)) = true := by kernel_rfl
theorem c_len : (TF.all fun b => Nat.blt 0 (RL b).length && (Nat.blt (RL b).length 1000 && (Nat.blt 0 (LL b).length && (Nat.blt (LL b).length 1000 && (Nat.blt 0 (TL b).length && Nat.blt (TL b).length 1000))))) = true := by kernel_rfl
theorem c_1 : (TF.all fun b2 => TF.all fun b4 => (LL b2).all fun l => (TL b4).all fun t => isO (res (m_bare a0) [sch, t, l]) (due1 b4 b2)) = true := by kernel_rfl
theorem c_2 : (TF.all fun b2 => TF.all fun b4 => (LL b2).all fun l => (TL b4).all fun t => isO (res (m_are_bare a0) [sch, l, t]) (due2 b2)) = true := by kernel_rfl
end Lw

set_option Elab.async false
set_option linter.all false
set_option maxRecDepth 100000
set_option maxHeartbeats 4000000
namespace Lw
open PySem L2 TB
theorem c_b : (TF.all fun b2 => (LL b2).all fun l => TF.all fun b3 => (WL b2 b3 l).all fun w => TF.all fun b1 => (RL b1).all fun r => isO (res (m_check_bare a0) [sch, r, l, w]) (due b1 b2 b3)) = true := by kernel_rfl
theorem c_4 : ((LL true).all fun l => (WL true true l).all fun w => (RL true).all fun r => isO (res (m_fillings a0) [sch, r, l, w]) none && (isO (res (m_how_many a0) [sch, r, l, w]) none && isO (res (m_sure a0) [sch, r, l, w]) none)) = true := by kernel_rfl
theorem c_3 : ((LL true).all fun l => (WL true true l).all fun w => (RL true).all fun r => TF.all fun b4 => (TL b4).all fun t => isO (res (m_is_filling a0) [sch, r, l, w, t]) none) = true := by kernel_rfl
end Lw

set_option Elab.async false
set_option linter.all false
set_option maxRecDepth 100000
set_option maxHeartbeats 4000000
namespace Lw
open PySem L2 TB
theorem c_here : (LL true).map (fun l => gOut (m__law_rows_here a0) [l]) = (LL true).map (fun l => some (.node .tup [.node .lst (TL true), .node .lst (WL true true l), .node .lst (TL false)])) := by kernel_rfl
theorem c_hereF : gOut (m__law_rows_here a0) [.node .lst []] = some (.node .tup [.node .lst (TL true), .node .lst (WL false true .non), .node .lst (TL false)]) := by kernel_rfl
theorem map_at {α β : Type} {f g : α → β} : ∀ {xs : List α}, xs.map f = xs.map g → ∀ x ∈ xs, f x = g x
  | y :: ys, h, x, hx => by
    rw [List.map_cons, List.map_cons] at h
    injection h with h1 h2
    rcases List.mem_cons.mp hx with e | hx
    · rw [e]; exact h1
    · exact map_at h2 x hx
theorem here_ok {b2 : Bool} {l : D} (hl : l ∈ LL b2) : gOut (m__law_rows_here a0) [bif b2 then l else .node .lst []] = some (.node .tup [.node .lst (TL true), .node .lst (WL b2 true l), .node .lst (TL false)]) ∧ WL b2 false l = TL false := by
  cases b2 with
  | true =>
    have e := map_at c_here l hl
    refine ⟨e, ?_⟩
    have e' : gOut (m__law_rows_here a0) [l] = some (.node .tup [.node .lst (TL true), .node .lst (WL true true l), .node .lst (TL false)]) := e
    show lst (prt (ot (gOut (m__law_rows_here a0) [l])) 2) = _
    rw [e']
    rfl
  | false =>
    have w0 : WL false true l = WL false true .non := rfl
    refine ⟨by rw [w0]; exact c_hereF, ?_⟩
    show lst (prt (ot (gOut (m__law_rows_here a0) [.node .lst []])) 2) = _
    rfl
theorem tf (b : Bool) : b ∈ TF := by cases b <;> decide
theorem all_at {α : Type} {p : α → Bool} {xs : List α} (h : xs.all p = true) {x : α} (hx : x ∈ xs) : p x = true := List.all_eq_true.mp h x hx
/-! ### what check_bare refuses, the others refuse -/
section
variable {env : TB.Env} {M M1 : Mem} {x : Ex} {m : Ev} {ms : Evs} {sb : Sm}
theorem ev_consE (h : m env M = .exc x M1) : mCons m ms env M = .exc x M1 := by unfold mCons; rw [h]; rfl
theorem ev_callE {g : OpN} (h : ms env M = .exc x M1) : mCall g ms env M = .exc x M1 := by unfold mCall; rw [h]; rfl
theorem st_asgE {t : TgM} (h : m env M = .exc x M1) : sAsg m t env M = .exc x M1 := by unfold sAsg; rw [h]; rfl
end
theorem res_of {F : Fn} {ds : List D} {C : Addr} {M' : Mem} (hs : ds.all still = true) (h : F ds [] = .exc { C := C } M') : res F ds = some (some C) := by unfold res; rw [hs]; simp only; rw [h]
theorem fill_ex {s r l w : D} {C : Addr} (hs : [s, r, l, w].all still = true) (h : res (m_check_bare a0) [s, r, l, w] = some (some C)) : res (m_fillings a0) [s, r, l, w] = some (some C) := by
  refine res_of hs (M' := []) ?_
  unfold m_fillings
  exact run_ex rfl (st_ex (st_expE (res_ex rfl h)))
theorem many_ex {s r l w : D} {C : Addr} (hs : [s, r, l, w].all still = true) (h : res (m_check_bare a0) [s, r, l, w] = some (some C)) : res (m_how_many a0) [s, r, l, w] = some (some C) := by
  refine res_of hs (M' := []) ?_
  unfold m_how_many
  exact run_ex rfl (st_retE (ev_callE (ev_consE (res_ex rfl (fill_ex hs h)))))
theorem sure_ex {s r l w : D} {C : Addr} (hs : [s, r, l, w].all still = true) (h : res (m_check_bare a0) [s, r, l, w] = some (some C)) : res (m_sure a0) [s, r, l, w] = some (some C) := by
  refine res_of hs (M' := []) ?_
  unfold m_sure
  exact run_ex rfl (st_ex (st_asgE (res_ex rfl (fill_ex hs h))))
theorem isf_ex {s r l w t : D} {C : Addr} (hs : [s, r, l, w, t].all still = true) (h : res (m_check_bare a0) [s, r, l, w] = some (some C)) : res (m_is_filling a0) [s, r, l, w, t] = some (some C) := by
  refine res_of hs (M' := []) ?_
  unfold m_is_filling
  exact run_ex rfl (st_ex (st_expE (res_ex rfl h)))
theorem due_err (b1 b2 b3 : Bool) : due b1 b2 b3 ∈ Errs := by cases b1 <;> cases b2 <;> cases b3 <;> simp [due, Errs, oB, oL, oR]
theorem due1_err (b4 b2 : Bool) : due1 b4 b2 ∈ Errs := by cases b4 <;> cases b2 <;> simp [due1, Errs, oL, oR]
theorem due2_err (b2 : Bool) : due2 b2 ∈ Errs := by cases b2 <;> simp [due2, Errs, oL]
def duesD (b1 b2 b3 b4 : Bool) : D := .node .lst [.str (wd (due1 b4 b2)), .str (wd (due2 b2)), .str (wd (due b1 b2 b3)), .str (wd (due b1 b2 b3)), .str (wd (due b1 b2 b3)), .str (wd (due b1 b2 b3))]
theorem fineR {b : Bool} {x : D} : (x ∈ RL b → still x = true ∧ rpB x = true) ∧ (x ∈ LL b → still x = true ∧ rpB x = true) ∧ (x ∈ TL b → still x = true ∧ rpB x = true) := by
  have h := all_at c_still (tf b)
  simp only [Bool.and_eq_true] at h
  refine ⟨fun hx => ?_, fun hx => ?_, fun hx => ?_⟩
  · have := all_at h.1 hx; rwa [Bool.and_eq_true] at this
  · have := all_at h.2.1 hx; rwa [Bool.and_eq_true] at this
  · have := all_at h.2.2 hx; rwa [Bool.and_eq_true] at this
theorem fineW {b2 b3 : Bool} {l : D} (hl : l ∈ LL b2) : (∀ x ∈ WL b2 b3 l, still x = true ∧ rpB x = true) ∧ 0 < (WL b2 b3 l).length ∧ (WL b2 b3 l).length < 1000 := by
  have h := all_at (all_at (all_at c_stillW (tf b2)) hl) (tf b3)
  simp only [Bool.and_eq_true] at h
  refine ⟨fun x hx => ?_, Nat.le_of_ble_eq_true h.2.1, Nat.le_of_ble_eq_true h.2.2⟩
  have := all_at h.1 hx
  rwa [Bool.and_eq_true] at this
theorem still_sch : still sch = true := by kernel_rfl
/-- one round of calls is right -/
theorem round_ok {b1 b2 b3 b4 : Bool} {r l w t : D} (hr : r ∈ RL b1) (hl : l ∈ LL b2) (hw : w ∈ WL b2 b3 l) (ht : t ∈ TL b4) : ∃ M', m__law_calls_right a0 [sch, r, l, w, t, duesD b1 b2 b3 b4] [] = .ok (.bl true) M' := by
  obtain ⟨sr, rr⟩ := fineR.1 hr
  obtain ⟨sl, rl⟩ := fineR.2.1 hl
  obtain ⟨st, rt⟩ := fineR.2.2 ht
  obtain ⟨sw, rw⟩ := (fineW hl).1 w hw
  have cb := isO_eq (all_at (all_at (all_at (all_at (all_at (all_at c_b (tf b2)) hl) (tf b3)) hw) (tf b1)) hr)
  have k1 := isO_eq (all_at (all_at (all_at (all_at c_1 (tf b2)) (tf b4)) hl) ht)
  have k2 := isO_eq (all_at (all_at (all_at (all_at c_2 (tf b2)) (tf b4)) hl) ht)
  have hs4 : [sch, r, l, w].all still = true := by simp [still_sch, sr, sl, sw]
  have hs5 : [sch, r, l, w, t].all still = true := by simp [still_sch, sr, sl, sw, st]
  have four : res (m_is_filling a0) [sch, r, l, w, t] = some (due b1 b2 b3) ∧ res (m_fillings a0) [sch, r, l, w] = some (due b1 b2 b3) ∧ res (m_how_many a0) [sch, r, l, w] = some (due b1 b2 b3) ∧ res (m_sure a0) [sch, r, l, w] = some (due b1 b2 b3) := by
    cases hd : due b1 b2 b3 with
    | some C =>
      rw [hd] at cb
      exact ⟨isf_ex hs5 cb, fill_ex hs4 cb, many_ex hs4 cb, sure_ex hs4 cb⟩
    | none =>
      have all3 : b1 = true ∧ b2 = true ∧ b3 = true := by
        revert hd
        cases b1 <;> cases b2 <;> cases b3 <;> simp [due, oB, oL, oR]
      obtain ⟨rfl, rfl, rfl⟩ := all3
      have q := all_at (all_at (all_at c_4 hl) hw) hr
      simp only [Bool.and_eq_true] at q
      exact ⟨isO_eq (all_at (all_at (all_at (all_at (all_at c_3 hl) hw) hr) (tf b4)) ht), isO_eq q.1, isO_eq q.2.1, isO_eq q.2.2⟩
  refine calls_ok k1 k2 four.1 four.2.1 four.2.2.1 four.2.2.2 (due1_err _ _) (due2_err _) (due_err _ _ _) (due_err _ _ _) (due_err _ _ _) (due_err _ _ _) (fun x hx => ?_) ⟨sr, sl, sw, st⟩
  simp only [List.mem_cons, List.not_mem_nil, or_false] at hx
  rcases hx with rfl | rfl | rfl | rfl
  · exact rr
  · exact rl
  · exact rw
  · exact rt
end Lw

set_option Elab.async false
set_option linter.all false
set_option maxRecDepth 100000
set_option maxHeartbeats 4000000
namespace Lw
open PySem L2 TB
theorem st_for {it : Evs} {t : TgM} {b : Sm} {env : TB.Env} {M M1 : Mem} {items : List D} {r : R F} (h : it env M = .ok items M1) (k : forGo t b items env M1 = r) : sFor it t b env M = r := by unfold sFor; rw [h]; exact k
theorem for_cons {t : TgM} {b : Sm} {env env2 env3 : TB.Env} {M M3 : Mem} {x : D} {xs : List D} {r : R F} (ht : t x M env = some env2) (hb : b env2 M = .ok (.nx env3) M3) (k : forGo t b xs env3 M3 = r) : forGo t b (x :: xs) env M = r := by unfold forGo; rw [ht]; simp only; rw [hb]; exact k
/-- the names of the law: what holds between the turns -/
structure Ev19 (env : TB.Env) : Prop where
  len : env.length = 19
  p : env[1]? = some (some (.obj 0))
  s : env[2]? = some (some sch)
theorem Ev19.set {env : TB.Env} (h : Ev19 env) {i : Nat} (d : D) (hi : 2 < i) : Ev19 (env.set i (some d)) := ⟨by rw [List.length_set]; exact h.len, by rw [List.getElem?_set_ne (by omega)]; exact h.p, by rw [List.getElem?_set_ne (by omega)]; exact h.s⟩
theorem v_ok {env : TB.Env} {M : Mem} {i : Nat} {d : D} (h : env[i]? = some (some d)) : mVar i env M = .ok d M := by unfold mVar; rw [h]
theorem set_at {env : TB.Env} {i : Nat} {d : D} (h : i < env.length) : (env.set i (some d))[i]? = some (some d) := List.getElem?_set_self h
theorem set_ne {env : TB.Env} {i j : Nat} {d : D} {x : Option (Option D)} (hne : i ≠ j) (h : env[j]? = x) : (env.set i (some d))[j]? = x := by rw [List.getElem?_set_ne hne]; exact h
def firstOf (xs : List D) : D := ot (gOut (m__law_first a0) [.node .lst xs])
theorem c_first : (TF.map fun b1 => TF.map fun b2 => TF.map fun b3 => gOut (m__law_first a0) [.node .lst [.str (bif b1 then "" else "book"), .str (wd (due2 b2)), .str (bif b3 then "" else "rows")]]) = (TF.map fun b1 => TF.map fun b2 => TF.map fun b3 => some (.str (wd (due b1 b2 b3)))) := by kernel_rfl
theorem c_first1 : (TF.map fun b4 => TF.map fun b2 => gOut (m__law_first a0) [.node .lst [.str (bif b4 then "" else "rows"), .str (wd (due2 b2))]]) = (TF.map fun b4 => TF.map fun b2 => some (.str (wd (due1 b4 b2)))) := by kernel_rfl
theorem first_ok (b1 b2 b3 : Bool) : gOut (m__law_first a0) [.node .lst [.str (bif b1 then "" else "book"), .str (wd (due2 b2)), .str (bif b3 then "" else "rows")]] = some (.str (wd (due b1 b2 b3))) :=
  map_at (map_at (map_at c_first b1 (tf b1)) b2 (tf b2)) b3 (tf b3)
theorem first1_ok (b4 b2 : Bool) : gOut (m__law_first a0) [.node .lst [.str (bif b4 then "" else "rows"), .str (wd (due2 b2))]] = some (.str (wd (due1 b4 b2))) :=
  map_at (map_at c_first1 b4 (tf b4)) b2 (tf b2)
theorem wrong_ok (b2 : Bool) : wd (due2 b2) = bif b2 then "" else "lacking" := by cases b2 <;> rfl
/-- a turn's second half: the rounds -/
theorem rounds_ok {b1 b2 b3 b4 : Bool} {r l w t : D} (hr : r ∈ RL b1) (hl : l ∈ LL b2) (hw : w ∈ WL b2 b3 l) (ht : t ∈ TL b4) : ∀ (n : Nat) (k : Int) (env : TB.Env) (M : Mem), env.length = 19 → env[2]? = some (some sch) → env[4]? = some (some r) → env[6]? = some (some l) → env[11]? = some (some w) → env[13]? = some (some t) → env[17]? = some (some (duesD b1 b2 b3 b4)) →
    ∃ env', forGo (tNm 18) (sIf (mNot (mCall (gAuto (m__law_calls_right a0)) (mCons (mVar 2) (mCons (mVar 4) (mCons (mVar 6) (mCons (mVar 11) (mCons (mVar 13) (mCons (mVar 17) mNil)))))))) (sRet (mC (.bl false))) sNil) (upto k n) env M = .ok (.nx env') M ∧ env'.length = 19 ∧ ∀ j, j ≠ 18 → env'[j]? = env[j]? := by
  intro n
  induction n with
  | zero => intro k env M h19 _ _ _ _ _ _; exact ⟨env, rfl, h19, fun j _ => rfl⟩
  | succ n ih =>
    intro k env M h19 q2 q4 q6 q11 q13 q17
    obtain ⟨M', e⟩ := round_ok hr hl hw ht
    have out : gOut (m__law_calls_right a0) [sch, r, l, w, t, duesD b1 b2 b3 b4] = some (.bl true) := by
      have sd : still (duesD b1 b2 b3 b4) = true := rfl
      unfold gOut
      rw [show [sch, r, l, w, t, duesD b1 b2 b3 b4].all still = true by simp [still_sch, (fineR.1 hr).1, (fineR.2.1 hl).1, ((fineW hl).1 w hw).1, (fineR.2.2 ht).1, sd]]
      simp only
      rw [e]
      rfl
    have g : ∀ j, j ≠ 18 → (env.set 18 (some (.int k)))[j]? = env[j]? := fun j hj => List.getElem?_set_ne (fun z => hj z.symm)
    obtain ⟨env', e2, l2, g2⟩ := ih (k + 1) (env.set 18 (some (.int k))) M (by rw [List.length_set]; exact h19) ((g 2 (by decide)).trans q2) ((g 4 (by decide)).trans q4) ((g 6 (by decide)).trans q6) ((g 11 (by decide)).trans q11) ((g 13 (by decide)).trans q13) ((g 17 (by decide)).trans q17)
    refine ⟨env', for_cons (env2 := env.set 18 (some (.int k))) (env3 := env.set 18 (some (.int k))) (M3 := M) (by unfold tNm; rw [h19]; rfl) (st_iff (ev_not (ev_call (ev_cons (v_ok ((g 2 (by decide)).trans q2)) (ev_cons (v_ok ((g 4 (by decide)).trans q4)) (ev_cons (v_ok ((g 6 (by decide)).trans q6)) (ev_cons (v_ok ((g 11 (by decide)).trans q11)) (ev_cons (v_ok ((g 13 (by decide)).trans q13)) (ev_cons (v_ok ((g 17 (by decide)).trans q17)) rfl)))))) (gOut_auto out).1)) rfl) e2, l2, fun j hj => (g2 j hj).trans (g j hj)⟩
def turnB : Sm :=
  (sSeq (sAsg (mCall (gAuto (m__law_pick a0)) (mCons (mVar 1) (mCons (mCall (gFn (m__law_books a0)) mNil) mNil))) (tTp (tsCons (tNm 4) (tsCons (tNm 5) tsNil))))
  (sSeq (sAsg (mCall (gAuto (m__law_pick a0)) (mCons (mVar 1) (mCons (mCall (gFn (m__law_gaps a0)) mNil) mNil))) (tTp (tsCons (tNm 6) (tsCons (tNm 7) tsNil))))
  (sSeq (sAsg (mCall (gAuto (m__law_rows_here a0)) (mCons (mIf (mVar 7) (mVar 6) (mSeq .lst mNil)) mNil)) (tTp (tsCons (tNm 8) (tsCons (tNm 9) (tsCons (tNm 10) tsNil)))))
  (sSeq (sAsg (mCall (gAuto (m__law_pick a0)) (mCons (mVar 1) (mCons (mSeq .tup (mCons (mVar 9) (mCons (mVar 10) mNil))) mNil))) (tTp (tsCons (tNm 11) (tsCons (tNm 12) tsNil))))
  (sSeq (sAsg (mCall (gAuto (m__law_pick a0)) (mCons (mVar 1) (mCons (mSeq .tup (mCons (mVar 8) (mCons (mVar 10) mNil))) mNil))) (tTp (tsCons (tNm 13) (tsCons (tNm 14) tsNil))))
  (sSeq (sAsg (mIf (mVar 7) (mC (.str "")) (mC (.str "lacking"))) (tNm 15))
  (sSeq (sAsg (mCall (gAuto (m__law_first a0)) (mCons (mSeq .lst (mCons (mIf (mVar 5) (mC (.str "")) (mC (.str "book"))) (mCons (mVar 15) (mCons (mIf (mVar 12) (mC (.str "")) (mC (.str "rows"))) mNil)))) mNil)) (tNm 16))
  (sSeq (sAsg (mSeq .lst (mCons (mCall (gAuto (m__law_first a0)) (mCons (mSeq .lst (mCons (mIf (mVar 14) (mC (.str "")) (mC (.str "rows"))) (mCons (mVar 15) mNil))) mNil)) (mCons (mVar 15) (mCons (mVar 16) (mCons (mVar 16) (mCons (mVar 16) (mCons (mVar 16) mNil))))))) (tNm 17))
  (sFor (itRng1 (mCons (mC (.int 2)) mNil)) (tNm 18) (sIf (mNot (mCall (gAuto (m__law_calls_right a0)) (mCons (mVar 2) (mCons (mVar 4) (mCons (mVar 6) (mCons (mVar 11) (mCons (mVar 13) (mCons (mVar 17) mNil)))))))) (sRet (mC (.bl false))) sNil))))))))))
theorem list19 {α : Type} : ∀ {xs : List α}, xs.length = 19 → ∃ y0 y1 y2 y3 y4 y5 y6 y7 y8 y9 y10 y11 y12 y13 y14 y15 y16 y17 y18, xs = [y0, y1, y2, y3, y4, y5, y6, y7, y8, y9, y10, y11, y12, y13, y14, y15, y16, y17, y18]
  | [y0, y1, y2, y3, y4, y5, y6, y7, y8, y9, y10, y11, y12, y13, y14, y15, y16, y17, y18], _ => ⟨y0, y1, y2, y3, y4, y5, y6, y7, y8, y9, y10, y11, y12, y13, y14, y15, y16, y17, y18, rfl⟩
theorem turn_ok (xs : List Int) {env : TB.Env} (h : Ev19 env) (i p : Int) (h0 : 0 ≤ i) (h1 : i < 2 ^ 57) : ∃ env' i' p', turnB env (pen xs i p) = .ok (.nx env') (pen xs i' p') ∧ Ev19 env' ∧ i ≤ i' ∧ i' ≤ i + 8 := by
  obtain ⟨hl, hp, hs⟩ := h
  obtain ⟨y0, y1, y2, y3, y4, y5, y6, y7, y8, y9, y10, y11, y12, y13, y14, y15, y16, y17, y18, rfl⟩ := list19 hl
  cases (show y1 = some (.obj 0) from Option.some.inj hp)
  cases (show y2 = some sch from Option.some.inj hs)
  have len := fun b => by
    have q := all_at c_len (tf b)
    simp only [Bool.and_eq_true] at q
    exact q
  have bl : ∀ {m n : Nat}, Nat.blt m n = true → m < n := fun h => Nat.le_of_ble_eq_true h
  -- the four picks
  obtain ⟨r, b1, i1, p1, e1, r1, f1, g1⟩ := pick_ok a0 xs i p (RL true) (RL false) h0 (by omega) ⟨bl (len true).1, bl (len true).2.1⟩ ⟨bl (len false).1, bl (len false).2.1⟩ (fun x hx => (fineR.1 hx).1) (fun x hx => (fineR.1 hx).1)
  obtain ⟨l, b2, i2, p2, e2, r2, f2, g2⟩ := pick_ok a0 xs i1 p1 (LL true) (LL false) (by omega) (by omega) ⟨bl (len true).2.2.1, bl (len true).2.2.2.1⟩ ⟨bl (len false).2.2.1, bl (len false).2.2.2.1⟩ (fun x hx => (fineR.2.1 hx).1) (fun x hx => (fineR.2.1 hx).1)
  have hr : r ∈ RL b1 := by cases b1 <;> exact r1
  have hlk : l ∈ LL b2 := by cases b2 <;> exact r2
  obtain ⟨hh, hf⟩ := here_ok hlk
  obtain ⟨w, b3, i3, p3, e3, r3, f3, g3⟩ := pick_ok a0 xs i2 p2 (WL b2 true l) (TL false) (by omega) (by omega) (fineW hlk).2 ⟨bl (len false).2.2.2.2.1, bl (len false).2.2.2.2.2⟩ (fun x hx => ((fineW hlk).1 x hx).1) (fun x hx => (fineR.2.2 hx).1)
  obtain ⟨t, b4, i4, p4, e4, r4, f4, g4⟩ := pick_ok a0 xs i3 p3 (TL true) (TL false) (by omega) (by omega) ⟨bl (len true).2.2.2.2.1, bl (len true).2.2.2.2.2⟩ ⟨bl (len false).2.2.2.2.1, bl (len false).2.2.2.2.2⟩ (fun x hx => (fineR.2.2 hx).1) (fun x hx => (fineR.2.2 hx).1)
  have hw : w ∈ WL b2 b3 l := by
    cases b3 with
    | true => exact r3
    | false => rw [hf]; exact r3
  have ht : t ∈ TL b4 := by cases b4 <;> exact r4
  have ob := (gOut_auto (M := pen xs i p) c_books).2
  have og := (gOut_auto (M := pen xs i1 p1) c_gaps).2
  have oh := (gOut_auto (M := pen xs i2 p2) hh).1
  have s1 : sAsg (mCall (gAuto (m__law_pick a0)) (mCons (mVar 1) (mCons (mCall (gFn (m__law_books a0)) mNil) mNil))) (tTp (tsCons (tNm 4) (tsCons (tNm 5) tsNil))) [y0, some (.obj 0), some sch, y3, y4, y5, y6, y7, y8, y9, y10, y11, y12, y13, y14, y15, y16, y17, y18] (pen xs i p) = .ok (.nx [y0, some (.obj 0), some sch, y3, some r, some (.bl b1), y6, y7, y8, y9, y10, y11, y12, y13, y14, y15, y16, y17, y18]) (pen xs i1 p1) :=
    st_asgT (ev_call (ds := [.obj 0, .node .tup [.node .lst (RL true), .node .lst (RL false)]]) (ev_cons rfl (ev_cons (ev_call (ds := []) rfl ob) rfl)) e1) rfl
  have s2 : sAsg (mCall (gAuto (m__law_pick a0)) (mCons (mVar 1) (mCons (mCall (gFn (m__law_gaps a0)) mNil) mNil))) (tTp (tsCons (tNm 6) (tsCons (tNm 7) tsNil))) [y0, some (.obj 0), some sch, y3, some r, some (.bl b1), y6, y7, y8, y9, y10, y11, y12, y13, y14, y15, y16, y17, y18] (pen xs i1 p1) = .ok (.nx [y0, some (.obj 0), some sch, y3, some r, some (.bl b1), some l, some (.bl b2), y8, y9, y10, y11, y12, y13, y14, y15, y16, y17, y18]) (pen xs i2 p2) :=
    st_asgT (ev_call (ds := [.obj 0, .node .tup [.node .lst (LL true), .node .lst (LL false)]]) (ev_cons rfl (ev_cons (ev_call (ds := []) rfl og) rfl)) e2) rfl
  have arg : mIf (mVar 7) (mVar 6) (mSeq .lst mNil) [y0, some (.obj 0), some sch, y3, some r, some (.bl b1), some l, some (.bl b2), y8, y9, y10, y11, y12, y13, y14, y15, y16, y17, y18] (pen xs i2 p2) = .ok (bif b2 then l else .node .lst []) (pen xs i2 p2) := by cases b2 <;> rfl
  have s3 : sAsg (mCall (gAuto (m__law_rows_here a0)) (mCons (mIf (mVar 7) (mVar 6) (mSeq .lst mNil)) mNil)) (tTp (tsCons (tNm 8) (tsCons (tNm 9) (tsCons (tNm 10) tsNil)))) [y0, some (.obj 0), some sch, y3, some r, some (.bl b1), some l, some (.bl b2), y8, y9, y10, y11, y12, y13, y14, y15, y16, y17, y18] (pen xs i2 p2) = .ok (.nx [y0, some (.obj 0), some sch, y3, some r, some (.bl b1), some l, some (.bl b2), some (.node .lst (TL true)), some (.node .lst (WL b2 true l)), some (.node .lst (TL false)), y11, y12, y13, y14, y15, y16, y17, y18]) (pen xs i2 p2) :=
    st_asgT (ev_call (ev_cons arg rfl) oh) rfl
  have s4 : sAsg (mCall (gAuto (m__law_pick a0)) (mCons (mVar 1) (mCons (mSeq .tup (mCons (mVar 9) (mCons (mVar 10) mNil))) mNil))) (tTp (tsCons (tNm 11) (tsCons (tNm 12) tsNil))) [y0, some (.obj 0), some sch, y3, some r, some (.bl b1), some l, some (.bl b2), some (.node .lst (TL true)), some (.node .lst (WL b2 true l)), some (.node .lst (TL false)), y11, y12, y13, y14, y15, y16, y17, y18] (pen xs i2 p2) = .ok (.nx [y0, some (.obj 0), some sch, y3, some r, some (.bl b1), some l, some (.bl b2), some (.node .lst (TL true)), some (.node .lst (WL b2 true l)), some (.node .lst (TL false)), some w, some (.bl b3), y13, y14, y15, y16, y17, y18]) (pen xs i3 p3) :=
    st_asgT (ev_call (ds := [.obj 0, .node .tup [.node .lst (WL b2 true l), .node .lst (TL false)]]) (ev_cons rfl (ev_cons (ev_seq (ev_cons rfl (ev_cons rfl rfl)) rfl) rfl)) e3) rfl
  have s5 : sAsg (mCall (gAuto (m__law_pick a0)) (mCons (mVar 1) (mCons (mSeq .tup (mCons (mVar 8) (mCons (mVar 10) mNil))) mNil))) (tTp (tsCons (tNm 13) (tsCons (tNm 14) tsNil))) [y0, some (.obj 0), some sch, y3, some r, some (.bl b1), some l, some (.bl b2), some (.node .lst (TL true)), some (.node .lst (WL b2 true l)), some (.node .lst (TL false)), some w, some (.bl b3), y13, y14, y15, y16, y17, y18] (pen xs i3 p3) = .ok (.nx [y0, some (.obj 0), some sch, y3, some r, some (.bl b1), some l, some (.bl b2), some (.node .lst (TL true)), some (.node .lst (WL b2 true l)), some (.node .lst (TL false)), some w, some (.bl b3), some t, some (.bl b4), y15, y16, y17, y18]) (pen xs i4 p4) :=
    st_asgT (ev_call (ds := [.obj 0, .node .tup [.node .lst (TL true), .node .lst (TL false)]]) (ev_cons rfl (ev_cons (ev_seq (ev_cons rfl (ev_cons rfl rfl)) rfl) rfl)) e4) rfl
  have s6 : sAsg (mIf (mVar 7) (mC (.str "")) (mC (.str "lacking"))) (tNm 15) [y0, some (.obj 0), some sch, y3, some r, some (.bl b1), some l, some (.bl b2), some (.node .lst (TL true)), some (.node .lst (WL b2 true l)), some (.node .lst (TL false)), some w, some (.bl b3), some t, some (.bl b4), y15, y16, y17, y18] (pen xs i4 p4) = .ok (.nx [y0, some (.obj 0), some sch, y3, some r, some (.bl b1), some l, some (.bl b2), some (.node .lst (TL true)), some (.node .lst (WL b2 true l)), some (.node .lst (TL false)), some w, some (.bl b3), some t, some (.bl b4), some (.str (wd (due2 b2))), y16, y17, y18]) (pen xs i4 p4) := by cases b2 <;> rfl
  have q5 : mIf (mVar 5) (mC (.str "")) (mC (.str "book")) [y0, some (.obj 0), some sch, y3, some r, some (.bl b1), some l, some (.bl b2), some (.node .lst (TL true)), some (.node .lst (WL b2 true l)), some (.node .lst (TL false)), some w, some (.bl b3), some t, some (.bl b4), some (.str (wd (due2 b2))), y16, y17, y18] (pen xs i4 p4) = .ok (.str (bif b1 then "" else "book")) (pen xs i4 p4) := by cases b1 <;> rfl
  have q12 : mIf (mVar 12) (mC (.str "")) (mC (.str "rows")) [y0, some (.obj 0), some sch, y3, some r, some (.bl b1), some l, some (.bl b2), some (.node .lst (TL true)), some (.node .lst (WL b2 true l)), some (.node .lst (TL false)), some w, some (.bl b3), some t, some (.bl b4), some (.str (wd (due2 b2))), y16, y17, y18] (pen xs i4 p4) = .ok (.str (bif b3 then "" else "rows")) (pen xs i4 p4) := by cases b3 <;> rfl
  have s7 : sAsg (mCall (gAuto (m__law_first a0)) (mCons (mSeq .lst (mCons (mIf (mVar 5) (mC (.str "")) (mC (.str "book"))) (mCons (mVar 15) (mCons (mIf (mVar 12) (mC (.str "")) (mC (.str "rows"))) mNil)))) mNil)) (tNm 16) [y0, some (.obj 0), some sch, y3, some r, some (.bl b1), some l, some (.bl b2), some (.node .lst (TL true)), some (.node .lst (WL b2 true l)), some (.node .lst (TL false)), some w, some (.bl b3), some t, some (.bl b4), some (.str (wd (due2 b2))), y16, y17, y18] (pen xs i4 p4) = .ok (.nx [y0, some (.obj 0), some sch, y3, some r, some (.bl b1), some l, some (.bl b2), some (.node .lst (TL true)), some (.node .lst (WL b2 true l)), some (.node .lst (TL false)), some w, some (.bl b3), some t, some (.bl b4), some (.str (wd (due2 b2))), some (.str (wd (due b1 b2 b3))), y17, y18]) (pen xs i4 p4) :=
    st_asg (ev_call (ev_cons (ev_seq (ev_cons q5 (ev_cons rfl (ev_cons q12 rfl))) rfl) rfl) (gOut_auto (first_ok b1 b2 b3)).1) rfl
  have q14 : mIf (mVar 14) (mC (.str "")) (mC (.str "rows")) [y0, some (.obj 0), some sch, y3, some r, some (.bl b1), some l, some (.bl b2), some (.node .lst (TL true)), some (.node .lst (WL b2 true l)), some (.node .lst (TL false)), some w, some (.bl b3), some t, some (.bl b4), some (.str (wd (due2 b2))), some (.str (wd (due b1 b2 b3))), y17, y18] (pen xs i4 p4) = .ok (.str (bif b4 then "" else "rows")) (pen xs i4 p4) := by cases b4 <;> rfl
  have s8 : sAsg (mSeq .lst (mCons (mCall (gAuto (m__law_first a0)) (mCons (mSeq .lst (mCons (mIf (mVar 14) (mC (.str "")) (mC (.str "rows"))) (mCons (mVar 15) mNil))) mNil)) (mCons (mVar 15) (mCons (mVar 16) (mCons (mVar 16) (mCons (mVar 16) (mCons (mVar 16) mNil))))))) (tNm 17) [y0, some (.obj 0), some sch, y3, some r, some (.bl b1), some l, some (.bl b2), some (.node .lst (TL true)), some (.node .lst (WL b2 true l)), some (.node .lst (TL false)), some w, some (.bl b3), some t, some (.bl b4), some (.str (wd (due2 b2))), some (.str (wd (due b1 b2 b3))), y17, y18] (pen xs i4 p4) = .ok (.nx [y0, some (.obj 0), some sch, y3, some r, some (.bl b1), some l, some (.bl b2), some (.node .lst (TL true)), some (.node .lst (WL b2 true l)), some (.node .lst (TL false)), some w, some (.bl b3), some t, some (.bl b4), some (.str (wd (due2 b2))), some (.str (wd (due b1 b2 b3))), some (duesD b1 b2 b3 b4), y18]) (pen xs i4 p4) :=
    st_asg (ev_seq (ev_cons (ev_call (ev_cons (ev_seq (ev_cons q14 (ev_cons rfl rfl)) rfl) rfl) (gOut_auto (first1_ok b4 b2)).1) (ev_cons rfl (ev_cons rfl (ev_cons rfl (ev_cons rfl (ev_cons rfl rfl)))))) rfl) rfl
  obtain ⟨env', e9, l9, g9⟩ := rounds_ok hr hlk hw ht 2 0 [y0, some (.obj 0), some sch, y3, some r, some (.bl b1), some l, some (.bl b2), some (.node .lst (TL true)), some (.node .lst (WL b2 true l)), some (.node .lst (TL false)), some w, some (.bl b3), some t, some (.bl b4), some (.str (wd (due2 b2))), some (.str (wd (due b1 b2 b3))), some (duesD b1 b2 b3 b4), y18] (pen xs i4 p4) rfl rfl rfl rfl rfl rfl rfl
  refine ⟨env', i4, p4, ?_, ⟨l9, g9 1 (by decide), g9 2 (by decide)⟩, by omega, by omega⟩
  unfold turnB
  exact st_nx s1 (st_nx s2 (st_nx s3 (st_nx s4 (st_nx s5 (st_nx s6 (st_nx s7 (st_nx s8 (st_for rfl e9))))))))
theorem turns_ok (xs : List Int) : ∀ (n : Nat) (k : Int) (env : TB.Env) (i p : Int), Ev19 env → 0 ≤ i → i + 8 * n < 2 ^ 57 → ∃ env' i' p', forGo (tNm 3) turnB (upto k n) env (pen xs i p) = .ok (.nx env') (pen xs i' p') := by
  intro n
  induction n with
  | zero => intro k env i p _ _ _; exact ⟨env, i, p, rfl⟩
  | succ n ih =>
    intro k env i p h h0 h1
    obtain ⟨env2, i2, p2, e2, h2, f2, g2⟩ := turn_ok xs (h.set (.int k) (i := 3) (by decide)) i p h0 (by omega)
    obtain ⟨env3, i3, p3, e3⟩ := ih (k + 1) env2 i2 p2 h2 (by omega) (by omega)
    exact ⟨env3, i3, p3, for_cons (env2 := env.set 3 (some (.int k))) (by unfold tNm; rw [h.len]; rfl) e2 e3⟩
theorem cut_ints (xs : List Int) (lo hi : Option Int) : cutD (xs.map D.int) lo hi = ((xs.drop (HT.sIx xs.length 0 lo)).take (HT.sIx xs.length xs.length hi - HT.sIx xs.length 0 lo)).map D.int := by
  unfold cutD
  rw [List.length_map, List.map_take, List.map_drop]
theorem ints_still : ∀ xs : List Int, (xs.map D.int).all still = true
  | [] => rfl
  | x :: xs => by rw [List.map_cons, List.all_cons, ints_still xs]; rfl
/-- THE LAW's mirror, at any script of ints -/
theorem law_ok (xs : List Int) : ∃ M', m_law a0 [.node .klst (xs.map D.int)] [] = .ok (.bl true) M' := by
  obtain ⟨ys, hy⟩ : ∃ ys : List Int, cutD (xs.map D.int) none (some 60) = ys.map D.int := ⟨_, cut_ints xs none (some 60)⟩
  have sl : mSl (mVar 0) none (some (mC (.int 60))) [some (.node .klst (xs.map D.int))] [] = .ok (.node .lst (ys.map D.int)) [] := by
    show (match (xs.map D.int).all still with | true => R.ok (D.node .lst (cutD (xs.map D.int) none (some 60))) [] | false => .stuck) = _
    rw [ints_still, hy]
  have gl : gList [.node .lst (ys.map D.int)] [] = .ok (.node .lst (ys.map D.int)) [] := by
    show (match (ys.map D.int).all still with | true => R.ok (D.node .lst (ys.map D.int)) [] | false => .stuck) = _
    rw [ints_still]
  have pn : m__law_pen a0 [.node .klst (xs.map D.int)] [] = .ok (.obj 0) (pen ys 0 0) := by
    unfold m__law_pen
    refine run_rt rfl (st_ret ?_)
    have q : mCons (mCall gList (mCons (mSl (mVar 0) none (some (mC (.int 60)))) mNil)) (mCons (mC (.int 0)) (mCons (mC (.int 0)) mNil)) [some (.node .klst (xs.map D.int))] [] = .ok [.node .lst (ys.map D.int), .int 0, .int 0] [] := ev_cons (ev_call (ev_cons sl rfl) gl) rfl
    show mOwn .lst _ [some (.node .klst (xs.map D.int))] [] = _
    unfold mOwn
    rw [q]
    rfl
  have e0 : Ev19 [some (.node .klst (xs.map D.int)), some (.obj 0), some sch, none, none, none, none, none, none, none, none, none, none, none, none, none, none, none, none] := ⟨rfl, rfl, rfl⟩
  obtain ⟨env', i', p', e⟩ := turns_ok ys 16 0 _ 0 0 e0 (by decide) (by decide)
  refine ⟨pen ys i' p', ?_⟩
  have s1 : sPar 1 2 (mCons (mCall (m__law_pen a0) (mCons (mVar 0) mNil)) (mCons (mCall (gFn (m__law_schema a0)) mNil) mNil)) [some (.node .klst (xs.map D.int)), none, none, none, none, none, none, none, none, none, none, none, none, none, none, none, none, none, none] [] = .ok (.nx [some (.node .klst (xs.map D.int)), some (.obj 0), some sch, none, none, none, none, none, none, none, none, none, none, none, none, none, none, none, none]) (pen ys 0 0) := by
    have q : mCons (mCall (m__law_pen a0) (mCons (mVar 0) mNil)) (mCons (mCall (gFn (m__law_schema a0)) mNil) mNil) [some (.node .klst (xs.map D.int)), none, none, none, none, none, none, none, none, none, none, none, none, none, none, none, none, none, none] [] = .ok [.obj 0, sch] (pen ys 0 0) := ev_cons (ev_call (ds := [.node .klst (xs.map D.int)]) rfl pn) (ev_cons (ev_call (ds := []) rfl (gOut_auto c_sch).2) rfl)
    unfold sPar
    rw [q]
    rfl
  unfold m_law
  exact run_rt rfl (st_nx s1 (st_nx (st_for rfl e) (st_ret rfl)))
end Lw

set_option Elab.async false
set_option linter.all false
set_option maxRecDepth 100000
set_option maxHeartbeats 4000000
set_option pp.maxSteps 50
namespace Lw
open PySem L2 TB
def TT0 : List (Addr × Str) := [(a0.kt__law_calls_right, ((("_law_calls_right" : Str) ++ (".<locals>." : Str)) ++ ("<lambda>" : Str)))]
def cs0 : List (Addr × Addr) := [(a0.kc__law_calls_right, a0.kt__law_calls_right)]
/-- the defs stand in the fragment -/
structure Fs (K : PySem.W.Frag) : Prop where
  F__law_books : FunA K "_law_books" "_law_books" s__law_books a0.f__law_books
  F__law_word : FunA K "_law_word" "_law_word" s__law_word a0.f__law_word
  F_Schema_tables : FunA K "tables" "Schema.tables" s_Schema_tables a0.f_Schema_tables
  F_is_name : FunA K "is_name" "is_name" s_is_name a0.f_is_name
  F_Schema_check_table : FunA K "check_table" "Schema.check_table" s_Schema_check_table a0.f_Schema_check_table
  F_Schema_columns : FunA K "columns" "Schema.columns" s_Schema_columns a0.f_Schema_columns
  F_Schema_flags : FunA K "flags" "Schema.flags" s_Schema_flags a0.f_Schema_flags
  F_is_integer : FunA K "is_integer" "is_integer" s_is_integer a0.f_is_integer
  F_is_bare_row : FunA K "is_bare_row" "is_bare_row" s_is_bare_row a0.f_is_bare_row
  F_are_known_bare : FunA K "are_known_bare" "are_known_bare" s_are_known_bare a0.f_are_known_bare
  F_Schema_flag_places : FunA K "flag_places" "Schema.flag_places" s_Schema_flag_places a0.f_Schema_flag_places
  F_is_place : FunA K "is_place" "is_place" s_is_place a0.f_is_place
  F_are_places : FunA K "are_places" "are_places" s_are_places a0.f_are_places
  F_check_lacking : FunA K "check_lacking" "check_lacking" s_check_lacking a0.f_check_lacking
  F_are_bare : FunA K "are_bare" "are_bare" s_are_bare a0.f_are_bare
  F_bared : FunA K "bared" "bared" s_bared a0.f_bared
  F_are_lists : FunA K "are_lists" "are_lists" s_are_lists a0.f_are_lists
  F_are_values : FunA K "are_values" "are_values" s_are_values a0.f_are_values
  F_is_row : FunA K "is_row" "is_row" s_is_row a0.f_is_row
  F_are_rows : FunA K "are_rows" "are_rows" s_are_rows a0.f_are_rows
  F_check_rows : FunA K "check_rows" "check_rows" s_check_rows a0.f_check_rows
  F_bare : FunA K "bare" "bare" s_bare a0.f_bare
  F_filled : FunA K "filled" "filled" s_filled a0.f_filled
  F_gaps_in : FunA K "gaps_in" "gaps_in" s_gaps_in a0.f_gaps_in
  F_is_has : FunA K "is_has" "is_has" s_is_has a0.f_is_has
  F_is_known : FunA K "is_known" "is_known" s_is_known a0.f_is_known
  F_is_rule : FunA K "is_rule" "is_rule" s_is_rule a0.f_is_rule
  F_is_book : FunA K "is_book" "is_book" s_is_book a0.f_is_book
  F_check_book : FunA K "check_book" "check_book" s_check_book a0.f_check_book
  F_spot_of : FunA K "spot_of" "spot_of" s_spot_of a0.f_spot_of
  F_values_in : FunA K "values_in" "values_in" s_values_in a0.f_values_in
  F_seen_values : FunA K "seen_values" "seen_values" s_seen_values a0.f_seen_values
  F_met_by : FunA K "met_by" "met_by" s_met_by a0.f_met_by
  F_breaches : FunA K "breaches" "breaches" s_breaches a0.f_breaches
  F_does_keep : FunA K "does_keep" "does_keep" s_does_keep a0.f_does_keep
  F_keeps : FunA K "keeps" "keeps" s_keeps a0.f_keeps
  F_all_fillings : FunA K "all_fillings" "all_fillings" s_all_fillings a0.f_all_fillings
  F_check_bare : FunA K "check_bare" "check_bare" s_check_bare a0.f_check_bare
  F_fillings : FunA K "fillings" "fillings" s_fillings a0.f_fillings
  F_how_many : FunA K "how_many" "how_many" s_how_many a0.f_how_many
  F_is_filling : FunA K "is_filling" "is_filling" s_is_filling a0.f_is_filling
  F_agreed : FunA K "agreed" "agreed" s_agreed a0.f_agreed
  F_sure : FunA K "sure" "sure" s_sure a0.f_sure
  F__law_calls_right : FunC K "_law_calls_right" "_law_calls_right" s__law_calls_right a0.f__law_calls_right (.ref a0.kc__law_calls_right)
  F__law_first : FunA K "_law_first" "_law_first" s__law_first a0.f__law_first
  F__law_gaps : FunA K "_law_gaps" "_law_gaps" s__law_gaps a0.f__law_gaps
  F__law_pen : FunA K "_law_pen" "_law_pen" s__law_pen a0.f__law_pen
  F__law_next : FunA K "_law_next" "_law_next" s__law_next a0.f__law_next
  F__law_draw : FunA K "_law_draw" "_law_draw" s__law_draw a0.f__law_draw
  F__law_pick : FunA K "_law_pick" "_law_pick" s__law_pick a0.f__law_pick
  F__law_rows_here : FunA K "_law_rows_here" "_law_rows_here" s__law_rows_here a0.f__law_rows_here
  F_is_column : FunA K "is_column" "is_column" s_is_column a0.f_is_column
  F_is_table : FunA K "is_table" "is_table" s_is_table a0.f_is_table
  F_Schema___init__ : FunA K "__init__" "Schema.__init__" s_Schema___init__ a0.f_Schema___init__
  F__law_schema : FunA K "_law_schema" "_law_schema" s__law_schema a0.f__law_schema
  F_law : FunA K "law" "law" s_law a0.f_law
def kit0 (K : PySem.W.Frag) : Bool := ((zB K "isinstance") && ((zB K "len") && ((zB K "all") && ((zB K "sorted") && ((zB K "repr") && ((zB K "range") && ((zB K "enumerate") && ((zB K "zip") && ((zB K "int") && ((zB K "bool") && ((zB K "str") && ((zB K "tuple") && ((zB K "list") && ((zB K "dict") && ((zB K "set") && ((zB K "ValueError") && ((strB K "LETTERS" "abcdefghijklmnopqrstuvwxyz") && ((ktupB K "RESERVED" d_RESERVED) && ((intB K "MOST_TABLES" 4) && (intB K "MOST_COLUMNS" 3))))))))))))))))))))
def kit1 (K : PySem.W.Frag) : Bool := ((intB K "MOST_FLAGS" 3) && ((intB K "MOST_LETTERS" 8) && ((intB K "MOST_RULES" 6) && ((nB K "Schema" (.ref a0.C_Schema)) && ((errKB K "ToldError" a0.C_ToldError) && ((errKB K "InvalidBook" a0.C_InvalidBook) && ((errKB K "InvalidCondition" a0.C_InvalidCondition) && ((errKB K "InvalidKept" a0.C_InvalidKept) && ((errKB K "InvalidKind" a0.C_InvalidKind) && ((errKB K "InvalidLacking" a0.C_InvalidLacking) && ((errKB K "InvalidNumber" a0.C_InvalidNumber) && ((errKB K "InvalidRows" a0.C_InvalidRows) && ((errKB K "InvalidSchema" a0.C_InvalidSchema) && ((errKB K "UnknownFlag" a0.C_UnknownFlag) && ((errKB K "UnknownRow" a0.C_UnknownRow) && ((errKB K "UnknownTable" a0.C_UnknownTable) && ((clsB K a0.C_Schema) && ((noAtB K a0.C_Schema "parts") && ((a0.Cl.all (insKB K)) && (errIB K a0.Er a0.isE))))))))))))))))))))
def kit2 (K : PySem.W.Frag) : Bool := (a0.Er.all (fun C => PySem.W.exmOne K (.ref C) (.ref a0.C_ToldError) == some true))
def kid0 (K : PySem.W.Frag) : Bool := ((defB K "_law_books" a0.f__law_books) && ((defB K "_law_word" a0.f__law_word) && ((defB K "is_name" a0.f_is_name) && ((defB K "is_integer" a0.f_is_integer) && ((defB K "is_bare_row" a0.f_is_bare_row) && ((defB K "are_known_bare" a0.f_are_known_bare) && ((defB K "is_place" a0.f_is_place) && ((defB K "are_places" a0.f_are_places) && ((defB K "check_lacking" a0.f_check_lacking) && ((defB K "are_bare" a0.f_are_bare) && ((defB K "bared" a0.f_bared) && ((defB K "are_lists" a0.f_are_lists) && ((defB K "are_values" a0.f_are_values) && ((defB K "is_row" a0.f_is_row) && ((defB K "are_rows" a0.f_are_rows) && ((defB K "check_rows" a0.f_check_rows) && ((defB K "bare" a0.f_bare) && ((defB K "filled" a0.f_filled) && ((defB K "gaps_in" a0.f_gaps_in) && (defB K "is_has" a0.f_is_has))))))))))))))))))))
def kid1 (K : PySem.W.Frag) : Bool := ((defB K "is_known" a0.f_is_known) && ((defB K "is_rule" a0.f_is_rule) && ((defB K "is_book" a0.f_is_book) && ((defB K "check_book" a0.f_check_book) && ((defB K "spot_of" a0.f_spot_of) && ((defB K "values_in" a0.f_values_in) && ((defB K "seen_values" a0.f_seen_values) && ((defB K "met_by" a0.f_met_by) && ((defB K "breaches" a0.f_breaches) && ((defB K "does_keep" a0.f_does_keep) && ((defB K "keeps" a0.f_keeps) && ((defB K "all_fillings" a0.f_all_fillings) && ((defB K "check_bare" a0.f_check_bare) && ((defB K "fillings" a0.f_fillings) && ((defB K "how_many" a0.f_how_many) && ((defB K "is_filling" a0.f_is_filling) && ((defB K "agreed" a0.f_agreed) && ((defB K "sure" a0.f_sure) && ((defB K "_law_calls_right" a0.f__law_calls_right) && (defB K "_law_first" a0.f__law_first))))))))))))))))))))
def kid2 (K : PySem.W.Frag) : Bool := ((defB K "_law_gaps" a0.f__law_gaps) && ((defB K "_law_pen" a0.f__law_pen) && ((defB K "_law_next" a0.f__law_next) && ((defB K "_law_draw" a0.f__law_draw) && ((defB K "_law_pick" a0.f__law_pick) && ((defB K "_law_rows_here" a0.f__law_rows_here) && ((defB K "is_column" a0.f_is_column) && ((defB K "is_table" a0.f_is_table) && ((defB K "_law_schema" a0.f__law_schema) && ((defB K "law" a0.f_law) && ((propB K a0.C_Schema "tables" a0.p_Schema_tables a0.f_Schema_tables) && ((methB K a0.C_Schema "check_table" a0.f_Schema_check_table) && ((methB K a0.C_Schema "columns" a0.f_Schema_columns) && ((methB K a0.C_Schema "flags" a0.f_Schema_flags) && ((propB K a0.C_Schema "flag_places" a0.p_Schema_flag_places a0.f_Schema_flag_places) && ((mkB K a0.C_Schema a0.f_Schema___init__) && ((K.lookup a0.kt__law_calls_right |>.isNone) && (PySem.W.codeHdIn K a0.kc__law_calls_right a0.kt__law_calls_right))))))))))))))))))
def kitB (K : PySem.W.Frag) : Bool := (kit0 K && (kit1 K && (kit2 K && (kid0 K && (kid1 K && kid2 K)))))
theorem tx_of {P : Program} {K : PySem.W.Frag} {h : Heap} {mg : Str → Option Value} (X : K.In h) (G : h.Ns mainGlobals mg) (k0 : kit0 K = true) (k1 : kit1 K = true) (k2 : kit2 K = true) {base : Heap} (sm : ∃ o es ep, base.get? sysModules = some o ∧ o.data = .dict es ep) : Tx P K mg base a0 := by
  unfold kit0 at k0
  simp only [Bool.and_eq_true] at k0
  obtain ⟨e_z_isinstance, e_z_len, e_z_all, e_z_sorted, e_z_repr, e_z_range, e_z_enumerate, e_z_zip, e_z_int, e_z_bool, e_z_str, e_z_tuple, e_z_list, e_z_dict, e_z_set, e_z_ValueError, e_n_LETTERS, e_n_RESERVED, e_n_MOST_TABLES, e_n_MOST_COLUMNS⟩ := k0
  unfold kit1 at k1
  simp only [Bool.and_eq_true] at k1
  obtain ⟨e_n_MOST_FLAGS, e_n_MOST_LETTERS, e_n_MOST_RULES, e_n_Schema, e_r_ToldError, e_r_InvalidBook, e_r_InvalidCondition, e_r_InvalidKept, e_r_InvalidKind, e_r_InvalidLacking, e_r_InvalidNumber, e_r_InvalidRows, e_r_InvalidSchema, e_r_UnknownFlag, e_r_UnknownRow, e_r_UnknownTable, e_c_Schema, e_na_Schema_parts, e_ik, e_er⟩ := k1
  unfold kit2 at k2
  have e_told := k2
  exact { sm := sm, z_isinstance := zB_of X G e_z_isinstance, z_len := zB_of X G e_z_len, z_all := zB_of X G e_z_all, z_sorted := zB_of X G e_z_sorted, z_repr := zB_of X G e_z_repr, z_range := zB_of X G e_z_range, z_enumerate := zB_of X G e_z_enumerate, z_zip := zB_of X G e_z_zip, z_int := zB_of X G e_z_int, z_bool := zB_of X G e_z_bool, z_str := zB_of X G e_z_str, z_tuple := zB_of X G e_z_tuple, z_list := zB_of X G e_z_list, z_dict := zB_of X G e_z_dict, z_set := zB_of X G e_z_set, z_ValueError := zB_of X G e_z_ValueError, n_LETTERS := strB_of X G e_n_LETTERS, n_RESERVED := ktupB_of X G e_n_RESERVED, n_MOST_TABLES := intB_of X G e_n_MOST_TABLES, n_MOST_COLUMNS := intB_of X G e_n_MOST_COLUMNS, n_MOST_FLAGS := intB_of X G e_n_MOST_FLAGS, n_MOST_LETTERS := intB_of X G e_n_MOST_LETTERS, n_MOST_RULES := intB_of X G e_n_MOST_RULES, n_Schema := nB_of X G e_n_Schema, r_ToldError := errKB_of X G e_r_ToldError, r_InvalidBook := errKB_of X G e_r_InvalidBook, r_InvalidCondition := errKB_of X G e_r_InvalidCondition, r_InvalidKept := errKB_of X G e_r_InvalidKept, r_InvalidKind := errKB_of X G e_r_InvalidKind, r_InvalidLacking := errKB_of X G e_r_InvalidLacking, r_InvalidNumber := errKB_of X G e_r_InvalidNumber, r_InvalidRows := errKB_of X G e_r_InvalidRows, r_InvalidSchema := errKB_of X G e_r_InvalidSchema, r_UnknownFlag := errKB_of X G e_r_UnknownFlag, r_UnknownRow := errKB_of X G e_r_UnknownRow, r_UnknownTable := errKB_of X G e_r_UnknownTable, c_Schema := clsB_of e_c_Schema, na_Schema_parts := noAtB_of e_na_Schema_parts, ik := fun C hC => insKB_of (List.all_eq_true.mp e_ik C hC), er := errIB_of e_er, told := fun C hC => (let ⟨x, hx, e⟩ := List.any_eq_true.mp hC; Nat.eq_of_beq_eq_true e ▸ beq_iff_eq.mp (List.all_eq_true.mp e_told x hx)) }
theorem all_fn {P : Program} {w : World} {K : PySem.W.Frag} {mg : Str → Option Value} {base h : Heap} (X : K.In h) (G : h.Ns mainGlobals mg) (FS : Fs K) (T : Tx P K mg base a0) (TB__law_calls_right : LamX.TabB base mg a0.kc__law_calls_right a0.kt__law_calls_right) (j0 : kid0 K = true) (j1 : kid1 K = true) (j2 : kid2 K = true) {fd : FuncData} (F_law : L2.Fun K "law" "law" s_law a0.f_law fd) : FnG P w K mg base TT0 27 a0.f_law fd ["script"] (m_law a0) := by
  unfold kid0 at j0
  simp only [Bool.and_eq_true] at j0
  obtain ⟨e_g__law_books, e_g__law_word, e_g_is_name, e_g_is_integer, e_g_is_bare_row, e_g_are_known_bare, e_g_is_place, e_g_are_places, e_g_check_lacking, e_g_are_bare, e_g_bared, e_g_are_lists, e_g_are_values, e_g_is_row, e_g_are_rows, e_g_check_rows, e_g_bare, e_g_filled, e_g_gaps_in, e_g_is_has⟩ := j0
  unfold kid1 at j1
  simp only [Bool.and_eq_true] at j1
  obtain ⟨e_g_is_known, e_g_is_rule, e_g_is_book, e_g_check_book, e_g_spot_of, e_g_values_in, e_g_seen_values, e_g_met_by, e_g_breaches, e_g_does_keep, e_g_keeps, e_g_all_fillings, e_g_check_bare, e_g_fillings, e_g_how_many, e_g_is_filling, e_g_agreed, e_g_sure, e_g__law_calls_right, e_g__law_first⟩ := j1
  unfold kid2 at j2
  simp only [Bool.and_eq_true] at j2
  obtain ⟨e_g__law_gaps, e_g__law_pen, e_g__law_next, e_g__law_draw, e_g__law_pick, e_g__law_rows_here, e_g_is_column, e_g_is_table, e_g__law_schema, e_g_law, e_pr_Schema_tables, e_me_Schema_check_table, e_me_Schema_columns, e_me_Schema_flags, e_pr_Schema_flag_places, e_mk_Schema, e_kt__law_calls_right, e_kc__law_calls_right⟩ := j2
  have hmT__law_calls_right : (a0.kt__law_calls_right, ((("_law_calls_right" : Str) ++ (".<locals>." : Str)) ++ ("<lambda>" : Str))) ∈ TT0 := by decide +kernel
  have hu__law_calls_right : ∀ p ∈ TT0, p.1 = a0.kt__law_calls_right → p.2 = ((("_law_calls_right" : Str) ++ (".<locals>." : Str)) ++ ("<lambda>" : Str)) := by decide +kernel
  obtain ⟨fd__law_books, F__law_books⟩ := FS.F__law_books
  have b__law_books := F__law_books.binds (ps := []) fun _ _ _ _ _ _ us hl => match us, hl with | [], _ => rfl
  obtain ⟨fd__law_word, F__law_word⟩ := FS.F__law_word
  have b__law_word := F__law_word.binds (ps := ["act"]) fun _ _ _ _ _ _ us hl => match us, hl with | [_], _ => rfl
  obtain ⟨fd_Schema_tables, F_Schema_tables⟩ := FS.F_Schema_tables
  have b_Schema_tables := F_Schema_tables.binds (ps := ["self"]) fun _ _ _ _ _ _ us hl => match us, hl with | [_], _ => rfl
  obtain ⟨fd_is_name, F_is_name⟩ := FS.F_is_name
  have b_is_name := F_is_name.binds (ps := ["thing"]) fun _ _ _ _ _ _ us hl => match us, hl with | [_], _ => rfl
  obtain ⟨fd_Schema_check_table, F_Schema_check_table⟩ := FS.F_Schema_check_table
  have b_Schema_check_table := F_Schema_check_table.binds (ps := ["self", "table"]) fun _ _ _ _ _ _ us hl => match us, hl with | [_, _], _ => rfl
  obtain ⟨fd_Schema_columns, F_Schema_columns⟩ := FS.F_Schema_columns
  have b_Schema_columns := F_Schema_columns.binds (ps := ["self", "table"]) fun _ _ _ _ _ _ us hl => match us, hl with | [_, _], _ => rfl
  obtain ⟨fd_Schema_flags, F_Schema_flags⟩ := FS.F_Schema_flags
  have b_Schema_flags := F_Schema_flags.binds (ps := ["self", "table"]) fun _ _ _ _ _ _ us hl => match us, hl with | [_, _], _ => rfl
  obtain ⟨fd_is_integer, F_is_integer⟩ := FS.F_is_integer
  have b_is_integer := F_is_integer.binds (ps := ["thing"]) fun _ _ _ _ _ _ us hl => match us, hl with | [_], _ => rfl
  obtain ⟨fd_is_bare_row, F_is_bare_row⟩ := FS.F_is_bare_row
  have b_is_bare_row := F_is_bare_row.binds (ps := ["schema", "table", "lacking", "thing"]) fun _ _ _ _ _ _ us hl => match us, hl with | [_, _, _, _], _ => rfl
  obtain ⟨fd_are_known_bare, F_are_known_bare⟩ := FS.F_are_known_bare
  have b_are_known_bare := F_are_known_bare.binds (ps := ["schema", "lacking", "thing"]) fun _ _ _ _ _ _ us hl => match us, hl with | [_, _, _], _ => rfl
  obtain ⟨fd_Schema_flag_places, F_Schema_flag_places⟩ := FS.F_Schema_flag_places
  have b_Schema_flag_places := F_Schema_flag_places.binds (ps := ["self"]) fun _ _ _ _ _ _ us hl => match us, hl with | [_], _ => rfl
  obtain ⟨fd_is_place, F_is_place⟩ := FS.F_is_place
  have b_is_place := F_is_place.binds (ps := ["schema", "thing"]) fun _ _ _ _ _ _ us hl => match us, hl with | [_, _], _ => rfl
  obtain ⟨fd_are_places, F_are_places⟩ := FS.F_are_places
  have b_are_places := F_are_places.binds (ps := ["schema", "thing"]) fun _ _ _ _ _ _ us hl => match us, hl with | [_, _], _ => rfl
  obtain ⟨fd_check_lacking, F_check_lacking⟩ := FS.F_check_lacking
  have b_check_lacking := F_check_lacking.binds (ps := ["schema", "thing"]) fun _ _ _ _ _ _ us hl => match us, hl with | [_, _], _ => rfl
  obtain ⟨fd_are_bare, F_are_bare⟩ := FS.F_are_bare
  have b_are_bare := F_are_bare.binds (ps := ["schema", "lacking", "thing"]) fun _ _ _ _ _ _ us hl => match us, hl with | [_, _, _], _ => rfl
  obtain ⟨fd_bared, F_bared⟩ := FS.F_bared
  have b_bared := F_bared.binds (ps := ["schema", "rows", "lacking"]) fun _ _ _ _ _ _ us hl => match us, hl with | [_, _, _], _ => rfl
  obtain ⟨fd_are_lists, F_are_lists⟩ := FS.F_are_lists
  have b_are_lists := F_are_lists.binds (ps := ["schema", "thing"]) fun _ _ _ _ _ _ us hl => match us, hl with | [_, _], _ => rfl
  obtain ⟨fd_are_values, F_are_values⟩ := FS.F_are_values
  have b_are_values := F_are_values.binds (ps := ["schema", "table", "thing"]) fun _ _ _ _ _ _ us hl => match us, hl with | [_, _, _], _ => rfl
  obtain ⟨fd_is_row, F_is_row⟩ := FS.F_is_row
  have b_is_row := F_is_row.binds (ps := ["schema", "table", "thing"]) fun _ _ _ _ _ _ us hl => match us, hl with | [_, _, _], _ => rfl
  obtain ⟨fd_are_rows, F_are_rows⟩ := FS.F_are_rows
  have b_are_rows := F_are_rows.binds (ps := ["schema", "thing"]) fun _ _ _ _ _ _ us hl => match us, hl with | [_, _], _ => rfl
  obtain ⟨fd_check_rows, F_check_rows⟩ := FS.F_check_rows
  have b_check_rows := F_check_rows.binds (ps := ["schema", "thing"]) fun _ _ _ _ _ _ us hl => match us, hl with | [_, _], _ => rfl
  obtain ⟨fd_bare, F_bare⟩ := FS.F_bare
  have b_bare := F_bare.binds (ps := ["schema", "rows", "lacking"]) fun _ _ _ _ _ _ us hl => match us, hl with | [_, _, _], _ => rfl
  obtain ⟨fd_filled, F_filled⟩ := FS.F_filled
  have b_filled := F_filled.binds (ps := ["schema", "rows", "gaps", "worths"]) fun _ _ _ _ _ _ us hl => match us, hl with | [_, _, _, _], _ => rfl
  obtain ⟨fd_gaps_in, F_gaps_in⟩ := FS.F_gaps_in
  have b_gaps_in := F_gaps_in.binds (ps := ["schema", "rows"]) fun _ _ _ _ _ _ us hl => match us, hl with | [_, _], _ => rfl
  obtain ⟨fd_is_has, F_is_has⟩ := FS.F_is_has
  have b_is_has := F_is_has.binds (ps := ["schema", "table", "thing"]) fun _ _ _ _ _ _ us hl => match us, hl with | [_, _, _], _ => rfl
  obtain ⟨fd_is_known, F_is_known⟩ := FS.F_is_known
  have b_is_known := F_is_known.binds (ps := ["schema", "table", "thing"]) fun _ _ _ _ _ _ us hl => match us, hl with | [_, _, _], _ => rfl
  obtain ⟨fd_is_rule, F_is_rule⟩ := FS.F_is_rule
  have b_is_rule := F_is_rule.binds (ps := ["schema", "thing"]) fun _ _ _ _ _ _ us hl => match us, hl with | [_, _], _ => rfl
  obtain ⟨fd_is_book, F_is_book⟩ := FS.F_is_book
  have b_is_book := F_is_book.binds (ps := ["schema", "thing"]) fun _ _ _ _ _ _ us hl => match us, hl with | [_, _], _ => rfl
  obtain ⟨fd_check_book, F_check_book⟩ := FS.F_check_book
  have b_check_book := F_check_book.binds (ps := ["schema", "thing"]) fun _ _ _ _ _ _ us hl => match us, hl with | [_, _], _ => rfl
  obtain ⟨fd_spot_of, F_spot_of⟩ := FS.F_spot_of
  have b_spot_of := F_spot_of.binds (ps := ["schema", "table", "column"]) fun _ _ _ _ _ _ us hl => match us, hl with | [_, _, _], _ => rfl
  obtain ⟨fd_values_in, F_values_in⟩ := FS.F_values_in
  have b_values_in := F_values_in.binds (ps := ["schema", "rows", "table", "column"]) fun _ _ _ _ _ _ us hl => match us, hl with | [_, _, _, _], _ => rfl
  obtain ⟨fd_seen_values, F_seen_values⟩ := FS.F_seen_values
  have b_seen_values := F_seen_values.binds (ps := ["schema", "rows", "has", "known"]) fun _ _ _ _ _ _ us hl => match us, hl with | [_, _, _, _], _ => rfl
  obtain ⟨fd_met_by, F_met_by⟩ := FS.F_met_by
  have b_met_by := F_met_by.binds (ps := ["schema", "rows", "table", "condition", "known"]) fun _ _ _ _ _ _ us hl => match us, hl with | [_, _, _, _, _], _ => rfl
  obtain ⟨fd_breaches, F_breaches⟩ := FS.F_breaches
  have b_breaches := F_breaches.binds (ps := ["schema", "book", "rows"]) fun _ _ _ _ _ _ us hl => match us, hl with | [_, _, _], _ => rfl
  obtain ⟨fd_does_keep, F_does_keep⟩ := FS.F_does_keep
  have b_does_keep := F_does_keep.binds (ps := ["schema", "book", "rows"]) fun _ _ _ _ _ _ us hl => match us, hl with | [_, _, _], _ => rfl
  obtain ⟨fd_keeps, F_keeps⟩ := FS.F_keeps
  have b_keeps := F_keeps.binds (ps := ["schema", "book", "rows"]) fun _ _ _ _ _ _ us hl => match us, hl with | [_, _, _], _ => rfl
  obtain ⟨fd_all_fillings, F_all_fillings⟩ := FS.F_all_fillings
  have b_all_fillings := F_all_fillings.binds (ps := ["schema", "book", "rows"]) fun _ _ _ _ _ _ us hl => match us, hl with | [_, _, _], _ => rfl
  obtain ⟨fd_check_bare, F_check_bare⟩ := FS.F_check_bare
  have b_check_bare := F_check_bare.binds (ps := ["schema", "book", "lacking", "rows"]) fun _ _ _ _ _ _ us hl => match us, hl with | [_, _, _, _], _ => rfl
  obtain ⟨fd_fillings, F_fillings⟩ := FS.F_fillings
  have b_fillings := F_fillings.binds (ps := ["schema", "book", "lacking", "rows"]) fun _ _ _ _ _ _ us hl => match us, hl with | [_, _, _, _], _ => rfl
  obtain ⟨fd_how_many, F_how_many⟩ := FS.F_how_many
  have b_how_many := F_how_many.binds (ps := ["schema", "book", "lacking", "rows"]) fun _ _ _ _ _ _ us hl => match us, hl with | [_, _, _, _], _ => rfl
  obtain ⟨fd_is_filling, F_is_filling⟩ := FS.F_is_filling
  have b_is_filling := F_is_filling.binds (ps := ["schema", "book", "lacking", "rows", "thing"]) fun _ _ _ _ _ _ us hl => match us, hl with | [_, _, _, _, _], _ => rfl
  obtain ⟨fd_agreed, F_agreed⟩ := FS.F_agreed
  have b_agreed := F_agreed.binds (ps := ["flags"]) fun _ _ _ _ _ _ us hl => match us, hl with | [_], _ => rfl
  obtain ⟨fd_sure, F_sure⟩ := FS.F_sure
  have b_sure := F_sure.binds (ps := ["schema", "book", "lacking", "rows"]) fun _ _ _ _ _ _ us hl => match us, hl with | [_, _, _, _], _ => rfl
  obtain ⟨fd__law_calls_right, F__law_calls_right, hc__law_calls_right⟩ := FS.F__law_calls_right
  have b__law_calls_right := F__law_calls_right.binds (ps := ["made", "rules", "lacking", "rows", "thing", "dues"]) fun _ _ _ _ _ _ us hl => match us, hl with | [_, _, _, _, _, _], _ => rfl
  obtain ⟨fd__law_first, F__law_first⟩ := FS.F__law_first
  have b__law_first := F__law_first.binds (ps := ["words"]) fun _ _ _ _ _ _ us hl => match us, hl with | [_], _ => rfl
  obtain ⟨fd__law_gaps, F__law_gaps⟩ := FS.F__law_gaps
  have b__law_gaps := F__law_gaps.binds (ps := []) fun _ _ _ _ _ _ us hl => match us, hl with | [], _ => rfl
  obtain ⟨fd__law_pen, F__law_pen⟩ := FS.F__law_pen
  have b__law_pen := F__law_pen.binds (ps := ["script"]) fun _ _ _ _ _ _ us hl => match us, hl with | [_], _ => rfl
  obtain ⟨fd__law_next, F__law_next⟩ := FS.F__law_next
  have b__law_next := F__law_next.binds (ps := ["pen"]) fun _ _ _ _ _ _ us hl => match us, hl with | [_], _ => rfl
  obtain ⟨fd__law_draw, F__law_draw⟩ := FS.F__law_draw
  have b__law_draw := F__law_draw.binds (ps := ["pen", "under"]) fun _ _ _ _ _ _ us hl => match us, hl with | [_, _], _ => rfl
  obtain ⟨fd__law_pick, F__law_pick⟩ := FS.F__law_pick
  have b__law_pick := F__law_pick.binds (ps := ["pen", "two"]) fun _ _ _ _ _ _ us hl => match us, hl with | [_, _], _ => rfl
  obtain ⟨fd__law_rows_here, F__law_rows_here⟩ := FS.F__law_rows_here
  have b__law_rows_here := F__law_rows_here.binds (ps := ["lacking"]) fun _ _ _ _ _ _ us hl => match us, hl with | [_], _ => rfl
  obtain ⟨fd_is_column, F_is_column⟩ := FS.F_is_column
  have b_is_column := F_is_column.binds (ps := ["thing"]) fun _ _ _ _ _ _ us hl => match us, hl with | [_], _ => rfl
  obtain ⟨fd_is_table, F_is_table⟩ := FS.F_is_table
  have b_is_table := F_is_table.binds (ps := ["thing"]) fun _ _ _ _ _ _ us hl => match us, hl with | [_], _ => rfl
  obtain ⟨fd_Schema___init__, F_Schema___init__⟩ := FS.F_Schema___init__
  have b_Schema___init__ := F_Schema___init__.binds (ps := ["self", "tables"]) fun _ _ _ _ _ _ us hl => match us, hl with | [_, _], _ => rfl
  obtain ⟨fd__law_schema, F__law_schema⟩ := FS.F__law_schema
  have b__law_schema := F__law_schema.binds (ps := []) fun _ _ _ _ _ _ us hl => match us, hl with | [], _ => rfl
  have D__law_books : Df P w K mg base TT0 "_law_books" 1 a0.f__law_books [] (m__law_books a0) := ⟨⟨_, ok__law_books T  F__law_books, b__law_books⟩, (defB_g X G e_g__law_books), (defB_k e_g__law_books), (fun ds M h => runF_len ds M h)⟩
  have D__law_word : Wd P w K mg base TT0 "_law_word" "act" 1 a0.f__law_word a0.told (w__law_word a0) := ok__law_word T  F__law_word b__law_word (defB_g X G e_g__law_word)
  have D_Schema_tables : Dp' P w K mg base TT0 a0.C_Schema "tables" 1 a0.p_Schema_tables a0.f_Schema_tables (m_Schema_tables a0) := ⟨⟨_, ok_Schema_tables T  F_Schema_tables, b_Schema_tables⟩, T.c_Schema, propB_of e_pr_Schema_tables, (fun ds M h => runF_len ds M h)⟩
  have D_is_name : Df P w K mg base TT0 "is_name" 1 a0.f_is_name ["thing"] (m_is_name a0) := ⟨⟨_, ok_is_name T  F_is_name, b_is_name⟩, (defB_g X G e_g_is_name), (defB_k e_g_is_name), (fun ds M h => runF_len ds M h)⟩
  have D_Schema_check_table : Dm P w K mg base TT0 a0.C_Schema "check_table" 2 a0.f_Schema_check_table ["self", "table"] (m_Schema_check_table a0) := ⟨⟨_, ok_Schema_check_table T D_is_name F_Schema_check_table, b_Schema_check_table⟩, T.c_Schema, methB_of e_me_Schema_check_table, (fun ds M h => runF_len ds M h)⟩
  have D_Schema_columns : Dm P w K mg base TT0 a0.C_Schema "columns" 3 a0.f_Schema_columns ["self", "table"] (m_Schema_columns a0) := ⟨⟨_, ok_Schema_columns T D_Schema_check_table F_Schema_columns, b_Schema_columns⟩, T.c_Schema, methB_of e_me_Schema_columns, (fun ds M h => runF_len ds M h)⟩
  have D_Schema_flags : Dm P w K mg base TT0 a0.C_Schema "flags" 3 a0.f_Schema_flags ["self", "table"] (m_Schema_flags a0) := ⟨⟨_, ok_Schema_flags T D_Schema_check_table F_Schema_flags, b_Schema_flags⟩, T.c_Schema, methB_of e_me_Schema_flags, (fun ds M h => runF_len ds M h)⟩
  have D_is_integer : Df P w K mg base TT0 "is_integer" 1 a0.f_is_integer ["thing"] (m_is_integer a0) := ⟨⟨_, ok_is_integer T  F_is_integer, b_is_integer⟩, (defB_g X G e_g_is_integer), (defB_k e_g_is_integer), (fun ds M h => runF_len ds M h)⟩
  have D_is_bare_row : Df P w K mg base TT0 "is_bare_row" 4 a0.f_is_bare_row ["schema", "table", "lacking", "thing"] (m_is_bare_row a0) := ⟨⟨_, ok_is_bare_row T D_Schema_flags D_Schema_columns D_is_integer F_is_bare_row, b_is_bare_row⟩, (defB_g X G e_g_is_bare_row), (defB_k e_g_is_bare_row), (fun ds M h => runF_len ds M h)⟩
  have D_are_known_bare : Df P w K mg base TT0 "are_known_bare" 5 a0.f_are_known_bare ["schema", "lacking", "thing"] (m_are_known_bare a0) := ⟨⟨_, ok_are_known_bare T D_Schema_tables D_is_bare_row F_are_known_bare, b_are_known_bare⟩, (defB_g X G e_g_are_known_bare), (defB_k e_g_are_known_bare), (fun ds M h => runF_len ds M h)⟩
  have D_Schema_flag_places : Dp' P w K mg base TT0 a0.C_Schema "flag_places" 1 a0.p_Schema_flag_places a0.f_Schema_flag_places (m_Schema_flag_places a0) := ⟨⟨_, ok_Schema_flag_places T  F_Schema_flag_places, b_Schema_flag_places⟩, T.c_Schema, propB_of e_pr_Schema_flag_places, (fun ds M h => runF_len ds M h)⟩
  have D_is_place : Df P w K mg base TT0 "is_place" 3 a0.f_is_place ["schema", "thing"] (m_is_place a0) := ⟨⟨_, ok_is_place T D_Schema_flag_places F_is_place, b_is_place⟩, (defB_g X G e_g_is_place), (defB_k e_g_is_place), (fun ds M h => runF_len ds M h)⟩
  have D_are_places : Df P w K mg base TT0 "are_places" 4 a0.f_are_places ["schema", "thing"] (m_are_places a0) := ⟨⟨_, ok_are_places T D_is_place F_are_places, b_are_places⟩, (defB_g X G e_g_are_places), (defB_k e_g_are_places), (fun ds M h => runF_len ds M h)⟩
  have D_check_lacking : Df P w K mg base TT0 "check_lacking" 5 a0.f_check_lacking ["schema", "thing"] (m_check_lacking a0) := ⟨⟨_, ok_check_lacking T D_are_places F_check_lacking, b_check_lacking⟩, (defB_g X G e_g_check_lacking), (defB_k e_g_check_lacking), (fun ds M h => runF_len ds M h)⟩
  have D_are_bare : Df P w K mg base TT0 "are_bare" 6 a0.f_are_bare ["schema", "lacking", "thing"] (m_are_bare a0) := ⟨⟨_, ok_are_bare T D_check_lacking D_are_known_bare F_are_bare, b_are_bare⟩, (defB_g X G e_g_are_bare), (defB_k e_g_are_bare), (fun ds M h => runF_len ds M h)⟩
  have D_bared : Df P w K mg base TT0 "bared" 4 a0.f_bared ["schema", "rows", "lacking"] (m_bared a0) := ⟨⟨_, ok_bared T D_Schema_tables D_Schema_flags F_bared, b_bared⟩, (defB_g X G e_g_bared), (defB_k e_g_bared), (fun ds M h => runF_len ds M h)⟩
  have D_are_lists : Df P w K mg base TT0 "are_lists" 3 a0.f_are_lists ["schema", "thing"] (m_are_lists a0) := ⟨⟨_, ok_are_lists T D_Schema_tables F_are_lists, b_are_lists⟩, (defB_g X G e_g_are_lists), (defB_k e_g_are_lists), (fun ds M h => runF_len ds M h)⟩
  have D_are_values : Df P w K mg base TT0 "are_values" 4 a0.f_are_values ["schema", "table", "thing"] (m_are_values a0) := ⟨⟨_, ok_are_values T D_Schema_columns D_is_integer F_are_values, b_are_values⟩, (defB_g X G e_g_are_values), (defB_k e_g_are_values), (fun ds M h => runF_len ds M h)⟩
  have D_is_row : Df P w K mg base TT0 "is_row" 5 a0.f_is_row ["schema", "table", "thing"] (m_is_row a0) := ⟨⟨_, ok_is_row T D_are_values D_Schema_flags F_is_row, b_is_row⟩, (defB_g X G e_g_is_row), (defB_k e_g_is_row), (fun ds M h => runF_len ds M h)⟩
  have D_are_rows : Df P w K mg base TT0 "are_rows" 6 a0.f_are_rows ["schema", "thing"] (m_are_rows a0) := ⟨⟨_, ok_are_rows T D_are_lists D_Schema_tables D_is_row F_are_rows, b_are_rows⟩, (defB_g X G e_g_are_rows), (defB_k e_g_are_rows), (fun ds M h => runF_len ds M h)⟩
  have D_check_rows : Df P w K mg base TT0 "check_rows" 7 a0.f_check_rows ["schema", "thing"] (m_check_rows a0) := ⟨⟨_, ok_check_rows T D_are_rows F_check_rows, b_check_rows⟩, (defB_g X G e_g_check_rows), (defB_k e_g_check_rows), (fun ds M h => runF_len ds M h)⟩
  have D_bare : Df P w K mg base TT0 "bare" 8 a0.f_bare ["schema", "rows", "lacking"] (m_bare a0) := ⟨⟨_, ok_bare T D_check_rows D_check_lacking D_bared F_bare, b_bare⟩, (defB_g X G e_g_bare), (defB_k e_g_bare), (fun ds M h => runF_len ds M h)⟩
  have D_filled : Df P w K mg base TT0 "filled" 3 a0.f_filled ["schema", "rows", "gaps", "worths"] (m_filled a0) := ⟨⟨_, ok_filled T D_Schema_tables F_filled, b_filled⟩, (defB_g X G e_g_filled), (defB_k e_g_filled), (fun ds M h => runF_len ds M h)⟩
  have D_gaps_in : Df P w K mg base TT0 "gaps_in" 3 a0.f_gaps_in ["schema", "rows"] (m_gaps_in a0) := ⟨⟨_, ok_gaps_in T D_Schema_tables F_gaps_in, b_gaps_in⟩, (defB_g X G e_g_gaps_in), (defB_k e_g_gaps_in), (fun ds M h => runF_len ds M h)⟩
  have D_is_known : Df P w K mg base TT0 "is_known" 15 a0.f_is_known ["schema", "table", "thing"] (m_is_known a0 6) := fuel_dfS (k := 3) (st := 2) (x := "is_known") (step := n_is_known a0) (m := m_is_known a0) rfl (fun _ => rfl) b_is_known (fun j F DF => ok_is_known (j := j) T D_Schema_flags D_is_name (⟨⟨_, ok_is_has (j := j) T D_Schema_tables D_is_name D_Schema_columns DF F_is_has, b_is_has⟩, (defB_g X G e_g_is_has), (defB_k e_g_is_has), (fun ds M h => runF_len ds M h)⟩ : Df P w K mg base TT0 "is_has" (3 + j + 1) a0.f_is_has ["schema", "table", "thing"] (m_is_has a0 F)) DF F_is_known) (fun F => (fun ds M h => runF_len ds M h)) (defB_g X G e_g_is_known) (defB_k e_g_is_known) 6
  have D_is_rule : Df P w K mg base TT0 "is_rule" 16 a0.f_is_rule ["schema", "thing"] (m_is_rule a0) := ⟨⟨_, ok_is_rule T D_is_known D_Schema_tables F_is_rule, b_is_rule⟩, (defB_g X G e_g_is_rule), (defB_k e_g_is_rule), (fun ds M h => runF_len ds M h)⟩
  have D_is_book : Df P w K mg base TT0 "is_book" 17 a0.f_is_book ["schema", "thing"] (m_is_book a0) := ⟨⟨_, ok_is_book T D_is_rule F_is_book, b_is_book⟩, (defB_g X G e_g_is_book), (defB_k e_g_is_book), (fun ds M h => runF_len ds M h)⟩
  have D_check_book : Df P w K mg base TT0 "check_book" 18 a0.f_check_book ["schema", "thing"] (m_check_book a0) := ⟨⟨_, ok_check_book T D_is_book F_check_book, b_check_book⟩, (defB_g X G e_g_check_book), (defB_k e_g_check_book), (fun ds M h => runF_len ds M h)⟩
  have D_spot_of : Df P w K mg base TT0 "spot_of" 4 a0.f_spot_of ["schema", "table", "column"] (m_spot_of a0) := ⟨⟨_, ok_spot_of T D_Schema_columns F_spot_of, b_spot_of⟩, (defB_g X G e_g_spot_of), (defB_k e_g_spot_of), (fun ds M h => runF_len ds M h)⟩
  have D_values_in : Df P w K mg base TT0 "values_in" 5 a0.f_values_in ["schema", "rows", "table", "column"] (m_values_in a0) := ⟨⟨_, ok_values_in T D_spot_of F_values_in, b_values_in⟩, (defB_g X G e_g_values_in), (defB_k e_g_values_in), (fun ds M h => runF_len ds M h)⟩
  have D_met_by : Df P w K mg base TT0 "met_by" 17 a0.f_met_by ["schema", "rows", "table", "condition", "known"] (m_met_by a0 6) := fuel_dfS (k := 5) (st := 2) (x := "met_by") (step := n_met_by a0) (m := m_met_by a0) rfl (fun _ => rfl) b_met_by (fun j F DF => ok_met_by (j := j) T D_Schema_flags (⟨⟨_, ok_seen_values (j := j) T DF D_values_in F_seen_values, b_seen_values⟩, (defB_g X G e_g_seen_values), (defB_k e_g_seen_values), (fun ds M h => runF_len ds M h)⟩ : Df P w K mg base TT0 "seen_values" (5 + j + 1) a0.f_seen_values ["schema", "rows", "has", "known"] (m_seen_values a0 F)) D_spot_of DF F_met_by) (fun F => (fun ds M h => runF_len ds M h)) (defB_g X G e_g_met_by) (defB_k e_g_met_by) 6
  have D_breaches : Df P w K mg base TT0 "breaches" 18 a0.f_breaches ["schema", "book", "rows"] (m_breaches a0) := ⟨⟨_, ok_breaches T D_met_by F_breaches, b_breaches⟩, (defB_g X G e_g_breaches), (defB_k e_g_breaches), (fun ds M h => runF_len ds M h)⟩
  have D_does_keep : Df P w K mg base TT0 "does_keep" 19 a0.f_does_keep ["schema", "book", "rows"] (m_does_keep a0) := ⟨⟨_, ok_does_keep T D_breaches F_does_keep, b_does_keep⟩, (defB_g X G e_g_does_keep), (defB_k e_g_does_keep), (fun ds M h => runF_len ds M h)⟩
  have D_keeps : Df P w K mg base TT0 "keeps" 20 a0.f_keeps ["schema", "book", "rows"] (m_keeps a0) := ⟨⟨_, ok_keeps T D_check_book D_check_rows D_does_keep F_keeps, b_keeps⟩, (defB_g X G e_g_keeps), (defB_k e_g_keeps), (fun ds M h => runF_len ds M h)⟩
  have D_all_fillings : Df P w K mg base TT0 "all_fillings" 21 a0.f_all_fillings ["schema", "book", "rows"] (m_all_fillings a0) := ⟨⟨_, ok_all_fillings T D_gaps_in D_filled D_keeps F_all_fillings, b_all_fillings⟩, (defB_g X G e_g_all_fillings), (defB_k e_g_all_fillings), (fun ds M h => runF_len ds M h)⟩
  have D_check_bare : Df P w K mg base TT0 "check_bare" 19 a0.f_check_bare ["schema", "book", "lacking", "rows"] (m_check_bare a0) := ⟨⟨_, ok_check_bare T D_check_book D_check_lacking D_are_known_bare F_check_bare, b_check_bare⟩, (defB_g X G e_g_check_bare), (defB_k e_g_check_bare), (fun ds M h => runF_len ds M h)⟩
  have D_fillings : Df P w K mg base TT0 "fillings" 22 a0.f_fillings ["schema", "book", "lacking", "rows"] (m_fillings a0) := ⟨⟨_, ok_fillings T D_check_bare D_all_fillings F_fillings, b_fillings⟩, (defB_g X G e_g_fillings), (defB_k e_g_fillings), (fun ds M h => runF_len ds M h)⟩
  have D_how_many : Df P w K mg base TT0 "how_many" 23 a0.f_how_many ["schema", "book", "lacking", "rows"] (m_how_many a0) := ⟨⟨_, ok_how_many T D_fillings F_how_many, b_how_many⟩, (defB_g X G e_g_how_many), (defB_k e_g_how_many), (fun ds M h => runF_len ds M h)⟩
  have D_is_filling : Df P w K mg base TT0 "is_filling" 21 a0.f_is_filling ["schema", "book", "lacking", "rows", "thing"] (m_is_filling a0) := ⟨⟨_, ok_is_filling T D_check_bare D_keeps D_are_rows D_bared D_Schema_tables F_is_filling, b_is_filling⟩, (defB_g X G e_g_is_filling), (defB_k e_g_is_filling), (fun ds M h => runF_len ds M h)⟩
  have D_agreed : Df P w K mg base TT0 "agreed" 1 a0.f_agreed ["flags"] (m_agreed a0) := ⟨⟨_, ok_agreed T  F_agreed, b_agreed⟩, (defB_g X G e_g_agreed), (defB_k e_g_agreed), (fun ds M h => runF_len ds M h)⟩
  have D_sure : Df P w K mg base TT0 "sure" 23 a0.f_sure ["schema", "book", "lacking", "rows"] (m_sure a0) := ⟨⟨_, ok_sure T D_fillings D_Schema_tables D_agreed F_sure, b_sure⟩, (defB_g X G e_g_sure), (defB_k e_g_sure), (fun ds M h => runF_len ds M h)⟩
  have D__law_calls_right : Df P w K mg base TT0 "_law_calls_right" 26 a0.f__law_calls_right ["made", "rules", "lacking", "rows", "thing", "dues"] (m__law_calls_right a0) := ⟨⟨_, ok__law_calls_right T D__law_word D_bare D_are_bare D_is_filling D_fillings D_how_many D_sure TB__law_calls_right hmT__law_calls_right hu__law_calls_right F__law_calls_right hc__law_calls_right, b__law_calls_right⟩, (defB_g X G e_g__law_calls_right), (defB_k e_g__law_calls_right), (fun ds M h => runF_len ds M h)⟩
  have D__law_first : Df P w K mg base TT0 "_law_first" 1 a0.f__law_first ["words"] (m__law_first a0) := ⟨⟨_, ok__law_first T  F__law_first, b__law_first⟩, (defB_g X G e_g__law_first), (defB_k e_g__law_first), (fun ds M h => runF_len ds M h)⟩
  have D__law_gaps : Df P w K mg base TT0 "_law_gaps" 1 a0.f__law_gaps [] (m__law_gaps a0) := ⟨⟨_, ok__law_gaps T  F__law_gaps, b__law_gaps⟩, (defB_g X G e_g__law_gaps), (defB_k e_g__law_gaps), (fun ds M h => runF_len ds M h)⟩
  have D__law_pen : Df P w K mg base TT0 "_law_pen" 1 a0.f__law_pen ["script"] (m__law_pen a0) := ⟨⟨_, ok__law_pen T  F__law_pen, b__law_pen⟩, (defB_g X G e_g__law_pen), (defB_k e_g__law_pen), (fun ds M h => runF_len ds M h)⟩
  have D__law_next : Df P w K mg base TT0 "_law_next" 1 a0.f__law_next ["pen"] (m__law_next a0) := ⟨⟨_, ok__law_next T  F__law_next, b__law_next⟩, (defB_g X G e_g__law_next), (defB_k e_g__law_next), (fun ds M h => runF_len ds M h)⟩
  have D__law_draw : Df P w K mg base TT0 "_law_draw" 2 a0.f__law_draw ["pen", "under"] (m__law_draw a0) := ⟨⟨_, ok__law_draw T D__law_next F__law_draw, b__law_draw⟩, (defB_g X G e_g__law_draw), (defB_k e_g__law_draw), (fun ds M h => runF_len ds M h)⟩
  have D__law_pick : Df P w K mg base TT0 "_law_pick" 3 a0.f__law_pick ["pen", "two"] (m__law_pick a0) := ⟨⟨_, ok__law_pick T D__law_draw F__law_pick, b__law_pick⟩, (defB_g X G e_g__law_pick), (defB_k e_g__law_pick), (fun ds M h => runF_len ds M h)⟩
  have D__law_rows_here : Df P w K mg base TT0 "_law_rows_here" 1 a0.f__law_rows_here ["lacking"] (m__law_rows_here a0) := ⟨⟨_, ok__law_rows_here T  F__law_rows_here, b__law_rows_here⟩, (defB_g X G e_g__law_rows_here), (defB_k e_g__law_rows_here), (fun ds M h => runF_len ds M h)⟩
  have D_is_column : Df P w K mg base TT0 "is_column" 2 a0.f_is_column ["thing"] (m_is_column a0) := ⟨⟨_, ok_is_column T D_is_name F_is_column, b_is_column⟩, (defB_g X G e_g_is_column), (defB_k e_g_is_column), (fun ds M h => runF_len ds M h)⟩
  have D_is_table : Df P w K mg base TT0 "is_table" 3 a0.f_is_table ["thing"] (m_is_table a0) := ⟨⟨_, ok_is_table T D_is_name D_is_column F_is_table, b_is_table⟩, (defB_g X G e_g_is_table), (defB_k e_g_is_table), (fun ds M h => runF_len ds M h)⟩
  have D_Schema : Dk P w K mg base TT0 "Schema" 4 a0.C_Schema a0.f_Schema___init__ ["self", "tables"] (m_Schema___init__ a0) := ⟨⟨_, ok_Schema___init__ T D_is_table D_is_name F_Schema___init__, b_Schema___init__⟩, mkB_of e_mk_Schema, T.n_Schema, (fun ds M h => runF_len ds M h)⟩
  have D__law_schema : Df P w K mg base TT0 "_law_schema" 6 a0.f__law_schema [] (m__law_schema a0) := ⟨⟨_, ok__law_schema T D_Schema F__law_schema, b__law_schema⟩, (defB_g X G e_g__law_schema), (defB_k e_g__law_schema), (fun ds M h => runF_len ds M h)⟩
  exact ok_law T D__law_schema D__law_pen D__law_books D__law_pick D__law_gaps D__law_rows_here D__law_first D__law_calls_right F_law
end Lw

set_option Elab.async false
set_option linter.all false
set_option maxRecDepth 100000
set_option maxHeartbeats 4000000
namespace Lw
open PySem L2 TB
theorem law_at {l : PySem.W.OpenLaw} {w : World} {K : PySem.W.Frag} {mg : Str → Option Value} {fa : Addr} {h : Heap} (X : K.In h) (G : h.Ns mainGlobals mg) (hmg : mg "law" = some (.ref fa)) (hT : ∀ p ∈ cs0, h.get? p.2 = some { cls := .none, data := .fields #[] }) (kit : kitB K = true) (FS : Fs K) : LamZ.LawAtG l w K 27 63 "script" mg fa h := by
  unfold kitB at kit
  simp only [Bool.and_eq_true] at kit
  obtain ⟨k0, k1, k2, j0, j1, j2⟩ := kit
  have T : ∀ base : Heap, (∃ o es ep, base.get? sysModules = some o ∧ o.data = .dict es ep) → Tx l.prog K mg base a0 := fun base sm => tx_of X G k0 k1 k2 sm
  obtain ⟨fd, F⟩ := FS.F_law
  have gl : mg "law" = some (.ref a0.f_law) := defB_g X G (by (try unfold kid0 at j0); (try unfold kid1 at j1); (try unfold kid2 at j2); simp only [Bool.and_eq_true] at *; simp only [*])
  cases hmg.symm.trans gl
  have hk : ∀ p ∈ cs0, K.lookup p.2 = none ∧ PySem.W.CodeHd h p.1 p.2 := fun p hp => by
    unfold kid0 at j0; unfold kid1 at j1; unfold kid2 at j2; simp only [Bool.and_eq_true] at *
    simp only [cs0, List.mem_cons, List.not_mem_nil, or_false] at hp
    rcases hp with rfl
    all_goals exact ⟨Option.isNone_iff_eq_none.mp (by simp only [*]), PySem.W.codeHd_of_K X (by simp only [*])⟩
  have hb : ∀ (s : Shared) (u : Value), BindsTo s fd ⟨[u], []⟩ [("script", u)] := fun s u => by
    obtain ⟨_, _, _, _, _, _, _, _, _, rfl, _, _⟩ := F.ex
    exact .of_eq rfl
  exact ⟨fd, cs0, TT0, m_law a0, hT, fun p hp => (hk p hp).1, fun p hp => (hk p hp).2, hb, fun H a ns hl hH hS => law_sp (T0 := TT0) (cs := cs0) (F := m_law a0) (by decide +kernel) hH hS (law_ok ns), fun base X' G' sm tb => all_fn X G FS (T base sm) (tb (a0.kc__law_calls_right, a0.kt__law_calls_right) (by simp [cs0])) j0 j1 j2 F⟩
end Lw
open PySem PySem.W PyProof.Rows
set_option maxRecDepth 100000 in
set_option maxHeartbeats 0 in
theorem PySem.Challenge.cw_toldbyrest_k09_errors_of_fillings_holds : PySem.Challenge.rw_toldbyrest_k09_errors_of_fillings.Holds := by
  w_on; o_law; k_head; (case hw => w_witness2)
  k_fill
  refine LamZ.walk_ofT (l := PySem.Challenge.rw_toldbyrest_k09_errors_of_fillings) (n := 63) (k := 27) (x := "script") rfl (by decide) rfl ⟨rfl, by decide, by decide⟩ (by kernel_rfl) (fun w h Y => PySem.W.km_in_of Y) ?F (fun w H s e s' z => LamZ.no_leave z)
  case F =>
    intro w mg fa h Y KX G hmg
    refine Lw.law_at KX G hmg ?hT ?kit ?FS
    case hT => exact fun p hp => PySem.W.km_tabs_of Y p.2 (by revert p; decide +kernel)
    case kit => kernel_rfl
    case FS => exact ⟨TB.FunA.mk (by k_is) (by k_is) (by k_is),
      TB.FunA.mk (by k_is) (by k_is) (by k_is),
      TB.FunA.mk (by k_is) (by k_is) (by k_is),
      TB.FunA.mk (by k_is) (by k_is) (by k_is),
      TB.FunA.mk (by k_is) (by k_is) (by k_is),
      TB.FunA.mk (by k_is) (by k_is) (by k_is),
      TB.FunA.mk (by k_is) (by k_is) (by k_is),
      TB.FunA.mk (by k_is) (by k_is) (by k_is),
      TB.FunA.mk (by k_is) (by k_is) (by k_is),
      TB.FunA.mk (by k_is) (by k_is) (by k_is),
      TB.FunA.mk (by k_is) (by k_is) (by k_is),
      TB.FunA.mk (by k_is) (by k_is) (by k_is),
      TB.FunA.mk (by k_is) (by k_is) (by k_is),
      TB.FunA.mk (by k_is) (by k_is) (by k_is),
      TB.FunA.mk (by k_is) (by k_is) (by k_is),
      TB.FunA.mk (by k_is) (by k_is) (by k_is),
      TB.FunA.mk (by k_is) (by k_is) (by k_is),
      TB.FunA.mk (by k_is) (by k_is) (by k_is),
      TB.FunA.mk (by k_is) (by k_is) (by k_is),
      TB.FunA.mk (by k_is) (by k_is) (by k_is),
      TB.FunA.mk (by k_is) (by k_is) (by k_is),
      TB.FunA.mk (by k_is) (by k_is) (by k_is),
      TB.FunA.mk (by k_is) (by k_is) (by k_is),
      TB.FunA.mk (by k_is) (by k_is) (by k_is),
      TB.FunA.mk (by k_is) (by k_is) (by k_is),
      TB.FunA.mk (by k_is) (by k_is) (by k_is),
      TB.FunA.mk (by k_is) (by k_is) (by k_is),
      TB.FunA.mk (by k_is) (by k_is) (by k_is),
      TB.FunA.mk (by k_is) (by k_is) (by k_is),
      TB.FunA.mk (by k_is) (by k_is) (by k_is),
      TB.FunA.mk (by k_is) (by k_is) (by k_is),
      TB.FunA.mk (by k_is) (by k_is) (by k_is),
      TB.FunA.mk (by k_is) (by k_is) (by k_is),
      TB.FunA.mk (by k_is) (by k_is) (by k_is),
      TB.FunA.mk (by k_is) (by k_is) (by k_is),
      TB.FunA.mk (by k_is) (by k_is) (by k_is),
      TB.FunA.mk (by k_is) (by k_is) (by k_is),
      TB.FunA.mk (by k_is) (by k_is) (by k_is),
      TB.FunA.mk (by k_is) (by k_is) (by k_is),
      TB.FunA.mk (by k_is) (by k_is) (by k_is),
      TB.FunA.mk (by k_is) (by k_is) (by k_is),
      TB.FunA.mk (by k_is) (by k_is) (by k_is),
      TB.FunA.mk (by k_is) (by k_is) (by k_is),
      TB.FunC.mk (by k_is) (by k_is) (by k_is),
      TB.FunA.mk (by k_is) (by k_is) (by k_is),
      TB.FunA.mk (by k_is) (by k_is) (by k_is),
      TB.FunA.mk (by k_is) (by k_is) (by k_is),
      TB.FunA.mk (by k_is) (by k_is) (by k_is),
      TB.FunA.mk (by k_is) (by k_is) (by k_is),
      TB.FunA.mk (by k_is) (by k_is) (by k_is),
      TB.FunA.mk (by k_is) (by k_is) (by k_is),
      TB.FunA.mk (by k_is) (by k_is) (by k_is),
      TB.FunA.mk (by k_is) (by k_is) (by k_is),
      TB.FunA.mk (by k_is) (by k_is) (by k_is),
      TB.FunA.mk (by k_is) (by k_is) (by k_is),
      TB.FunA.mk (by k_is) (by k_is) (by k_is)⟩
#print axioms PySem.Challenge.cw_toldbyrest_k09_errors_of_fillings_holds

