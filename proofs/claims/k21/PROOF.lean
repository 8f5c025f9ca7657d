import PyProof.Rows.All
import Wide.All
import OpenK.AllK
import Wide.FinOn
import HandS.ForMost
import HandS.ForExc
import HandS.Wide
import HandS.IsInst
import HandS.TupAny
import HandS.TupMul
import HandS.Deep
import HandS.Flow
import HandS.Text
import HandS.Conv
import HandS.CallSlots
import HandS.TryOnly
import HandS.Iter
import KE.GoesMore
import HandS.Style
import PySem.Challenge.RW_wellsnails_k21_whole_known_mistakes
set_option Elab.async false
set_option linter.all false
set_option maxRecDepth 100000
set_option maxHeartbeats 4000000
namespace DL
open PySem PySem.Spec PyProof.Rows L2

/-! ### data, mutable objects, results -/
inductive D where
  | non | bl (b : Bool) | int (i : Int) | str (x : Str) | tup (xs : List D) | lst (xs : List D) | obj (n : Nat) | ref (a : Addr) | frz (xs : List D)
inductive MO where
  | lst (xs : List D) | ins (C : Addr) (fs : List (Str × D)) | dct (kvs : List (Key × D)) | dead
abbrev Sto := List MO
abbrev Rho := List (Option D)
/-- an error: the name of its class (a class of the module), its own fields -/
structure Exn where
  nm : Str
  fs : List (Str × D)
inductive R (α : Type) where
  | ok (a : α) (S : Sto) | ex (e : Exn) (S : Sto) | bad
def R.bind {α β : Type} (r : R α) (k : α → Sto → R β) : R β := match r with
  | .ok a S => k a S
  | .ex e S => .ex e S
  | .bad => .bad
@[simp] theorem R.bind_ok {α β : Type} (a : α) (S : Sto) (k : α → Sto → R β) : (R.ok a S).bind k = k a S := rfl
@[simp] theorem R.bind_ex {α β : Type} (e : Exn) (S : Sto) (k : α → Sto → R β) : (R.ex e S : R α).bind k = .ex e S := rfl
@[simp] theorem R.bind_bad {α β : Type} (k : α → Sto → R β) : (R.bad : R α).bind k = .bad := rfl
/-- a flow behind a statement -/
inductive F where
  | nx (ρ : Rho) (S : Sto) | rt (d : D) (S : Sto) | bk (ρ : Rho) (S : Sto) | ct (ρ : Rho) (S : Sto) | ex (e : Exn) (ρ : Rho) (S : Sto) | bad
abbrev Ee := Rho → Sto → R D
abbrev Et := Rho → Sto → R Bool
abbrev Ea := Rho → Sto → R (List D)
abbrev Sm := Rho → Sto → F
abbrev Fn := List D → Sto → R D

/-! ### what data are in a heap; M: where the mutable objects stand, and what is private -/
structure Mp where
  o : List Addr
  p : List Addr
def Mp.In (M : Mp) (a : Addr) : Prop := a ∈ M.o ∨ a ∈ M.p
def Mp.add (M : Mp) (a : Addr) : Mp := ⟨M.o ++ [a], M.p⟩
def Mp.hide (M : Mp) (a : Addr) : Mp := ⟨M.o, a :: M.p⟩
def KTup (K : PySem.W.Frag) (a : Addr) (xs : List V) : Prop := ∃ (o : Obj) (its : Array Value) (n : Nat), K.lookup a = some o ∧ o.cls = .type "tuple" ∧ o.data = .seq its n ∧ its.size ≤ sizeLine ∧ Vals xs its.toList
def KLst (K : PySem.W.Frag) (a : Addr) (xs : List V) : Prop := ∃ (o : Obj) (its : Array Value) (n : Nat), K.lookup a = some o ∧ o.cls = .type "list" ∧ o.dict = none ∧ o.data = .seq its n ∧ its.size ≤ sizeLine ∧ Vals xs its.toList
/-- a list that is read alone -/
def SqFM (K : PySem.W.Frag) (M : Mp) (H : Hp) (a : Addr) (xs : List V) : Prop := (¬ M.In a ∧ Rd H a (.lst xs)) ∨ KLst K a xs
def SqLM (K : PySem.W.Frag) (M : Mp) (H : Hp) (a : Addr) (xs : List V) : Prop := ¬ M.In a ∧ H a = some (.lst xs)
def SqTM (K : PySem.W.Frag) (M : Mp) (H : Hp) (a : Addr) (xs : List V) : Prop := (¬ M.In a ∧ H a = some (.tup xs)) ∨ KTup K a xs
mutual
inductive Rep (K : PySem.W.Frag) (M : Mp) (H : Hp) : V → D → Prop
  | non : Rep K M H .non .non
  | bl (b : Bool) : Rep K M H (.bl b) (.bl b)
  | int (i : Int) : Rep K M H (.int i) (.int i)
  | str (x : Str) : Rep K M H (.str x) (.str x)
  | tup {a : Addr} {xs : List V} {ds : List D} : SqTM K M H a xs → Reps K M H xs ds → Rep K M H (.ref a) (.tup ds)
  | lst {a : Addr} {xs : List V} {ds : List D} : SqLM K M H a xs → Reps K M H xs ds → Rep K M H (.ref a) (.lst ds)
  | obj {n : Nat} {a : Addr} : M.o[n]? = some a → Rep K M H (.ref a) (.obj n)
  | ref (a : Addr) : Rep K M H (.ref a) (.ref a)
  | frz {a : Addr} {xs : List V} {ds : List D} : SqFM K M H a xs → Reps K M H xs ds → Rep K M H (.ref a) (.frz ds)
inductive Reps (K : PySem.W.Frag) (M : Mp) (H : Hp) : List V → List D → Prop
  | nil : Reps K M H [] []
  | cons {v : V} {vs : List V} {d : D} {ds : List D} : Rep K M H v d → Reps K M H vs ds → Reps K M H (v :: vs) (d :: ds)
end
/-- fields of an instance -/
inductive RepF (K : PySem.W.Frag) (M : Mp) (H : Hp) : List (Str × V) → List (Str × D) → Prop
  | nil : RepF K M H [] []
  | cons {f : Str} {v : V} {vs : List (Str × V)} {d : D} {ds : List (Str × D)} : Rep K M H v d → RepF K M H vs ds → RepF K M H ((f, v) :: vs) ((f, d) :: ds)
inductive RepK (K : PySem.W.Frag) (M : Mp) (H : Hp) : List (Key × V) → List (Key × D) → Prop
  | nil : RepK K M H [] []
  | cons {f : Key} {v : V} {vs : List (Key × V)} {d : D} {ds : List (Key × D)} : Rep K M H v d → RepK K M H vs ds → RepK K M H ((f, v) :: vs) ((f, d) :: ds)
def MoAt (K : PySem.W.Frag) (M : Mp) (H : Hp) (a : Addr) : MO → Prop
  | .lst ds => ∃ xs, H a = some (.lst xs) ∧ Reps K M H xs ds
  | .ins C fs => ∃ dx vs, H a = some (.ins C dx vs) ∧ RepF K M H vs fs
  | .dct kvs => ∃ vs, H a = some (.dK vs) ∧ RepK K M H vs kvs
  | .dead => ∃ o, H a = some o
structure HS (K : PySem.W.Frag) (M : Mp) (S : Sto) (H : Hp) : Prop where
  len : M.o.length = S.length
  nd : M.o.Nodup
  pv : ∀ b ∈ M.p, b ∉ M.o ∧ ∃ o, H b = some o
  «at» : ∀ (n : Nat) (a : Addr) (mo : MO), M.o[n]? = some a → S[n]? = some mo → MoAt K M H a mo
structure RepE (K : PySem.W.Frag) (M : Mp) (H : Hp) (σ : L2.St) (ρ : Rho) : Prop where
  len : σ.length = ρ.length
  «at» : ∀ (i : Nat) (d : D), ρ[i]? = some (some d) → ∃ v, σ[i]? = some (some v) ∧ Rep K M H v d
/-- later: new mutable objects, all else as it was -/
structure Ext (M : Mp) (H : Hp) (M' : Mp) (H' : Hp) : Prop where
  more : ∃ l, M'.o = M.o ++ l ∧ ∀ a ∈ l, H a = none
  priv : M'.p = M.p
  keep : ∀ b o, b ∉ M.o → H b = some o → H' b = some o
  stay : ∀ b ∈ M.o, ∃ o, H' b = some o

section
variable {K : PySem.W.Frag} {M M' M'' : Mp} {H H' H'' : Hp} {S S' : Sto} {σ : L2.St} {ρ : Rho}
theorem HS.there (h : HS K M S H) {a : Addr} (ha : a ∈ M.o) : ∃ o, H a = some o := by
  obtain ⟨n, hn, e⟩ := List.getElem_of_mem ha
  have e1 : M.o[n]? = some a := by rw [List.getElem?_eq_getElem hn, e]
  have hs : n < S.length := h.len ▸ hn
  have q := h.at n a S[n] e1 (List.getElem?_eq_getElem hs)
  cases hm : S[n] with
  | lst ds => rw [hm] at q; obtain ⟨xs, e, _⟩ := q; exact ⟨_, e⟩
  | ins C fs => rw [hm] at q; obtain ⟨dx, vs, e, _⟩ := q; exact ⟨_, e⟩
  | dct kvs => rw [hm] at q; obtain ⟨vs, e, _⟩ := q; exact ⟨_, e⟩
  | dead => rw [hm] at q; exact q
theorem HS.freshO (h : HS K M S H) {a : Addr} (ha : H a = none) : a ∉ M.o := fun hm => by
  obtain ⟨o, e⟩ := h.there hm
  rw [ha] at e; cases e
theorem HS.fresh (h : HS K M S H) {a : Addr} (ha : H a = none) : ¬ M.In a := fun hm => by
  rcases hm with hm | hm
  · exact h.freshO ha hm
  · obtain ⟨_, o, e⟩ := h.pv a hm
    rw [ha] at e; cases e
theorem Ext.refl (h : HS K M S H) : Ext M H M H := ⟨⟨[], (List.append_nil M.o).symm, fun _ h => nomatch h⟩, rfl, fun _ _ _ e => e, fun b hb => h.there hb⟩
theorem Ext.trans (e : Ext M H M' H') (f : Ext M' H' M'' H'') : Ext M H M'' H'' := by
  obtain ⟨l, el, hl⟩ := e.more
  obtain ⟨l2, el2, hl2⟩ := f.more
  refine ⟨⟨l ++ l2, by rw [el2, el, List.append_assoc], fun a ha => ?_⟩, f.priv.trans e.priv, fun b o hb q => ?_, fun b hb => f.stay b (by rw [el]; exact List.mem_append_left _ hb)⟩
  · rcases List.mem_append.mp ha with h | h
    · exact hl a h
    · have z := hl2 a h
      cases q : H a with
      | none => rfl
      | some o =>
        by_cases hm : a ∈ M.o
        · obtain ⟨o', e'⟩ := e.stay a hm
          rw [z] at e'; cases e'
        · have := e.keep a o hm q
          rw [z] at this; cases this
  · have h1 := e.keep b o hb q
    by_cases hm : b ∈ l
    · rw [hl b hm] at q; cases q
    · refine f.keep b o (fun hx => ?_) h1
      rw [el] at hx
      rcases List.mem_append.mp hx with h | h
      · exact hb h
      · exact hm h
theorem Ext.notIn (e : Ext M H M' H') {a : Addr} {o : HO} (ha : ¬ M.In a) (h : H a = some o) : ¬ M'.In a := by
  obtain ⟨l, el, hl⟩ := e.more
  intro hx
  rcases hx with hx | hx
  · rw [el] at hx
    rcases List.mem_append.mp hx with z | z
    · exact ha (.inl z)
    · rw [hl a z] at h; cases h
  · rw [e.priv] at hx
    exact ha (.inr hx)
theorem Ext.get (e : Ext M H M' H') {n : Nat} {a : Addr} (h : M.o[n]? = some a) : M'.o[n]? = some a := by
  obtain ⟨l, el, _⟩ := e.more
  rw [el, List.getElem?_append_left (List.getElem?_eq_some_iff.mp h).1]
  exact h
theorem Ext.at (e : Ext M H M' H') {a : Addr} {o : HO} (ha : ¬ M.In a) (h : H a = some o) : H' a = some o := e.keep a o (fun z => ha (.inl z)) h
theorem SqLM.mono (e : Ext M H M' H') {a : Addr} {xs : List V} (h : SqLM K M H a xs) : SqLM K M' H' a xs := ⟨e.notIn h.1 h.2, e.at h.1 h.2⟩
theorem SqTM.mono (e : Ext M H M' H') {a : Addr} {xs : List V} (h : SqTM K M H a xs) : SqTM K M' H' a xs := by
  rcases h with ⟨hm, h⟩ | h
  · exact .inl ⟨e.notIn hm h, e.at hm h⟩
  · exact .inr h
theorem SqFM.mono (e : Ext M H M' H') {a : Addr} {xs : List V} (h : SqFM K M H a xs) : SqFM K M' H' a xs := by
  rcases h with ⟨hm, h | ⟨o, h⟩⟩ | h
  · exact .inl ⟨e.notIn hm h, .inl (e.at hm h)⟩
  · exact .inl ⟨e.notIn hm h, .inr ⟨o, e.at hm h⟩⟩
  · exact .inr h
theorem SqFM.seq {a : Addr} {xs : List V} (h : SqFM K M H a xs) : SqL K H a xs := by
  rcases h with ⟨_, h⟩ | h
  · exact .inl h
  · exact .inr h
theorem SqLM.seq {a : Addr} {xs : List V} (h : SqLM K M H a xs) : SqL K H a xs := .inl (.inl h.2)
theorem SqTM.seq {a : Addr} {xs : List V} (h : SqTM K M H a xs) : SqT K H a xs := by
  rcases h with ⟨_, h⟩ | h
  · exact .inl (.inl h)
  · exact .inr h
mutual
theorem Rep.mono (e : Ext M H M' H') : ∀ {v : V} {d : D}, Rep K M H v d → Rep K M' H' v d
  | _, _, .non => .non
  | _, _, .bl b => .bl b
  | _, _, .int i => .int i
  | _, _, .str x => .str x
  | _, _, .tup h r => .tup (h.mono e) (Reps.mono e r)
  | _, _, .lst h r => .lst (h.mono e) (Reps.mono e r)
  | _, _, .obj h => .obj (e.get h)
  | _, _, .ref a => .ref a
  | _, _, .frz h r => .frz (h.mono e) (Reps.mono e r)
theorem Reps.mono (e : Ext M H M' H') : ∀ {vs : List V} {ds : List D}, Reps K M H vs ds → Reps K M' H' vs ds
  | _, _, .nil => .nil
  | _, _, .cons r t => .cons (Rep.mono e r) (Reps.mono e t)
end
theorem RepF.mono (e : Ext M H M' H') : ∀ {vs : List (Str × V)} {ds : List (Str × D)}, RepF K M H vs ds → RepF K M' H' vs ds
  | _, _, .nil => .nil
  | _, _, .cons r t => .cons (r.mono e) (RepF.mono e t)
theorem RepK.mono (e : Ext M H M' H') : ∀ {vs : List (Key × V)} {ds : List (Key × D)}, RepK K M H vs ds → RepK K M' H' vs ds
  | _, _, .nil => .nil
  | _, _, .cons r t => .cons (r.mono e) (RepK.mono e t)
theorem RepE.mono (e : Ext M H M' H') (h : RepE K M H σ ρ) : RepE K M' H' σ ρ := ⟨h.len, fun i d q => by
  obtain ⟨v, a, b⟩ := h.at i d q
  exact ⟨v, a, b.mono e⟩⟩
theorem RepE.set {i : Nat} {v : V} {d : D} (h : RepE K M H σ ρ) (r : Rep K M H v d) : RepE K M H (σ.set i (some v)) (ρ.set i (some d)) := ⟨by rw [List.length_set, List.length_set]; exact h.len, fun j e q => by
  by_cases hj : i = j
  · subst hj
    by_cases hl : i < ρ.length
    · rw [List.getElem?_set_self hl] at q
      cases q
      exact ⟨v, List.getElem?_set_self (h.len ▸ hl), r⟩
    · rw [List.getElem?_eq_none (by rw [List.length_set]; omega)] at q; cases q
  · rw [List.getElem?_set_ne hj] at q ⊢
    exact h.at j e q⟩
theorem Reps.length : ∀ {vs : List V} {ds : List D}, Reps K M H vs ds → vs.length = ds.length
  | _, _, .nil => rfl
  | _, _, .cons _ t => by rw [List.length_cons, List.length_cons, Reps.length t]
theorem Reps.get : ∀ {vs : List V} {ds : List D} {i : Nat} {v : V}, Reps K M H vs ds → vs[i]? = some v → ∃ d, ds[i]? = some d ∧ Rep K M H v d
  | _, _, i, _, .nil, h => by simp at h
  | _, _, 0, _, .cons r t, h => by simp at h; subst h; exact ⟨_, rfl, r⟩
  | _, _, i + 1, _, .cons r t, h => by
    obtain ⟨d, a, b⟩ := Reps.get (i := i) t (by simpa using h)
    exact ⟨d, by simpa using a, b⟩
theorem Reps.get' : ∀ {vs : List V} {ds : List D} {i : Nat} {d : D}, Reps K M H vs ds → ds[i]? = some d → ∃ v, vs[i]? = some v ∧ Rep K M H v d
  | _, _, i, _, .nil, h => by simp at h
  | _, _, 0, _, .cons r t, h => by simp at h; subst h; exact ⟨_, rfl, r⟩
  | _, _, i + 1, _, .cons r t, h => by
    obtain ⟨d, a, b⟩ := Reps.get' (i := i) t (by simpa using h)
    exact ⟨d, by simpa using a, b⟩
theorem Reps.append : ∀ {vs ws : List V} {ds es : List D}, Reps K M H vs ds → Reps K M H ws es → Reps K M H (vs ++ ws) (ds ++ es)
  | _, _, _, _, .nil, s => s
  | _, _, _, _, .cons r t, s => .cons r (Reps.append t s)
theorem Reps.take : ∀ {vs : List V} {ds : List D} (n : Nat), Reps K M H vs ds → Reps K M H (vs.take n) (ds.take n)
  | _, _, 0, _ => .nil
  | _, _, _ + 1, .nil => .nil
  | _, _, n + 1, .cons r t => .cons r (Reps.take n t)
theorem Reps.drop : ∀ {vs : List V} {ds : List D} (n : Nat), Reps K M H vs ds → Reps K M H (vs.drop n) (ds.drop n)
  | _, _, 0, r => r
  | _, _, _ + 1, .nil => .nil
  | _, _, n + 1, .cons r t => Reps.drop n t
theorem Reps.rep {vs : List V} {ds : List D} (r : Reps K M H vs ds) : ∀ n : Nat, Reps K M H (List.replicate n vs).flatten (List.replicate n ds).flatten
  | 0 => .nil
  | n + 1 => by
    rw [List.replicate_succ, List.replicate_succ, List.flatten_cons, List.flatten_cons]
    exact r.append (Reps.rep r n)
theorem Reps.set {v : V} {d : D} (r : Rep K M H v d) : ∀ {vs : List V} {ds : List D} (n : Nat), Reps K M H vs ds → Reps K M H (vs.set n v) (ds.set n d)
  | _, _, _, .nil => .nil
  | _, _, 0, .cons _ t => .cons r t
  | _, _, n + 1, .cons q t => .cons q (Reps.set r n t)
theorem Reps.dropLast {vs : List V} {ds : List D} (r : Reps K M H vs ds) : Reps K M H vs.dropLast ds.dropLast := by
  rw [List.dropLast_eq_take, List.dropLast_eq_take, r.length]
  exact r.take _
theorem Reps.ints : ∀ {ns : List Int}, Reps K M H (ns.map V.int) (ns.map D.int)
  | [] => .nil
  | n :: r => .cons (.int n) Reps.ints
/-- nothing that is tracked has changed: all stands -/
theorem Ext.same (h : HS K M S H) (s : Same H H') : Ext M H M H' := ⟨⟨[], (List.append_nil M.o).symm, fun _ h => nomatch h⟩, rfl, fun b o _ e => s b o e, fun b hb => by
  obtain ⟨o, e⟩ := h.there hb
  exact ⟨o, s b o e⟩⟩
theorem MoAt.ext {a : Addr} {mo : MO} (e : Ext M H M' H') (ha : ∀ o, H a = some o → H' a = some o) (h : MoAt K M H a mo) : MoAt K M' H' a mo := by
  cases mo with
  | lst ds => obtain ⟨xs, q, r⟩ := h; exact ⟨xs, ha _ q, r.mono e⟩
  | ins C fs => obtain ⟨dx, vs, q, r⟩ := h; exact ⟨dx, vs, ha _ q, r.mono e⟩
  | dct kvs => obtain ⟨vs, q, r⟩ := h; exact ⟨vs, ha _ q, r.mono e⟩
  | dead => obtain ⟨o, q⟩ := h; exact ⟨o, ha _ q⟩
theorem HS.same (h : HS K M S H) (s : Same H H') : HS K M S H' := ⟨h.len, h.nd, fun b hb => ⟨(h.pv b hb).1, by obtain ⟨_, o, e⟩ := h.pv b hb; exact ⟨o, s b o e⟩⟩, fun n a mo h1 h2 => (h.at n a mo h1 h2).ext (Ext.same h s) (fun o e => s a o e)⟩
theorem Same.new {p : Addr} {o : HO} (h : H p = none) : Same H (upd H p o) := fun b x e => by
  rw [upd_ne (ne_of_none e h)]
  exact e
/-- a new list, a new tuple -/
theorem Rep.newL {p : Addr} {xs : List V} {ds : List D} (hs : HS K M S H) (h : H p = none) (r : Reps K M H xs ds) : Rep K M (upd H p (.lst xs)) (.ref p) (.lst ds) :=
  .lst ⟨hs.fresh h, upd_same⟩ (r.mono (Ext.same hs (Same.new h)))
theorem Rep.newT {p : Addr} {xs : List V} {ds : List D} (hs : HS K M S H) (h : H p = none) (r : Reps K M H xs ds) : Rep K M (upd H p (.tup xs)) (.ref p) (.tup ds) :=
  .tup (.inl ⟨hs.fresh h, upd_same⟩) (r.mono (Ext.same hs (Same.new h)))
/-- the object n is written -/
theorem HS.ext_write {n : Nat} {a : Addr} {o : HO} (hs : HS K M S H) (hn : M.o[n]? = some a) : Ext M H M (upd H a o) :=
  ⟨⟨[], (List.append_nil M.o).symm, fun _ h => nomatch h⟩, rfl, fun b x hb e => by
    rw [upd_ne (fun z => hb (by rw [z]; exact List.mem_of_getElem? hn))]
    exact e, fun b hb => by
    by_cases z : b = a
    · subst z; exact ⟨o, upd_same⟩
    · obtain ⟨x, e⟩ := hs.there hb
      exact ⟨x, by rw [upd_ne z]; exact e⟩⟩
theorem HS.write {n : Nat} {a : Addr} {o : HO} {mo : MO} (hs : HS K M S H) (hn : M.o[n]? = some a) (q : MoAt K M (upd H a o) a mo) : HS K M (S.set n mo) (upd H a o) := by
  have ha : a ∈ M.o := List.mem_of_getElem? hn
  refine ⟨by rw [List.length_set]; exact hs.len, hs.nd, fun b hb => ⟨(hs.pv b hb).1, by
    obtain ⟨h1, x, e⟩ := hs.pv b hb
    exact ⟨x, by rw [upd_ne (fun z => h1 (by rw [z]; exact ha))]; exact e⟩⟩, fun k b mb h1 h2 => ?_⟩
  have hl : n < M.o.length := (List.getElem?_eq_some_iff.mp hn).1
  by_cases hk : n = k
  · subst hk
    rw [List.getElem?_set_self (hs.len ▸ hl)] at h2
    cases h2
    rw [hn] at h1
    cases h1
    exact q
  · rw [List.getElem?_set_ne hk] at h2
    have hb : b ≠ a := fun z => by
      subst z
      exact hk (nd_ix hs.nd hn h1)
    exact (hs.at k b mb h1 h2).ext (hs.ext_write hn) (fun x e => by rw [upd_ne hb]; exact e)
theorem HS.ext_join {p : Addr} {o : HO} (hs : HS K M S H) (hp : H p = none) : Ext M H (M.add p) (upd H p o) :=
  ⟨⟨[p], rfl, fun a ha => by rw [List.mem_singleton] at ha; rw [ha]; exact hp⟩, rfl, fun b x _ e => Same.new hp b x e, fun b hb => by
    obtain ⟨x, e⟩ := hs.there hb
    exact ⟨x, Same.new hp b x e⟩⟩
/-- a new object joins the mutable ones -/
theorem HS.join {p : Addr} {o : HO} {mo : MO} (hs : HS K M S H) (hp : H p = none) (q : MoAt K (M.add p) (upd H p o) p mo) : HS K (M.add p) (S ++ [mo]) (upd H p o) := by
  have hm := hs.freshO hp
  have e : Ext M H (M.add p) (upd H p o) := hs.ext_join hp
  refine ⟨by simp [Mp.add, hs.len], ?_, fun b hb => ?_, fun n a mb h1 h2 => ?_⟩
  · show (M.o ++ [p]).Nodup
    rw [List.nodup_append]
    exact ⟨hs.nd, by simp, fun a ha b hb => by rw [List.mem_singleton] at hb; rw [hb]; exact fun z => hm (z ▸ ha)⟩
  · obtain ⟨h1, x, h2⟩ := hs.pv b hb
    refine ⟨fun z => ?_, x, Same.new hp b x h2⟩
    rcases List.mem_append.mp z with z | z
    · exact h1 z
    · rw [List.mem_singleton] at z; rw [z, hp] at h2; cases h2
  · have h1 : (M.o ++ [p])[n]? = some a := h1
    by_cases hn : n < M.o.length
    · rw [List.getElem?_append_left hn] at h1
      rw [List.getElem?_append_left (hs.len ▸ hn)] at h2
      have ha : a ≠ p := fun z => hm (z ▸ List.mem_of_getElem? h1)
      exact (hs.at n a mb h1 h2).ext e (fun x e => Same.new hp a x e)
    · have hn2 : n = M.o.length := by
        have := (List.getElem?_eq_some_iff.mp h1).1
        rw [List.length_append, List.length_singleton] at this
        omega
      subst hn2
      rw [List.getElem?_append_right (Nat.le_refl _)] at h1
      rw [List.getElem?_append_right (by rw [hs.len]; exact Nat.le_refl _)] at h2
      simp at h1
      rw [hs.len] at h2
      simp at h2
      subst h1
      subst h2
      exact q
/-! ### something private: a list that is being built -/
theorem SqLM.upd {D : Addr} {o : HO} {a : Addr} {xs : List V} (h : SqLM K (M.hide D) H a xs) : SqLM K (M.hide D) (upd H D o) a xs := ⟨h.1, by
  rw [upd_ne (fun z => h.1 (.inr (by rw [z]; exact List.mem_cons_self)))]
  exact h.2⟩
theorem SqTM.upd {D : Addr} {o : HO} {a : Addr} {xs : List V} (h : SqTM K (M.hide D) H a xs) : SqTM K (M.hide D) (upd H D o) a xs := by
  rcases h with h | h
  · exact .inl ⟨h.1, by
      rw [upd_ne (fun z => h.1 (.inr (by rw [z]; exact List.mem_cons_self)))]
      exact h.2⟩
  · exact .inr h
theorem SqFM.upd {D : Addr} {o : HO} {a : Addr} {xs : List V} (h : SqFM K (M.hide D) H a xs) : SqFM K (M.hide D) (upd H D o) a xs := by
  rcases h with h | h
  · have z : a ≠ D := fun z => h.1 (.inr (by rw [z]; exact List.mem_cons_self))
    exact .inl ⟨h.1, by
      unfold Rd
      rw [upd_ne z]
      exact h.2⟩
  · exact .inr h
mutual
theorem Rep.upd {D : Addr} {o : HO} : ∀ {v : V} {d : DL.D}, Rep K (M.hide D) H v d → Rep K (M.hide D) (L2.upd H D o) v d
  | _, _, .non => .non
  | _, _, .bl b => .bl b
  | _, _, .int i => .int i
  | _, _, .str x => .str x
  | _, _, .tup h r => .tup h.upd (Reps.upd r)
  | _, _, .lst h r => .lst h.upd (Reps.upd r)
  | _, _, .obj h => .obj h
  | _, _, .ref a => .ref a
  | _, _, .frz h r => .frz h.upd (Reps.upd r)
theorem Reps.upd {D : Addr} {o : HO} : ∀ {vs : List V} {ds : List DL.D}, Reps K (M.hide D) H vs ds → Reps K (M.hide D) (L2.upd H D o) vs ds
  | _, _, .nil => .nil
  | _, _, .cons r t => .cons (Rep.upd r) (Reps.upd t)
end
theorem RepF.upd {D : Addr} {o : HO} : ∀ {vs : List (Str × V)} {ds : List (Str × DL.D)}, RepF K (M.hide D) H vs ds → RepF K (M.hide D) (L2.upd H D o) vs ds
  | _, _, .nil => .nil
  | _, _, .cons r t => .cons r.upd (RepF.upd t)
theorem RepK.upd {D : Addr} {o : HO} : ∀ {vs : List (Key × V)} {ds : List (Key × DL.D)}, RepK K (M.hide D) H vs ds → RepK K (M.hide D) (L2.upd H D o) vs ds
  | _, _, .nil => .nil
  | _, _, .cons r t => .cons r.upd (RepK.upd t)
theorem RepE.upd {D : Addr} {o : HO} (h : RepE K (M.hide D) H σ ρ) : RepE K (M.hide D) (L2.upd H D o) σ ρ := ⟨h.len, fun i d e => by
  obtain ⟨v, a, b⟩ := h.at i d e
  exact ⟨v, a, b.upd⟩⟩
theorem HS.upd {D : Addr} {o : HO} (h : HS K (M.hide D) S H) : HS K (M.hide D) S (L2.upd H D o) := by
  have hD : D ∉ M.o := (h.pv D List.mem_cons_self).1
  refine ⟨h.len, h.nd, fun b hb => ⟨(h.pv b hb).1, ?_⟩, fun n a mo h1 h2 => ?_⟩
  · by_cases z : b = D
    · subst z; exact ⟨o, upd_same⟩
    · obtain ⟨_, x, e⟩ := h.pv b hb
      exact ⟨x, by rw [upd_ne z]; exact e⟩
  · have ha : a ≠ D := fun z => hD (z ▸ List.mem_of_getElem? h1)
    have q := h.at n a mo h1 h2
    cases mo with
    | lst ds => obtain ⟨xs, q, r⟩ := q; exact ⟨xs, by rw [upd_ne ha]; exact q, r.upd⟩
    | ins C fs => obtain ⟨dx, vs, q, r⟩ := q; exact ⟨dx, vs, by rw [upd_ne ha]; exact q, r.upd⟩
    | dct kvs => obtain ⟨vs, q, r⟩ := q; exact ⟨vs, by rw [upd_ne ha]; exact q, r.upd⟩
    | dead => obtain ⟨x, q⟩ := q; exact ⟨x, by rw [upd_ne ha]; exact q⟩
/-- hidden from now on (D is new) -/
theorem SqLM.hide {D : Addr} (hD : H D = none) {a : Addr} {xs : List V} (h : SqLM K M H a xs) : SqLM K (M.hide D) H a xs := ⟨fun z => by
  rcases z with z | z
  · exact h.1 (.inl z)
  · rcases List.mem_cons.mp z with z | z
    · rw [z] at h; have := h.2; rw [hD] at this; cases this
    · exact h.1 (.inr z), h.2⟩
theorem SqTM.hide {D : Addr} (hD : H D = none) {a : Addr} {xs : List V} (h : SqTM K M H a xs) : SqTM K (M.hide D) H a xs := by
  rcases h with h | h
  · exact .inl ⟨fun z => by
      rcases z with z | z
      · exact h.1 (.inl z)
      · rcases List.mem_cons.mp z with z | z
        · rw [z] at h; have := h.2; rw [hD] at this; cases this
        · exact h.1 (.inr z), h.2⟩
  · exact .inr h
theorem SqFM.hide {D : Addr} (hD : H D = none) {a : Addr} {xs : List V} (h : SqFM K M H a xs) : SqFM K (M.hide D) H a xs := by
  rcases h with h | h
  · refine .inl ⟨fun z => ?_, h.2⟩
    rcases z with z | z
    · exact h.1 (.inl z)
    · rcases List.mem_cons.mp z with z | z
      · subst z
        rcases h.2 with q | ⟨o, q⟩ <;> (rw [hD] at q; cases q)
      · exact h.1 (.inr z)
  · exact .inr h
mutual
theorem Rep.hide {D : Addr} (hD : H D = none) : ∀ {v : V} {d : DL.D}, Rep K M H v d → Rep K (M.hide D) H v d
  | _, _, .non => .non
  | _, _, .bl b => .bl b
  | _, _, .int i => .int i
  | _, _, .str x => .str x
  | _, _, .tup h r => .tup (h.hide hD) (Reps.hide hD r)
  | _, _, .lst h r => .lst (h.hide hD) (Reps.hide hD r)
  | _, _, .obj h => .obj h
  | _, _, .ref a => .ref a
  | _, _, .frz h r => .frz (h.hide hD) (Reps.hide hD r)
theorem Reps.hide {D : Addr} (hD : H D = none) : ∀ {vs : List V} {ds : List DL.D}, Reps K M H vs ds → Reps K (M.hide D) H vs ds
  | _, _, .nil => .nil
  | _, _, .cons r t => .cons (Rep.hide hD r) (Reps.hide hD t)
end
theorem RepF.hide {D : Addr} (hD : H D = none) : ∀ {vs : List (Str × V)} {ds : List (Str × DL.D)}, RepF K M H vs ds → RepF K (M.hide D) H vs ds
  | _, _, .nil => .nil
  | _, _, .cons r t => .cons (r.hide hD) (RepF.hide hD t)
theorem RepK.hide {D : Addr} (hD : H D = none) : ∀ {vs : List (Key × V)} {ds : List (Key × DL.D)}, RepK K M H vs ds → RepK K (M.hide D) H vs ds
  | _, _, .nil => .nil
  | _, _, .cons r t => .cons (r.hide hD) (RepK.hide hD t)
/-- a new thing, hidden: the state behind -/
theorem HS.hideNew {D : Addr} {o : HO} (h : HS K M S H) (hD : H D = none) : HS K (M.hide D) S (L2.upd H D o) := by
  have e : Ext M H M (L2.upd H D o) := Ext.same h (Same.new hD)
  refine ⟨h.len, h.nd, fun b hb => ?_, fun n a mo h1 h2 => ?_⟩
  · rcases List.mem_cons.mp hb with z | z
    · subst z; exact ⟨h.freshO hD, o, upd_same⟩
    · obtain ⟨h1, x, e⟩ := h.pv b z
      exact ⟨h1, x, Same.new hD b x e⟩
  · have ha : a ≠ D := fun z => h.freshO hD (z ▸ List.mem_of_getElem? h1)
    have q := h.at n a mo h1 h2
    cases mo with
    | lst ds => obtain ⟨xs, q, r⟩ := q; exact ⟨xs, by rw [upd_ne ha]; exact q, (r.hide hD).upd⟩
    | ins C fs => obtain ⟨dx, vs, q, r⟩ := q; exact ⟨dx, vs, by rw [upd_ne ha]; exact q, (r.hide hD).upd⟩
    | dct kvs => obtain ⟨vs, q, r⟩ := q; exact ⟨vs, by rw [upd_ne ha]; exact q, (r.hide hD).upd⟩
    | dead => obtain ⟨x, q⟩ := q; exact ⟨x, by rw [upd_ne ha]; exact q⟩
/-- shown again -/
theorem SqLM.show_ {D : Addr} {a : Addr} {xs : List V} (h : SqLM K (M.hide D) H a xs) : SqLM K M H a xs := ⟨fun z => h.1 (z.imp id (List.mem_cons_of_mem _)), h.2⟩
theorem SqTM.show_ {D : Addr} {a : Addr} {xs : List V} (h : SqTM K (M.hide D) H a xs) : SqTM K M H a xs := by
  rcases h with h | h
  · exact .inl ⟨fun z => h.1 (z.imp id (List.mem_cons_of_mem _)), h.2⟩
  · exact .inr h
theorem SqFM.show_ {D : Addr} {a : Addr} {xs : List V} (h : SqFM K (M.hide D) H a xs) : SqFM K M H a xs := by
  rcases h with h | h
  · exact .inl ⟨fun z => h.1 (z.imp id (List.mem_cons_of_mem _)), h.2⟩
  · exact .inr h
mutual
theorem Rep.show_ {D : Addr} : ∀ {v : V} {d : DL.D}, Rep K (M.hide D) H v d → Rep K M H v d
  | _, _, .non => .non
  | _, _, .bl b => .bl b
  | _, _, .int i => .int i
  | _, _, .str x => .str x
  | _, _, .tup h r => .tup h.show_ (Reps.show_ r)
  | _, _, .lst h r => .lst h.show_ (Reps.show_ r)
  | _, _, .obj h => .obj h
  | _, _, .ref a => .ref a
  | _, _, .frz h r => .frz h.show_ (Reps.show_ r)
theorem Reps.show_ {D : Addr} : ∀ {vs : List V} {ds : List DL.D}, Reps K (M.hide D) H vs ds → Reps K M H vs ds
  | _, _, .nil => .nil
  | _, _, .cons r t => .cons (Rep.show_ r) (Reps.show_ t)
end
theorem RepF.show_ {D : Addr} : ∀ {vs : List (Str × V)} {ds : List (Str × DL.D)}, RepF K (M.hide D) H vs ds → RepF K M H vs ds
  | _, _, .nil => .nil
  | _, _, .cons r t => .cons r.show_ (RepF.show_ t)
theorem RepK.show_ {D : Addr} : ∀ {vs : List (Key × V)} {ds : List (Key × DL.D)}, RepK K (M.hide D) H vs ds → RepK K M H vs ds
  | _, _, .nil => .nil
  | _, _, .cons r t => .cons r.show_ (RepK.show_ t)
theorem HS.show_ {D : Addr} (h : HS K (M.hide D) S H) : HS K M S H := ⟨h.len, h.nd, fun b hb => h.pv b (List.mem_cons_of_mem _ hb), fun n a mo h1 h2 => by
  have q := h.at n a mo h1 h2
  cases mo with
  | lst ds => obtain ⟨xs, q, r⟩ := q; exact ⟨xs, q, r.show_⟩
  | ins C fs => obtain ⟨dx, vs, q, r⟩ := q; exact ⟨dx, vs, q, r.show_⟩
  | dct kvs => obtain ⟨vs, q, r⟩ := q; exact ⟨vs, q, r.show_⟩
  | dead => obtain ⟨x, q⟩ := q; exact ⟨x, q⟩⟩
/-- over a hidden thing's life -/
theorem Ext.over {D : Addr} {M1 : Mp} {H1 : Hp} {o : HO} (hs : HS K M S H) (hD : H D = none) (e : Ext (M.hide D) (L2.upd H D o) M1 H1) : ∃ M2 : Mp, M1 = M2.hide D ∧ Ext M H M2 H1 := by
  obtain ⟨l, el, hl⟩ := e.more
  have ep := e.priv
  refine ⟨⟨M1.o, M.p⟩, by cases M1; simp only [Mp.hide] at ep ⊢; rw [ep], ⟨l, el, fun a ha => ?_⟩, rfl, fun b x hb q => ?_, fun b hb => e.stay b hb⟩
  · have := hl a ha
    cases q : H a with
    | none => rfl
    | some x => rw [Same.new hD a x q] at this; cases this
  · exact e.keep b x hb (Same.new hD b x q)
end
end DL
namespace DL
open PySem PySem.Spec PyProof.Rows L2

/-! ### weakening -/
section
variable {X : Cx}
theorem peI {e : Expr} {t t' : TE} (h : PE X e t) (w : ∀ σ H Q, t' σ H Q → t σ H Q) : PE X e t' := ⟨fun pins s σ H Q I q => h.run pins s σ H Q I (w σ H Q q)⟩
theorem ptI {e : Expr} {t t' : TT} (h : PT X e t) (w : ∀ σ H Q, t' σ H Q → t σ H Q) : PT X e t' := ⟨fun pins s σ H Q I q => h.run pins s σ H Q I (w σ H Q q)⟩
theorem pwI {e : Expr} {t t' : TT} (h : PW X e t) (w : ∀ σ H Q, t' σ H Q → t σ H Q) : PW X e t' := ⟨fun whole pins s σ H Q I q => h.run whole pins s σ H Q I (w σ H Q q)⟩
theorem paI {es : List Expr} {t t' : TA} (h : PA X es t) (w : ∀ σ H Q, t' σ H Q → t σ H Q) : PA X es t' := ⟨fun pos pins s σ H Q I q => h.run pos pins s σ H Q I (w σ H Q q)⟩
theorem poI {e : Option Expr} {t t' : TO} (h : PO X e t) (w : ∀ σ H Q, t' σ H Q → t σ H Q) : PO X e t' := ⟨fun pins s σ H Q I q => h.run pins s σ H Q I (w σ H Q q)⟩
theorem psI {e : Stmt} {t t' : TS} (h : PS X e t) (w : ∀ D σ H, t' D σ H → t D σ H) : PS X e t' := ⟨fun pins s σ H D I q => h.run pins s σ H D I (w D σ H q)⟩
theorem pssI {e : List Stmt} {t t' : TS} (h : PSs X e t) (w : ∀ D σ H, t' D σ H → t D σ H) : PSs X e t' := ⟨fun pins s σ H D I q => h.run pins s σ H D I (w D σ H q)⟩
end

/-! ### what is wanted of a result -/
def ExR (K : PySem.W.Frag) (M : Mp) (H : Hp) (e : Exn) (cls : Value) (dd : Option Addr) : Prop :=
  PySem.W.nsIn K mainGlobals e.nm = some (some cls) ∧ ((e.fs = [] ∧ dd = none) ∨ ∃ d vs, dd = some d ∧ ¬ M.In d ∧ H d = some (.xd vs) ∧ RepF K M H vs e.fs)
def wpG {α β : Type} (rel : Mp → Hp → β → α → Prop) (K : PySem.W.Frag) (W : WX) (σ : L2.St) (M : Mp) (H : Hp) (r : R α) (Q : β → Hp → Prop) : Prop := match r with
  | .ok a S' => ∀ M' v H', Ext M H M' H' → rel M' H' v a → HS K M' S' H' → Q v H'
  | .ex e S' => ∀ M' H' cls dd, Ext M H M' H' → HS K M' S' H' → ExR K M' H' e cls dd → W cls dd σ H'
  | .bad => False
section
variable {α β γ δ : Type} {rel : Mp → Hp → β → α → Prop} {rel2 : Mp → Hp → δ → γ → Prop} {K : PySem.W.Frag} {W : WX} {σ : L2.St} {M M' : Mp} {H H' : Hp} {S S' : Sto} {ρ : Rho}
theorem wpG.ext {r : R α} {Q : β → Hp → Prop} (e : Ext M H M' H') (h : wpG rel K W σ M H r Q) : wpG rel K W σ M' H' r Q := by
  cases r with
  | ok a S' => exact fun M2 v H2 e2 r hs => h M2 v H2 (e.trans e2) r hs
  | ex x S' => exact fun M2 H2 cls dd e2 hs q => h M2 H2 cls dd (e.trans e2) hs q
  | bad => exact h
theorem wpG.imp {r : R α} {Q Q' : β → Hp → Prop} (h : wpG rel K W σ M H r Q) (q : ∀ v H, Q v H → Q' v H) : wpG rel K W σ M H r Q' := by
  cases r with
  | ok a S' => exact fun M2 v H2 e2 r hs => q _ _ (h M2 v H2 e2 r hs)
  | ex x S' => exact h
  | bad => exact h
theorem wpG.bind {r : R α} {k : α → Sto → R γ} {Q : δ → Hp → Prop} {Q1 : β → Hp → Prop} (h : wpG rel2 K W σ M H (r.bind k) Q)
    (q : ∀ M1 v H1 a S1, Ext M H M1 H1 → rel M1 H1 v a → HS K M1 S1 H1 → wpG rel2 K W σ M1 H1 (k a S1) Q → Q1 v H1) : wpG rel K W σ M H r Q1 := by
  cases r with
  | ok a S' => exact fun M1 v H1 e r hs => q M1 v H1 a S' e r hs (wpG.ext e h)
  | ex x S' => exact h
  | bad => exact h
theorem wp_val {v : V} {d : D} {Q : VK} (hs : HS K M S H) (r : Rep K M H v d) (h : wpG (Rep K) K W σ M H (.ok d S) Q) : Q v H := h M v H (Ext.refl hs) r hs
theorem wp_newL {xs : List V} {ds : List D} {Q : VK} (hs : HS K M S H) (r : Reps K M H xs ds) (h : wpG (Rep K) K W σ M H (.ok (.lst ds) S) Q) : ∀ p, H p = none → Q (.ref p) (upd H p (.lst xs)) :=
  fun p hp => h M _ _ (Ext.same hs (Same.new hp)) (Rep.newL hs hp r) (hs.same (Same.new hp))
theorem wp_newT {xs : List V} {ds : List D} {Q : VK} (hs : HS K M S H) (r : Reps K M H xs ds) (h : wpG (Rep K) K W σ M H (.ok (.tup ds) S) Q) : ∀ p, H p = none → Q (.ref p) (upd H p (.tup xs)) :=
  fun p hp => h M _ _ (Ext.same hs (Same.new hp)) (Rep.newT hs hp r) (hs.same (Same.new hp))
end
/-! ### the readings by data -/
def tD (K : PySem.W.Frag) (W : WX) (f : Ee) : TE := fun σ H Q => ∃ M ρ S, RepE K M H σ ρ ∧ HS K M S H ∧ wpG (Rep K) K W σ M H (f ρ S) Q
def tDT (K : PySem.W.Frag) (W : WX) (f : Et) : TT := fun σ H Q => ∃ M ρ S, RepE K M H σ ρ ∧ HS K M S H ∧ wpG (fun _ _ (b c : Bool) => b = c) K W σ M H (f ρ S) Q
def tDA (K : PySem.W.Frag) (W : WX) (f : Ea) : TA := fun σ H Q => ∃ M ρ S, RepE K M H σ ρ ∧ HS K M S H ∧ wpG (Reps K) K W σ M H (f ρ S) Q
abbrev DE (X : Cx) (W : WX) (e : Expr) (f : Ee) : Prop := PE X e (tD X.K W f)
abbrev DT (X : Cx) (W : WX) (e : Expr) (f : Et) : Prop := PT X e (tDT X.K W f)
abbrev DA (X : Cx) (W : WX) (e : List Expr) (f : Ea) : Prop := PA X e (tDA X.K W f)

section
variable {X : Cx} {W : WX} {pos : Pos}
def eVar (i : Nat) : Ee := fun ρ S => match ρ[i]? with
  | some (some d) => .ok d S
  | _ => .bad
theorem de_var {e : Expr} {i : Nat} (h : PE X e (tVar i)) : DE X W e (eVar i) := peI h fun σ H Q ⟨M, ρ, S, hr, hs, w⟩ => by
  unfold eVar at w
  match e : ρ[i]? with
  | some (some d) =>
    rw [e] at w
    obtain ⟨v, hv, r⟩ := hr.at i d e
    exact ⟨v, hv, wp_val hs r w⟩
  | some none => rw [e] at w; exact w.elim
  | none => rw [e] at w; exact w.elim
def eK (d : D) : Ee := fun _ S => .ok d S
theorem de_K {e : Expr} {v : V} {d : D} (h : PE X e (tC v)) (r : ∀ M H, Rep X.K M H v d) : DE X W e (eK d) := peI h fun σ H Q ⟨M, ρ, S, hr, hs, w⟩ => wp_val hs (r M H) w
theorem de_int {i j pos} : DE X W (.Constant (.int i) j pos) (eK (.int i)) := de_K pe_int fun _ _ => .int i
theorem de_bl {b j pos} : DE X W (.Constant (.bool b) j pos) (eK (.bl b)) := de_K pe_bl fun _ _ => .bl b
theorem de_non {j pos} : DE X W (.Constant .none j pos) (eK .non) := de_K pe_non fun _ _ => .non
theorem de_str {x j pos} : DE X W (.Constant (.str x) j pos) (eK (.str x)) := de_K pe_str fun _ _ => .str x

/-! ### two-place operations -/
def OpD (K : PySem.W.Frag) (r : R2) (g : D → D → Sto → R D) : Prop := ∀ (W : WX) (σ : L2.St) (M : Mp) (H : Hp) (S : Sto) (x y : V) (d1 d2 : D) (Q : VK), HS K M S H → Rep K M H x d1 → Rep K M H y d2 → wpG (Rep K) K W σ M H (g d1 d2 S) Q → r x y H Q
def eBin (g : D → D → Sto → R D) (a b : Ee) : Ee := fun ρ S => (a ρ S).bind fun x S1 => (b ρ S1).bind fun y S2 => g x y S2
theorem tD_op {K : PySem.W.Frag} {r : R2} {g : D → D → Sto → R D} {fa fb : Ee} (hg : OpD K r g) : ∀ σ H Q, tD K W (eBin g fa fb) σ H Q → tOp r (tD K W fa) (tD K W fb) σ H Q :=
  fun σ H Q ⟨M, ρ, S, hr, hs, w⟩ => ⟨M, ρ, S, hr, hs, wpG.bind w fun M1 x H1 d1 S1 e1 r1 hs1 w1 =>
    ⟨M1, ρ, S1, hr.mono e1, hs1, wpG.bind w1 fun M2 y H2 d2 S2 e2 r2 hs2 w2 => hg W σ M2 H2 S2 x y d1 d2 Q hs2 (r1.mono e2) r2 w2⟩⟩
variable {a b c : Expr} {fa fb fc : Ee}
theorem de_bin {op : Operator} {r : R2} {g : D → D → Sto → R D} (ho : OpR X (binaryOp op) r) (hg : OpD X.K r g) (ha : DE X W a fa) (hb : DE X W b fb) : DE X W (.BinOp a op b pos) (eBin g fa fb) := peI (pe_op ho ha hb) (tD_op hg)
theorem de_cmp {op : CmpOp} {r : R2} {g : D → D → Sto → R D} (ho : OpR X (compareOp op) r) (hg : OpD X.K r g) (ha : DE X W a fa) (hb : DE X W b fb) (hm : behindInMarks op b = false) : DE X W (.Compare a [op] [b] pos) (eBin g fa fb) := peI (pe_cmpR ho ha hb hm) (tD_op hg)
/-- an expression's value as a truth: it is a bool -/
def eTb (a : Ee) : Et := fun ρ S => (a ρ S).bind fun x S1 => match x with
  | .bl b => .ok b S1
  | _ => .bad
theorem tD_test {K : PySem.W.Frag} {fa : Ee} : ∀ σ H Q, tDT K W (eTb fa) σ H Q → tTest (tD K W fa) σ H Q :=
  fun σ H Q ⟨M, ρ, S, hr, hs, w⟩ => ⟨M, ρ, S, hr, hs, wpG.bind w fun M1 x H1 d1 S1 e1 r1 hs1 w1 => by
    cases d1 with
    | bl b => cases r1; exact ⟨b, rfl, w1 M1 b H1 (Ext.refl hs1) rfl hs1⟩
    | _ => exact w1.elim⟩
theorem dt_cmp {op : CmpOp} {r : R2} {g : D → D → Sto → R D} (ho : OpR X (compareOp op) r) (hg : OpD X.K r g) (ha : DE X W a fa) (hb : DE X W b fb) (hm : behindInMarks op b = false) : DT X W (.Compare a [op] [b] pos) (eTb (eBin g fa fb)) :=
  ptI (pt_cmpR ho ha hb hm) fun σ H Q h => by
    obtain ⟨M, ρ, S, hr, hs, w⟩ := tD_test σ H Q h
    exact tD_op hg σ H _ ⟨M, ρ, S, hr, hs, w⟩
/-- a op1 b op2 c -/
def eChain (g g' : D → D → Sto → R D) (a b c : Ee) : Ee := fun ρ S => (a ρ S).bind fun x S1 => (b ρ S1).bind fun y S2 => (g x y S2).bind fun z S3 => match z with
  | .bl true => (c ρ S3).bind fun u S4 => g' y u S4
  | .bl false => .ok (.bl false) S3
  | _ => .bad
theorem tD_chain {K : PySem.W.Frag} {r r' : R2} {g g' : D → D → Sto → R D} {fa fb fc : Ee} (hg : OpD K r g) (hg' : OpD K r' g') : ∀ σ H Q, tD K W (eChain g g' fa fb fc) σ H Q → tChain r r' (tD K W fa) (tD K W fb) (tD K W fc) σ H Q :=
  fun σ H Q ⟨M, ρ, S, hr, hs, w⟩ => ⟨M, ρ, S, hr, hs, wpG.bind w fun M1 x H1 d1 S1 e1 r1 hs1 w1 =>
    ⟨M1, ρ, S1, hr.mono e1, hs1, wpG.bind w1 fun M2 y H2 d2 S2 e2 r2 hs2 w2 => hg W σ M2 H2 S2 x y d1 d2 _ hs2 (r1.mono e2) r2 (wpG.bind w2 fun M3 z H3 d3 S3 e3 r3 hs3 w3 => by
      cases d3 with
      | bl k =>
        cases r3
        refine ⟨k, rfl, ?_⟩
        cases k with
        | true =>
          rw [if_pos rfl]
          exact ⟨M3, ρ, S3, ((hr.mono e1).mono e2).mono e3, hs3, wpG.bind w3 fun M4 u H4 d4 S4 e4 r4 hs4 w4 => hg' W σ M4 H4 S4 y u d2 d4 Q hs4 ((r2.mono e3).mono e4) r4 w4⟩
        | false =>
          rw [if_neg Bool.false_ne_true]
          exact wp_val hs3 (.bl false) w3
      | _ => exact w3.elim)⟩⟩
theorem de_chain {op op' : CmpOp} {r r' : R2} {g g' : D → D → Sto → R D} (ho : OpR X (compareOp op) r) (ho' : OpR X (compareOp op') r') (hg : OpD X.K r g) (hg' : OpD X.K r' g') (ha : DE X W a fa) (hb : DE X W b fb) (hc : DE X W c fc)
    (hm : lastMarks [op, op'] [b, c] = false := by with_unfolding_all rfl) : DE X W (.Compare a [op, op'] [b, c] pos) (eChain g g' fa fb fc) := peI (pe_chain ho ho' ha hb hc hm) (tD_chain hg hg')
theorem dt_chain {op op' : CmpOp} {r r' : R2} {g g' : D → D → Sto → R D} (ho : OpR X (compareOp op) r) (ho' : OpR X (compareOp op') r') (hg : OpD X.K r g) (hg' : OpD X.K r' g') (ha : DE X W a fa) (hb : DE X W b fb) (hc : DE X W c fc)
    (hm : lastMarks [op, op'] [b, c] = false := by with_unfolding_all rfl) : DT X W (.Compare a [op, op'] [b, c] pos) (eTb (eChain g g' fa fb fc)) :=
  ptI (pt_chain ho ho' ha hb hc hm) fun σ H Q h => by
    obtain ⟨M, ρ, S, hr, hs, w⟩ := tD_test σ H Q h
    exact tD_chain hg hg' σ H _ ⟨M, ρ, S, hr, hs, w⟩

/-! ### truth, and, or, not, if -/
def view (S : Sto) : D → D
  | .obj n => match S[n]? with
    | some (.lst ds) => .lst ds
    | _ => .obj n
  | d => d
end
section
variable {K : PySem.W.Frag} {M : Mp} {H : Hp} {S : Sto} {v : V} {d : D}
theorem view_lst {ds : List D} (hs : HS K M S H) (r : Rep K M H v d) (e : view S d = .lst ds) : ∃ a xs, v = .ref a ∧ H a = some (.lst xs) ∧ Reps K M H xs ds := by
  cases r with
  | lst h r => simp only [view] at e; cases e; exact ⟨_, _, rfl, h.2, r⟩
  | @obj n a h =>
    match q : S[n]? with
    | some (.lst es) =>
      simp only [view, q] at e
      cases e
      obtain ⟨xs, h1, h2⟩ := hs.at n a _ h q
      exact ⟨a, xs, rfl, h1, h2⟩
    | some (.ins _ _) => simp only [view, q] at e; cases e
    | some (.dct _) => simp only [view, q] at e; cases e
    | some .dead => simp only [view, q] at e; cases e
    | none => simp only [view, q] at e; cases e
  | _ => simp only [view] at e; cases e
theorem view_obj {n : Nat} {d' : D} (e : view S (.obj n) = d') : (∃ ds, d' = .lst ds) ∨ d' = .obj n := by
  match q : S[n]? with
  | some (.lst es) => simp only [view, q] at e; exact .inl ⟨es, e.symm⟩
  | some (.ins _ _) => simp only [view, q] at e; exact .inr e.symm
  | some (.dct _) => simp only [view, q] at e; exact .inr e.symm
  | some .dead => simp only [view, q] at e; exact .inr e.symm
  | none => simp only [view, q] at e; exact .inr e.symm
theorem view_int {i : Int} (r : Rep K M H v d) (e : view S d = .int i) : v = .int i := by
  cases r with
  | int j => simp only [view] at e; cases e; rfl
  | obj h => rcases view_obj e with ⟨_, h⟩ | h <;> cases h
  | _ => simp only [view] at e; cases e
theorem view_str {i : Str} (r : Rep K M H v d) (e : view S d = .str i) : v = .str i := by
  cases r with
  | str j => simp only [view] at e; cases e; rfl
  | obj h => rcases view_obj e with ⟨_, h⟩ | h <;> cases h
  | _ => simp only [view] at e; cases e
theorem view_bl {i : Bool} (r : Rep K M H v d) (e : view S d = .bl i) : v = .bl i := by
  cases r with
  | bl j => simp only [view] at e; cases e; rfl
  | obj h => rcases view_obj e with ⟨_, h⟩ | h <;> cases h
  | _ => simp only [view] at e; cases e
theorem view_non (r : Rep K M H v d) (e : view S d = .non) : v = .non := by
  cases r with
  | non => rfl
  | obj h => rcases view_obj e with ⟨_, h⟩ | h <;> cases h
  | _ => simp only [view] at e; cases e
theorem view_tup {ds : List D} (r : Rep K M H v d) (e : view S d = .tup ds) : ∃ a xs, v = .ref a ∧ SqT K H a xs ∧ Reps K M H xs ds := by
  cases r with
  | tup h r => simp only [view] at e; cases e; exact ⟨_, _, rfl, h.seq, r⟩
  | obj h => rcases view_obj e with ⟨_, h⟩ | h <;> cases h
  | _ => simp only [view] at e; cases e
theorem view_frz {ds : List D} (r : Rep K M H v d) (e : view S d = .frz ds) : ∃ a xs, v = .ref a ∧ SqL K H a xs ∧ Reps K M H xs ds := by
  cases r with
  | frz h r => simp only [view] at e; cases e; exact ⟨_, _, rfl, h.seq, r⟩
  | obj h => rcases view_obj e with ⟨_, h⟩ | h <;> cases h
  | _ => simp only [view] at e; cases e
end
end DL
/-! tuple * int, the number from 0 on -/
namespace DL
open PySem PySem.Spec PyProof.Rows L2
theorem tuple_mulSame (l : Addr) (items : Array Value) (n : Nat) (dd : Option Addr) (sl : Array (Option Value)) (x : Int) (u : Tok) (c0 : (decide (x < -(2 ^ 63)) || decide (x ≥ 2 ^ 63)) = false) (c1 : (items.isEmpty || x == 1) = true) :
    Meets (Builtin.«tuple.__mul__» ⟨[.ref l, .int x u], []⟩) (fun _ R s => s.heap.get? l = some { cls := .type "tuple", dict := dd, data := .seq items n, slots := sl } ∧ R (.ok (.ret (Value.ref l))) s) :=
  .of_wp fun prog w A R s h => by
    obtain ⟨hp, g, d, tk, os⟩ := s
    obtain ⟨hl, h⟩ := h
    have f1 := AutoSeq1.idx_int
    have f2 : (Value.type "tuple" == Value.type "tuple") = true := by decide
    wp_walk using wpAny_loadPart' hl
    repeat (first
      | (refine wpAny_ite_false (decide_eq_false (by rw [c0]; exact Bool.false_ne_true)) ?_; wp_walk using wpAny_loadPart' hl)
      | (refine wpAny_ite_true (decide_eq_true (by rw [c1])) ?_; wp_walk using wpAny_loadPart' hl))
    exact ⟨_, rfl, h⟩
theorem tuple_mulNone (l : Addr) (items : Array Value) (n : Nat) (dd : Option Addr) (sl : Array (Option Value)) (x : Int) (u : Tok) (c0 : (decide (x < -(2 ^ 63)) || decide (x ≥ 2 ^ 63)) = false) (c1 : (items.isEmpty || x == 1) = false) (c2 : (decide (x ≤ 0) || items.isEmpty) = true) :
    Meets (Builtin.«tuple.__mul__» ⟨[.ref l, .int x u], []⟩) (fun _ R s => s.heap.get? l = some { cls := .type "tuple", dict := dd, data := .seq items n, slots := sl } ∧
      R (.ok (.ret (Value.ref s.heap.objs.size))) { s with heap := s.heap.push { cls := Value.type "tuple", data := Data.seq #[] }, toks := s.toks }) :=
  .of_wp fun prog w A R s h => by
    obtain ⟨hp, g, d, tk, os⟩ := s
    obtain ⟨hl, h⟩ := h
    have f1 := AutoSeq1.idx_int
    wp_walk using wpAny_loadPart' hl
    repeat (first
      | (refine wpAny_ite_false (decide_eq_false (by rw [c0]; exact Bool.false_ne_true)) ?_; wp_walk using wpAny_loadPart' hl)
      | (refine wpAny_ite_false (decide_eq_false (by rw [c1]; exact Bool.false_ne_true)) ?_; wp_walk using wpAny_loadPart' hl)
      | (refine wpAny_ite_true (decide_eq_true (by rw [c2])) ?_; wp_walk using wpAny_loadPart' hl))
    exact ⟨_, rfl, h⟩
def rRepT2 (K : PySem.W.Frag) : R2 := fun x y H Q => ∃ l k xs, x = .ref l ∧ y = .int k ∧ SqT K H l xs ∧ 0 ≤ k ∧ k ≤ 1000 ∧ xs.length ≤ 1000 ∧
  ((xs = [] ∨ k = 1) → Q (.ref l) H) ∧ (xs ≠ [] → k ≠ 1 → ∀ p, H p = none → Q (.ref p) (upd H p (.tup (List.replicate k.toNat xs).flatten)))
section
variable {X : Cx}
theorem op_repT2 : OpR X (binaryOp .Mult) (rRepT2 X.K) := by
  intro pins s σ H x y v u Q I rx ry h
  obtain ⟨l, k, xs, rfl, rfl, hT, h0, h2, hz, q1, q2⟩ := h
  by_cases hbig : xs ≠ [] ∧ 2 ≤ k
  · exact op_repT pins s σ H _ _ v u Q I rx ry ⟨l, k, xs, rfl, rfl, hT, hbig.1, hbig.2, h2, hz, q2 hbig.1 (by omega)⟩
  cases rx
  obtain ⟨t, rfl⟩ := ry
  obtain ⟨its, r, ⟨⟨cls, dd, data, sl⟩, ho, hc, n, hd⟩, hs⟩ := I.tuple hT
  simp only at hc hd
  subst hc hd
  have c0 : (decide (k < -(2 ^ 63)) || decide (k ≥ 2 ^ 63)) = false := by
    rw [decide_eq_false (by omega), decide_eq_false (by omega)] <;> rfl
  by_cases hsame : xs = [] ∨ k = 1
  · have c1 : (its.toArray.isEmpty || k == 1) = true := by
      rcases hsame with z | z
      · subst z
        cases r
        rfl
      · subst z
        simp
    exact wpAny_binaryOp_repeat_ref (T := "tuple") (U := "int") (by decide) ⟨_, ho, rfl⟩ (fun s' => typeIs_int s' k t) noFill_tuple_mul F.fills_int_mul F.slot_int_rmul repeat_tuple F.slot_int_index.lookup
      (call_meets F.slot_int_rmul (typeIs_int s k t) F.entry_int_rmul (F.args_int_rmul_2 _ _) (int_rmul_tuple k t l its.toArray n dd sl)
        ⟨ho, rfl, ⟨_, ho, rfl⟩, call_meets F.slot_tuple_mul ⟨_, ho, rfl⟩ F.entry_tuple_mul (F.args_tuple_mul_2 _ _) (tuple_mulSame l its.toArray n dd sl k t c0 c1) ⟨ho, ⟨.ref l, H, I, rfl, q1 hsame⟩⟩⟩)
  · have hne : xs ≠ [] := fun z => hsame (.inl z)
    have hk0 : k = 0 := by
      have : k ≠ 1 := fun z => hsame (.inr z)
      have : ¬ 2 ≤ k := fun z => hbig ⟨hne, z⟩
      omega
    subst hk0
    have hi : its.toArray.isEmpty = false := by
      cases r with
      | nil => exact absurd rfl hne
      | cons a b => rfl
    have c1 : (its.toArray.isEmpty || (0 : Int) == 1) = false := by rw [hi]; rfl
    have c2 : (decide ((0 : Int) ≤ 0) || its.toArray.isEmpty) = true := by rw [hi]; rfl
    refine wpAny_binaryOp_repeat_ref (T := "tuple") (U := "int") (by decide) ⟨_, ho, rfl⟩ (fun s' => typeIs_int s' 0 t) noFill_tuple_mul F.fills_int_mul F.slot_int_rmul repeat_tuple F.slot_int_index.lookup
      (call_meets F.slot_int_rmul (typeIs_int s 0 t) F.entry_int_rmul (F.args_int_rmul_2 _ _) (int_rmul_tuple 0 t l its.toArray n dd sl)
        ⟨ho, rfl, ⟨_, ho, rfl⟩, call_meets F.slot_tuple_mul ⟨_, ho, rfl⟩ F.entry_tuple_mul (F.args_tuple_mul_2 _ _) (tuple_mulNone l its.toArray n dd sl 0 t c0 c1 c2) ⟨ho, ?_⟩⟩)
    refine ⟨.ref s.heap.objs.size, _, I.laid (t' := s.toks) (o := .tup (List.replicate (0 : Int).toNat xs).flatten) (fun b ob q => Heap.get?_push_of_some _ q) (Nat.le_refl _) ?_, rfl, q2 hne (by decide) _ (I.hok.fresh (Nat.le_refl _))⟩
    exact ⟨by simp, [], .nil, IsTup.new _ _⟩
end
end DL
namespace DL
open PySem PySem.Spec PyProof.Rows L2

theorem line_eq : (sizeLine : Nat) = 16777216 := sizeLine_eq
theorem le_line {n : Nat} (h : n ≤ 16777216) : n ≤ sizeLine := by rw [line_eq]; exact h
theorem lt_line {n : Nat} (h : n < 16777216) : n < sizeLine := by rw [line_eq]; exact h

theorem isSubtype_int_bool : isSubtype (.type "int") (.type "bool") = pure false := by kernel_rfl
theorem gives_add_bool_int (p : Bool) (j : Int) (t : Tok) : Gives (Builtin.«int.__add__» ⟨[.bool p, .int j t], []⟩) (.int ((if p = true then (1 : Int) else 0) + j)) :=
  .of_wp fun M A E s Q h => by obtain ⟨hp, g, d, tk, os⟩ := s; wp_walk; exact ⟨_, rfl, h⟩
section
variable {prog : Program} {w : World} {A : Around} {E : Value → Shared → Prop} {s : Shared} {p : Bool} {j : Int} {t : Tok} {Q : Value → Shared → Prop}
theorem add_bool_int (h : Q (.int (b2i p + j) s.toks) { s with toks := s.toks + 1 }) : wpAny (model prog w) A (binaryOp .Add (.bool p) (.int j t)) Q E s :=
  binaryOp_left_gives (op := .Add) (T := "bool") (U := "int") (by decide) (typeIs_bool' s p) (fun s' => typeIs_int s' j t) F.fills_bool_add F.fills_int_add isSubtype_int_bool F.slot_bool_add F.slot_int_radd F.entry_int_add (F.args_int_add_2 _ _) (gives_add_bool_int p j t) trivial h
end
theorem op_add_bi {X : Cx} : OpR X (binaryOp .Add) (fun x y H Q => ∃ k j, x = .bl k ∧ y = .int j ∧ Q (.int (b2i k + j)) H) := by
  intro pins s σ H x y v u Q I rx ry h
  obtain ⟨k, j, rfl, rfl, q⟩ := h
  obtain ⟨t, rfl⟩ := ry
  cases rx
  exact add_bool_int ⟨.int (b2i k + j), H, I.tok _, ⟨_, rfl⟩, q⟩
/-! ### operators -/
def gAdd (d1 d2 : D) (S : Sto) : R D := match view S d1, view S d2 with
  | .int i, .int j => .ok (.int (i + j)) S
  | .str i, .str j => if i.length + j.length ≤ 16777216 then .ok (.str (i ++ j)) S else .bad
  | .tup xs, .tup ys => if xs.length + ys.length ≤ 16777216 then .ok (.tup (xs ++ ys)) S else .bad
  | .lst xs, .lst ys => if xs.length + ys.length ≤ 16777216 then .ok (.lst (xs ++ ys)) S else .bad
  | .bl p, .int j => .ok (.int ((if p = true then 1 else 0) + j)) S
  | _, _ => .bad
def gSub (d1 d2 : D) (S : Sto) : R D := match view S d1, view S d2 with
  | .int i, .int j => .ok (.int (i - j)) S
  | _, _ => .bad
def gMul (d1 d2 : D) (S : Sto) : R D := match view S d1, view S d2 with
  | .int i, .int j => if i.natAbs.log2 + j.natAbs.log2 < 1000000 then .ok (.int (i * j)) S else .bad
  | .lst xs, .int k => if Nat.ble k.natAbs 9223372036854775807 = true ∧ xs.length * k.toNat ≤ 16777216 then .ok (.lst (List.replicate k.toNat xs).flatten) S else .bad
  | .tup xs, .int k => if 0 ≤ k ∧ k ≤ 1000 ∧ xs.length ≤ 1000 then .ok (.tup (List.replicate k.toNat xs).flatten) S else .bad
  | _, _ => .bad
def gDiv (d1 d2 : D) (S : Sto) : R D := match view S d1, view S d2 with
  | .int i, .int j => if 0 < j ∧ j.natAbs.log2 < 9000 then .ok (.int (i / j)) S else .bad
  | _, _ => .bad
def gMod (d1 d2 : D) (S : Sto) : R D := match view S d1, view S d2 with
  | .int i, .int j => if 0 < j then .ok (.int (i % j)) S else .bad
  | _, _ => .bad
def gPow (d1 d2 : D) (S : Sto) : R D := match view S d1, view S d2 with
  | .int i, .int j => if 0 ≤ j ∧ j.toNat ≤ 1000000 ∧ i.natAbs < 18446744073709551616 then .ok (.int (i ^ j.toNat)) S else .bad
  | _, _ => .bad
def gI2 (p : Int → Int → Bool) (d1 d2 : D) (S : Sto) : R D := match view S d1, view S d2 with
  | .int i, .int j => .ok (.bl (p i j)) S
  | _, _ => .bad
abbrev gLt := gI2 fun i j => decide (i < j)
abbrev gLe := gI2 fun i j => decide (i ≤ j)
abbrev gGt := gI2 fun i j => decide (j < i)
abbrev gGe := gI2 fun i j => decide (j ≤ i)
mutual
def toPy : D → Option PyData
  | .non => some .none
  | .bl b => some (.bool b)
  | .int i => some (.int i)
  | .str x => some (.str x)
  | .tup xs => match toPys xs with
    | some ps => some (.tuple ps)
    | none => none
  | .lst xs => match toPys xs with
    | some ps => some (.list ps)
    | none => none
  | _ => none
def toPys : List D → Option (List PyData)
  | [] => some []
  | d :: ds => match toPy d, toPys ds with
    | some p, some ps => some (p :: ps)
    | _, _ => none
end
def gEqB (neg : Bool) (d1 d2 : D) (S : Sto) : R D := match toPy (view S d1), toPy (view S d2) with
  | some p, some q => if SeqAt.shaped p = true ∧ SeqAt.shaped q = true then .ok (.bl (if neg then !PyData.eqv p q else PyData.eqv p q)) S else .bad
  | _, _ => .bad
abbrev gEq := gEqB false
abbrev gNe := gEqB true
def isNon : D → Bool
  | .non => true
  | _ => false
def gIsN (d1 d2 : D) (S : Sto) : R D := match d2 with
  | .non => .ok (.bl (isNon d1)) S
  | _ => .bad
def gNotN (d1 d2 : D) (S : Sto) : R D := match d2 with
  | .non => .ok (.bl (!isNon d1)) S
  | _ => .bad
def flatD : D → Bool
  | .non => true
  | .bl _ => true
  | .int _ => true
  | .str _ => true
  | _ => false
def eqF : D → D → Bool
  | .non, .non => true
  | .bl a, .bl b => a == b
  | .bl a, .int b => (if a then 1 else 0) == b
  | .int a, .bl b => a == (if b then 1 else 0)
  | .int a, .int b => a == b
  | .str a, .str b => a == b
  | _, _ => false
def gInB (neg : Bool) (d1 d2 : D) (S : Sto) : R D := match view S d2 with
  | .lst xs => if flatD d1 && xs.all flatD then .ok (.bl (if neg then !xs.any (fun y => eqF y d1) else xs.any (fun y => eqF y d1))) S else match toPy d1, toPy (.lst xs) with
    | some p, some (.list ps) => if SeqAt.shaped p && SeqAt.shaped (.list ps) then .ok (.bl (if neg then !ps.any (fun z => PyData.eqv z p) else ps.any (fun z => PyData.eqv z p))) S else .bad
    | _, _ => .bad
  | .tup xs => if flatD d1 && xs.all flatD then .ok (.bl (if neg then !xs.any (fun y => eqF y d1) else xs.any (fun y => eqF y d1))) S else .bad
  | _ => .bad
abbrev gIn := gInB false
abbrev gNotIn := gInB true

section
variable {K : PySem.W.Frag} {M : Mp} {H : Hp} {S : Sto} {v : V} {d : D}
theorem view_tup' {ds : List D} (r : Rep K M H v d) (e : view S d = .tup ds) : d = .tup ds := by
  cases d with
  | obj n => rcases view_obj e with ⟨_, h⟩ | h <;> cases h
  | _ => simp only [view] at e; exact e
mutual
theorem Rep.dp : ∀ {d : D} {v : V} {p : PyData}, Rep K M H v d → toPy d = some p → Dp K H v p
  | .non, _, _, .non, e => by simp only [toPy] at e; cases e; exact .non
  | .bl b, _, _, .bl _, e => by simp only [toPy] at e; cases e; exact .bl b
  | .int i, _, _, .int _, e => by simp only [toPy] at e; cases e; exact .int i
  | .str x, _, _, .str _, e => by simp only [toPy] at e; cases e; exact .str x
  | .tup ds, _, _, .tup h r, e => by
    simp only [toPy] at e
    split at e
    · rename_i ps hp; cases e; exact .tup h.seq (Reps.dp r hp)
    · cases e
  | .lst ds, _, _, .lst h r, e => by
    simp only [toPy] at e
    split at e
    · rename_i ps hp; cases e; exact .lst h.seq (Reps.dp r hp)
    · cases e
  | .obj n, _, _, .obj _, e => by simp only [toPy] at e; cases e
  | .ref n, _, _, .ref _, e => by simp only [toPy] at e; cases e
  | .frz n, _, _, .frz _ _, e => by simp only [toPy] at e; cases e
theorem Reps.dp : ∀ {ds : List D} {vs : List V} {ps : List PyData}, Reps K M H vs ds → toPys ds = some ps → DpAll K H vs ps
  | [], _, _, .nil, e => by simp only [toPys] at e; cases e; exact .nil
  | d :: ds, _, _, .cons r t, e => by
    simp only [toPys] at e
    split at e
    · rename_i p ps h1 h2; cases e; exact .cons (Rep.dp r h1) (Reps.dp t h2)
    · cases e
end
theorem vdp {p : PyData} (hs : HS K M S H) (r : Rep K M H v d) (e : toPy (view S d) = some p) : Dp K H v p := by
  cases d with
  | obj n =>
    cases hv : view S (.obj n) with
    | lst ds =>
      rw [hv] at e
      obtain ⟨a, xs, rfl, h1, h2⟩ := view_lst hs r hv
      simp only [toPy] at e
      split at e
      · rename_i ps hp; cases e; exact .lst (SqL.of h1) (Reps.dp h2 hp)
      · cases e
    | _ => rcases view_obj hv with ⟨_, h⟩ | h <;> first | cases h | skip
           all_goals (rw [hv] at e; simp only [toPy] at e; cases e)
  | _ => exact r.dp (by simpa only [view] using e)
theorem Reps.flat : ∀ {vs : List V} {ds : List D}, Reps K M H vs ds → ds.all flatD = true → vs.all flatV = true
  | _, _, .nil, _ => rfl
  | _, _, .cons r t, h => by
    rw [List.all_cons, Bool.and_eq_true] at h ⊢
    refine ⟨?_, Reps.flat t h.2⟩
    cases r <;> first | rfl | exact absurd h.1 (by simp [flatD])
theorem Rep.flat (r : Rep K M H v d) (h : flatD d = true) : flatV v = true := by
  cases r <;> first | rfl | exact absurd h (by simp [flatD])
theorem eqF_V {v w : V} {d e : D} (r : Rep K M H v d) (q : Rep K M H w e) (h : flatD d = true) (h' : flatD e = true) : eqV v w = eqF d e := by
  cases r <;> cases q <;> first | rfl | exact absurd h (by simp [flatD]) | exact absurd h' (by simp [flatD])
theorem any_eqF {w : V} {e : D} (q : Rep K M H w e) (h' : flatD e = true) : ∀ {vs : List V} {ds : List D}, Reps K M H vs ds → ds.all flatD = true → vs.any (fun y => eqV y w) = ds.any fun y => eqF y e
  | _, _, .nil, _ => rfl
  | _, _, .cons r t, h => by
    rw [List.all_cons, Bool.and_eq_true] at h
    rw [List.any_cons, List.any_cons, eqF_V r q h.1 h', any_eqF q h' t h.2]
theorem isNon_V (r : Rep K M H v d) : decide (v = .non) = isNon d := by cases r <;> rfl
end
section
variable {K : PySem.W.Frag}
abbrev rAddS : R2 := fun x y H Q => ∃ i j, x = .str i ∧ y = .str j ∧ i.length + j.length ≤ sizeLine ∧ Q (.str (i ++ j)) H
abbrev rAddD (K : PySem.W.Frag) : R2 := fun x y H Q => rI0 (fun i j => .int (i + j)) x y H Q ∨ rAddS x y H Q ∨ rCatA K x y H Q ∨ rCat x y H Q ∨ ∃ k j, x = .bl k ∧ y = .int j ∧ Q (.int (b2i k + j)) H
theorem od_add : OpD K (rAddD K) gAdd := by
  intro W σ M H S x y d1 d2 Q hs r1 r2 w
  unfold gAdd at w
  split at w
  · rename_i i j e1 e2
    exact .inl ⟨i, j, view_int r1 e1, view_int r2 e2, wp_val hs (.int _) w⟩
  · rename_i i j e1 e2
    split at w
    · rename_i hl
      exact .inr (.inl ⟨i, j, view_str r1 e1, view_str r2 e2, le_line hl, wp_val hs (.str _) w⟩)
    · exact w.elim
  · rename_i xs ys e1 e2
    split at w
    · rename_i hl
      have f1 := view_tup' r1 e1
      have f2 := view_tup' r2 e2
      obtain ⟨a, vs, rfl, h1, q1⟩ := view_tup r1 e1
      obtain ⟨b, ws, rfl, h2, q2⟩ := view_tup r2 e2
      refine .inr (.inr (.inl ⟨a, b, vs, ws, rfl, rfl, h1, h2, le_line (by rw [q1.length, q2.length]; exact hl), fun z => ?_, fun z z2 => ?_, fun _ _ => wp_newT hs (q1.append q2) w⟩))
      · subst z
        cases q1
        rw [List.nil_append, ← f2] at w
        exact wp_val hs r2 w
      · subst z2
        cases q2
        rw [List.append_nil, ← f1] at w
        exact wp_val hs r1 w
    · exact w.elim
  · rename_i xs ys e1 e2
    split at w
    · rename_i hl
      obtain ⟨a, vs, rfl, h1, q1⟩ := view_lst hs r1 e1
      obtain ⟨b, ws, rfl, h2, q2⟩ := view_lst hs r2 e2
      exact .inr (.inr (.inr (.inl ⟨a, b, vs, ws, rfl, rfl, h1, h2, le_line (by rw [q1.length, q2.length]; exact hl), wp_newL hs (q1.append q2) w⟩)))
    · exact w.elim
  · rename_i p j e1 e2
    exact .inr (.inr (.inr (.inr ⟨p, j, view_bl r1 e1, view_int r2 e2, wp_val hs (.int _) w⟩)))
  · exact w.elim
theorem op_addD {X : Cx} : OpR X (binaryOp .Add) (rAddD X.K) := OpR.or op_add (OpR.or op_add_str (OpR.or op_catA (OpR.or op_cat op_add_bi)))
theorem od_sub : OpD K (rI0 fun i j => .int (i - j)) gSub := by
  intro W σ M H S x y d1 d2 Q hs r1 r2 w
  unfold gSub at w
  split at w
  · rename_i i j e1 e2
    exact ⟨i, j, view_int r1 e1, view_int r2 e2, wp_val hs (.int _) w⟩
  · exact w.elim
abbrev rMulD (K : PySem.W.Frag) : R2 := fun x y H Q => rI CMulW (fun i j => .int (i * j)) x y H Q ∨ rRep x y H Q ∨ rRepT2 K x y H Q
theorem od_mul : OpD K (rMulD K) gMul := by
  intro W σ M H S x y d1 d2 Q hs r1 r2 w
  unfold gMul at w
  split at w
  · rename_i i j e1 e2
    split at w
    · rename_i hl
      exact .inl ⟨i, j, view_int r1 e1, view_int r2 e2, hl, wp_val hs (.int _) w⟩
    · exact w.elim
  · rename_i xs k e1 e2
    split at w
    · rename_i hl
      obtain ⟨a, vs, rfl, h1, q1⟩ := view_lst hs r1 e1
      have hb := Nat.le_of_ble_eq_true hl.1
      exact .inr (.inl ⟨a, k, vs, rfl, view_int r2 e2, h1, by omega, by omega, le_line (by rw [q1.length]; exact hl.2), wp_newL hs (q1.rep _) w⟩)
    · exact w.elim
  · rename_i xs k e1 e2
    split at w
    · rename_i hl
      have f := view_tup' r1 e1
      obtain ⟨a, vs, rfl, h1, q1⟩ := view_tup r1 e1
      refine .inr (.inr ⟨a, k, vs, rfl, view_int r2 e2, h1, hl.1, hl.2.1, by rw [q1.length]; exact hl.2.2, fun z => ?_, fun _ _ => wp_newT hs (q1.rep _) w⟩)
      have e : (List.replicate k.toNat xs).flatten = xs := by
        rcases z with z | z
        · subst z
          cases q1
          simp
        · subst z
          simp
      rw [e, ← f] at w
      exact wp_val hs r1 w
    · exact w.elim
  · exact w.elim
theorem op_mulD {X : Cx} : OpR X (binaryOp .Mult) (rMulD X.K) := OpR.or op_mulW (OpR.or op_rep op_repT2)
theorem od_div : OpD K (rI CDivW fun i j => .int (i / j)) gDiv := by
  intro W σ M H S x y d1 d2 Q hs r1 r2 w
  unfold gDiv at w
  split at w
  · rename_i i j e1 e2
    split at w
    · rename_i hl
      exact ⟨i, j, view_int r1 e1, view_int r2 e2, hl, wp_val hs (.int _) w⟩
    · exact w.elim
  · exact w.elim
theorem od_mod : OpD K (rI (fun _ j => 0 < j) fun i j => .int (i % j)) gMod := by
  intro W σ M H S x y d1 d2 Q hs r1 r2 w
  unfold gMod at w
  split at w
  · rename_i i j e1 e2
    split at w
    · rename_i hl
      exact ⟨i, j, view_int r1 e1, view_int r2 e2, hl, wp_val hs (.int _) w⟩
    · exact w.elim
  · exact w.elim
theorem od_pow : OpD K (rI CPow fun i j => .int (i ^ j.toNat)) gPow := by
  intro W σ M H S x y d1 d2 Q hs r1 r2 w
  unfold gPow at w
  split at w
  · rename_i i j e1 e2
    split at w
    · rename_i hl
      exact ⟨i, j, view_int r1 e1, view_int r2 e2, ⟨hl.1, by omega, hl.2.2⟩, wp_val hs (.int _) w⟩
    · exact w.elim
  · exact w.elim
theorem od_I2 {p : Int → Int → Bool} : OpD K (rI0 fun i j => .bl (p i j)) (gI2 p) := by
  intro W σ M H S x y d1 d2 Q hs r1 r2 w
  unfold gI2 at w
  split at w
  · rename_i i j e1 e2
    exact ⟨i, j, view_int r1 e1, view_int r2 e2, wp_val hs (.bl _) w⟩
  · exact w.elim
theorem od_eq : OpD K (rEqD K) gEq := by
  intro W σ M H S x y d1 d2 Q hs r1 r2 w
  unfold gEq gEqB at w
  split at w
  · rename_i p q e1 e2
    split at w
    · rename_i hl
      exact ⟨p, q, vdp hs r1 e1, vdp hs r2 e2, hl.1, hl.2, wp_val hs (.bl _) w⟩
    · exact w.elim
  · exact w.elim
theorem od_ne : OpD K (rNeD K) gNe := by
  intro W σ M H S x y d1 d2 Q hs r1 r2 w
  unfold gNe gEqB at w
  split at w
  · rename_i p q e1 e2
    split at w
    · rename_i hl
      exact ⟨p, q, vdp hs r1 e1, vdp hs r2 e2, hl.1, hl.2, wp_val hs (.bl _) w⟩
    · exact w.elim
  · exact w.elim
theorem od_isN : OpD K (fun x y H Q => y = .non ∧ Q (.bl (decide (x = .non))) H) gIsN := by
  intro W σ M H S x y d1 d2 Q hs r1 r2 w
  unfold gIsN at w
  split at w
  · cases r2
    refine ⟨rfl, ?_⟩
    rw [isNon_V r1]
    exact wp_val hs (.bl _) w
  · exact w.elim
theorem od_notN : OpD K (fun x y H Q => y = .non ∧ Q (.bl (!decide (x = .non))) H) gNotN := by
  intro W σ M H S x y d1 d2 Q hs r1 r2 w
  unfold gNotN at w
  split at w
  · cases r2
    refine ⟨rfl, ?_⟩
    rw [isNon_V r1]
    exact wp_val hs (.bl _) w
  · exact w.elim
abbrev rInA (K : PySem.W.Frag) : R2 := fun x y H Q => rIn K false x y H Q ∨ rInD K x y H Q
abbrev rNotInA (K : PySem.W.Frag) : R2 := fun x y H Q => rIn K true x y H Q ∨ rNotInD K x y H Q
theorem od_in : OpD K (rInA K) gIn := by
  intro W σ M H S x y d1 d2 Q hs r1 r2 w
  unfold gIn gInB at w
  split at w
  · rename_i xs e2
    obtain ⟨a, vs, rfl, h1, q1⟩ := view_lst hs r2 e2
    split at w
    · rename_i hl
      rw [Bool.and_eq_true] at hl
      refine .inl ⟨a, vs, rfl, .inl (SqL.of h1), r1.flat hl.1, q1.flat hl.2, ?_⟩
      have z := any_eqF r1 hl.1 q1 hl.2
      rw [if_neg Bool.false_ne_true]
      unfold inV
      rw [z]
      exact wp_val hs (.bl _) w
    · split at w
      · rename_i p ps e3 e4
        split at w
        · rename_i hl
          rw [Bool.and_eq_true] at hl
          refine .inr ⟨p, ps, r1.dp e3, vdp (d := d2) hs r2 (by rw [e2]; exact e4), hl.1, hl.2, ?_⟩
          exact wp_val hs (.bl _) w
        · exact w.elim
      · exact w.elim
  · rename_i xs e2
    obtain ⟨a, vs, rfl, h1, q1⟩ := view_tup r2 e2
    split at w
    · rename_i hl
      rw [Bool.and_eq_true] at hl
      refine .inl ⟨a, vs, rfl, .inr h1, r1.flat hl.1, q1.flat hl.2, ?_⟩
      have z := any_eqF r1 hl.1 q1 hl.2
      rw [if_neg Bool.false_ne_true]
      unfold inV
      rw [z]
      exact wp_val hs (.bl _) w
    · exact w.elim
  · exact w.elim
theorem od_notIn : OpD K (rNotInA K) gNotIn := by
  intro W σ M H S x y d1 d2 Q hs r1 r2 w
  unfold gNotIn gInB at w
  split at w
  · rename_i xs e2
    obtain ⟨a, vs, rfl, h1, q1⟩ := view_lst hs r2 e2
    split at w
    · rename_i hl
      rw [Bool.and_eq_true] at hl
      refine .inl ⟨a, vs, rfl, .inl (SqL.of h1), r1.flat hl.1, q1.flat hl.2, ?_⟩
      have z := any_eqF r1 hl.1 q1 hl.2
      rw [if_pos rfl]
      unfold inV
      rw [z]
      exact wp_val hs (.bl _) w
    · split at w
      · rename_i p ps e3 e4
        split at w
        · rename_i hl
          rw [Bool.and_eq_true] at hl
          refine .inr ⟨p, ps, r1.dp e3, vdp (d := d2) hs r2 (by rw [e2]; exact e4), hl.1, hl.2, ?_⟩
          exact wp_val hs (.bl _) w
        · exact w.elim
      · exact w.elim
  · rename_i xs e2
    obtain ⟨a, vs, rfl, h1, q1⟩ := view_tup r2 e2
    split at w
    · rename_i hl
      rw [Bool.and_eq_true] at hl
      refine .inl ⟨a, vs, rfl, .inr h1, r1.flat hl.1, q1.flat hl.2, ?_⟩
      have z := any_eqF r1 hl.1 q1 hl.2
      rw [if_pos rfl]
      unfold inV
      rw [z]
      exact wp_val hs (.bl _) w
    · exact w.elim
  · exact w.elim
end

/-! ### the same as rules -/
section
variable {X : Cx} {W : WX} {pos : Pos} {a b c : Expr} {fa fb fc : Ee}
theorem de_add (ha : DE X W a fa) (hb : DE X W b fb) : DE X W (.BinOp a .Add b pos) (eBin gAdd fa fb) := de_bin op_addD od_add ha hb
theorem de_sub (ha : DE X W a fa) (hb : DE X W b fb) : DE X W (.BinOp a .Sub b pos) (eBin gSub fa fb) := de_bin op_sub od_sub ha hb
theorem de_mul (ha : DE X W a fa) (hb : DE X W b fb) : DE X W (.BinOp a .Mult b pos) (eBin gMul fa fb) := de_bin op_mulD od_mul ha hb
theorem de_div (ha : DE X W a fa) (hb : DE X W b fb) : DE X W (.BinOp a .FloorDiv b pos) (eBin gDiv fa fb) := de_bin op_fdivW od_div ha hb
theorem de_mod (ha : DE X W a fa) (hb : DE X W b fb) : DE X W (.BinOp a .Mod b pos) (eBin gMod fa fb) := de_bin op_mod od_mod ha hb
theorem de_pow (ha : DE X W a fa) (hb : DE X W b fb) : DE X W (.BinOp a .Pow b pos) (eBin gPow fa fb) := de_bin op_pow od_pow ha hb
/-- a one-place minus -/
def eNeg (a : Ee) : Ee := fun ρ S => (a ρ S).bind fun x S1 => match view S1 x with
  | .int i => .ok (.int (-i)) S1
  | _ => .bad
theorem de_neg (ha : DE X W a fa) : DE X W (.UnaryOp .USub a pos) (eNeg fa) := peI (pe_un un_neg ha) fun σ H Q ⟨M, ρ, S, hr, hs, w⟩ => ⟨M, ρ, S, hr, hs, wpG.bind w fun M1 x H1 d1 S1 e1 r1 hs1 w1 => by
  split at w1
  · rename_i i e
    exact ⟨i, view_int r1 e, wp_val hs1 (.int _) w1⟩
  · exact w1.elim⟩
/-- truth -/
def gTru (S : Sto) (d : D) : Option Bool := match view S d with
  | .non => some false
  | .bl b => some b
  | .int i => some (i != 0)
  | .str y => if y.length ≤ 16777216 then some ((y.length : Int) != 0) else none
  | .tup xs => some (!xs.isEmpty)
  | .lst xs => some (!xs.isEmpty)
  | _ => none
theorem Reps.empty {K : PySem.W.Frag} {M : Mp} {H : Hp} {vs : List V} {ds : List D} (r : Reps K M H vs ds) : (!vs.isEmpty) = !ds.isEmpty := by cases r <;> rfl
theorem tru_of {K : PySem.W.Frag} {M : Mp} {H : Hp} {S : Sto} {v : V} {d : D} {k : Bool} (hs : HS K M S H) (r : Rep K M H v d) (e : gTru S d = some k) : TruV K v H k := by
  unfold gTru at e
  split at e
  · rename_i q; rw [view_non r q]; exact (Option.some.inj e).symm
  · rename_i b q; rw [view_bl r q]; exact (Option.some.inj e).symm
  · rename_i i q; rw [view_int r q]; exact (Option.some.inj e).symm
  · rename_i y q
    split at e
    · rename_i hl; rw [view_str r q]; exact ⟨le_line hl, (Option.some.inj e).symm⟩
    · cases e
  · rename_i xs q
    obtain ⟨p, vs, rfl, h1, h2⟩ := view_tup r q
    exact .inr (.inl ⟨vs, h1, by rw [h2.empty]; exact (Option.some.inj e).symm⟩)
  · rename_i xs q
    obtain ⟨p, vs, rfl, h1, h2⟩ := view_lst hs r q
    exact .inl ⟨vs, SqL.of h1, by rw [h2.empty]; exact (Option.some.inj e).symm⟩
  · cases e
def eTr (a : Ee) : Et := fun ρ S => (a ρ S).bind fun x S1 => match gTru S1 x with
  | some k => .ok k S1
  | none => .bad
theorem dt_truth (ha : DE X W a fa) (he : ∀ whole, isTrue a X.env whole = (do let v ← whole; standAt a.pos; holding [v] (truthy v))) : DT X W a (eTr fa) := ptI (pt_truth ha he) fun σ H Q ⟨M, ρ, S, hr, hs, w⟩ => ⟨M, ρ, S, hr, hs, wpG.bind w fun M1 x H1 d1 S1 e1 r1 hs1 w1 => by
  split at w1
  · rename_i k e
    exact ⟨k, tru_of hs1 r1 e, w1 M1 k H1 (Ext.refl hs1) rfl hs1⟩
  · exact w1.elim⟩
theorem dt_tb {t : Et} (ha : DT X W a t) : DT X W a t := ha
def eNotT (t : Et) : Et := fun ρ S => (t ρ S).bind fun k S1 => .ok (!k) S1
theorem dt_not {t : Et} (ha : DT X W a t) : DT X W (.UnaryOp .Not a pos) (eNotT t) := ptI (pt_not ha) fun σ H Q ⟨M, ρ, S, hr, hs, w⟩ => ⟨M, ρ, S, hr, hs, wpG.bind w fun M1 x H1 d1 S1 e1 r1 hs1 w1 => by
  subst r1
  exact w1 M1 _ H1 (Ext.refl hs1) rfl hs1⟩
def eNot (a : Ee) : Ee := fun ρ S => (a ρ S).bind fun x S1 => match gTru S1 x with
  | some k => .ok (.bl (!k)) S1
  | none => .bad
theorem de_not (ha : DE X W a fa) : DE X W (.UnaryOp .Not a pos) (eNot fa) := peI (pe_notT ha) fun σ H Q ⟨M, ρ, S, hr, hs, w⟩ => ⟨M, ρ, S, hr, hs, wpG.bind w fun M1 x H1 d1 S1 e1 r1 hs1 w1 => by
  split at w1
  · rename_i k e
    exact ⟨k, tru_of hs1 r1 e, wp_val hs1 (.bl _) w1⟩
  · exact w1.elim⟩
variable {rest : List Expr}
def eAnd (a b : Ee) : Ee := fun ρ S => (a ρ S).bind fun x S1 => match gTru S1 x with
  | some true => b ρ S1
  | some false => .ok x S1
  | none => .bad
def eOr (a b : Ee) : Ee := fun ρ S => (a ρ S).bind fun x S1 => match gTru S1 x with
  | some true => .ok x S1
  | some false => b ρ S1
  | none => .bad
theorem de_one {op} (h : DE X W a fa) : DE X W (.BoolOp op [a] pos) fa := pe_one h
theorem de_and (ha : DE X W a fa) (hb : DE X W (.BoolOp .And (b :: rest) pos) fb) : DE X W (.BoolOp .And (a :: b :: rest) pos) (eAnd fa fb) := peI (pe_andT ha hb) fun σ H Q ⟨M, ρ, S, hr, hs, w⟩ => ⟨M, ρ, S, hr, hs, wpG.bind w fun M1 x H1 d1 S1 e1 r1 hs1 w1 => by
  split at w1
  · rename_i e
    exact ⟨true, tru_of hs1 r1 e, by rw [if_pos rfl]; exact ⟨M1, ρ, S1, hr.mono e1, hs1, w1⟩⟩
  · rename_i e
    exact ⟨false, tru_of hs1 r1 e, by rw [if_neg Bool.false_ne_true]; exact wp_val hs1 r1 w1⟩
  · exact w1.elim⟩
theorem de_or (ha : DE X W a fa) (hb : DE X W (.BoolOp .Or (b :: rest) pos) fb) : DE X W (.BoolOp .Or (a :: b :: rest) pos) (eOr fa fb) := peI (pe_orT ha hb) fun σ H Q ⟨M, ρ, S, hr, hs, w⟩ => ⟨M, ρ, S, hr, hs, wpG.bind w fun M1 x H1 d1 S1 e1 r1 hs1 w1 => by
  split at w1
  · rename_i e
    exact ⟨true, tru_of hs1 r1 e, by rw [if_pos rfl]; exact wp_val hs1 r1 w1⟩
  · rename_i e
    exact ⟨false, tru_of hs1 r1 e, by rw [if_neg Bool.false_ne_true]; exact ⟨M1, ρ, S1, hr.mono e1, hs1, w1⟩⟩
  · exact w1.elim⟩
/-- and, or as tests -/
abbrev DW (X : Cx) (W : WX) (e : Expr) (f : Et) : Prop := PW X e (tDT X.K W f)
def eAndT (t u : Et) : Et := fun ρ S => (t ρ S).bind fun k S1 => match k with
  | true => u ρ S1
  | false => .ok false S1
def eOrT (t u : Et) : Et := fun ρ S => (t ρ S).bind fun k S1 => match k with
  | true => .ok true S1
  | false => u ρ S1
variable {t u : Et}
theorem dw_and1 (ha : DT X W a t) : DW X W (.BoolOp .And [a] pos) t := pw_and1 ha
theorem dw_or1 (ha : DT X W a t) : DW X W (.BoolOp .Or [a] pos) t := pw_or1 ha
theorem dw_and (ha : DT X W a t) (hb : DW X W (.BoolOp .And (b :: rest) pos) u) : DW X W (.BoolOp .And (a :: b :: rest) pos) (eAndT t u) := pwI (pw_and ha hb) fun σ H Q ⟨M, ρ, S, hr, hs, w⟩ => ⟨M, ρ, S, hr, hs, wpG.bind w fun M1 x H1 d1 S1 e1 r1 hs1 w1 => by
  subst r1
  cases x with
  | true => rw [if_pos rfl]; exact ⟨M1, ρ, S1, hr.mono e1, hs1, w1⟩
  | false => rw [if_neg Bool.false_ne_true]; exact w1 M1 _ H1 (Ext.refl hs1) rfl hs1⟩
theorem dw_or (ha : DT X W a t) (hb : DW X W (.BoolOp .Or (b :: rest) pos) u) : DW X W (.BoolOp .Or (a :: b :: rest) pos) (eOrT t u) := pwI (pw_or ha hb) fun σ H Q ⟨M, ρ, S, hr, hs, w⟩ => ⟨M, ρ, S, hr, hs, wpG.bind w fun M1 x H1 d1 S1 e1 r1 hs1 w1 => by
  subst r1
  cases x with
  | true => rw [if_pos rfl]; exact w1 M1 _ H1 (Ext.refl hs1) rfl hs1
  | false => rw [if_neg Bool.false_ne_true]; exact ⟨M1, ρ, S1, hr.mono e1, hs1, w1⟩⟩
theorem dt_w (h : DW X W a t) : DT X W a t := PW.pt h
def eIf (t : Et) (a b : Ee) : Ee := fun ρ S => (t ρ S).bind fun k S1 => match k with
  | true => a ρ S1
  | false => b ρ S1
theorem de_if (hc : DT X W c t) (ha : DE X W a fa) (hb : DE X W b fb) : DE X W (.IfExp c a b pos) (eIf t fa fb) := peI (pe_ifExp hc ha hb) fun σ H Q ⟨M, ρ, S, hr, hs, w⟩ => ⟨M, ρ, S, hr, hs, wpG.bind w fun M1 x H1 d1 S1 e1 r1 hs1 w1 => by
  subst r1
  cases x with
  | true => rw [if_pos rfl]; exact ⟨M1, ρ, S1, hr.mono e1, hs1, w1⟩
  | false => rw [if_neg Bool.false_ne_true]; exact ⟨M1, ρ, S1, hr.mono e1, hs1, w1⟩⟩
end
end DL
namespace DL
open PySem PySem.Spec PyProof.Rows L2

section
variable {α β γ δ : Type} {rel : Mp → Hp → β → α → Prop} {rel2 : Mp → Hp → δ → γ → Prop} {K : PySem.W.Frag} {W : WX} {σ : L2.St} {M M' : Mp} {H H' : Hp} {S S' : Sto} {ρ : Rho}
theorem wpG.bind' {r : R α} {k : α → Sto → R γ} {Q : δ → Hp → Prop} {Q1 : β → Hp → Prop} (h : wpG rel2 K W σ M H (r.bind k) Q)
    (q : ∀ M1 v H1 a S1, r = .ok a S1 → Ext M H M1 H1 → rel M1 H1 v a → HS K M1 S1 H1 → wpG rel2 K W σ M1 H1 (k a S1) Q → Q1 v H1) : wpG rel K W σ M H r Q1 := by
  cases r with
  | ok a S' => exact fun M1 v H1 e r hs => q M1 v H1 a S' rfl e r hs (wpG.ext e h)
  | ex x S' => exact h
  | bad => exact h
end

/-! ### arguments, displays -/
def eArgs : List Ee → Ea
  | [] => fun _ S => .ok [] S
  | f :: fs => fun ρ S => (f ρ S).bind fun x S1 => (eArgs fs ρ S1).bind fun xs S2 => .ok (x :: xs) S2
theorem eArgs_len : ∀ {fs : List Ee} {ρ : Rho} {S S' : Sto} {xs : List D}, eArgs fs ρ S = .ok xs S' → xs.length = fs.length
  | [], _, _, _, _, h => by simp only [eArgs] at h; cases h; rfl
  | f :: fs, ρ, S, S', xs, h => by
    simp only [eArgs] at h
    cases h1 : f ρ S with
    | ok x S1 =>
      rw [h1, R.bind_ok] at h
      cases h2 : eArgs fs ρ S1 with
      | ok ys S2 => rw [h2, R.bind_ok] at h; cases h; rw [List.length_cons, List.length_cons, eArgs_len h2]
      | ex e S2 => rw [h2, R.bind_ex] at h; cases h
      | bad => rw [h2, R.bind_bad] at h; cases h
    | ex e S2 => rw [h1, R.bind_ex] at h; cases h
    | bad => rw [h1, R.bind_bad] at h; cases h
section
variable {X : Cx} {W : WX} {pos : Pos} {a b c e : Expr} {es : List Expr} {fa fb fc f : Ee} {fs : List Ee}
theorem da_nil : DA X W [] (eArgs []) := paI pa_nil fun σ H Q ⟨M, ρ, S, hr, hs, w⟩ => w M [] H (Ext.refl hs) .nil hs
theorem da_cons (h : DE X W e f) (r : DA X W es (eArgs fs)) (hs : starEach (e :: es) X.env = (false, eval e X.env) :: starEach es X.env := by rfl) : DA X W (e :: es) (eArgs (f :: fs)) :=
  paI (pa_cons h r hs) fun σ H Q ⟨M, ρ, S, hr, hs, w⟩ => ⟨M, ρ, S, hr, hs, wpG.bind w fun M1 x H1 d1 S1 e1 r1 hs1 w1 =>
    ⟨M1, ρ, S1, hr.mono e1, hs1, wpG.bind w1 fun M2 xs H2 ds S2 e2 r2 hs2 w2 => w2 M2 (x :: xs) H2 (Ext.refl hs2) (.cons (r1.mono e2) r2) hs2⟩⟩
def eTup (fs : List Ee) : Ee := fun ρ S => (eArgs fs ρ S).bind fun xs S1 => .ok (.tup xs) S1
def eLst (fs : List Ee) : Ee := fun ρ S => (eArgs fs ρ S).bind fun xs S1 => .ok (.lst xs) S1
/-- a list that will be changed -/
def eNewL (fs : List Ee) : Ee := fun ρ S => (eArgs fs ρ S).bind fun xs S1 => .ok (.obj S1.length) (S1 ++ [.lst xs])
theorem de_tup {x1} (h : DA X W es (eArgs fs)) (hl : fs.length ≤ 16777216 := by exact Nat.le_of_ble_eq_true rfl) : DE X W (.Tuple es x1 pos) (eTup fs) := peI (pe_tup h) fun σ H Q ⟨M, ρ, S, hr, hs, w⟩ => ⟨M, ρ, S, hr, hs, wpG.bind' w fun M1 xs H1 ds S1 e0 e1 r1 hs1 w1 =>
  ⟨le_line (by rw [r1.length, eArgs_len e0]; exact hl), wp_newT hs1 r1 w1⟩⟩
theorem de_lst (h : DA X W es (eArgs fs)) (hl : fs.length ≤ 16777216 := by exact Nat.le_of_ble_eq_true rfl) : DE X W (.List es pos) (eLst fs) := peI (pe_lst h) fun σ H Q ⟨M, ρ, S, hr, hs, w⟩ => ⟨M, ρ, S, hr, hs, wpG.bind' w fun M1 xs H1 ds S1 e0 e1 r1 hs1 w1 =>
  ⟨le_line (by rw [r1.length, eArgs_len e0]; exact hl), wp_newL hs1 r1 w1⟩⟩
theorem de_newL (h : DA X W es (eArgs fs)) (hl : fs.length ≤ 16777216 := by exact Nat.le_of_ble_eq_true rfl) : DE X W (.List es pos) (eNewL fs) := peI (pe_lst h) fun σ H Q ⟨M, ρ, S, hr, hs, w⟩ => ⟨M, ρ, S, hr, hs, wpG.bind' w fun M1 xs H1 ds S1 e0 e1 r1 hs1 w1 =>
  ⟨le_line (by rw [r1.length, eArgs_len e0]; exact hl), fun p hp => by
    have e2 : Ext M1 H1 (M1.add p) (upd H1 p (.lst xs)) := hs1.ext_join hp
    exact w1 _ _ _ e2 (.obj (by show (M1.o ++ [p])[_]? = _; rw [← hs1.len, List.getElem?_append_right (Nat.le_refl _)]; simp)) (hs1.join (o := .lst xs) (mo := .lst ds) hp ⟨xs, upd_same, r1.mono e2⟩)⟩⟩

/-! ### subscripts -/
theorem atI_rep {K : PySem.W.Frag} {M : Mp} {H : Hp} {vs : List V} {ds : List D} {i : Int} {d : D} (r : Reps K M H vs ds) (h : atI ds i = some d) : ∃ v, atI vs i = some v ∧ Rep K M H v d := by
  unfold atI at h ⊢
  rw [r.length]
  cases e : ixN ds.length i with
  | none => rw [e] at h; cases h
  | some j =>
    rw [e] at h
    exact r.get' h
def gIdx (d1 d2 : D) (S : Sto) : R D := match view S d1, d2 with
  | .lst xs, .int i => match atI xs i with
    | some d => .ok d S
    | none => .bad
  | .tup xs, .int i => match atI xs i with
    | some d => .ok d S
    | none => .bad
  | .frz xs, .int i => match atI xs i with
    | some d => .ok d S
    | none => .bad
  | .str z, .int i => if z.length ≤ 16777216 then match atI z.cps.toList i with
    | some c => .ok (.str ⟨#[c]⟩) S
    | none => .bad else .bad
  | _, _ => .bad
theorem od_idx {K : PySem.W.Frag} : OpD K (rIx K) gIdx := by
  intro W σ M H S x y d1 d2 Q hs r1 r2 w
  unfold gIdx at w
  split at w
  · rename_i xs i e1
    cases r2
    split at w
    · rename_i d h
      obtain ⟨a, vs, rfl, h1, q1⟩ := view_lst hs r1 e1
      obtain ⟨v, h2, r⟩ := atI_rep q1 h
      exact .inl ⟨a, vs, _, v, rfl, rfl, SqL.of h1, h2, wp_val hs r w⟩
    · exact w.elim
  · rename_i xs i e1
    cases r2
    split at w
    · rename_i d h
      obtain ⟨a, vs, rfl, h1, q1⟩ := view_tup r1 e1
      obtain ⟨v, h2, r⟩ := atI_rep q1 h
      exact .inr (.inl ⟨a, vs, _, v, rfl, rfl, h1, h2, wp_val hs r w⟩)
    · exact w.elim
  · rename_i xs i e1
    cases r2
    split at w
    · rename_i d h
      obtain ⟨a, vs, rfl, h1, q1⟩ := view_frz r1 e1
      obtain ⟨v, h2, r⟩ := atI_rep q1 h
      exact .inl ⟨a, vs, _, v, rfl, rfl, h1, h2, wp_val hs r w⟩
    · exact w.elim
  · rename_i z i e1
    cases r2
    split at w
    · rename_i hl
      split at w
      · rename_i c h
        exact .inr (.inr ⟨z, _, c, view_str r1 e1, rfl, le_line hl, h, wp_val hs (.str _) w⟩)
      · exact w.elim
    · exact w.elim
  · exact w.elim
theorem de_idx (ha : DE X W a fa) (hb : DE X W b fb) (hs : PlainIx b := by exact fun _ _ => rfl) : DE X W (.Subscript a b pos) (eBin gIdx fa fb) := peI (pe_ix ix_seq ha hb hs) (tD_op od_idx)
/-- a slice's part -/
abbrev Eo := Rho → Sto → R (Option Int)
def tDO (K : PySem.W.Frag) (W : WX) (f : Eo) : TO := fun σ H Q => ∃ M ρ S, RepE K M H σ ρ ∧ HS K M S H ∧ wpG (fun _ _ (b c : Option Int) => b = c) K W σ M H (f ρ S) Q
abbrev DO (X : Cx) (W : WX) (e : Option Expr) (f : Eo) : Prop := PO X e (tDO X.K W f)
def eNo : Eo := fun _ S => .ok none S
def ePart (a : Ee) : Eo := fun ρ S => (a ρ S).bind fun x S1 => match view S1 x with
  | .int i => .ok (some i) S1
  | _ => .bad
theorem do_none : DO X W none eNo := poI po_none fun σ H Q ⟨M, ρ, S, hr, hs, w⟩ => w M none H (Ext.refl hs) rfl hs
theorem do_some (ha : DE X W a fa) : DO X W (some a) (ePart fa) := poI (po_some ha) fun σ H Q ⟨M, ρ, S, hr, hs, w⟩ => ⟨M, ρ, S, hr, hs, wpG.bind w fun M1 x H1 d1 S1 e1 r1 hs1 w1 => by
  split at w1
  · rename_i i e
    exact ⟨i, view_int r1 e, w1 M1 _ H1 (Ext.refl hs1) rfl hs1⟩
  · exact w1.elim⟩
def cutD (xs : List D) (lo hi : Option Int) : List D := (xs.drop (HT.sIx xs.length 0 lo)).take (HT.sIx xs.length xs.length hi - HT.sIx xs.length 0 lo)
def gCut (d : D) (lo hi : Option Int) (S : Sto) : R D := match view S d with
  | .lst xs => .ok (.lst (cutD xs lo hi)) S
  | .tup xs => .ok (.tup (cutD xs lo hi)) S
  | .str z => if z.length ≤ 16777216 then .ok (.str (cutS z lo hi)) S else .bad
  | _ => .bad
def eSl (a : Ee) (lo hi : Eo) : Ee := fun ρ S => (a ρ S).bind fun x S1 => (lo ρ S1).bind fun l S2 => (hi ρ S2).bind fun u S3 => gCut x l u S3
theorem cut_rep {K : PySem.W.Frag} {M : Mp} {H : Hp} {vs : List V} {ds : List D} (r : Reps K M H vs ds) (lo hi : Option Int) : Reps K M H (cutV vs lo hi) (cutD ds lo hi) := by
  unfold cutV cutD
  rw [r.length]
  exact (r.drop _).take _
theorem cut_whole {ds : List D} {lo hi : Option Int} (h : HT.sIx ds.length 0 lo = 0 ∧ HT.sIx ds.length ds.length hi = ds.length) : cutD ds lo hi = ds := by
  unfold cutD
  rw [h.1, h.2, List.drop_zero, Nat.sub_zero, List.take_length]
abbrev rSlAll (K : PySem.W.Frag) : V → Option Int → Option Int → Hp → VK → Prop := fun x lo hi H Q => rSlL K x lo hi H Q ∨ rSlA K x lo hi H Q ∨ rSlS x lo hi H Q
theorem de_slice {p2} {lo hi : Option Expr} {fl fh : Eo} (ha : DE X W a fa) (hl : DO X W lo fl) (hh : DO X W hi fh) : DE X W (.Subscript a (.Slice lo hi none p2) pos) (eSl fa fl fh) :=
  peI (pe_slice (r := rSlAll X.K) (SlR.or sl_list (SlR.or sl_tupA sl_str)) ha hl hh) fun σ H Q ⟨M, ρ, S, hr, hs, w⟩ => ⟨M, ρ, S, hr, hs, wpG.bind w fun M1 x H1 d1 S1 e1 r1 hs1 w1 =>
    ⟨M1, ρ, S1, hr.mono e1, hs1, wpG.bind w1 fun M2 l H2 d2 S2 e2 r2 hs2 w2 => ⟨M2, ρ, S2, (hr.mono e1).mono e2, hs2, wpG.bind w2 fun M3 u H3 d3 S3 e3 r3 hs3 w3 => by
      subst r2
      subst r3
      have r4 := (r1.mono e2).mono e3
      unfold gCut at w3
      split at w3
      · rename_i xs e
        obtain ⟨p, vs, rfl, h1, q1⟩ := view_lst hs3 r4 e
        exact .inl ⟨p, vs, rfl, SqL.of h1, wp_newL hs3 (cut_rep q1 _ _) w3⟩
      · rename_i xs e
        have f := view_tup' r4 e
        obtain ⟨p, vs, rfl, h1, q1⟩ := view_tup r4 e
        refine .inr (.inl ⟨p, vs, rfl, h1, fun z => ?_, fun z => wp_newT hs3 (cut_rep q1 _ _) w3⟩)
        rw [q1.length] at z
        rw [cut_whole z, ← f] at w3
        exact wp_val hs3 r4 w3
      · rename_i z e
        split at w3
        · rename_i hl
          exact .inr (.inr ⟨z, view_str r4 e, le_line hl, wp_val hs3 (.str _) w3⟩)
        · exact w3.elim
      · exact w3.elim⟩⟩⟩

/-! ### built-in calls by values -/
abbrev Gc := List D → Sto → R D
def CallD (K : PySem.W.Frag) (r : List V → Hp → VK → Prop) (g : Gc) : Prop := ∀ (W : WX) (σ : L2.St) (M : Mp) (H : Hp) (S : Sto) (xs : List V) (ds : List D) (Q : VK), HS K M S H → Reps K M H xs ds → wpG (Rep K) K W σ M H (g ds S) Q → r xs H Q
def eCall (g : Gc) (fs : List Ee) : Ee := fun ρ S => (eArgs fs ρ S).bind fun xs S1 => g xs S1
theorem tD_call {K : PySem.W.Frag} {r : List V → Hp → VK → Prop} {g : Gc} (hg : CallD K r g) : ∀ σ H Q, tD K W (eCall g fs) σ H Q → tCB r (tDA K W (eArgs fs)) σ H Q := fun σ H Q ⟨M, ρ, S, hr, hs, w⟩ =>
  ⟨M, ρ, S, hr, hs, wpG.bind w fun M1 xs H1 ds S1 e1 r1 hs1 w1 => hg W σ M1 H1 S1 xs ds Q hs1 r1 w1⟩
theorem de_callB {x : Str} {p : Pos} {id : String} {r : List V → Hp → VK → Prop} {g : Gc} (hc : CallR X (.builtin id) r) (hg : CallD X.K r g) (hgl : Gl X x) (hm : X.mg x = none) (hv : bootBuiltins x = some (.builtin id)) (ha : DA X W (e :: es) (eArgs fs)) (hn : x ≠ "__name__" := by decide) (hdb : (x == ("__debug__" : Str)) = false := by decide)
    (he : starEach (e :: es) X.env = (false, eval e X.env) :: starEach es X.env := by rfl) (hpl : (backTo pos (starEach es X.env)).any (·.1) = false := by rfl) : DE X W (.Call (.Name x p) (e :: es) [] pos) (eCall g fs) :=
  peI (pe_callB hc hgl hm hv ha hn hdb he hpl) (tD_call hg)
theorem de_callTy {x : Str} {p : Pos} {id : String} {r : List V → Hp → VK → Prop} {g : Gc} (hc : CallR X (.type id) r) (hg : CallD X.K r g) (hgl : Gl X x) (hm : X.mg x = none) (hv : bootBuiltins x = some (.type id)) (ha : DA X W (e :: es) (eArgs fs)) (hn : x ≠ "__name__" := by decide) (hdb : (x == ("__debug__" : Str)) = false := by decide)
    (he : starEach (e :: es) X.env = (false, eval e X.env) :: starEach es X.env := by rfl) (hpl : (backTo pos (starEach es X.env)).any (·.1) = false := by rfl) : DE X W (.Call (.Name x p) (e :: es) [] pos) (eCall g fs) :=
  peI (pe_callTy hc hgl hm hv ha hn hdb he hpl) (tD_call hg)
end
theorem reps1 {K : PySem.W.Frag} {M : Mp} {H : Hp} {vs : List V} {d : D} (r : Reps K M H vs [d]) : ∃ v, vs = [v] ∧ Rep K M H v d := by
  cases r with
  | cons r t => cases t; exact ⟨_, rfl, r⟩
theorem reps2 {K : PySem.W.Frag} {M : Mp} {H : Hp} {vs : List V} {d e : D} (r : Reps K M H vs [d, e]) : ∃ v w, vs = [v, w] ∧ Rep K M H v d ∧ Rep K M H w e := by
  cases r with
  | cons r t =>
    obtain ⟨w, rfl, q⟩ := reps1 t
    exact ⟨_, _, rfl, r, q⟩
def gLen : Gc := fun ds S => match ds with
  | [d] => match view S d with
    | .lst xs => .ok (.int xs.length) S
    | .tup xs => .ok (.int xs.length) S
    | .frz xs => .ok (.int xs.length) S
    | .str z => if z.length ≤ 16777216 then .ok (.int z.length) S else .bad
    | _ => .bad
  | _ => .bad
def gAbs : Gc := fun ds S => match ds with
  | [.int i] => .ok (.int (if i < 0 then -i else i)) S
  | _ => .bad
def gInt : Gc := fun ds S => match ds with
  | [.int i] => .ok (.int i) S
  | [.bl k] => .ok (.int (if k then 1 else 0)) S
  | _ => .bad
def gBool : Gc := fun ds S => match ds with
  | [.int i] => .ok (.bl (i != 0)) S
  | [.bl k] => .ok (.bl k) S
  | _ => .bad
def intsOf : List D → Option (List Int)
  | [] => some []
  | .int i :: r => match intsOf r with
    | some l => some (i :: l)
    | none => none
  | _ :: _ => none
def blsOf : List D → Option (List Bool)
  | [] => some []
  | .bl i :: r => match blsOf r with
    | some l => some (i :: l)
    | none => none
  | _ :: _ => none
def maxL : Int → List Int → Int
  | a, [] => a
  | a, b :: r => maxL (if a < b then b else a) r
def minL : Int → List Int → Int
  | a, [] => a
  | a, b :: r => minL (if b < a then b else a) r
def gMax : Gc := fun ds S => match ds with
  | [.int i, .int j] => .ok (.int (if j > i then j else i)) S
  | [d] => match view S d with
    | .lst xs => match intsOf xs with
      | some (i :: l) => .ok (.int (maxL i l)) S
      | _ => .bad
    | _ => .bad
  | _ => .bad
def gMin : Gc := fun ds S => match ds with
  | [.int i, .int j] => .ok (.int (if j < i then j else i)) S
  | [d] => match view S d with
    | .lst xs => match intsOf xs with
      | some (i :: l) => .ok (.int (minL i l)) S
      | _ => .bad
    | _ => .bad
  | _ => .bad
def gAll : Gc := fun ds S => match ds with
  | [d] => match view S d with
    | .lst xs => match blsOf xs with
      | some l => .ok (.bl (l.all id)) S
      | _ => .bad
    | _ => .bad
  | _ => .bad
def gTuple : Gc := fun ds S => match ds with
  | [d] => match view S d with
    | .lst xs => .ok (.tup xs) S
    | .tup xs => .ok (.tup xs) S
    | _ => .bad
  | _ => .bad
def gList : Gc := fun ds S => match ds with
  | [d] => match view S d with
    | .lst xs => .ok (.lst xs) S
    | .tup xs => .ok (.lst xs) S
    | _ => .bad
  | _ => .bad
section
variable {K : PySem.W.Frag}
theorem Reps.intsV {M : Mp} {H : Hp} : ∀ {vs : List V} {ds : List D} {l : List Int}, Reps K M H vs ds → intsOf ds = some l → vs = l.map V.int
  | _, _, _, .nil, h => by simp only [intsOf] at h; cases h; rfl
  | _, _, _, .cons (d := d) r t, h => by
    cases r with
    | int i =>
      simp only [intsOf] at h
      split at h
      · rename_i l hl; cases h; rw [Reps.intsV t hl]; rfl
      · cases h
    | _ => simp only [intsOf] at h; cases h
theorem Reps.blsV {M : Mp} {H : Hp} : ∀ {vs : List V} {ds : List D} {l : List Bool}, Reps K M H vs ds → blsOf ds = some l → vs = l.map V.bl
  | _, _, _, .nil, h => by simp only [blsOf] at h; cases h; rfl
  | _, _, _, .cons (d := d) r t, h => by
    cases r with
    | bl i =>
      simp only [blsOf] at h
      split at h
      · rename_i l hl; cases h; rw [Reps.blsV t hl]; rfl
      · cases h
    | _ => simp only [blsOf] at h; cases h
theorem intsOf_map : ∀ (l : List Int), intsOf (l.map D.int) = some l
  | [] => rfl
  | i :: r => by simp only [List.map_cons, intsOf, intsOf_map r]
theorem blsOf_map : ∀ (l : List Bool), blsOf (l.map D.bl) = some l
  | [] => rfl
  | i :: r => by simp only [List.map_cons, blsOf, blsOf_map r]
theorem maxL_mem : ∀ (l : List Int) (a : Int), maxL a l = a ∨ maxL a l ∈ l
  | [], a => .inl rfl
  | b :: r, a => by
    unfold maxL
    by_cases c : a < b
    · rw [if_pos c]
      rcases maxL_mem r b with h | h
      · exact .inr (by rw [h]; exact List.mem_cons_self)
      · exact .inr (List.mem_cons_of_mem _ h)
    · rw [if_neg c]
      rcases maxL_mem r a with h | h
      · exact .inl h
      · exact .inr (List.mem_cons_of_mem _ h)
theorem maxL_le : ∀ (l : List Int) (a : Int), a ≤ maxL a l ∧ ∀ x ∈ l, x ≤ maxL a l
  | [], a => ⟨Int.le_refl a, fun _ h => nomatch h⟩
  | b :: r, a => by
    unfold maxL
    have ih := maxL_le r (if a < b then b else a)
    refine ⟨?_, fun x hx => ?_⟩
    · have := ih.1; split at this <;> split <;> omega
    · rcases List.mem_cons.mp hx with h | h
      · subst h; have := ih.1; split at this <;> split <;> omega
      · exact ih.2 x h
theorem minL_mem : ∀ (l : List Int) (a : Int), minL a l = a ∨ minL a l ∈ l
  | [], a => .inl rfl
  | b :: r, a => by
    unfold minL
    by_cases c : b < a
    · rw [if_pos c]
      rcases minL_mem r b with h | h
      · exact .inr (by rw [h]; exact List.mem_cons_self)
      · exact .inr (List.mem_cons_of_mem _ h)
    · rw [if_neg c]
      rcases minL_mem r a with h | h
      · exact .inl h
      · exact .inr (List.mem_cons_of_mem _ h)
theorem minL_le : ∀ (l : List Int) (a : Int), minL a l ≤ a ∧ ∀ x ∈ l, minL a l ≤ x
  | [], a => ⟨Int.le_refl a, fun _ h => nomatch h⟩
  | b :: r, a => by
    unfold minL
    have ih := minL_le r (if b < a then b else a)
    refine ⟨?_, fun x hx => ?_⟩
    · have := ih.1; split at this <;> split <;> omega
    · rcases List.mem_cons.mp hx with h | h
      · subst h; have := ih.1; split at this <;> split <;> omega
      · exact ih.2 x h
theorem cd_len : CallD K (fun xs H Q => ∃ x n, xs = [x] ∧ LenV K x H n ∧ Q (.int n) H) gLen := by
  intro W σ M H S xs ds Q hs r w
  unfold gLen at w
  split at w
  · rename_i d
    obtain ⟨v, rfl, r1⟩ := reps1 r
    split at w
    · rename_i ys e
      obtain ⟨p, vs, rfl, h1, q1⟩ := view_lst hs r1 e
      exact ⟨_, ys.length, rfl, .inl ⟨vs, SqL.of h1, q1.length.symm⟩, wp_val hs (.int _) w⟩
    · rename_i ys e
      obtain ⟨p, vs, rfl, h1, q1⟩ := view_tup r1 e
      exact ⟨_, ys.length, rfl, .inr ⟨vs, h1, q1.length.symm⟩, wp_val hs (.int _) w⟩
    · rename_i ys e
      obtain ⟨p, vs, rfl, h1, q1⟩ := view_frz r1 e
      exact ⟨_, ys.length, rfl, .inl ⟨vs, h1, q1.length.symm⟩, wp_val hs (.int _) w⟩
    · rename_i z e
      split at w
      · rename_i hl
        exact ⟨_, z.length, rfl, by rw [view_str r1 e]; exact ⟨le_line hl, rfl⟩, wp_val hs (.int _) w⟩
      · exact w.elim
    · exact w.elim
  · exact w.elim
theorem cd_abs : CallD K (fun xs H Q => ∃ i, xs = [.int i] ∧ Q (.int (if i < 0 then -i else i)) H) gAbs := by
  intro W σ M H S xs ds Q hs r w
  unfold gAbs at w
  split at w
  · obtain ⟨v, rfl, r1⟩ := reps1 r
    cases r1
    exact ⟨_, rfl, wp_val hs (.int _) w⟩
  · exact w.elim
theorem cd_int : CallD K (fun xs H Q => (∃ i, xs = [.int i] ∧ Q (.int i) H) ∨ ∃ k, xs = [.bl k] ∧ Q (.int (if k then 1 else 0)) H) gInt := by
  intro W σ M H S xs ds Q hs r w
  unfold gInt at w
  split at w
  · obtain ⟨v, rfl, r1⟩ := reps1 r
    cases r1
    exact .inl ⟨_, rfl, wp_val hs (.int _) w⟩
  · obtain ⟨v, rfl, r1⟩ := reps1 r
    cases r1
    exact .inr ⟨_, rfl, wp_val hs (.int _) w⟩
  · exact w.elim
theorem cd_bool : CallD K (fun xs H Q => (∃ i, xs = [.int i] ∧ Q (.bl (i != 0)) H) ∨ ∃ k, xs = [.bl k] ∧ Q (.bl k) H) gBool := by
  intro W σ M H S xs ds Q hs r w
  unfold gBool at w
  split at w
  · obtain ⟨v, rfl, r1⟩ := reps1 r
    cases r1
    exact .inl ⟨_, rfl, wp_val hs (.bl _) w⟩
  · obtain ⟨v, rfl, r1⟩ := reps1 r
    cases r1
    exact .inr ⟨_, rfl, wp_val hs (.bl _) w⟩
  · exact w.elim
abbrev rMax2 : List V → Hp → VK → Prop := fun xs H Q => ∃ i j, xs = [.int i, .int j] ∧ Q (.int (if j > i then j else i)) H
abbrev rMin2 : List V → Hp → VK → Prop := fun xs H Q => ∃ i j, xs = [.int i, .int j] ∧ Q (.int (if j < i then j else i)) H
theorem cd_max : CallD K (fun xs H Q => rMax2 xs H Q ∨ rMax K xs H Q) gMax := by
  intro W σ M H S xs ds Q hs r w
  unfold gMax at w
  split at w
  · obtain ⟨v, v2, rfl, r1, r2⟩ := reps2 r
    cases r1
    cases r2
    exact .inl ⟨_, _, rfl, wp_val hs (.int _) w⟩
  · obtain ⟨v, rfl, r1⟩ := reps1 r
    split at w
    · rename_i ys e
      obtain ⟨p, vs, rfl, h1, q1⟩ := view_lst hs r1 e
      split at w
      · rename_i i l hl
        rw [q1.intsV hl] at h1
        refine .inr ⟨p, i :: l, rfl, SqL.of h1, by simp, fun m hm hle => ?_⟩
        have e1 : m = maxL i l := by
          have a1 := maxL_le l i
          have a2 : m ≤ maxL i l := by
            rcases List.mem_cons.mp hm with h | h
            · rw [h]; exact a1.1
            · exact a1.2 m h
          have a3 : maxL i l ≤ m := by
            rcases maxL_mem l i with h | h
            · rw [h]; exact hle i List.mem_cons_self
            · exact hle _ (List.mem_cons_of_mem _ h)
          omega
        rw [e1]
        exact wp_val hs (.int _) w
      · exact w.elim
    · exact w.elim
  · exact w.elim
theorem cd_min : CallD K (fun xs H Q => rMin2 xs H Q ∨ rMin K xs H Q) gMin := by
  intro W σ M H S xs ds Q hs r w
  unfold gMin at w
  split at w
  · obtain ⟨v, v2, rfl, r1, r2⟩ := reps2 r
    cases r1
    cases r2
    exact .inl ⟨_, _, rfl, wp_val hs (.int _) w⟩
  · obtain ⟨v, rfl, r1⟩ := reps1 r
    split at w
    · rename_i ys e
      obtain ⟨p, vs, rfl, h1, q1⟩ := view_lst hs r1 e
      split at w
      · rename_i i l hl
        rw [q1.intsV hl] at h1
        refine .inr ⟨p, i :: l, rfl, SqL.of h1, by simp, fun m hm hle => ?_⟩
        have e1 : m = minL i l := by
          have a1 := minL_le l i
          have a2 : minL i l ≤ m := by
            rcases List.mem_cons.mp hm with h | h
            · rw [h]; exact a1.1
            · exact a1.2 m h
          have a3 : m ≤ minL i l := by
            rcases minL_mem l i with h | h
            · rw [h]; exact hle i List.mem_cons_self
            · exact hle _ (List.mem_cons_of_mem _ h)
          omega
        rw [e1]
        exact wp_val hs (.int _) w
      · exact w.elim
    · exact w.elim
  · exact w.elim
theorem cd_all : CallD K (rAll K) gAll := by
  intro W σ M H S xs ds Q hs r w
  unfold gAll at w
  split at w
  · obtain ⟨v, rfl, r1⟩ := reps1 r
    split at w
    · rename_i ys e
      obtain ⟨p, vs, rfl, h1, q1⟩ := view_lst hs r1 e
      split at w
      · rename_i l hl
        rw [q1.blsV hl] at h1
        exact ⟨p, l, rfl, SqL.of h1, wp_val hs (.bl _) w⟩
      · exact w.elim
    · exact w.elim
  · exact w.elim
theorem cd_tuple : CallD K (fun xs H Q => ∃ p ys, xs = [.ref p] ∧ ((SqL K H p ys ∧ ∀ l, H l = none → Q (.ref l) (upd H l (.tup ys))) ∨ (SqT K H p ys ∧ Q (.ref p) H))) gTuple := by
  intro W σ M H S xs ds Q hs r w
  unfold gTuple at w
  split at w
  · obtain ⟨v, rfl, r1⟩ := reps1 r
    split at w
    · rename_i ys e
      obtain ⟨p, vs, rfl, h1, q1⟩ := view_lst hs r1 e
      exact ⟨p, vs, rfl, .inl ⟨SqL.of h1, wp_newT hs q1 w⟩⟩
    · rename_i ys e
      have f := view_tup' r1 e
      obtain ⟨p, vs, rfl, h1, q1⟩ := view_tup r1 e
      rw [← f] at w
      exact ⟨p, vs, rfl, .inr ⟨h1, wp_val hs r1 w⟩⟩
    · exact w.elim
  · exact w.elim
theorem cd_list : CallD K (fun xs H Q => ∃ p ys, xs = [.ref p] ∧ (SqL K H p ys ∨ SqT K H p ys) ∧ ∀ l, H l = none → Q (.ref l) (upd H l (.lst ys))) gList := by
  intro W σ M H S xs ds Q hs r w
  unfold gList at w
  split at w
  · obtain ⟨v, rfl, r1⟩ := reps1 r
    split at w
    · rename_i ys e
      obtain ⟨p, vs, rfl, h1, q1⟩ := view_lst hs r1 e
      exact ⟨p, vs, rfl, .inl (SqL.of h1), wp_newL hs q1 w⟩
    · rename_i ys e
      obtain ⟨p, vs, rfl, h1, q1⟩ := view_tup r1 e
      exact ⟨p, vs, rfl, .inr h1, wp_newL hs q1 w⟩
    · exact w.elim
  · exact w.elim
end
theorem b_len : bootBuiltins "len" = some (.builtin "len") := by decide +kernel
theorem b_abs : bootBuiltins "abs" = some (.builtin "abs") := by decide +kernel
theorem b_max : bootBuiltins "max" = some (.builtin "max") := by decide +kernel
theorem b_min : bootBuiltins "min" = some (.builtin "min") := by decide +kernel
theorem b_all : bootBuiltins "all" = some (.builtin "all") := by decide +kernel
theorem b_sum : bootBuiltins "sum" = some (.builtin "sum") := by decide +kernel
theorem b_isinstance : bootBuiltins "isinstance" = some (.builtin "isinstance") := by decide +kernel
theorem b_int : bootBuiltins "int" = some (.type "int") := by decide +kernel
theorem b_bool : bootBuiltins "bool" = some (.type "bool") := by decide +kernel
theorem b_tuple : bootBuiltins "tuple" = some (.type "tuple") := by decide +kernel
theorem b_list : bootBuiltins "list" = some (.type "list") := by decide +kernel
theorem b_str : bootBuiltins "str" = some (.type "str") := by decide +kernel
section
variable {X : Cx}
theorem call_maxD (hc : X.calm = true) : CallR X (.builtin "max") (fun xs H Q => rMax2 xs H Q ∨ rMax X.K xs H Q) := CallR.or (call_max2 hc) (cr_max hc)
theorem call_minD (hc : X.calm = true) : CallR X (.builtin "min") (fun xs H Q => rMin2 xs H Q ∨ rMin X.K xs H Q) := CallR.or (call_min2 hc) (cr_min hc)
end
end DL
namespace DL
open PySem PySem.Spec PyProof.Rows L2

/-! ### statements -/
def F.ofR {α : Type} (r : R α) (ρ : Rho) (k : α → Sto → F) : F := match r with
  | .ok a S => k a S
  | .ex e S => .ex e ρ S
  | .bad => .bad
@[simp] theorem F.ofR_ok {α : Type} (a : α) (S : Sto) (ρ : Rho) (k : α → Sto → F) : F.ofR (.ok a S) ρ k = k a S := rfl
@[simp] theorem F.ofR_ex {α : Type} (e : Exn) (S : Sto) (ρ : Rho) (k : α → Sto → F) : F.ofR (.ex e S : R α) ρ k = .ex e ρ S := rfl
@[simp] theorem F.ofR_bad {α : Type} (ρ : Rho) (k : α → Sto → F) : F.ofR (.bad : R α) ρ k = .bad := rfl
def F.seq (r : F) (k : Sm) : F := match r with
  | .nx ρ S => k ρ S
  | r => r
@[simp] theorem F.seq_nx (ρ : Rho) (S : Sto) (k : Sm) : (F.nx ρ S).seq k = k ρ S := rfl
@[simp] theorem F.seq_rt (d : D) (S : Sto) (k : Sm) : (F.rt d S).seq k = .rt d S := rfl
@[simp] theorem F.seq_bk (ρ : Rho) (S : Sto) (k : Sm) : (F.bk ρ S).seq k = .bk ρ S := rfl
@[simp] theorem F.seq_ct (ρ : Rho) (S : Sto) (k : Sm) : (F.ct ρ S).seq k = .ct ρ S := rfl
@[simp] theorem F.seq_ex (e : Exn) (ρ : Rho) (S : Sto) (k : Sm) : (F.ex e ρ S).seq k = .ex e ρ S := rfl
@[simp] theorem F.seq_bad (k : Sm) : F.bad.seq k = .bad := rfl
def wpS (K : PySem.W.Frag) (W : WX) (M : Mp) (H : Hp) (r : F) (Dd : Ends) : Prop := match r with
  | .nx ρ' S' => ∀ M' σ' H', Ext M H M' H' → RepE K M' H' σ' ρ' → HS K M' S' H' → Dd.nx σ' H'
  | .rt d S' => ∀ M' v H', Ext M H M' H' → Rep K M' H' v d → HS K M' S' H' → Dd.rt v H'
  | .bk ρ' S' => ∀ M' σ' H', Ext M H M' H' → RepE K M' H' σ' ρ' → HS K M' S' H' → Dd.bk σ' H'
  | .ct ρ' S' => ∀ M' σ' H', Ext M H M' H' → RepE K M' H' σ' ρ' → HS K M' S' H' → Dd.ct σ' H'
  | .ex e ρ' S' => ∀ M' σ' H' cls dd, Ext M H M' H' → RepE K M' H' σ' ρ' → HS K M' S' H' → ExR K M' H' e cls dd → W cls dd σ' H'
  | .bad => False
section
variable {α β : Type} {rel : Mp → Hp → β → α → Prop} {K : PySem.W.Frag} {W : WX} {σ : L2.St} {M M' : Mp} {H H' : Hp} {S S' : Sto} {ρ : Rho} {r : F} {Dd D2 : Ends}
theorem wpS.ext (e : Ext M H M' H') (h : wpS K W M H r Dd) : wpS K W M' H' r Dd := by
  cases r with
  | nx ρ' S' => exact fun M2 s H2 e2 r hs => h M2 s H2 (e.trans e2) r hs
  | rt d S' => exact fun M2 s H2 e2 r hs => h M2 s H2 (e.trans e2) r hs
  | bk ρ' S' => exact fun M2 s H2 e2 r hs => h M2 s H2 (e.trans e2) r hs
  | ct ρ' S' => exact fun M2 s H2 e2 r hs => h M2 s H2 (e.trans e2) r hs
  | ex x ρ' S' => exact fun M2 s H2 cls dd e2 r hs => h M2 s H2 cls dd (e.trans e2) r hs
  | bad => exact h
theorem wpS.ofR {r : R α} {k : α → Sto → F} {Q1 : β → Hp → Prop} (hr : RepE K M H σ ρ) (h : wpS K W M H (F.ofR r ρ k) Dd)
    (q : ∀ M1 v H1 a S1, Ext M H M1 H1 → rel M1 H1 v a → HS K M1 S1 H1 → wpS K W M1 H1 (k a S1) Dd → Q1 v H1) : wpG rel K W σ M H r Q1 := by
  cases r with
  | ok a S' => exact fun M1 v H1 e r hs => q M1 v H1 a S' e r hs (wpS.ext e h)
  | ex x S' => exact fun M2 H2 cls dd e2 hs q => h M2 σ H2 cls dd e2 (hr.mono e2) hs q
  | bad => exact h
theorem wpS.seq {k : Sm} (h : wpS K W M H (r.seq k) Dd) (nx : ∀ M1 σ1 H1 ρ1 S1, Ext M H M1 H1 → RepE K M1 H1 σ1 ρ1 → HS K M1 S1 H1 → wpS K W M1 H1 (k ρ1 S1) Dd → D2.nx σ1 H1)
    (h1 : D2.rt = Dd.rt) (h2 : D2.bk = Dd.bk) (h3 : D2.ct = Dd.ct) : wpS K W M H r D2 := by
  cases r with
  | nx ρ' S' => exact fun M2 s H2 e2 r hs => nx M2 s H2 ρ' S' e2 r hs (wpS.ext e2 h)
  | rt d S' => intro M2 s H2 e2 r hs; rw [h1]; exact h M2 s H2 e2 r hs
  | bk ρ' S' => intro M2 s H2 e2 r hs; rw [h2]; exact h M2 s H2 e2 r hs
  | ct ρ' S' => intro M2 s H2 e2 r hs; rw [h3]; exact h M2 s H2 e2 r hs
  | ex x ρ' S' => exact h
  | bad => exact h
end
def tDS (K : PySem.W.Frag) (W : WX) (f : Sm) : TS := fun Dd σ H => ∃ M ρ S, RepE K M H σ ρ ∧ HS K M S H ∧ wpS K W M H (f ρ S) Dd
abbrev DS (X : Cx) (W : WX) (st : Stmt) (f : Sm) : Prop := PS X st (tDS X.K W f)
abbrev DSs (X : Cx) (W : WX) (st : List Stmt) (f : Sm) : Prop := PSs X st (tDS X.K W f)
def sNx : Sm := fun ρ S => .nx ρ S
def sSeq (f g : Sm) : Sm := fun ρ S => (f ρ S).seq g
def sBad : Sm := fun _ _ => .bad
def sEx (e : Ee) : Sm := fun ρ S => F.ofR (e ρ S) ρ fun _ S1 => .nx ρ S1
def sRt (e : Ee) : Sm := fun ρ S => F.ofR (e ρ S) ρ fun d S1 => .rt d S1
def sRtN : Sm := fun _ S => .rt .non S
def sIf (t : Et) (a b : Sm) : Sm := fun ρ S => F.ofR (t ρ S) ρ fun k S1 => match k with
  | true => a ρ S1
  | false => b ρ S1
def sBk : Sm := fun ρ S => .bk ρ S
def sCt : Sm := fun ρ S => .ct ρ S
section
variable {X : Cx} {W : WX} {pos : Pos} {e c : Expr} {st : Stmt} {rest p q : List Stmt} {f g : Sm} {fe : Ee} {t : Et}
theorem dss_nil : DSs X W [] sNx := pssI pss_nil fun Dd σ H ⟨M, ρ, S, hr, hs, w⟩ => w M σ H (Ext.refl hs) hr hs
theorem dss_cons (h1 : DS X W st f) (h2 : DSs X W rest g) : DSs X W (st :: rest) (sSeq f g) := pssI (pss_cons h1 h2) fun Dd σ H ⟨M, ρ, S, hr, hs, w⟩ => ⟨M, ρ, S, hr, hs, wpS.seq w (fun M1 σ1 H1 ρ1 S1 e1 r1 hs1 w1 => ⟨M1, ρ1, S1, r1, hs1, w1⟩) rfl rfl rfl⟩
theorem dss_one (h1 : DS X W st f) : DSs X W [st] f := pss_one h1
theorem ds_bad : DS X W st sBad := psI ps_never fun Dd σ H ⟨M, ρ, S, hr, hs, w⟩ => w
theorem ds_pass : DS X W (.Pass pos) sNx := psI ps_pass fun Dd σ H ⟨M, ρ, S, hr, hs, w⟩ => w M σ H (Ext.refl hs) hr hs
theorem ds_break : DS X W (.Break pos) sBk := psI ps_break fun Dd σ H ⟨M, ρ, S, hr, hs, w⟩ => w M σ H (Ext.refl hs) hr hs
theorem ds_cont : DS X W (.Continue pos) sCt := psI ps_continue fun Dd σ H ⟨M, ρ, S, hr, hs, w⟩ => w M σ H (Ext.refl hs) hr hs
theorem ds_doc {x j pos pos'} : DS X W (.Expr (.Constant (.str x) j pos) pos') sNx := psI ps_doc fun Dd σ H ⟨M, ρ, S, hr, hs, w⟩ => w M σ H (Ext.refl hs) hr hs
theorem ds_expr (he : DE X W e fe) (hs : swapsWith e none pos.line X.env = pure false := by rfl) : DS X W (.Expr e pos) (sEx fe) := psI (ps_expr he hs) fun Dd σ H ⟨M, ρ, S, hr, hs, w⟩ => ⟨M, ρ, S, hr, hs, wpS.ofR hr w fun M1 v H1 a S1 e1 r1 hs1 w1 => w1 M1 σ H1 (Ext.refl hs1) (hr.mono e1) hs1⟩
theorem ds_ret (he : DE X W e fe) : DS X W (.Return (some e) pos) (sRt fe) := psI (ps_ret he) fun Dd σ H ⟨M, ρ, S, hr, hs, w⟩ => ⟨M, ρ, S, hr, hs, wpS.ofR hr w fun M1 v H1 a S1 e1 r1 hs1 w1 => w1 M1 v H1 (Ext.refl hs1) r1 hs1⟩
theorem ds_retN : DS X W (.Return none pos) sRtN := psI ps_retN fun Dd σ H ⟨M, ρ, S, hr, hs, w⟩ => w M .non H (Ext.refl hs) .non hs
theorem ds_if (hc : DT X W c t) (ha : DSs X W p f) (hb : DSs X W q g) : DS X W (.If c p q pos) (sIf t f g) := psI (ps_if hc ha hb) fun Dd σ H ⟨M, ρ, S, hr, hs, w⟩ => ⟨M, ρ, S, hr, hs, wpS.ofR hr w fun M1 k H1 k' S1 e1 r1 hs1 w1 => by
  subst r1
  cases k with
  | true => rw [if_pos rfl]; exact ⟨M1, ρ, S1, hr.mono e1, hs1, w1⟩
  | false => rw [if_neg Bool.false_ne_true]; exact ⟨M1, ρ, S1, hr.mono e1, hs1, w1⟩⟩
end

/-! ### targets -/
/-- a store of a value -/
abbrev Tg := D → Rho → Sto → F
def tDG (K : PySem.W.Frag) (W : WX) (g : Tg) : TG := fun v σ H Q => ∃ M ρ S d, RepE K M H σ ρ ∧ HS K M S H ∧ Rep K M H v d ∧ wpS K W M H (g d ρ S) { nx := Q, rt := fun _ _ => False }
abbrev DG (X : Cx) (W : WX) (tg : Expr) (g : Tg) : Prop := PG X tg (tDG X.K W g)
abbrev Tgs := List D → Rho → Sto → F
def tDGs (K : PySem.W.Frag) (W : WX) (g : Tgs) : TGs := fun vs σ H Q => ∃ M ρ S ds, RepE K M H σ ρ ∧ HS K M S H ∧ Reps K M H vs ds ∧ wpS K W M H (g ds ρ S) { nx := Q, rt := fun _ _ => False }
abbrev DGs (X : Cx) (W : WX) (tgs : List Expr) (g : Tgs) : Prop := PGs X tgs (tDGs X.K W g)
def gNm (i : Nat) : Tg := fun d ρ S => .nx (ρ.set i (some d)) S
def gsNil : Tgs := fun ds ρ S => match ds with
  | [] => .nx ρ S
  | _ => .bad
def gsCons (g : Tg) (h : Tgs) : Tgs := fun ds ρ S => match ds with
  | d :: r => (g d ρ S).seq (h r)
  | _ => .bad
def gTp (n : Nat) (h : Tgs) : Tg := fun d ρ S => match d with
  | .tup xs => if xs.length = n then h xs ρ S else .bad
  | _ => .bad
def sAs (e : Ee) (g : Tg) : Sm := fun ρ S => F.ofR (e ρ S) ρ fun d S1 => g d ρ S1
section
variable {X : Cx} {W : WX} {pos : Pos} {tg e : Expr} {es : List Expr} {g : Tg} {h : Tgs} {fe : Ee}
theorem pgI {t t' : TG} (h : PG X tg t) (w : ∀ v σ H Q, t' v σ H Q → t v σ H Q) : PG X tg t' := ⟨fun pins s σ H v u Q I r q => h.run pins s σ H v u Q I r (w v σ H Q q)⟩
theorem pgsI {t t' : TGs} (h : PGs X es t) (w : ∀ v σ H Q, t' v σ H Q → t v σ H Q) : PGs X es t' := ⟨fun pins s σ H v u Q I r q => h.run pins s σ H v u Q I r (w v σ H Q q)⟩
theorem dg_name {i : Nat} {x : Str} (hN : X.N.Nodup) (hi : X.N[i]? = some x := by rfl) (hx : Loc X.env.scope x := by first | exact Or.inl rfl | exact Or.inr rfl) (hf : X.fn x = true ∨ X.env.scope.names.lookup x = some .local := by first | exact .inl rfl | exact .inr rfl | assumption) : DG X W (.Name x pos) (gNm i) :=
  pgI (pg_name hN hi hx hf) fun v σ H Q ⟨M, ρ, S, d, hr, hs, r, w⟩ => w M _ H (Ext.refl hs) (hr.set r) hs
theorem dgs_nil : DGs X W [] gsNil := pgsI pgs_nil fun v σ H Q ⟨M, ρ, S, ds, hr, hs, r, w⟩ => by
  cases r with
  | nil => exact ⟨rfl, w M σ H (Ext.refl hs) hr hs⟩
  | cons => exact w.elim
theorem dgs_cons (h1 : DG X W e g) (h2 : DGs X W es h) (hs : (assignEach (e :: es) X.env).map (·.2) = assign e X.env :: (assignEach es X.env).map (·.2) := by rfl) : DGs X W (e :: es) (gsCons g h) :=
  pgsI (pgs_cons h1 h2 hs) fun v σ H Q ⟨M, ρ, S, ds, hr, hs, r, w⟩ => by
    cases r with
    | nil => exact w.elim
    | @cons v vs d ds r t =>
      refine ⟨v, vs, rfl, M, ρ, S, d, hr, hs, r, wpS.seq w (fun M1 σ1 H1 ρ1 S1 e1 r1 hs1 w1 => ⟨M1, ρ1, S1, ds, r1, hs1, t.mono e1, w1⟩) rfl rfl rfl⟩
theorem dg_tup {k : Nat} {n : Nat} (hc : X.calm = true) (h1 : DGs X W es h)
    (hn : (assignEach es X.env).length = n := by rfl) (hst : (assignEach es X.env).findIdx? (·.1) = none := by rfl) : DG X W (.Tuple es k pos) (gTp n h) := pgI (pg_tup hc h1 hn hst) fun v σ H Q ⟨M, ρ, S, d, hr, hs, r, w⟩ => by
  unfold gTp at w
  cases d with
  | tup xs =>
    cases r with
    | tup q r =>
      simp only at w
      split at w
      · rename_i hl
        exact ⟨_, _, rfl, q.seq, by rw [r.length]; exact hl, M, ρ, S, xs, hr, hs, r, w⟩
      · exact w.elim
  | _ => exact w.elim
/-- a target's flow: on, or nothing -/
def F.on : F → F
  | .nx ρ S => .nx ρ S
  | .ex e ρ S => .ex e ρ S
  | _ => .bad
theorem wpS.on {K : PySem.W.Frag} {M : Mp} {H : Hp} {r : F} {Dd : Ends} (h : wpS K W M H r.on Dd) : wpS K W M H r { nx := Dd.nx, rt := fun _ _ => False } := by
  cases r <;> first | exact h | exact h.elim
def sSt (e : Ee) (g : Tg) : Sm := fun ρ S => F.ofR (e ρ S) ρ fun d S1 => (g d ρ S1).on
theorem ds_asg (he : DE X W e fe) (hg : DG X W tg g) (hs : swapsWithSole [tg] e pos.line X.env = pure false := by rfl) (hw : swappedStores [tg] e X.env = pure none := by rfl)
    (h1 : (assignEach [tg] X.env).map (·.2) = [assign tg X.env] := by rfl) : DS X W (.Assign [tg] e pos) (sSt fe g) := psI (ps_asg he hg hs hw h1) fun Dd σ H ⟨M, ρ, S, hr, hs, w⟩ =>
  ⟨M, ρ, S, hr, hs, wpS.ofR hr w fun M1 v H1 a S1 e1 r1 hs1 w1 => ⟨M1, ρ, S1, a, hr.mono e1, hs1, r1, wpS.on w1⟩⟩
def sSet (i : Nat) (e : Ee) : Sm := fun ρ S => F.ofR (e ρ S) ρ fun d S1 => .nx (ρ.set i (some d)) S1
theorem ds_set {i : Nat} {x : Str} {pos' : Pos} (hN : X.N.Nodup) (he : DE X W e fe) (hi : X.N[i]? = some x := by rfl) (hx : Loc X.env.scope x := by first | exact Or.inl rfl | exact Or.inr rfl) (hs : swapsWith e (some (.Name x pos')) pos.line X.env = pure false := by rfl) (hf : X.fn x = true ∨ X.env.scope.names.lookup x = some .local := by first | exact .inl rfl | exact .inr rfl | assumption) :
    DS X W (.Assign [.Name x pos'] e pos) (sSet i fe) := psI (ps_set hN hi hx he hs hf) fun Dd σ H ⟨M, ρ, S, hr, hs, w⟩ =>
  ⟨M, ρ, S, hr, hs, wpS.ofR hr w fun M1 v H1 a S1 e1 r1 hs1 w1 => w1 M1 _ H1 (Ext.refl hs1) ((hr.mono e1).set r1) hs1⟩
/-- a, b = e1, e2 -/
def sPar (i j : Nat) (a b : Ee) : Sm := fun ρ S => F.ofR (a ρ S) ρ fun x S1 => F.ofR (b ρ S1) ρ fun y S2 => .nx ((ρ.set i (some x)).set j (some y)) S2
theorem ds_par {i j : Nat} {x y : Str} {a b : Expr} {fa fb : Ee} {px py pt : Pos} {kt k2 pt2} (hc : X.calm = true) (hN : X.N.Nodup) (ha : DE X W a fa) (hb : DE X W b fb) (hi : X.N[i]? = some x := by rfl) (hj : X.N[j]? = some y := by rfl) (hij : i ≠ j := by decide)
    (hx : X.env.scope.names.lookup x = some .local := by rfl) (hy : X.env.scope.names.lookup y = some .local := by rfl)
    (hw : swappedStores [.Tuple [.Name x px, .Name y py] kt pt] (.Tuple [a, b] k2 pt2) X.env = pure (some [x, y]) := by rfl)
    (hs : swapsWithSole [.Tuple [.Name x px, .Name y py] kt pt] (.Tuple [a, b] k2 pt2) pos.line X.env = pure false := by rfl)
    (he1 : starEach (a :: [b]) X.env = (false, eval a X.env) :: starEach [b] X.env := by rfl) (he2 : starEach (b :: []) X.env = (false, eval b X.env) :: starEach [] X.env := by rfl) :
    DS X W (.Assign [.Tuple [.Name x px, .Name y py] kt pt] (.Tuple [a, b] k2 pt2) pos) (sPar i j fa fb) :=
  psI (ps_par hc hN hi hj hij hx hy (da_cons ha (da_cons hb da_nil he2) he1) hw hs) fun Dd σ H ⟨M, ρ, S, hr, hs, w⟩ => ⟨M, ρ, S, hr, hs, by
    simp only [eArgs]
    refine wpG.imp (Q := fun vs H1 => ∃ v w, vs = [v, w] ∧ Dd.nx ((σ.set i (some v)).set j (some w)) H1) ?_ (fun _ _ h => h)
    unfold sPar at w
    cases ea : fa ρ S with
    | bad => rw [ea] at w; exact w.elim
    | ex x S1 => rw [ea] at w; exact fun M2 H2 cls dd e2 hs q => w M2 σ H2 cls dd e2 (hr.mono e2) hs q
    | ok d1 S1 =>
      rw [ea] at w
      simp only [F.ofR_ok, R.bind_ok] at w ⊢
      cases eb : fb ρ S1 with
      | bad => rw [eb] at w; exact w.elim
      | ex x S2 => rw [eb] at w; exact fun M2 H2 cls dd e2 hs q => w M2 σ H2 cls dd e2 (hr.mono e2) hs q
      | ok d2 S2 =>
        rw [eb] at w
        simp only [F.ofR_ok, R.bind_ok] at w ⊢
        intro M' vs H' e r hs'
        obtain ⟨v1, v2, rfl, r1, r2⟩ := reps2 r
        exact ⟨v1, v2, rfl, w M' _ H' e (((hr.mono e).set r1).set r2) hs'⟩⟩
/-- o[i] = e, o a list that is changed -/
def sIx (e o i : Ee) : Sm := fun ρ S => F.ofR (e ρ S) ρ fun x S1 => F.ofR (o ρ S1) ρ fun l S2 => F.ofR (i ρ S2) ρ fun k S3 => match l, k with
  | .obj n, .int k => match S3[n]? with
    | some (.lst xs) => match ixN xs.length k with
      | some j => .nx ρ (S3.set n (.lst (xs.set j x)))
      | none => .bad
    | _ => .bad
  | _, _ => .bad
theorem ds_ix {o i : Expr} {fo fi : Ee} {pos' : Pos} (he : DE X W e fe) (ho : DE X W o fo) (hi : DE X W i fi) (hs : swapsWithSole [.Subscript o i pos'] e pos.line X.env = pure false := by rfl) (hw : swappedStores [.Subscript o i pos'] e X.env = pure none := by rfl)
    (h1 : (assignEach [.Subscript o i pos'] X.env).map (·.2) = [assign (.Subscript o i pos') X.env] := by rfl) (ha : ∀ v, assign (.Subscript o i pos') X.env v = (do
      let ov ← holding [v] (eval o X.env)
      let iv ← holding [v, ov] (eval i X.env)
      standAt pos'
      holding [v, ov, iv] (setItem ov iv v)
      release [v, ov, iv] []) := by intro _; rfl) : DS X W (.Assign [.Subscript o i pos'] e pos) (sIx fe fo fi) :=
  psI (ps_asg he (pg_sub ho hi set_list ha) hs hw h1) fun Dd σ H ⟨M, ρ, S, hr, hs, w⟩ => ⟨M, ρ, S, hr, hs, wpS.ofR hr w fun M1 v H1 a S1 e1 r1 hs1 w1 =>
    ⟨M1, ρ, S1, hr.mono e1, hs1, wpS.ofR (hr.mono e1) w1 fun M2 l H2 d2 S2 e2 r2 hs2 w2 => ⟨M2, ρ, S2, (hr.mono e1).mono e2, hs2, wpS.ofR ((hr.mono e1).mono e2) w2 fun M3 k H3 d3 S3 e3 r3 hs3 w3 => by
      have r1' := (r1.mono e2).mono e3
      have r2' := r2.mono e3
      split at w3
      · rename_i n k
        cases r3
        cases r2' with
        | @obj n a hn =>
          split at w3
          · rename_i xs hx
            split at w3
            · rename_i j hj
              obtain ⟨vs, h1, q1⟩ := hs3.at n a _ hn hx
              have e4 : Ext M3 H3 M3 (upd H3 a (.lst (vs.set j v))) := hs3.ext_write hn
              refine ⟨a, vs, k, j, rfl, rfl, h1, by rw [q1.length]; exact hj, ?_⟩
              exact w3 M3 σ _ e4 ((((hr.mono e1).mono e2).mono e3).mono e4) (hs3.write hn ⟨_, upd_same, Reps.set (r1'.mono e4) j (q1.mono e4)⟩)
            · exact w3.elim
          · exact w3.elim
      · exact w3.elim⟩⟩⟩
/-- x op= e, x a name -/
def sAug (i : Nat) (g : D → D → Sto → R D) (e : Ee) : Sm := fun ρ S => F.ofR (eVar i ρ S) ρ fun x S1 => F.ofR (e ρ S1) ρ fun y S2 => F.ofR (g x y S2) ρ fun z S3 => .nx (ρ.set i (some z)) S3
end
end DL
/-! enumerate over a tuple -/
namespace DL
open PySem PySem.Spec PyProof.Rows L2
theorem meets_enumerate_newT (l : Addr) (items : Array Value) :
    Meets (Builtin.«enumerate.__new__» ⟨[.type "enumerate", .ref l], []⟩) (fun _ R s => s.heap.IsTuple l items ∧
      R (.ok (.ret (.ref (s.heap.push { cls := .type "tuple_iterator", data := .fields #[.ref l, .int 0 0] }).objs.size)))
        { s with heap := (s.heap.push { cls := .type "tuple_iterator", data := .fields #[.ref l, .int 0 0] }).push { cls := .type "enumerate", data := .fields #[.none, .bool false, .ref s.heap.objs.size, rawInt 0, .none, .none] } }) :=
  .of_wp fun prog w A R s h => by
    obtain ⟨hp, g, d, tk, os⟩ := s; obtain ⟨hl, h⟩ := h
    have hsub := sub_enumerate
    have hL : Heap.IsTuple (Shared.heap ⟨hp, g, d, tk, os⟩) l items := hl
    have q1 : ∀ {A' : Around} {E : Value → Shared → Prop} {Q : Value → Shared → Prop}, Q (.ref hp.objs.size) ⟨hp.push { cls := .type "tuple_iterator", data := .fields #[.ref l, .int 0 0] }, g, d, tk, os⟩ → wpAny (model prog w) A' (pyIter (.ref l)) Q E ⟨hp, g, d, tk, os⟩ :=
      fun q => (begins_tuple l items).iter prog w _ _ ⟨hp, g, d, tk, os⟩ _ hL q
    wp_walk using q1
    refine wpAny_stack_any fun st => wpAny_pure ?_
    split
    · rename_i c _ _ _ _ _
      cases (c == Value.type "enumerate")
      · wp_walk using q1
        exact ⟨_, rfl, h⟩
      · wp_walk using q1
        exact ⟨_, rfl, h⟩
    · wp_walk using q1
      exact ⟨_, rfl, h⟩
section
variable {prog : Program} {w : World} {A : Around} {E : Value → Shared → Prop} {s : Shared}
theorem call_enumerate_tup {l : Addr} {items : Array Value} {Q : Value → Shared → Prop} (hL : s.heap.IsTuple l items)
    (h : ∀ h', IsEnum h' (s.heap.objs.size + 1) s.heap.objs.size 0 .none → h'.IsTupleIter s.heap.objs.size l 0 → h'.objs.size = s.heap.objs.size + 2 →
      (∀ b o, s.heap.get? b = some o → h'.get? b = some o) → Q (.ref (s.heap.objs.size + 1)) { s with heap := h' }) :
    wpAny (model prog w) A (call (.type "enumerate") [.ref l]) Q E s := by
  refine callType_new F.called_enumerate (by decide) (F.typeCall_enumerate_1 _) (F.newCall_enumerate_1 _) (fun obj => F.args_object_init_2 obj _) F.entry_enumerate_new
    (meets_enumerate_newT l items) ⟨hL, ?_⟩
  have hz : (s.heap.push { cls := .type "tuple_iterator", data := .fields #[.ref l, .int 0 0] }).objs.size = s.heap.objs.size + 1 := Heap.size_push ..
  show _ ∧ _
  rw [hz]
  have he : IsEnum ((s.heap.push { cls := .type "tuple_iterator", data := .fields #[.ref l, .int 0 0] }).push
      { cls := .type "enumerate", data := .fields #[.none, .bool false, .ref s.heap.objs.size, rawInt 0, .none, .none] }) (s.heap.objs.size + 1) s.heap.objs.size 0 .none := by
    have := Heap.get?_push_size (s.heap.push { cls := .type "tuple_iterator", data := .fields #[.ref l, .int 0 0] })
      (o := { cls := .type "enumerate", data := .fields #[.none, .bool false, .ref s.heap.objs.size, rawInt 0, .none, .none] }) rfl
    rw [hz] at this; exact this
  refine ⟨⟨_, he, rfl⟩, h _ he ⟨_, Heap.get?_push_of_some _ (Heap.get?_push_size _ rfl), rfl, rfl⟩ (by rw [Heap.size_push, hz]) fun b o x => Heap.get?_push_of_some _ (Heap.get?_push_of_some _ x)⟩
theorem wpAny_pyNext_enum_endT {e it t : Addr} {k : Nat} {items : Array Value} {i : Int} {old : Value} {Q : Option Value → Shared → Prop}
    (hh : A.in1.handled = none) (he : IsEnum s.heap e it i old) (hit : s.heap.IsTupleIter it t k) (ht : s.heap.IsTuple t items) (hx : items[k]? = none)
    (hQ : ∀ h', Heap.ExtBut it s.heap h' → Q none { s with heap := h' }) : wpAny (model prog w) A (pyNext (.ref e)) Q E s := by
  have hT : s.TypeIs (.ref e) "enumerate" := ⟨_, he, rfl⟩
  unfold pyNext
  refine wpAny_bind (wpAny_attempt (wpAny_callSpecial?_slot (name := Str.ofString "__next__") hT F.slot_enumerate_next
    (wpAny_call_entry F.slot_enumerate_next hT F.entry_enumerate_next ?_ (F.args_enumerate_next_1 _))))
  show wpAny _ _ (field (.ref e) 2 >>= _) _ _ _
  refine wpAny_bind (wpAny_field he rfl (x := .ref it) rfl ?_)
  refine wpAny_bind (wpAny_nextOf_tuple_end hh hit ht hx fun h' x he' hx' => ?_)
  obtain ⟨o, ho, hc⟩ := hx'
  refine wpAny_bind (wpAny_isInstance (T := "StopIteration") (b := true) ⟨o, ho, hc⟩ isSubtype_stop ?_)
  exact wpAny_pure (hQ _ he')
end
/-- the tuple at a, each item in a new pair -/
def Itet (K : PySem.W.Frag) (a : Addr) : It :=
  ⟨fun i H => ∃ (xs : List V) (x : V), SqT K H a xs ∧ xs[i]? = some x, fun i H v H' => ∃ T x, v = .ref T ∧ H T = none ∧ H' = upd H T (.tup [.int (i : Nat), x]) ∧ ∀ xs, SqT K H a xs → xs[i]? = some x, fun i H => ∃ xs : List V, SqT K H a xs ∧ xs.length ≤ i⟩
theorem turn_enumT {P : Program} {w : World} {K : PySem.W.Frag} {elts : List Expr} {kk : Nat} {tpos : Pos} (a e it : Addr) :
    Turn P w K (.Tuple elts kk tpos) (Itet K a) [e, it] e (fun i h => (∃ old, IsEnum h e it ((i : Nat) : Int) old) ∧ h.IsTupleIter it a i ∧ e ≠ it ∧ a ≠ it ∧ a ≠ e) where
  mem := by simp
  obj := fun i h st b hb => by
    obtain ⟨⟨old, he⟩, ⟨o, ho, hc, hd⟩, _⟩ := st
    have e' : b = e ∨ b = it := by simpa using hb
    rcases e' with z | z
    · rw [z]; exact ⟨_, he, fun v q => nomatch q⟩
    · rw [z]; exact ⟨o, ho, fun v q => by rw [hd] at q; cases q⟩
  keep := fun i h h' st k => let ⟨⟨old, he⟩, hi, hne⟩ := st; ⟨⟨old, k e (by simp) _ he⟩, hi.at fun o q => k it (by simp) o q, hne⟩
  item := by
    intro X hP hw hK hc i pins s σ H E I hf st hg
    subst hP hw hK
    obtain ⟨⟨old, he⟩, hit, hne, hai, hae⟩ := st
    obtain ⟨xs, x, hq, hx⟩ := hg
    obtain ⟨its, rv, p, hz⟩ := I.tuple hq
    obtain ⟨u, hu, ru⟩ := rv.get hx
    have hel : e < s.heap.objs.size := Heap.lt_size he
    have hil : it < s.heap.objs.size := by obtain ⟨_, q, _⟩ := hit; exact Heap.lt_size q
    have hlt : i < its.toArray.size := by
      have := (List.getElem?_eq_some_iff.mp hu).1
      simpa using this
    refine wpAny_pyNext_enum_itemD (Draws.tuple (A := X.A.in1) (show X.A.in1.handled = none from I.ok.hd hc) it a hai its.toArray) he ⟨hit, p⟩ hlt hne (by simp; exact ⟨hne, fun z => hae z.symm⟩) fun x1 h' tk hP1 ho hit' hT hsz hk => ?_
    have hxu : x1 = u := by
      have e1 : its.toArray[i]? = some x1 := hP1
      have e2 : its.toArray[i]? = some u := by simpa using hu
      rw [e1] at e2; exact Option.some.inj e2
    subst hxu
    refine ⟨_, rfl, wpAny_letOwnedTupleGo_enum (s := { s with heap := h', toks := tk + 1 }) ho fun h'' he' sb => ?_⟩
    have hT2 : h''.get? s.heap.objs.size = some { cls := .type "tuple", data := .seq #[.int i tk, x1] } := (sb.2 _ (Nat.ne_of_gt hel)).trans hT
    have new : ObjOk X.prog X.w (upd H s.heap.objs.size (.tup [.int (i : Nat), x])) h'' s.heap.objs.size (.tup [.int (i : Nat), x]) :=
      ⟨by show 2 ≤ sizeLine; decide, [.int i tk, x1], .cons ⟨_, rfl⟩ (.cons ru .nil), ⟨_, hT2, rfl, _, rfl⟩⟩
    have I1 : Inv X pins σ (upd H s.heap.objs.size (.tup [.int (i : Nat), x])) { s with heap := h'', toks := tk + 1 } :=
      I.turnedNew (ch := [e, it]) (fun b ob hb q => (sb.2 b (fun z => hb (by simp [z]))).trans (hk b ob (fun z => hb (by simp [z])) (fun z => hb (by simp [z])) q)) hf (Nat.le_refl _) new
    refine ⟨.ref s.heap.objs.size, _, I1, rfl, ⟨_, x, rfl, I.hok.fresh (Nat.le_refl _), rfl, fun ys hy => ?_⟩, ⟨⟨x1, ?_⟩, hit'.1.at fun o q => (sb.2 it (Ne.symm hne)).trans q, hne, hai, hae⟩, fun b hb => ?_⟩
    · rw [I.tuple_inj hy hq]; exact hx
    · have e1 : ((i + 1 : Nat) : Int) = (i : Int) + 1 := by omega
      rw [e1]; exact he'
    · have hb' : b < s.heap.objs.size := by
        have e' : b = e ∨ b = it := by simpa using hb
        rcases e' with z | z
        · rw [z]; exact hel
        · rw [z]; exact hil
      rw [upd_ne (Nat.ne_of_lt hb')]
      exact (hf b hb).1
  done := by
    intro X hP hw hK hc i pins s σ H E I hf st hg
    subst hP hw hK
    obtain ⟨⟨old, he⟩, hit, hne, hai, hae⟩ := st
    obtain ⟨xs, hq, hx⟩ := hg
    obtain ⟨its, rv, p, hz⟩ := I.tuple hq
    obtain ⟨f0, f1, f2, f3, f4, f5⟩ := hf it (by simp)
    have hl := rv.length
    exact wpAny_pyNext_enum_endT (I.ok.hd hc) he hit p (by simp; omega) fun h' eb => ⟨rfl, I.turned (t' := s.toks) (fun b o hb q => eb b o hb q) f0 f1 f3 f4 f5⟩
  self := fun A i s Q E st h => let ⟨⟨_, he⟩, _⟩ := st; wpAny_pyIter_enum he h
def iEnumA (K : PySem.W.Frag) (ta : TA) : TI := fun σ H R => ta σ H fun vs H1 => ∃ a, vs = [.ref a] ∧ ((∃ xs, SqL K H1 a xs ∧ R (Ite K a) H1) ∨ (∃ xs, SqT K H1 a xs ∧ R (Itet K a) H1))
theorem pi_enumA {X : Cx} {e : Expr} {ta : TA} {p pos tpos : Pos} {elts : List Expr} {kk : Nat} (hg : Gl X "enumerate") (hm : X.mg "enumerate" = none) (ha : PA X [e] ta) (hs : starEach [e] X.env = [(false, eval e X.env)] := by rfl) :
    PI X (.Tuple elts kk tpos) (.Call (.Name "enumerate" p) [e] [] pos) (iEnumA X.K ta) := by
  refine ⟨fun pins s σ H R I h => ?_⟩
  refine Call_ (ld_blt I hg hm boot_enumerate (PyProof.Rows.callWith_type1 (thn (ha.run pos pins s σ H _ I h) fun us s1 ⟨vs, H1, I1, r1, q1⟩ => ?_) hs rfl))
  obtain ⟨a, ex, hq⟩ := q1
  subst ex
  cases r1 with
  | cons r rr =>
    cases rr
    cases r
    have fp : ∀ b ∈ [s1.heap.objs.size + 1, s1.heap.objs.size], s1.heap.objs.size ≤ b := fun b hb => by
      have e' : b = s1.heap.objs.size + 1 ∨ b = s1.heap.objs.size := by simpa using hb
      rcases e' with z | z
      · rw [z]; exact Nat.le_add_right _ _
      · rw [z]; exact Nat.le_refl _
    rcases hq with ⟨xs, hq, q⟩ | ⟨xs, hq, q⟩
    · obtain ⟨its, rv, p', hz⟩ := I1.list hq
      refine call_enumerate_list p'.isList fun h' he hit hsz hk => wpAny_pyIter_enum he ?_
      have I2 : Inv X pins σ H1 { s1 with heap := h' } := I1.kept (t' := s1.toks) hk
      exact ⟨s1.heap.objs.size + 1, [s1.heap.objs.size + 1, s1.heap.objs.size], _, _, H1, rfl, I2, turn_enum a (s1.heap.objs.size + 1) s1.heap.objs.size, ⟨⟨.none, he⟩, hit, Nat.succ_ne_self _⟩, fun b hb => I1.fpOk (fp b hb) (I1.hok.fresh (fp b hb)), q⟩
    · obtain ⟨its, rv, p', hz⟩ := I1.tuple hq
      have hal : a < s1.heap.objs.size := by obtain ⟨_, z, _⟩ := p'; exact Heap.lt_size z
      refine call_enumerate_tup p' fun h' he hit hsz hk => wpAny_pyIter_enum he ?_
      have I2 : Inv X pins σ H1 { s1 with heap := h' } := I1.kept (t' := s1.toks) hk
      exact ⟨s1.heap.objs.size + 1, [s1.heap.objs.size + 1, s1.heap.objs.size], _, _, H1, rfl, I2, turn_enumT a (s1.heap.objs.size + 1) s1.heap.objs.size, ⟨⟨.none, he⟩, hit, Nat.succ_ne_self _, Nat.ne_of_lt hal, Nat.ne_of_lt (Nat.lt_succ_of_lt hal)⟩, fun b hb => I1.fpOk (fp b hb) (I1.hok.fresh (fp b hb)), q⟩
end DL
namespace DL
open PySem PySem.Spec PyProof.Rows L2

/-! ### while -/
/-- the flow of a turn: on, or out of the loop -/
def F.turn (r : F) (k : Sm) : F := match r with
  | .nx ρ S => k ρ S
  | .ct ρ S => k ρ S
  | .bk ρ S => .nx ρ S
  | r => r
@[simp] theorem F.turn_nx (ρ : Rho) (S : Sto) (k : Sm) : (F.nx ρ S).turn k = k ρ S := rfl
@[simp] theorem F.turn_ct (ρ : Rho) (S : Sto) (k : Sm) : (F.ct ρ S).turn k = k ρ S := rfl
@[simp] theorem F.turn_bk (ρ : Rho) (S : Sto) (k : Sm) : (F.bk ρ S).turn k = .nx ρ S := rfl
@[simp] theorem F.turn_rt (d : D) (S : Sto) (k : Sm) : (F.rt d S).turn k = .rt d S := rfl
@[simp] theorem F.turn_ex (e : Exn) (ρ : Rho) (S : Sto) (k : Sm) : (F.ex e ρ S).turn k = .ex e ρ S := rfl
@[simp] theorem F.turn_bad (k : Sm) : F.bad.turn k = .bad := rfl
section
variable {K : PySem.W.Frag} {W : WX} {M : Mp} {H : Hp} {r : F} {Dd : Ends}
theorem wpS.turn {k : Sm} {N : L2.St → Hp → Prop} (h : wpS K W M H (r.turn k) Dd)
    (nx : ∀ M1 σ1 H1 ρ1 S1, Ext M H M1 H1 → RepE K M1 H1 σ1 ρ1 → HS K M1 S1 H1 → wpS K W M1 H1 (k ρ1 S1) Dd → N σ1 H1) : wpS K W M H r { Dd with nx := N, ct := N, bk := Dd.nx } := by
  cases r with
  | nx ρ' S' => exact fun M2 s H2 e2 r hs => nx M2 s H2 ρ' S' e2 r hs (wpS.ext e2 h)
  | rt d S' => exact h
  | bk ρ' S' => exact h
  | ct ρ' S' => exact fun M2 s H2 e2 r hs => nx M2 s H2 ρ' S' e2 r hs (wpS.ext e2 h)
  | ex x ρ' S' => exact h
  | bad => exact h
end
def sWh : Nat → Et → Sm → Sm
  | 0, _, _ => fun _ _ => .bad
  | n + 1, t, b => fun ρ S => F.ofR (t ρ S) ρ fun k S1 => match k with
    | true => (b ρ S1).turn (sWh n t b)
    | false => .nx ρ S1
section
variable {X : Cx} {W : WX} {pos : Pos} {c : Expr} {body : List Stmt} {t : Et} {b : Sm}
theorem ds_while (n : Nat) (hp : PassesOwn (model X.prog X.w) X.A X.env X.xe) (hc : DT X W c t) (hb : DSs X W body b) : DS X W (.While c body [] pos) (sWh n t b) := psI (ps_while hp hc hb) fun Dd σ H ⟨M, ρ, S, hr, hs, w⟩ => by
  refine ⟨fun m σ H => ∃ M ρ S, RepE X.K M H σ ρ ∧ HS X.K M S H ∧ wpS X.K W M H (sWh m t b ρ S) Dd, ⟨n, M, ρ, S, hr, hs, w⟩, fun m σ H ⟨M, ρ, S, hr, hs, w⟩ => ?_⟩
  cases m with
  | zero => exact w.elim
  | succ m =>
    refine ⟨M, ρ, S, hr, hs, wpS.ofR hr w fun M1 k H1 k' S1 e1 r1 hs1 w1 => ?_⟩
    subst r1
    cases k with
    | true =>
      rw [if_pos rfl]
      exact ⟨fun σ' H' => ∃ M ρ S, RepE X.K M H' σ' ρ ∧ HS X.K M S H' ∧ wpS X.K W M H' (sWh m t b ρ S) Dd, fun σ' H' q => ⟨m, Nat.lt_succ_self m, q⟩, M1, ρ, S1, hr.mono e1, hs1, wpS.turn w1 fun M2 σ2 H2 ρ2 S2 e2 r2 hs2 w2 => ⟨M2, ρ2, S2, r2, hs2, w2⟩⟩
    | false =>
      rw [if_neg Bool.false_ne_true]
      exact w1 M1 σ H1 (Ext.refl hs1) (hr.mono e1) hs1
end

/-! ### what is walked -/
inductive Src where
  | it (d : D) | rng (lo : Int) (n : Nat) | en (d : D) | zp (a b : D)
def itsOf (S : Sto) (d : D) : Option (List D) := match view S d with
  | .lst xs => some xs
  | .tup xs => some xs
  | _ => none
def srcAt (S : Sto) (i : Nat) : Src → Option D
  | .it d => match itsOf S d with
    | some xs => xs[i]?
    | none => none
  | .rng lo n => if i < n then some (.int (lo + i)) else none
  | .en d => match itsOf S d with
    | some xs => match xs[i]? with
      | some x => some (.tup [.int i, x])
      | none => none
    | none => none
  | .zp a b => match itsOf S a, itsOf S b with
    | some xs, some ys => match xs[i]?, ys[i]? with
      | some x, some y => some (.tup [x, y])
      | _, _ => none
    | _, _ => none
def srcLen (S : Sto) : Src → Option Nat
  | .it d => match itsOf S d with
    | some xs => some xs.length
    | none => none
  | .rng _ n => some n
  | .en d => match itsOf S d with
    | some xs => some xs.length
    | none => none
  | .zp a b => match itsOf S a, itsOf S b with
    | some xs, some ys => some (min xs.length ys.length)
    | _, _ => none
def isL : D → Bool
  | .lst _ => true
  | .obj _ => true
  | _ => false
/-- the library's walk J goes as the source says -/
inductive SrcIs (K : PySem.W.Frag) (M : Mp) (H : Hp) : It → Src → Prop
  | lst {a : Addr} {d : D} : isL d = true → Rep K M H (.ref a) d → SrcIs K M H (Itl K a) (.it d)
  | tup {a : Addr} {xs : List D} : Rep K M H (.ref a) (.tup xs) → SrcIs K M H (Itt K a) (.it (.tup xs))
  | rng (lo : Int) (n : Nat) : SrcIs K M H (Itr lo n) (.rng lo n)
  | en {a : Addr} {d : D} : isL d = true → Rep K M H (.ref a) d → SrcIs K M H (Ite K a) (.en d)
  | enT {a : Addr} {xs : List D} : Rep K M H (.ref a) (.tup xs) → SrcIs K M H (Itet K a) (.en (.tup xs))
  | zp {a b : Addr} {d e : D} : isL d = true → isL e = true → Rep K M H (.ref a) d → Rep K M H (.ref b) e → SrcIs K M H (Itz K a b) (.zp d e)
theorem SrcIs.mono {K : PySem.W.Frag} {M M' : Mp} {H H' : Hp} {J : It} {s : Src} (h : SrcIs K M H J s) (e : Ext M H M' H') : SrcIs K M' H' J s := by
  cases h with
  | lst l r => exact .lst l (r.mono e)
  | tup r => exact .tup (r.mono e)
  | rng lo n => exact .rng lo n
  | en l r => exact .en l (r.mono e)
  | enT r => exact .enT (r.mono e)
  | zp l l2 r r2 => exact .zp l l2 (r.mono e) (r2.mono e)
theorem SrcIs.hideNew {K : PySem.W.Frag} {M : Mp} {H : Hp} {J : It} {s : Src} {Dd : Addr} {o : HO} (h : SrcIs K M H J s) (hD : H Dd = none) : SrcIs K (M.hide Dd) (upd H Dd o) J s := by
  cases h with
  | lst l r => exact .lst l (r.hide hD).upd
  | tup r => exact .tup (r.hide hD).upd
  | rng lo n => exact .rng lo n
  | en l r => exact .en l (r.hide hD).upd
  | enT r => exact .enT (r.hide hD).upd
  | zp l l2 r r2 => exact .zp l l2 (r.hide hD).upd (r2.hide hD).upd
theorem SrcIs.upd {K : PySem.W.Frag} {M : Mp} {H : Hp} {J : It} {s : Src} {Dd : Addr} {o : HO} (h : SrcIs K (M.hide Dd) H J s) : SrcIs K (M.hide Dd) (L2.upd H Dd o) J s := by
  cases h with
  | lst l r => exact .lst l r.upd
  | tup r => exact .tup r.upd
  | rng lo n => exact .rng lo n
  | en l r => exact .en l r.upd
  | enT r => exact .enT r.upd
  | zp l l2 r r2 => exact .zp l l2 r.upd r2.upd
abbrev Es := Rho → Sto → R Src
def tDI (K : PySem.W.Frag) (W : WX) (f : Es) : TI := fun σ H Rr => ∃ M ρ S, RepE K M H σ ρ ∧ HS K M S H ∧ wpG (fun M H (J : It) s => SrcIs K M H J s) K W σ M H (f ρ S) Rr
abbrev DI (X : Cx) (W : WX) (tg iter : Expr) (f : Es) : Prop := PI X tg iter (tDI X.K W f)
section
variable {X : Cx} {W : WX} {pos p : Pos} {tg e a b : Expr} {es : List Expr} {f fa fb : Ee} {fs : List Ee}
theorem piI {t t' : TI} (h : PI X tg e t) (w : ∀ σ H Q, t' σ H Q → t σ H Q) : PI X tg e t' := ⟨fun pins s σ H R I q => h.run pins s σ H R I (w σ H R q)⟩
def eIt (f : Ee) : Es := fun ρ S => (f ρ S).bind fun d S1 => .ok (.it d) S1
def iSeq (K : PySem.W.Frag) (tl : TE) : TI := fun σ H R => tl σ H fun x H1 => ∃ a, x = .ref a ∧ ((∃ xs, SqL K H1 a xs ∧ R (Itl K a) H1) ∨ (∃ xs, SqT K H1 a xs ∧ R (Itt K a) H1))
theorem pi_seq {l : Expr} {tl : TE} (hl : PE X l tl) : PI X tg l (iSeq X.K tl) := by
  refine ⟨fun pins s σ H R I h => ?_⟩
  refine thn (hl.run pins s σ H _ I h) fun v s1 ⟨x, H1, I1, r1, q1⟩ => ?_
  obtain ⟨a, e, q⟩ := q1
  subst e
  cases r1
  rcases q with ⟨xs, hq, q⟩ | ⟨xs, hq, q⟩
  · obtain ⟨its, rv, p, hz⟩ := I1.list hq
    refine wpAny_pyIter_list p.isList ?_
    refine ⟨s1.heap.objs.size, [s1.heap.objs.size], _, _, H1, rfl, I1.kept (t' := s1.toks) fun b o e => Heap.get?_push_of_some _ e, turn_list a _, ⟨_, Heap.get?_push_size _ rfl, rfl, rfl⟩, fun b hb => ?_, q⟩
    have e : b = s1.heap.objs.size := by simpa using hb
    subst e
    exact I1.fpOk (Nat.le_refl _) (I1.hok.fresh (Nat.le_refl _))
  · obtain ⟨its, rv, p, hz⟩ := I1.tuple hq
    refine wpAny_pyIter_tuple (show s1.heap.IsTuple a its.toArray from p) ?_
    refine ⟨s1.heap.objs.size, [s1.heap.objs.size], _, _, H1, rfl, I1.kept (t' := s1.toks) fun b o e => Heap.get?_push_of_some _ e, turn_tuple a _, ⟨_, Heap.get?_push_size _ rfl, rfl, rfl⟩, fun b hb => ?_, q⟩
    have e : b = s1.heap.objs.size := by simpa using hb
    subst e
    exact I1.fpOk (Nat.le_refl _) (I1.hok.fresh (Nat.le_refl _))
theorem rep_ref {K : PySem.W.Frag} {M : Mp} {H : Hp} {S : Sto} {v : V} {d : D} {xs : List D} (hs : HS K M S H) (r : Rep K M H v d) (h : itsOf S d = some xs) :
    (∃ a vs, v = .ref a ∧ view S d = .lst xs ∧ H a = some (.lst vs) ∧ Reps K M H vs xs) ∨ (∃ a vs, v = .ref a ∧ view S d = .tup xs ∧ SqT K H a vs ∧ Reps K M H vs xs) := by
  unfold itsOf at h
  split at h
  · rename_i ys e
    cases h
    obtain ⟨a, vs, rfl, h1, h2⟩ := view_lst hs r e
    exact .inl ⟨a, vs, rfl, e, h1, h2⟩
  · rename_i ys e
    cases h
    obtain ⟨a, vs, rfl, h1, h2⟩ := view_tup r e
    exact .inr ⟨a, vs, rfl, e, h1, h2⟩
  · cases h
theorem isL_ref {K : PySem.W.Frag} {M : Mp} {H : Hp} {S : Sto} {a : Addr} {d : D} {xs : List D} (hs : HS K M S H) (l : isL d = true) (r : Rep K M H (.ref a) d) (h : itsOf S d = some xs) : ∃ vs, H a = some (.lst vs) ∧ Reps K M H vs xs := by
  rcases rep_ref hs r h with ⟨a', vs, ea, ev, h1, h2⟩ | ⟨a', vs, ea, ev, h1, h2⟩
  · cases ea; exact ⟨vs, h1, h2⟩
  · exfalso
    cases d with
    | lst ys => simp only [view] at ev; cases ev
    | obj n => rcases view_obj ev with ⟨_, h⟩ | h <;> cases h
    | _ => cases l
theorem SrcIs.ok {K : PySem.W.Frag} {M : Mp} {H : Hp} {S : Sto} {J : It} {s : Src} (h : SrcIs K M H J s) (hs : HS K M S H) :
    (∀ i x, srcAt S i s = some x → J.go i H ∧ ∀ v H', J.yld i H v H' → Ext M H M H' ∧ HS K M S H' ∧ Rep K M H' v x) ∧ (∀ i n, srcLen S s = some n → n ≤ i → J.stop i H) := by
  cases h with
  | @lst a d l r =>
    refine ⟨fun i x hx => ?_, fun i n hn hle => ?_⟩
    · simp only [srcAt] at hx
      split at hx
      · rename_i ys hy
        obtain ⟨vs, h1, h2⟩ := isL_ref hs l r hy
        obtain ⟨v, hv, rv⟩ := h2.get' hx
        refine ⟨⟨vs, v, SqL.of h1, hv⟩, fun w H' hq => ?_⟩
        obtain ⟨rfl, hq⟩ := hq
        have := hq vs (SqL.of h1)
        rw [hv] at this
        cases this
        exact ⟨Ext.refl hs, hs, rv⟩
      · cases hx
    · simp only [srcLen] at hn
      split at hn
      · rename_i ys hy
        cases hn
        obtain ⟨vs, h1, h2⟩ := isL_ref hs l r hy
        exact ⟨vs, SqL.of h1, by rw [h2.length]; exact hle⟩
      · cases hn
  | @tup a xs r =>
    cases r with
    | @tup _ vs _ q rs =>
      refine ⟨fun i x hx => ?_, fun i n hn hle => ?_⟩
      · simp only [srcAt, itsOf, view] at hx
        obtain ⟨v, hv, rv⟩ := rs.get' hx
        refine ⟨⟨vs, v, q.seq, hv⟩, fun w H' hq => ?_⟩
        obtain ⟨rfl, hq⟩ := hq
        have := hq vs q.seq
        rw [hv] at this
        cases this
        exact ⟨Ext.refl hs, hs, rv⟩
      · simp only [srcLen, itsOf, view] at hn
        cases hn
        exact ⟨vs, q.seq, by rw [rs.length]; exact hle⟩
  | rng lo n =>
    refine ⟨fun i x hx => ?_, fun i m hn hle => ?_⟩
    · simp only [srcAt] at hx
      split at hx
      · rename_i hi
        cases hx
        refine ⟨hi, fun w H' hq => ?_⟩
        obtain ⟨rfl, rfl⟩ := hq
        exact ⟨Ext.refl hs, hs, .int _⟩
      · cases hx
    · simp only [srcLen] at hn
      cases hn
      exact hle
  | @en a d l r =>
    refine ⟨fun i x hx => ?_, fun i n hn hle => ?_⟩
    · simp only [srcAt] at hx
      split at hx
      · rename_i ys hy
        split at hx
        · rename_i y hy2
          cases hx
          obtain ⟨vs, h1, h2⟩ := isL_ref hs l r hy
          obtain ⟨v, hv, rv⟩ := h2.get' hy2
          refine ⟨⟨vs, v, SqL.of h1, hv⟩, fun w H' hq => ?_⟩
          obtain ⟨T, y', rfl, hT, rfl, hq⟩ := hq
          have := hq vs (SqL.of h1)
          rw [hv] at this
          cases this
          exact ⟨Ext.same hs (Same.new hT), hs.same (Same.new hT), Rep.newT hs hT (.cons (.int _) (.cons rv .nil))⟩
        · cases hx
      · cases hx
    · simp only [srcLen] at hn
      split at hn
      · rename_i ys hy
        cases hn
        obtain ⟨vs, h1, h2⟩ := isL_ref hs l r hy
        exact ⟨vs, SqL.of h1, by rw [h2.length]; exact hle⟩
      · cases hn
  | @enT a xs r =>
    cases r with
    | @tup _ vs _ q rs =>
      refine ⟨fun i x hx => ?_, fun i n hn hle => ?_⟩
      · simp only [srcAt, itsOf, view] at hx
        split at hx
        · rename_i y hy2
          cases hx
          obtain ⟨v, hv, rv⟩ := rs.get' hy2
          refine ⟨⟨vs, v, q.seq, hv⟩, fun w H' hq => ?_⟩
          obtain ⟨T, y', rfl, hT, rfl, hq⟩ := hq
          have := hq vs q.seq
          rw [hv] at this
          cases this
          exact ⟨Ext.same hs (Same.new hT), hs.same (Same.new hT), Rep.newT hs hT (.cons (.int _) (.cons rv .nil))⟩
        · cases hx
      · simp only [srcLen, itsOf, view] at hn
        cases hn
        exact ⟨vs, q.seq, by rw [rs.length]; exact hle⟩
  | @zp a b d e l l2 r r2 =>
    refine ⟨fun i x hx => ?_, fun i n hn hle => ?_⟩
    · simp only [srcAt] at hx
      split at hx
      · rename_i xs ys hy hz
        split at hx
        · rename_i y z hy2 hz2
          cases hx
          obtain ⟨vs, h1, h2⟩ := isL_ref hs l r hy
          obtain ⟨ws, k1, k2⟩ := isL_ref hs l2 r2 hz
          obtain ⟨v, hv, rv⟩ := h2.get' hy2
          obtain ⟨w, hw, rw'⟩ := k2.get' hz2
          refine ⟨⟨vs, ws, v, w, SqL.of h1, SqL.of k1, hv, hw⟩, fun u H' hq => ?_⟩
          obtain ⟨T, y', z', rfl, hT, rfl, hq, hq2⟩ := hq
          have t1 := hq vs (SqL.of h1)
          rw [hv] at t1
          cases t1
          have t2 := hq2 ws (SqL.of k1)
          rw [hw] at t2
          cases t2
          exact ⟨Ext.same hs (Same.new hT), hs.same (Same.new hT), Rep.newT hs hT (.cons rv (.cons rw' .nil))⟩
        · cases hx
      · cases hx
    · simp only [srcLen] at hn
      split at hn
      · rename_i xs ys hy hz
        cases hn
        obtain ⟨vs, h1, h2⟩ := isL_ref hs l r hy
        obtain ⟨ws, k1, k2⟩ := isL_ref hs l2 r2 hz
        refine ⟨vs, ws, SqL.of h1, SqL.of k1, ?_⟩
        rw [h2.length, k2.length]
        omega
      · cases hn
/-- .. of what can be walked -/
def eItS (f : Ee) : Es := fun ρ S => (f ρ S).bind fun d S1 => match itsOf S1 d with
  | some _ => .ok (.it d) S1
  | none => .bad
theorem view_isL {S : Sto} {d : D} {xs : List D} (h : view S d = .lst xs) : isL d = true := by
  cases d with
  | lst ys => rfl
  | obj n => rfl
  | _ => simp only [view] at h; cases h
theorem di_seq (h : DE X W e f) : DI X W tg e (eItS f) := piI (pi_seq h) fun σ H Rr ⟨M, ρ, S, hr, hs, w⟩ => ⟨M, ρ, S, hr, hs, wpG.bind w fun M1 v H1 d S1 e1 r1 hs1 w1 => by
  split at w1
  · rename_i xs hx
    rcases rep_ref hs1 r1 hx with ⟨a, vs, rfl, ev, h1, h2⟩ | ⟨a, vs, rfl, ev, h1, h2⟩
    · exact ⟨a, rfl, .inl ⟨vs, SqL.of h1, w1 M1 (Itl X.K a) H1 (Ext.refl hs1) (.lst (view_isL ev) r1) hs1⟩⟩
    · have ed := view_tup' r1 ev
      subst ed
      exact ⟨a, rfl, .inr ⟨vs, h1, w1 M1 (Itt X.K a) H1 (Ext.refl hs1) (.tup r1) hs1⟩⟩
  · exact w1.elim⟩
def smallI (i : Int) : Bool := Nat.ble i.natAbs 4611686018427387903
theorem smallI_of {i : Int} (h : smallI i = true) : -(2 ^ 62) ≤ i ∧ i < 2 ^ 62 := by
  have := Nat.le_of_ble_eq_true h
  omega
theorem smallI_mk {i : Int} (h : -4611686018427387904 < i) (h2 : i < 4611686018427387904) : smallI i = true := Nat.ble_eq_true_of_le (by omega)
def eRng1 (f : Ee) : Es := fun ρ S => (eArgs [f] ρ S).bind fun ds S1 => match ds with
  | [.int j] => if smallI j then .ok (.rng 0 j.toNat) S1 else .bad
  | _ => .bad
def eRng2 (f g : Ee) : Es := fun ρ S => (eArgs [f, g] ρ S).bind fun ds S1 => match ds with
  | [.int i, .int j] => if smallI i && smallI j then .ok (.rng i (j - i).toNat) S1 else .bad
  | _ => .bad
theorem di_rng1 (hg : Gl X "range") (hm : X.mg "range" = none) (ha : DA X W [a] (eArgs [fa])) (hs : starEach [a] X.env = [(false, eval a X.env)] := by rfl) : DI X W tg (.Call (.Name "range" p) [a] [] pos) (eRng1 fa) :=
  piI (pi_range1 hg hm ha hs) fun σ H Rr ⟨M, ρ, S, hr, hs, w⟩ => ⟨M, ρ, S, hr, hs, wpG.bind w fun M1 vs H1 ds S1 e1 r1 hs1 w1 => by
    split at w1
    · split at w1
      · rename_i j hj
        obtain ⟨v, rfl, r⟩ := reps1 r1
        cases r
        have := smallI_of hj
        exact ⟨_, rfl, this.1, this.2, w1 M1 _ H1 (Ext.refl hs1) (.rng 0 _) hs1⟩
      · exact w1.elim
    · exact w1.elim⟩
theorem di_rng2 (hg : Gl X "range") (hm : X.mg "range" = none) (ha : DA X W [a, b] (eArgs [fa, fb])) (hs : starEach [a, b] X.env = [(false, eval a X.env), (false, eval b X.env)] := by rfl) (hs2 : starEach [b] X.env = [(false, eval b X.env)] := by rfl) : DI X W tg (.Call (.Name "range" p) [a, b] [] pos) (eRng2 fa fb) :=
  piI (pi_range2 hg hm ha hs hs2) fun σ H Rr ⟨M, ρ, S, hr, hs, w⟩ => ⟨M, ρ, S, hr, hs, wpG.bind w fun M1 vs H1 ds S1 e1 r1 hs1 w1 => by
    split at w1
    · split at w1
      · rename_i i j hj
        obtain ⟨v, v2, rfl, r, r2⟩ := reps2 r1
        cases r
        cases r2
        rw [Bool.and_eq_true] at hj
        have h1 := smallI_of hj.1
        have h2 := smallI_of hj.2
        exact ⟨_, _, rfl, ⟨h1.1, h1.2, h2.1, h2.2⟩, w1 M1 _ H1 (Ext.refl hs1) (.rng _ _) hs1⟩
      · exact w1.elim
    · exact w1.elim⟩
def isLT : D → Bool
  | .lst _ => true
  | .obj _ => true
  | .tup _ => true
  | _ => false
@[simp] theorem isLT_lst (xs : List D) : isLT (.lst xs) = true := rfl
@[simp] theorem isLT_tup (xs : List D) : isLT (.tup xs) = true := rfl
@[simp] theorem isLT_obj (n : Nat) : isLT (.obj n) = true := rfl
def eEn (f : Ee) : Es := fun ρ S => (eArgs [f] ρ S).bind fun ds S1 => match ds with
  | [d] => if isLT d then match itsOf S1 d with
    | some _ => .ok (.en d) S1
    | none => .bad else .bad
  | _ => .bad
theorem di_enum {elts : List Expr} {kk : Nat} {tpos : Pos} (hg : Gl X "enumerate") (hm : X.mg "enumerate" = none) (ha : DA X W [a] (eArgs [fa])) (hs : starEach [a] X.env = [(false, eval a X.env)] := by rfl) : DI X W (.Tuple elts kk tpos) (.Call (.Name "enumerate" p) [a] [] pos) (eEn fa) :=
  piI (pi_enumA hg hm ha hs) fun σ H Rr ⟨M, ρ, S, hr, hs, w⟩ => ⟨M, ρ, S, hr, hs, wpG.bind w fun M1 vs H1 ds S1 e1 r1 hs1 w1 => by
    split at w1
    · rename_i d
      split at w1
      · rename_i hl
        split at w1
        · rename_i xs hx
          obtain ⟨v, rfl, r⟩ := reps1 r1
          rcases rep_ref hs1 r hx with ⟨a', us, rfl, ev, h1, h2⟩ | ⟨a', us, rfl, ev, h1, h2⟩
          · have hl2 : isL d = true := by
              cases d with
              | tup ys => simp only [view] at ev; cases ev
              | lst _ => rfl
              | obj _ => rfl
              | _ => cases hl
            exact ⟨a', rfl, .inl ⟨us, SqL.of h1, w1 M1 _ H1 (Ext.refl hs1) (.en hl2 r) hs1⟩⟩
          · cases d with
            | lst ys => simp only [view] at ev; cases ev
            | obj n => rcases view_obj ev with ⟨_, h⟩ | h <;> cases h
            | tup ys => exact ⟨a', rfl, .inr ⟨us, h1, w1 M1 _ H1 (Ext.refl hs1) (.enT r) hs1⟩⟩
            | _ => cases hl
        · exact w1.elim
      · exact w1.elim
    · exact w1.elim⟩
def eZp (f g : Ee) : Es := fun ρ S => (eArgs [f, g] ρ S).bind fun ds S1 => match ds with
  | [d, e] => if isL d && isL e then match itsOf S1 d, itsOf S1 e with
    | some _, some _ => .ok (.zp d e) S1
    | _, _ => .bad else .bad
  | _ => .bad
end

/-! ### for -/
def forLoop (s : Src) (g : Tg) (b : Sm) : Nat → Nat → Sm
  | 0, i => fun ρ S => match srcLen S s with
    | some n => if n ≤ i then .nx ρ S else .bad
    | none => .bad
  | k + 1, i => fun ρ S => match srcAt S i s with
    | some x => (g x ρ S).on.seq fun ρ1 S1 => (b ρ1 S1).turn (forLoop s g b k (i + 1))
    | none => .bad
def sFor (f : Es) (g : Tg) (b : Sm) : Sm := fun ρ S => F.ofR (f ρ S) ρ fun s S1 => match srcLen S1 s with
  | some n => forLoop s g b n 0 ρ S1
  | none => .bad
section
variable {X : Cx} {W : WX} {pos : Pos} {tg iter : Expr} {body : List Stmt} {f : Es} {g : Tg} {b : Sm}
theorem ds_for (hp : PassesOwn (model X.prog X.w) X.A X.env X.xe) (hc : X.calm = true) (hi : DI X W tg iter f) (hg : DG X W tg g) (hb : DSs X W body b)
    (hs : ∀ x, foldedSetIterable iter X.env x = pure x := by intro _; rfl) : DS X W (.For tg iter body [] pos) (sFor f g b) := psI (ps_for hp hc hi hg hb hs) fun Dd σ H ⟨M, ρ, S, hr, hs, w⟩ => by
  refine ⟨M, ρ, S, hr, hs, wpS.ofR hr w fun M1 J H1 s S1 e1 r1 hs1 w1 => ?_⟩
  cases hn : srcLen S1 s with
  | none => simp only [hn] at w1; exact w1.elim
  | some n =>
    simp only [hn] at w1
    refine ⟨fun i m σ H => ∃ M ρ S, RepE X.K M H σ ρ ∧ HS X.K M S H ∧ SrcIs X.K M H J s ∧ wpS X.K W M H (forLoop s g b m i ρ S) Dd, ⟨n, M1, ρ, S1, hr.mono e1, hs1, r1, w1⟩, fun i m σ H ⟨M, ρ, S, hr, hs, ok, w⟩ => ?_⟩
    obtain ⟨o1, o2⟩ := ok.ok hs
    cases m with
    | zero =>
      simp only [forLoop] at w
      split at w
      · rename_i n hn
        split at w
        · rename_i hle
          exact .inl ⟨o2 i n hn hle, w M σ H (Ext.refl hs) hr hs⟩
        · exact w.elim
      · exact w.elim
    | succ m =>
      simp only [forLoop] at w
      split at w
      · rename_i x hx
        obtain ⟨go, yl⟩ := o1 i x hx
        refine .inr ⟨go, fun σ' H' => ∃ M ρ S, RepE X.K M H' σ' ρ ∧ HS X.K M S H' ∧ SrcIs X.K M H' J s ∧ wpS X.K W M H' (forLoop s g b m (i + 1) ρ S) Dd, fun σ' H' q => ⟨m, Nat.lt_succ_self m, q⟩, fun v H' hy => ?_⟩
        obtain ⟨e2, hs2, rv⟩ := yl v H' hy
        refine ⟨M, ρ, S, x, hr.mono e2, hs2, rv, ?_⟩
        have w2 := wpS.ext e2 w
        have w3 : wpS X.K W M H' (g x ρ S).on { nx := fun σ2 H2 => tDS X.K W b { Dd with nx := fun σ' H' => ∃ M ρ S, RepE X.K M H' σ' ρ ∧ HS X.K M S H' ∧ SrcIs X.K M H' J s ∧ wpS X.K W M H' (forLoop s g b m (i + 1) ρ S) Dd, ct := fun σ' H' => ∃ M ρ S, RepE X.K M H' σ' ρ ∧ HS X.K M S H' ∧ SrcIs X.K M H' J s ∧ wpS X.K W M H' (forLoop s g b m (i + 1) ρ S) Dd, bk := Dd.nx } σ2 H2, rt := Dd.rt, bk := Dd.bk, ct := Dd.ct } :=
          wpS.seq w2 (fun M3 σ3 H3 ρ3 S3 e3 r3 hs3 w3 => ⟨M3, ρ3, S3, r3, hs3, wpS.turn w3 fun M4 σ4 H4 ρ4 S4 e4 r4 hs4 w4 => ⟨M4, ρ4, S4, r4, hs4, ((ok.mono e2).mono e3).mono e4, w4⟩⟩) rfl rfl rfl
        exact wpS.on w3
      · exact w.elim
end
end DL
namespace DL
open PySem PySem.Spec PyProof.Rows L2

/-! ### list comprehensions -/
def R.calm {α : Type} (r : R α) : R α := match r with
  | .ex _ _ => .bad
  | r => r
@[simp] theorem R.calm_ok {α : Type} (a : α) (S : Sto) : (R.ok a S).calm = .ok a S := rfl
@[simp] theorem R.calm_bad {α : Type} : (R.bad : R α).calm = .bad := rfl
abbrev W0 : WX := fun _ _ _ _ => False
theorem wpG.quiet {α β : Type} {rel : Mp → Hp → β → α → Prop} {K : PySem.W.Frag} {W W' : WX} {σ σ' : L2.St} {M : Mp} {H : Hp} {r : R α} {Q : β → Hp → Prop} (h : wpG rel K W σ M H r.calm Q) : wpG rel K W' σ' M H r Q := by
  cases r with
  | ok a S => exact h
  | ex e S => exact h.elim
  | bad => exact h.elim
theorem calm_bind {α β : Type} {rel : Mp → Hp → β → α → Prop} {γ δ : Type} {rel2 : Mp → Hp → δ → γ → Prop} {K : PySem.W.Frag} {W W' : WX} {σ σ' : L2.St} {M : Mp} {H : Hp} {r : R α} {k : α → Sto → R γ} {Q : δ → Hp → Prop} {Q1 : β → Hp → Prop}
    (h : wpG rel2 K W σ M H (r.calm.bind k) Q) (q : ∀ M1 v H1 a S1, Ext M H M1 H1 → rel M1 H1 v a → HS K M1 S1 H1 → wpG rel2 K W σ M1 H1 (k a S1) Q → Q1 v H1) : wpG rel K W' σ' M H r Q1 := by
  cases r with
  | ok a S' => exact fun M1 v H1 e r hs => q M1 v H1 a S' e r hs (wpG.ext e h)
  | ex x S' => exact h.elim
  | bad => exact h.elim
/-- targets of a comprehension: a name, names -/
inductive Ct where
  | nm (i : Nat) | tp (is : List Nat)
def Ct.put : Ct → D → Rho → Option Rho
  | .nm i, d, ρ => some (ρ.set i (some d))
  | .tp is, .tup xs, ρ => go is xs ρ
  | .tp _, _, _ => none
where go : List Nat → List D → Rho → Option Rho
  | [], [], ρ => some ρ
  | i :: is, x :: xs, ρ => go is xs (ρ.set i (some x))
  | _, _, _ => none
def Ct.slots : Ct → List Nat
  | .nm i => [i]
  | .tp is => is
/-- the library's reading of such a target -/
def Ct.rd (K : PySem.W.Frag) : Ct → TG
  | .nm i => gName i
  | .tp is => gTup K is.length (is.foldr (fun i t => gCons (gName i) t) gNil)
theorem set_wipe {i : Nat} {x : Option V} : ∀ {vs : List Nat} {σ : L2.St}, i ∈ vs → wipe (σ.set i x) vs = wipe σ vs
  | v :: vs, σ, h => by
    by_cases hv : i ∈ vs
    · show (wipe (σ.set i x) vs).set v none = (wipe σ vs).set v none
      rw [set_wipe hv]
    · have e : i = v := by
        rcases List.mem_cons.mp h with h | h
        · exact h
        · exact absurd h hv
      subst e
      show (wipe (σ.set i x) vs).set i none = (wipe σ vs).set i none
      have : ∀ (vs : List Nat) (σ : L2.St), i ∉ vs → wipe (σ.set i x) vs = (wipe σ vs).set i x := fun vs => by
        induction vs with
        | nil => intro σ _; rfl
        | cons w ws ih =>
          intro σ hn
          show (wipe (σ.set i x) ws).set w none = ((wipe σ ws).set w none).set i x
          rw [ih σ (fun z => hn (List.mem_cons_of_mem _ z)), List.set_comm]
          exact fun z => hn (z ▸ List.mem_cons_self)
      rw [this vs σ hv, List.set_set]
def wipeR (ρ : Rho) : List Nat → Rho
  | [] => ρ
  | v :: vs => (wipeR ρ vs).set v none
theorem wipeR_rep {K : PySem.W.Frag} {M : Mp} {H : Hp} {σ : L2.St} {ρ : Rho} (h : RepE K M H σ ρ) : ∀ vs : List Nat, RepE K M H (wipe σ vs) (wipeR ρ vs)
  | [] => h
  | v :: vs => by
    have ih := wipeR_rep h vs
    refine ⟨by show ((wipe σ vs).set v none).length = ((wipeR ρ vs).set v none).length; rw [List.length_set, List.length_set]; exact ih.len, fun i d e => ?_⟩
    have e : ((wipeR ρ vs).set v none)[i]? = some (some d) := e
    show ∃ x, ((wipe σ vs).set v none)[i]? = some (some x) ∧ _
    by_cases z : v = i
    · subst z
      by_cases hl : v < (wipeR ρ vs).length
      · rw [List.getElem?_set_self hl] at e; cases e
      · rw [List.getElem?_eq_none (by rw [List.length_set]; omega)] at e; cases e
    · rw [List.getElem?_set_ne z] at e ⊢
      exact ih.at i d e
theorem wipe_idem : ∀ {vs : List Nat} {σ : L2.St}, wipe (wipe σ vs) vs = wipe σ vs := by
  have key : ∀ (ws vs : List Nat) (σ : L2.St), (∀ w ∈ ws, w ∈ vs) → wipe (wipe σ vs) ws = wipe σ vs := by
    intro ws
    induction ws with
    | nil => intro vs σ _; rfl
    | cons w ws ih =>
      intro vs σ h
      show (wipe (wipe σ vs) ws).set w none = wipe σ vs
      rw [ih vs σ (fun z hz => h z (List.mem_cons_of_mem _ hz))]
      apply List.ext_getElem?
      intro j
      by_cases e : w = j
      · subst e
        by_cases hl : w < (wipe σ vs).length
        · rw [List.getElem?_set_self hl]
          have q : (wipe σ vs)[w]? = some (wipe σ vs)[w] := List.getElem?_eq_getElem hl
          cases z : (wipe σ vs)[w] with
          | none => rw [q, z]
          | some x =>
            rw [z] at q
            exact absurd (h w List.mem_cons_self) (wipe_some q).2
        · rw [List.getElem?_eq_none (by rw [List.length_set]; omega), List.getElem?_eq_none (by omega)]
      · rw [List.getElem?_set_ne e]
  exact fun {vs σ} => key vs vs σ fun _ h => h
theorem Ext.unhide {M M3 : Mp} {H H' : Hp} {Dd : Addr} (e : Ext (M.hide Dd) H M3 H') : ∃ M4 : Mp, M3 = M4.hide Dd ∧ Ext M H M4 H' :=
  ⟨⟨M3.o, M.p⟩, by have := e.priv; cases M3; simp only [Mp.hide] at this ⊢; rw [this], e.more, rfl, e.keep, e.stay⟩
theorem Ext.updNew {M M3 : Mp} {H H' : Hp} {Dd : Addr} {o : HO} (e : Ext M H M3 H') (hD : H Dd = none) : Ext M H M3 (upd H' Dd o) :=
  ⟨e.more, e.priv, fun b x hb q => by rw [upd_ne (ne_of_none q hD)]; exact e.keep b x hb q, fun b hb => by
    by_cases z : b = Dd
    · subst z; exact ⟨o, upd_same⟩
    · obtain ⟨x, q⟩ := e.stay b hb
      exact ⟨x, by rw [upd_ne z]; exact q⟩⟩
section
variable {K : PySem.W.Frag}
theorem ct_go {M : Mp} {H : Hp} : ∀ {is : List Nat} {vs : List V} {ds : List D} {σ : L2.St} {ρ ρ' : Rho} {Q : L2.St → Hp → Prop} {ws : List Nat}, RepE K M H σ ρ → Reps K M H vs ds → Ct.put.go is ds ρ = some ρ' → (∀ i ∈ is, i ∈ ws) →
    (∀ σ', RepE K M H σ' ρ' → wipe σ' ws = wipe σ ws → Q σ' H) → (is.foldr (fun i t => gCons (gName i) t) gNil) vs σ H Q
  | [], _, _, σ, ρ, ρ', Q, ws, hr, .nil, h, hw, q => by
    simp only [Ct.put.go] at h
    cases h
    exact ⟨rfl, q σ hr rfl⟩
  | i :: is, _, _, σ, ρ, ρ', Q, ws, hr, .cons (v := v) (d := d) r t, h, hw, q => by
    simp only [Ct.put.go] at h
    refine ⟨_, _, rfl, ?_⟩
    exact ct_go (ws := ws) (hr.set r) t h (fun j hj => hw j (List.mem_cons_of_mem _ hj)) fun σ' h1 h2 => q σ' h1 (h2.trans (set_wipe (hw i List.mem_cons_self)))
  | [], _, _, σ, ρ, ρ', Q, ws, hr, .cons r t, h, hw, q => by simp only [Ct.put.go] at h; cases h
  | i :: is, _, _, σ, ρ, ρ', Q, ws, hr, .nil, h, hw, q => by simp only [Ct.put.go] at h; cases h
theorem go_len : ∀ {is : List Nat} {ds : List D} {ρ ρ' : Rho}, Ct.put.go is ds ρ = some ρ' → ds.length = is.length
  | [], [], _, _, _ => rfl
  | i :: is, d :: ds, ρ, ρ', h => by simp only [Ct.put.go] at h; rw [List.length_cons, List.length_cons, go_len h]
  | [], _ :: _, _, _, h => by simp only [Ct.put.go] at h; cases h
  | _ :: _, [], _, _, h => by simp only [Ct.put.go] at h; cases h
theorem ct_put {M : Mp} {H : Hp} {c : Ct} {v : V} {d : D} {σ : L2.St} {ρ ρ' : Rho} {Q : L2.St → Hp → Prop} {ws : List Nat} (hr : RepE K M H σ ρ) (r : Rep K M H v d) (h : c.put d ρ = some ρ') (hw : ∀ i ∈ c.slots, i ∈ ws)
    (q : ∀ σ', RepE K M H σ' ρ' → wipe σ' ws = wipe σ ws → Q σ' H) : c.rd K v σ H Q := by
  cases c with
  | nm i =>
    simp only [Ct.put] at h
    cases h
    exact q _ (hr.set r) (set_wipe (hw i List.mem_cons_self))
  | tp is =>
    cases d with
    | tup xs =>
      simp only [Ct.put] at h
      cases r with
      | tup s rs => exact ⟨_, _, rfl, s.seq, by rw [rs.length, go_len h], ct_go hr rs h hw q⟩
    | _ => simp only [Ct.put] at h; cases h
end
def lcLoop (s : Src) (c : Ct) (t : Et) (e : Ee) : Nat → Nat → Rho → Sto → R (List D)
  | 0, i, _, S => match srcLen S s with
    | some n => if n ≤ i then .ok [] S else .bad
    | none => .bad
  | k + 1, i, ρ, S => match srcAt S i s with
    | some x => match c.put x ρ with
      | some ρ1 => (t ρ1 S).calm.bind fun b S2 => match b with
        | true => (e ρ1 S2).calm.bind fun y S3 => (lcLoop s c t e k (i + 1) ρ S3).bind fun ys S4 => .ok (y :: ys) S4
        | false => lcLoop s c t e k (i + 1) ρ S2
      | none => .bad
    | none => .bad
def eLc (f : Es) (c : Ct) (t : Et) (e : Ee) (ws : List Nat) : Ee := fun ρ S => (f ρ S).bind fun s S1 => match srcLen S1 s with
  | some n => if n ≤ 16777216 then (lcLoop s c t e n 0 (wipeR ρ ws) S1).calm.bind fun ys S2 => .ok (.lst ys) S2 else .bad
  | none => .bad
def tYesD : Et := fun _ S => .ok true S
section
variable {X : Cx} {W : WX} {pos : Pos} {tg iter elt : Expr} {ifs : List Expr} {f : Es} {c : Ct} {t : Et} {e : Ee} {own : List (Str × Nat)} {scope : Scope}
abbrev DTs (X : Cx) (W : WX) (ifs : List Expr) (f : Et) : Prop := PTs X ifs (tDT X.K W f)
theorem dts_nil : DTs X W [] tYesD := ⟨fun pins s σ H Q I ⟨M, ρ, S, hr, hs, w⟩ => (pts_nil (X := X)).run pins s σ H Q I (w M true H (Ext.refl hs) rfl hs)⟩
theorem dts_one {x : Expr} (h : DT X W x t) : DTs X W [x] t := pts_one h
theorem tLc_of (hw : ∀ i ∈ c.slots, i ∈ own.map (·.2)) : ∀ σ H Q, tD X.K W (eLc f c t e (own.map (·.2))) σ H Q → tLc (tDI X.K W f) (c.rd X.K) (tDT X.K W0 t) (tD X.K W0 e) (own.map (·.2)) σ H Q := by
  intro σ H Q ⟨M, ρ, S, hr, hs, w⟩
  refine ⟨M, ρ, S, hr, hs, wpG.bind w fun M1 J H1 s S1 e1 ok hs1 w1 => ?_⟩
  intro Dd hD
  cases hn : srcLen S1 s with
  | none => simp only [hn] at w1; exact w1.elim
  | some n =>
    simp only [hn] at w1
    split at w1
    · rename_i hN
      have hrw := wipeR_rep (hr.mono e1) (own.map (·.2))
      have e0 : Ext M1 H1 M1 (upd H1 Dd (.lst [])) := Ext.same hs1 (Same.new hD)
      have hf : ¬ M1.In Dd := hs1.fresh hD
      -- the state of the loop
      refine ⟨fun i m H2 => ∃ (M2 : Mp) (S2 : Sto) (av : List V) (ad : List D), i + m = n ∧ Ext M1 H1 M2 H2 ∧ HS X.K (M2.hide Dd) S2 H2 ∧ RepE X.K (M2.hide Dd) H2 (wipe σ (own.map (·.2))) (wipeR ρ (own.map (·.2))) ∧ SrcIs X.K (M2.hide Dd) H2 J s ∧
          H2 Dd = some (.lst av) ∧ av.length ≤ i ∧ Reps X.K (M2.hide Dd) H2 av ad ∧ wpG (Rep X.K) X.K W σ M1 H1 ((lcLoop s c t e m i (wipeR ρ (own.map (·.2))) S2).calm.bind fun ys S3 => .ok (.lst (ad ++ ys)) S3) Q, ?_, ?_⟩
      · refine ⟨n, M1, S1, [], [], Nat.zero_add n, e0, hs1.hideNew hD, ?_, ok.hideNew hD, upd_same, Nat.le_refl 0, .nil, w1⟩
        refine ⟨hrw.len, fun i d q => ?_⟩
        obtain ⟨v, a, b⟩ := hrw.at i d q
        exact ⟨v, a, (b.hide hD).upd⟩
      · intro i m H2 ⟨M2, S2, av, ad, him, e2, hs2, hr2, ok2, hDd, hlen, hav, w2⟩
        obtain ⟨o1, o2⟩ := ok2.ok hs2
        have hnD : Dd ∉ M2.o := (hs2.pv Dd List.mem_cons_self).1
        cases m with
        | zero =>
          simp only [lcLoop] at w2
          cases hl : srcLen S2 s with
          | none => simp only [hl] at w2; exact w2.elim
          | some n2 =>
            simp only [hl] at w2
            split at w2
            · rename_i hle
              refine .inl ⟨o2 i n2 hl hle, ?_⟩
              simp only [R.calm_ok, R.bind_ok, List.append_nil] at w2
              refine w2 M2 (.ref Dd) H2 e2 (.lst ⟨fun z => ?_, hDd⟩ hav.show_) hs2.show_
              rcases z with z | z
              · exact hnD z
              · rw [e2.priv] at z; exact hf (.inr z)
            · exact w2.elim
        | succ m =>
          simp only [lcLoop] at w2
          cases hx : srcAt S2 i s with
          | none => simp only [hx] at w2; exact w2.elim
          | some x =>
            simp only [hx] at w2
            cases hp : c.put x (wipeR ρ (own.map (·.2))) with
            | none => simp only [hp] at w2; exact w2.elim
            | some ρ1 =>
              simp only [hp] at w2
              obtain ⟨go, yl⟩ := o1 i x hx
              refine .inr ⟨go, fun H' => ∃ (M2 : Mp) (S2 : Sto) (av : List V) (ad : List D), (i + 1) + m = n ∧ Ext M1 H1 M2 H' ∧ HS X.K (M2.hide Dd) S2 H' ∧ RepE X.K (M2.hide Dd) H' (wipe σ (own.map (·.2))) (wipeR ρ (own.map (·.2))) ∧ SrcIs X.K (M2.hide Dd) H' J s ∧
                H' Dd = some (.lst av) ∧ av.length ≤ i + 1 ∧ Reps X.K (M2.hide Dd) H' av ad ∧ wpG (Rep X.K) X.K W σ M1 H1 ((lcLoop s c t e m (i + 1) (wipeR ρ (own.map (·.2))) S2).calm.bind fun ys S3 => .ok (.lst (ad ++ ys)) S3) Q, fun H' h => ⟨m, Nat.lt_succ_self m, h⟩, fun v H' hy => ?_⟩
              obtain ⟨a1, a2, a3⟩ := yl v H' hy
              refine ct_put (ws := own.map (·.2)) (hr2.mono a1) a3 hp hw fun σ' r1 hwp => ⟨hwp.trans wipe_idem, M2.hide Dd, ρ1, S2, r1, a2, ?_⟩
              cases ht : t ρ1 S2 with
              | bad => simp only [ht] at w2; exact w2.elim
              | ex x S3 => simp only [ht] at w2; exact w2.elim
              | ok b S3 =>
                simp only [ht, R.calm_ok, R.bind_ok] at w2
                intro M3 b' H3 e3 hb hs3
                subst hb
                obtain ⟨M4, rfl, e4⟩ := e3.unhide
                have hnd : ∀ o, H2 Dd = some o → H3 Dd = some o := fun o q => e3.keep Dd o hnD (a1.keep Dd o hnD q)
                have e24 : Ext M1 H1 M4 H3 := (e2.trans (show Ext M2 H2 M2 H' from ⟨a1.more, rfl, a1.keep, a1.stay⟩)).trans e4
                cases b' with
                | true =>
                  rw [if_pos rfl]
                  simp only at w2
                  refine ⟨M4.hide Dd, ρ1, S3, r1.mono e3, hs3, ?_⟩
                  cases he : e ρ1 S3 with
                  | bad => simp only [he] at w2; exact w2.elim
                  | ex x S4 => simp only [he] at w2; exact w2.elim
                  | ok y S4 =>
                    simp only [he, R.calm_ok, R.bind_ok] at w2
                    intro M5 yv H5 e5 ry hs5
                    obtain ⟨M6, rfl, e6⟩ := e5.unhide
                    have h5 : H5 Dd = some (.lst av) := e5.keep Dd _ (hs3.pv Dd List.mem_cons_self).1 (hnd _ hDd)
                    refine ⟨av, h5, lt_line (by omega), M6, S4, av ++ [yv], ad ++ [y], by omega, (e24.trans e6).updNew hD, hs5.upd, (((hr2.mono a1).mono e3).mono e5).upd, (((ok2.mono a1).mono e3).mono e5).upd, upd_same, by simp; omega,
                      (((((hav.mono a1).mono e3).mono e5).append (.cons ry .nil)).upd), ?_⟩
                    cases hz : lcLoop s c t e m (i + 1) (wipeR ρ (own.map (·.2))) S4 with
                    | bad => simp only [hz] at w2; exact w2.elim
                    | ex x S5 => simp only [hz] at w2; exact w2.elim
                    | ok ys S5 =>
                      simp only [hz, R.calm_ok, R.bind_ok] at w2 ⊢
                      rw [List.append_assoc]
                      exact w2
                | false =>
                  rw [if_neg Bool.false_ne_true]
                  simp only at w2
                  exact ⟨M4, S3, av, ad, by omega, e24, hs3, (hr2.mono a1).mono e3, (ok2.mono a1).mono e3, hnd _ hDd, by omega, (hav.mono a1).mono e3, w2⟩
    · exact w1.elim
theorem ct_rd (hc : X.calm = true) {i : Nat} {x : Str} (hN : X.N.Nodup) (hi : X.N[i]? = some x := by rfl) (hx : Loc X.env.scope x := by first | exact Or.inl rfl | exact Or.inr rfl) (hf : X.fn x = true ∨ X.env.scope.names.lookup x = some .local := by first | exact .inl rfl | exact .inr rfl | assumption) : PG X (.Name x pos) ((Ct.nm i).rd X.K) := pg_name hN hi hx hf
theorem de_lc (hc : X.calm = true) (hN : X.N.Nodup) (hi : DI X W tg iter f) (ok : BlkOk X.N X.env.scope scope own) (hw : ∀ i ∈ c.slots, i ∈ own.map (·.2))
    (hg : ∀ (s : Shared) (H : Hp) (C : Addr) (cl : List (Str × Addr)) (fp : List Addr), PG (X.blk s H scope (compEnvC scope cl C X.env) fp) tg (c.rd X.K)) (ht : ∀ (s : Shared) (H : Hp) (C : Addr) (cl : List (Str × Addr)) (fp : List Addr), DTs (X.blk s H scope (compEnvC scope cl C X.env) fp) W0 ifs t)
    (he : ∀ (s : Shared) (H : Hp) (C : Addr) (cl : List (Str × Addr)) (fp : List Addr), DE (X.blk s H scope (compEnvC scope cl C X.env) fp) W0 elt e) (hs : ∀ x, foldedSetIterable iter X.env x = pure x := by intro _; rfl) :
    DE X W (.ListComp elt [⟨tg, iter, ifs, 0⟩] scope pos) (eLc f c t e (own.map (·.2))) := peI (pe_lc hc hN hi ok hg ht he hs) (tLc_of hw)
theorem ds_setLc {i : Nat} {y : Str} {py : Pos} {spos : Pos} (hc : X.calm = true) (hN : X.N.Nodup) (hi : DI X W tg iter f) (ok : BlkOk X.N X.env.scope scope own) (hw : ∀ i ∈ c.slots, i ∈ own.map (·.2))
    (hg : ∀ (s : Shared) (H : Hp) (C : Addr) (cl : List (Str × Addr)) (fp : List Addr), PG (X.blk s H scope (compEnvC scope cl C X.env) fp) tg (c.rd X.K)) (ht : ∀ (s : Shared) (H : Hp) (C : Addr) (cl : List (Str × Addr)) (fp : List Addr), DTs (X.blk s H scope (compEnvC scope cl C X.env) fp) W0 ifs t)
    (he : ∀ (s : Shared) (H : Hp) (C : Addr) (cl : List (Str × Addr)) (fp : List Addr), DE (X.blk s H scope (compEnvC scope cl C X.env) fp) W0 elt e)
    (hy : X.N[i]? = some y := by rfl) (hyl : X.env.scope.names.lookup y = some .local := by rfl)
    (hsw : swapsWith (.ListComp elt [⟨tg, iter, ifs, 0⟩] scope pos) (some (.Name y py)) spos.line X.env = pure true := by exact sw_true rfl rfl rfl (by decide +kernel)) (hs : ∀ x, foldedSetIterable iter X.env x = pure x := by intro _; rfl) :
    DS X W (.Assign [.Name y py] (.ListComp elt [⟨tg, iter, ifs, 0⟩] scope pos) spos) (sSet i (eLc f c t e (own.map (·.2)))) :=
  psI (ps_setLc hc hN hy hyl hsw hi ok hg ht he hs) fun Dd σ H ⟨M, ρ, S, hr, hs, w⟩ => by
    refine tLc_of hw σ H _ ⟨M, ρ, S, hr, hs, wpS.ofR hr w fun M1 v H1 a S1 e1 r1 hs1 w1 => ?_⟩
    exact w1 M1 _ H1 (Ext.refl hs1) ((hr.mono e1).set r1) hs1
end
end DL
namespace DL
open PySem PySem.Spec PyProof.Rows L2
/-! ### comprehensions with two fors -/
def lc2Loop (s : Src) (c : Ct) (t : Et) (f1 : Es) (c1 : Ct) (t1 : Et) (e : Ee) (ws1 : List Nat) : Nat → Nat → Rho → Sto → R (List D)
  | 0, i, _, S => match srcLen S s with
    | some n => if n ≤ i then .ok [] S else .bad
    | none => .bad
  | k + 1, i, ρ, S => match srcAt S i s with
    | some x => match c.put x ρ with
      | some ρ1 => (t ρ1 S).calm.bind fun b S2 => match b with
        | true => (f1 ρ1 S2).calm.bind fun s1 S3 => match srcLen S3 s1 with
          | some n1 => if n1 ≤ 1000 then (lcLoop s1 c1 t1 e n1 0 (wipeR ρ1 ws1) S3).calm.bind fun ys S4 => (lc2Loop s c t f1 c1 t1 e ws1 k (i + 1) ρ S4).calm.bind fun zs S5 => .ok (ys ++ zs) S5 else .bad
          | none => .bad
        | false => lc2Loop s c t f1 c1 t1 e ws1 k (i + 1) ρ S2
      | none => .bad
    | none => .bad
def eLc2 (f : Es) (c : Ct) (t : Et) (f1 : Es) (c1 : Ct) (t1 : Et) (e : Ee) (ws ws1 : List Nat) : Ee := fun ρ S => (f ρ S).bind fun s S1 => match srcLen S1 s with
  | some n => if n ≤ 1000 then (lc2Loop s c t f1 c1 t1 e ws1 n 0 (wipeR ρ ws) S1).calm.bind fun ys S2 => .ok (.lst ys) S2 else .bad
  | none => .bad
section
variable {X : Cx} {W : WX} {pos : Pos} {tg iter elt tg1 iter1 : Expr} {ifs ifs1 : List Expr} {f f1 : Es} {c c1 : Ct} {t t1 : Et} {e : Ee} {own : List (Str × Nat)} {scope : Scope} {ws1 : List Nat}
theorem Ext.unh {M : Mp} {H H' : Hp} {Dd : Addr} (a : Ext (M.hide Dd) H (M.hide Dd) H') : Ext M H M H' := ⟨a.more, rfl, a.keep, a.stay⟩
theorem tLc2_of (hw : ∀ i ∈ c.slots, i ∈ own.map (·.2)) (hw1 : ∀ i ∈ c1.slots, i ∈ ws1) : ∀ σ H Q, tD X.K W (eLc2 f c t f1 c1 t1 e (own.map (·.2)) ws1) σ H Q →
    tLc2 (tDI X.K W f) (c.rd X.K) (tDT X.K W0 t) (tDI X.K W0 f1) (c1.rd X.K) (tDT X.K W0 t1) (tD X.K W0 e) (own.map (·.2)) ws1 σ H Q := by
  intro σ H Q ⟨M, ρ, S, hr, hs, w⟩
  refine ⟨M, ρ, S, hr, hs, wpG.bind w fun M1 J H1 s S1 e1 ok hs1 w1 => ?_⟩
  intro Dd hD
  cases hn : srcLen S1 s with
  | none => simp only [hn] at w1; exact w1.elim
  | some n =>
    simp only [hn] at w1
    split at w1
    · rename_i hN
      have hrw := wipeR_rep (hr.mono e1) (own.map (·.2))
      have e0 : Ext M1 H1 M1 (upd H1 Dd (.lst [])) := Ext.same hs1 (Same.new hD)
      have hf : ¬ M1.In Dd := hs1.fresh hD
      let Out : Nat → Nat → Hp → Prop := fun i m H2 => ∃ (M2 : Mp) (S2 : Sto) (av : List V) (ad : List D), i + m = n ∧ Ext M1 H1 M2 H2 ∧ HS X.K (M2.hide Dd) S2 H2 ∧ RepE X.K (M2.hide Dd) H2 (wipe σ (own.map (·.2))) (wipeR ρ (own.map (·.2))) ∧ SrcIs X.K (M2.hide Dd) H2 J s ∧
          H2 Dd = some (.lst av) ∧ av.length ≤ i * 1000 ∧ Reps X.K (M2.hide Dd) H2 av ad ∧ wpG (Rep X.K) X.K W σ M1 H1 ((lc2Loop s c t f1 c1 t1 e ws1 m i (wipeR ρ (own.map (·.2))) S2).calm.bind fun ys S3 => .ok (.lst (ad ++ ys)) S3) Q
      refine ⟨Out, ?_, ?_⟩
      · refine ⟨n, M1, S1, [], [], Nat.zero_add n, e0, hs1.hideNew hD, ?_, ok.hideNew hD, upd_same, Nat.le_refl 0, .nil, w1⟩
        refine ⟨hrw.len, fun i d q => ?_⟩
        obtain ⟨v, a, b⟩ := hrw.at i d q
        exact ⟨v, a, (b.hide hD).upd⟩
      · intro i m H2 ⟨M2, S2, av, ad, him, e2, hs2, hr2, ok2, hDd, hlen, hav, w2⟩
        obtain ⟨o1, o2⟩ := ok2.ok hs2
        have hnD : Dd ∉ M2.o := (hs2.pv Dd List.mem_cons_self).1
        cases m with
        | zero =>
          simp only [lc2Loop] at w2
          cases hl : srcLen S2 s with
          | none => simp only [hl] at w2; exact w2.elim
          | some n2 =>
            simp only [hl] at w2
            split at w2
            · rename_i hle
              refine .inl ⟨o2 i n2 hl hle, ?_⟩
              simp only [R.calm_ok, R.bind_ok, List.append_nil] at w2
              refine w2 M2 (.ref Dd) H2 e2 (.lst ⟨fun z => ?_, hDd⟩ hav.show_) hs2.show_
              rcases z with z | z
              · exact hnD z
              · rw [e2.priv] at z; exact hf (.inr z)
            · exact w2.elim
        | succ m =>
          simp only [lc2Loop] at w2
          cases hx : srcAt S2 i s with
          | none => simp only [hx] at w2; exact w2.elim
          | some x =>
            simp only [hx] at w2
            cases hp : c.put x (wipeR ρ (own.map (·.2))) with
            | none => simp only [hp] at w2; exact w2.elim
            | some ρ1 =>
              simp only [hp] at w2
              obtain ⟨go, yl⟩ := o1 i x hx
              refine .inr ⟨go, Out (i + 1) m, fun H' h => ⟨m, Nat.lt_succ_self m, h⟩, fun v H' hy => ?_⟩
              obtain ⟨a1, a2, a3⟩ := yl v H' hy
              refine ct_put (ws := own.map (·.2)) (hr2.mono a1) a3 hp hw fun σ' r1 hwp => ⟨hwp.trans wipe_idem, M2.hide Dd, ρ1, S2, r1, a2, ?_⟩
              cases ht : t ρ1 S2 with
              | bad => simp only [ht] at w2; exact w2.elim
              | ex x S3 => simp only [ht] at w2; exact w2.elim
              | ok b S3 =>
                simp only [ht, R.calm_ok, R.bind_ok] at w2
                intro M3 b' H3 e3 hb hs3
                subst hb
                obtain ⟨M4, rfl, e4⟩ := e3.unhide
                have e24 : Ext M1 H1 M4 H3 := (e2.trans a1.unh).trans e4
                have h3D : H3 Dd = some (.lst av) := e3.keep Dd _ hnD (a1.keep Dd _ hnD hDd)
                cases b' with
                | false =>
                  rw [if_neg Bool.false_ne_true]
                  simp only at w2
                  exact ⟨M4, S3, av, ad, by omega, e24, hs3, (hr2.mono a1).mono e3, (ok2.mono a1).mono e3, h3D, by omega, (hav.mono a1).mono e3, w2⟩
                | true =>
                  rw [if_pos rfl]
                  simp only at w2
                  refine ⟨M4.hide Dd, ρ1, S3, r1.mono e3, hs3, ?_⟩
                  cases hf1 : f1 ρ1 S3 with
                  | bad => simp only [hf1] at w2; exact w2.elim
                  | ex x S4 => simp only [hf1] at w2; exact w2.elim
                  | ok s1 S4 =>
                    simp only [hf1, R.calm_ok, R.bind_ok] at w2
                    intro M5 J1 H4 e5 ok4 hs4
                    obtain ⟨M6, rfl, e6⟩ := e5.unhide
                    have h4D : H4 Dd = some (.lst av) := e5.keep Dd _ (hs3.pv Dd List.mem_cons_self).1 h3D
                    cases hn1 : srcLen S4 s1 with
                    | none => simp only [hn1] at w2; exact w2.elim
                    | some n1 =>
                      simp only [hn1] at w2
                      split at w2
                      · rename_i hN1
                        have hrw1 := wipeR_rep ((r1.mono e3).mono e5) ws1
                        let In : Nat → Nat → Hp → Prop := fun j k H5 => ∃ (M7 : Mp) (S5 : Sto) (av : List V) (ad : List D), j + k = n1 ∧ Ext M1 H1 M7 H5 ∧ HS X.K (M7.hide Dd) S5 H5 ∧ RepE X.K (M7.hide Dd) H5 (wipe σ (own.map (·.2))) (wipeR ρ (own.map (·.2))) ∧ RepE X.K (M7.hide Dd) H5 (wipe σ' ws1) (wipeR ρ1 ws1) ∧ SrcIs X.K (M7.hide Dd) H5 J s ∧ SrcIs X.K (M7.hide Dd) H5 J1 s1 ∧
                          H5 Dd = some (.lst av) ∧ av.length ≤ i * 1000 + j ∧ Reps X.K (M7.hide Dd) H5 av ad ∧ wpG (Rep X.K) X.K W σ M1 H1 (((lcLoop s1 c1 t1 e k j (wipeR ρ1 ws1) S5).calm.bind fun ys S6 => (lc2Loop s c t f1 c1 t1 e ws1 m (i + 1) (wipeR ρ (own.map (·.2))) S6).calm.bind fun zs S7 => .ok (ys ++ zs) S7).calm.bind fun ys S3 => .ok (.lst (ad ++ ys)) S3) Q
                        refine ⟨In, ⟨n1, M6, S4, av, ad, Nat.zero_add n1, e24.trans e6, hs4, ((hr2.mono a1).mono e3).mono e5, hrw1, ((ok2.mono a1).mono e3).mono e5, ok4, h4D, by omega, ((hav.mono a1).mono e3).mono e5, w2⟩, ?_⟩
                        clear w2 hav hlen h4D h3D hDd
                        intro j k H5 ⟨M7, S5, av, ad, hjk, e7, hs5, hr5, hr6, ok5, ok6, h5D, hlen, hav, w2⟩
                        obtain ⟨p1, p2⟩ := ok6.ok hs5
                        have hnD7 : Dd ∉ M7.o := (hs5.pv Dd List.mem_cons_self).1
                        cases k with
                        | zero =>
                          simp only [lcLoop] at w2
                          cases hl : srcLen S5 s1 with
                          | none => simp only [hl] at w2; exact w2.elim
                          | some n2 =>
                            simp only [hl] at w2
                            split at w2
                            · rename_i hle
                              refine .inl ⟨p2 j n2 hl hle, M7, S5, av, ad, by omega, e7, hs5, hr5, ok5, h5D, by omega, hav, ?_⟩
                              simp only [R.calm_ok, R.bind_ok, List.nil_append] at w2
                              cases hz : lc2Loop s c t f1 c1 t1 e ws1 m (i + 1) (wipeR ρ (own.map (·.2))) S5 with
                              | bad => simp only [hz] at w2; exact w2.elim
                              | ex x S6 => simp only [hz] at w2; exact w2.elim
                              | ok zs S6 => simpa only [hz, R.calm_ok, R.bind_ok] using w2
                            · exact w2.elim
                        | succ k =>
                          simp only [lcLoop] at w2
                          cases hx1 : srcAt S5 j s1 with
                          | none => simp only [hx1] at w2; exact w2.elim
                          | some x1 =>
                            simp only [hx1] at w2
                            cases hp1 : c1.put x1 (wipeR ρ1 ws1) with
                            | none => simp only [hp1] at w2; exact w2.elim
                            | some ρ2 =>
                              simp only [hp1] at w2
                              obtain ⟨go1, yl1⟩ := p1 j x1 hx1
                              refine .inr ⟨go1, In (j + 1) k, fun H' h => ⟨k, Nat.lt_succ_self k, h⟩, fun v1 H6 hy1 => ?_⟩
                              obtain ⟨b1, b2, b3⟩ := yl1 v1 H6 hy1
                              refine ct_put (ws := ws1) (hr6.mono b1) b3 hp1 hw1 fun σ3 r3 hwp1 => ⟨hwp1.trans wipe_idem, M7.hide Dd, ρ2, S5, r3, b2, ?_⟩
                              cases ht1 : t1 ρ2 S5 with
                              | bad => simp only [ht1] at w2; exact w2.elim
                              | ex x S6 => simp only [ht1] at w2; exact w2.elim
                              | ok b S6 =>
                                simp only [ht1, R.calm_ok, R.bind_ok] at w2
                                intro M8 b' H7 e8 hb hs7
                                subst hb
                                obtain ⟨M9, rfl, e9⟩ := e8.unhide
                                have e79 : Ext M1 H1 M9 H7 := (e7.trans b1.unh).trans e9
                                have h7D : H7 Dd = some (.lst av) := e8.keep Dd _ hnD7 (b1.keep Dd _ hnD7 h5D)
                                cases b' with
                                | false =>
                                  rw [if_neg Bool.false_ne_true]
                                  simp only at w2
                                  exact ⟨M9, S6, av, ad, by omega, e79, hs7, (hr5.mono b1).mono e8, (hr6.mono b1).mono e8, (ok5.mono b1).mono e8, (ok6.mono b1).mono e8, h7D, by omega, (hav.mono b1).mono e8, w2⟩
                                | true =>
                                  rw [if_pos rfl]
                                  simp only at w2
                                  refine ⟨M9.hide Dd, ρ2, S6, r3.mono e8, hs7, ?_⟩
                                  cases he : e ρ2 S6 with
                                  | bad => simp only [he] at w2; exact w2.elim
                                  | ex x S7 => simp only [he] at w2; exact w2.elim
                                  | ok y S7 =>
                                    simp only [he, R.calm_ok, R.bind_ok] at w2
                                    intro M10 yv H8 e10 ry hs8
                                    obtain ⟨M11, rfl, e11⟩ := e10.unhide
                                    have h8 : H8 Dd = some (.lst av) := e10.keep Dd _ (hs7.pv Dd List.mem_cons_self).1 h7D
                                    have hi1000 : i * 1000 + 1000 ≤ 1000 * 1000 := by
                                      have : (i + 1) * 1000 ≤ 1000 * 1000 := Nat.mul_le_mul_right _ (by omega)
                                      rw [Nat.succ_mul] at this
                                      exact this
                                    refine ⟨av, h8, lt_line (by omega), M11, S7, av ++ [yv], ad ++ [y], by omega, (e79.trans e11).updNew hD, hs8.upd, (((hr5.mono b1).mono e8).mono e10).upd, (((hr6.mono b1).mono e8).mono e10).upd, (((ok5.mono b1).mono e8).mono e10).upd, (((ok6.mono b1).mono e8).mono e10).upd, upd_same, by simp; omega,
                                      (((((hav.mono b1).mono e8).mono e10).append (.cons ry .nil)).upd), ?_⟩
                                    cases hz : lcLoop s1 c1 t1 e k (j + 1) (wipeR ρ1 ws1) S7 with
                                    | bad => simp only [hz] at w2; exact w2.elim
                                    | ex x S8 => simp only [hz] at w2; exact w2.elim
                                    | ok ys S8 =>
                                      simp only [hz, R.calm_ok, R.bind_ok] at w2 ⊢
                                      cases hz2 : lc2Loop s c t f1 c1 t1 e ws1 m (i + 1) (wipeR ρ (own.map (·.2))) S8 with
                                      | bad => simp only [hz2] at w2; exact w2.elim
                                      | ex x S9 => simp only [hz2] at w2; exact w2.elim
                                      | ok zs S9 =>
                                        simp only [hz2, R.calm_ok, R.bind_ok] at w2 ⊢
                                        rw [List.append_assoc]
                                        exact w2
                      · exact w2.elim
    · exact w1.elim
theorem de_lc2 (hc : X.calm = true) (hN : X.N.Nodup) (hi : DI X W tg iter f) (ok : BlkOk X.N X.env.scope scope own) (hw : ∀ i ∈ c.slots, i ∈ own.map (·.2)) (hw1 : ∀ i ∈ c1.slots, i ∈ ws1) (hv : ∀ i ∈ ws1, i ∈ own.map (·.2))
    (hg : ∀ (s : Shared) (H : Hp) (C : Addr) (cl : List (Str × Addr)) (fp : List Addr), PG (X.blk s H scope (compEnvC scope cl C X.env) fp) tg (c.rd X.K)) (ht : ∀ (s : Shared) (H : Hp) (C : Addr) (cl : List (Str × Addr)) (fp : List Addr), DTs (X.blk s H scope (compEnvC scope cl C X.env) fp) W0 ifs t)
    (hi1 : ∀ (s : Shared) (H : Hp) (C : Addr) (cl : List (Str × Addr)) (fp : List Addr), DI (X.blk s H scope (compEnvC scope cl C X.env) fp) W0 tg1 iter1 f1)
    (hg1 : ∀ (s : Shared) (H : Hp) (C : Addr) (cl : List (Str × Addr)) (fp : List Addr), PG (X.blk s H scope (compEnvC scope cl C X.env) fp) tg1 (c1.rd X.K)) (ht1 : ∀ (s : Shared) (H : Hp) (C : Addr) (cl : List (Str × Addr)) (fp : List Addr), DTs (X.blk s H scope (compEnvC scope cl C X.env) fp) W0 ifs1 t1)
    (he : ∀ (s : Shared) (H : Hp) (C : Addr) (cl : List (Str × Addr)) (fp : List Addr), DE (X.blk s H scope (compEnvC scope cl C X.env) fp) W0 elt e) (hs : ∀ x, foldedSetIterable iter X.env x = pure x := by intro _; rfl) (hs1 : ∀ env x, foldedSetIterable iter1 env x = pure x := by intro _ _; rfl) :
    DE X W (.ListComp elt [⟨tg, iter, ifs, 0⟩, ⟨tg1, iter1, ifs1, 0⟩] scope pos) (eLc2 f c t f1 c1 t1 e (own.map (·.2)) ws1) := peI (pe_lc2 hc hN hi ok hv hg ht hi1 hg1 ht1 he hs hs1) (tLc2_of hw hw1)
theorem ds_setLc2 {i : Nat} {y : Str} {py : Pos} {spos : Pos} (hc : X.calm = true) (hN : X.N.Nodup) (hi : DI X W tg iter f) (ok : BlkOk X.N X.env.scope scope own) (hw : ∀ i ∈ c.slots, i ∈ own.map (·.2)) (hw1 : ∀ i ∈ c1.slots, i ∈ ws1) (hv : ∀ i ∈ ws1, i ∈ own.map (·.2))
    (hg : ∀ (s : Shared) (H : Hp) (C : Addr) (cl : List (Str × Addr)) (fp : List Addr), PG (X.blk s H scope (compEnvC scope cl C X.env) fp) tg (c.rd X.K)) (ht : ∀ (s : Shared) (H : Hp) (C : Addr) (cl : List (Str × Addr)) (fp : List Addr), DTs (X.blk s H scope (compEnvC scope cl C X.env) fp) W0 ifs t)
    (hi1 : ∀ (s : Shared) (H : Hp) (C : Addr) (cl : List (Str × Addr)) (fp : List Addr), DI (X.blk s H scope (compEnvC scope cl C X.env) fp) W0 tg1 iter1 f1)
    (hg1 : ∀ (s : Shared) (H : Hp) (C : Addr) (cl : List (Str × Addr)) (fp : List Addr), PG (X.blk s H scope (compEnvC scope cl C X.env) fp) tg1 (c1.rd X.K)) (ht1 : ∀ (s : Shared) (H : Hp) (C : Addr) (cl : List (Str × Addr)) (fp : List Addr), DTs (X.blk s H scope (compEnvC scope cl C X.env) fp) W0 ifs1 t1)
    (he : ∀ (s : Shared) (H : Hp) (C : Addr) (cl : List (Str × Addr)) (fp : List Addr), DE (X.blk s H scope (compEnvC scope cl C X.env) fp) W0 elt e)
    (hy : X.N[i]? = some y := by rfl) (hyl : X.env.scope.names.lookup y = some .local := by rfl)
    (hsw : swapsWith (.ListComp elt [⟨tg, iter, ifs, 0⟩, ⟨tg1, iter1, ifs1, 0⟩] scope pos) (some (.Name y py)) spos.line X.env = pure true := by exact sw_true rfl rfl rfl (by decide +kernel)) (hs : ∀ x, foldedSetIterable iter X.env x = pure x := by intro _; rfl) (hs1 : ∀ env x, foldedSetIterable iter1 env x = pure x := by intro _ _; rfl) :
    DS X W (.Assign [.Name y py] (.ListComp elt [⟨tg, iter, ifs, 0⟩, ⟨tg1, iter1, ifs1, 0⟩] scope pos) spos) (sSet i (eLc2 f c t f1 c1 t1 e (own.map (·.2)) ws1)) :=
  psI (ps_setLc2 hc hN hy hyl hsw hi ok hv hg ht hi1 hg1 ht1 he hs hs1) fun Dd σ H ⟨M, ρ, S, hr, hs, w⟩ => by
    refine tLc2_of hw hw1 σ H _ ⟨M, ρ, S, hr, hs, wpS.ofR hr w fun M1 v H1 a S1 e1 r1 hs1 w1 => ?_⟩
    exact w1 M1 _ H1 (Ext.refl hs1) ((hr.mono e1).set r1) hs1
end
end DL
namespace DL
open PySem PySem.Spec PyProof.Rows L2

/-! ### what a def makes for itself is let go at its end -/
mutual
def D.lim (k : Nat) : D → Bool
  | .tup xs => D.lims k xs
  | .lst xs => D.lims k xs
  | .frz xs => D.lims k xs
  | .obj n => decide (n < k)
  | _ => true
def D.lims (k : Nat) : List D → Bool
  | [] => true
  | d :: ds => D.lim k d && D.lims k ds
end
def MO.lim (k : Nat) : MO → Bool
  | .lst xs => D.lims k xs
  | .ins _ fs => fs.all fun p => D.lim k p.2
  | .dct fs => fs.all fun p => D.lim k p.2
  | .dead => true
/-- a new list of the def's own, handed back, is a list like any other -/
def unown (k : Nat) (S : Sto) (d : D) : D := match d with
  | .obj n => if k ≤ n then match S[n]? with
    | some (.lst ds) => .lst ds
    | _ => d
    else d
  | d => d
def popR (k : Nat) (r : R D) : R D := match r with
  | .ok d S' => if S'.length ≤ k then r else if D.lim k (unown k S' d) && (S'.take k).all (MO.lim k) then .ok (unown k S' d) (S'.take k) else .bad
  | .ex e S' => if S'.length ≤ k then r else if (e.fs.all fun p => D.lim k p.2) && (S'.take k).all (MO.lim k) then .ex e (S'.take k) else .bad
  | .bad => .bad
section
variable {K : PySem.W.Frag} {M M' : Mp} {H : Hp} {k : Nat}
/-- the map M of the first k objects of M' -/
structure Cut (k : Nat) (M M' : Mp) : Prop where
  «at» : ∀ n, n < k → M'.o[n]? = M.o[n]?
  sub : ∀ a, M.In a → M'.In a
mutual
theorem Rep.cut (c : Cut k M M') : ∀ {v : V} {d : D}, Rep K M' H v d → D.lim k d = true → Rep K M H v d
  | _, _, .non, _ => .non
  | _, _, .bl b, _ => .bl b
  | _, _, .int i, _ => .int i
  | _, _, .str x, _ => .str x
  | _, _, .tup h r, l => .tup (by
      rcases h with h | h
      · exact .inl ⟨fun z => h.1 (c.sub _ z), h.2⟩
      · exact .inr h) (Reps.cut c r (by simpa only [D.lim] using l))
  | _, _, .lst h r, l => .lst ⟨fun z => h.1 (c.sub _ z), h.2⟩ (Reps.cut c r (by simpa only [D.lim] using l))
  | _, _, .obj (n := n) h, l => .obj (by
      have hn : n < k := by simpa only [D.lim, decide_eq_true_eq] using l
      rw [← c.at n hn]; exact h)
  | _, _, .ref a, _ => .ref a
  | _, _, .frz h r, l => .frz (by
      rcases h with h | h
      · exact .inl ⟨fun z => h.1 (c.sub _ z), h.2⟩
      · exact .inr h) (Reps.cut c r (by simpa only [D.lim] using l))
theorem Reps.cut (c : Cut k M M') : ∀ {vs : List V} {ds : List D}, Reps K M' H vs ds → D.lims k ds = true → Reps K M H vs ds
  | _, _, .nil, _ => .nil
  | _, _, .cons r t, l => by
    simp only [D.lims, Bool.and_eq_true] at l
    exact .cons (Rep.cut c r l.1) (Reps.cut c t l.2)
end
theorem RepF.cut (c : Cut k M M') : ∀ {vs : List (Str × V)} {ds : List (Str × D)}, RepF K M' H vs ds → (ds.all fun p => D.lim k p.2) = true → RepF K M H vs ds
  | _, _, .nil, _ => .nil
  | _, _, .cons r t, l => by
    rw [List.all_cons, Bool.and_eq_true] at l
    exact .cons (r.cut c l.1) (RepF.cut c t l.2)
theorem RepK.cut (c : Cut k M M') : ∀ {vs : List (Key × V)} {ds : List (Key × D)}, RepK K M' H vs ds → (ds.all fun p => D.lim k p.2) = true → RepK K M H vs ds
  | _, _, .nil, _ => .nil
  | _, _, .cons r t, l => by
    rw [List.all_cons, Bool.and_eq_true] at l
    exact .cons (r.cut c l.1) (RepK.cut c t l.2)
theorem HS.cut {S' : Sto} {H0 : Hp} {S : Sto} (hs0 : HS K M S H0) (hs : HS K M' S' H) (e : Ext M H0 M' H) (l : (S'.take M.o.length).all (MO.lim M.o.length) = true) : Cut M.o.length M M' ∧ HS K M (S'.take M.o.length) H ∧ Ext M H0 M H := by
  obtain ⟨m, em, hm⟩ := e.more
  have c : Cut M.o.length M M' := ⟨fun n hn => by rw [em, List.getElem?_append_left hn], fun a z => z.imp (fun z => by rw [em]; exact List.mem_append_left _ z) (fun z => by rw [e.priv]; exact z)⟩
  refine ⟨c, ⟨?_, hs0.nd, fun b hb => ?_, fun n a mo h1 h2 => ?_⟩, ⟨⟨[], (List.append_nil _).symm, fun _ h => nomatch h⟩, rfl, e.keep, e.stay⟩⟩
  · rw [List.length_take, ← hs.len, em, List.length_append]; omega
  · obtain ⟨h1, o, h2⟩ := hs0.pv b hb
    exact ⟨h1, o, e.keep b o h1 h2⟩
  · have hn : n < M.o.length := (List.getElem?_eq_some_iff.mp h1).1
    have h3 : S'[n]? = some mo := by rw [List.getElem?_take_of_lt hn] at h2; exact h2
    have q := hs.at n a mo (by rw [c.at n hn]; exact h1) h3
    have lm : MO.lim M.o.length mo = true := List.all_eq_true.mp l mo (List.mem_of_getElem? h2)
    cases mo with
    | lst ds => obtain ⟨xs, q, r⟩ := q; exact ⟨xs, q, r.cut c (by simpa only [MO.lim] using lm)⟩
    | ins C fs => obtain ⟨dx, vs, q, r⟩ := q; exact ⟨dx, vs, q, r.cut c (by simpa only [MO.lim] using lm)⟩
    | dct kvs => obtain ⟨vs, q, r⟩ := q; exact ⟨vs, q, r.cut c (by simpa only [MO.lim] using lm)⟩
    | dead => exact q
theorem unown_rep {S S' : Sto} {H0 : Hp} {v : V} {d : D} (hs0 : HS K M S H0) (hs : HS K M' S' H) (e : Ext M H0 M' H) (c : Cut M.o.length M M') (r : Rep K M' H v d) (l : D.lim M.o.length (unown M.o.length S' d) = true) : Rep K M H v (unown M.o.length S' d) := by
  cases d with
  | obj n =>
    unfold unown at l ⊢
    simp only at l ⊢
    split
    · rename_i hn
      rw [if_pos hn] at l
      split
      · rename_i ds hx
        simp only [hx] at l
        cases r with
        | @obj _ a ha =>
          obtain ⟨xs, h1, h2⟩ := hs.at n a _ ha hx
          refine .lst ⟨fun z => ?_, h1⟩ (h2.cut c (by simpa only [D.lim] using l))
          rcases z with z | z
          · obtain ⟨j, hj, ej⟩ := List.getElem_of_mem z
            have e1 : M'.o[j]? = some a := by rw [c.at j hj, List.getElem?_eq_getElem hj, ej]
            have := nd_ix hs.nd e1 ha
            omega
          · exact (hs.pv a (by rw [e.priv]; exact z)).1 (List.mem_of_getElem? ha)
      · rename_i hx
        exfalso
        have : D.lim M.o.length (.obj n) = true := by
          split at l
          · rename_i ds q; exact absurd q (hx ds)
          · exact l
        simp only [D.lim, decide_eq_true_eq] at this
        omega
    · rename_i hn
      rw [if_neg hn] at l
      exact r.cut c l
  | _ => exact r.cut c (by simpa only [unown] using l)
theorem popR_ok {W : WX} {σ : L2.St} {S : Sto} {r : R D} {Q : VK} (hs : HS K M S H) (h : wpG (Rep K) K W σ M H (popR M.o.length r) Q) : wpG (Rep K) K W σ M H r Q := by
  cases r with
  | bad => exact h
  | ok d S' =>
    unfold popR at h
    simp only at h
    split at h
    · exact h
    · split at h
      · rename_i l
        rw [Bool.and_eq_true] at l
        intro M' v H' e r hs'
        obtain ⟨c, hs2, e2⟩ := HS.cut hs hs' e l.2
        exact h M v H' e2 (unown_rep hs hs' e c r l.1) hs2
      · exact h.elim
  | ex x S' =>
    unfold popR at h
    simp only at h
    split at h
    · exact h
    · split at h
      · rename_i l
        rw [Bool.and_eq_true] at l
        intro M' H' cls dd e hs' q
        obtain ⟨c, hs2, e2⟩ := HS.cut hs hs' e l.2
        refine h M H' cls dd e2 hs2 ⟨q.1, ?_⟩
        rcases q.2 with q | ⟨d, vs, q1, q2, q3, q4⟩
        · exact .inl q
        · exact .inr ⟨d, vs, q1, fun z => q2 (c.sub _ z), q3, q4.cut c l.1⟩
      · exact h.elim
end

/-! ### defs -/
def spD (K : PySem.W.Frag) (n : Nat) (g : Fn) : Sp := fun vs H Q E => vs.length = n ∧ ∃ M ds S, Reps K M H vs ds ∧ HS K M S H ∧ wpG (Rep K) K (fun cls d _ H => E cls d H) [] M H (g ds S) Q
structure DFn (P : Program) (w : World) (K : PySem.W.Frag) (mg : Str → Option Value) (base : Heap) (x : Str) (ps : List Str) (k : Nat) (g : Fn) : Prop where
  ex : ∃ f fd, mg x = some (.ref f) ∧ PySem.W.keepIn K (.ref f) = true ∧ Binds K fd ps [] ∧ FnOk P w K mg base (L2.CX P w) k f fd ps (spD K ps.length g)
section
variable {X : Cx} {W : WX} {pos p : Pos} {e : Expr} {es : List Expr} {f : Ee} {fs : List Ee} {x : Str} {ps : List Str} {k : Nat} {g : Fn}
theorem de_call (F : DFn X.prog X.w X.K X.mg X.base x ps k g) (hr : Room k X.A) (tk : Takes X W) (ha : DA X W (e :: es) (eArgs fs)) (hl : fs.length = ps.length := by rfl) (hg : Gl X x := by rfl) (hdb : (x == ("__debug__" : Str)) = false := by decide)
    (he : starEach (e :: es) X.env = (false, eval e X.env) :: starEach es X.env := by rfl) (hpl : (backTo pos (starEach es X.env)).any (·.1) = false := by rfl) : DE X W (.Call (.Name x p) (e :: es) [] pos) (eCall g fs) := by
  obtain ⟨a, fd, hm, hk, hb, F⟩ := F.ex
  exact peI (pe_callS F hr hg hm hk hb (fun σ => passAt tk σ) ha hdb he hpl) fun σ H Q ⟨M, ρ, S, hr, hs, w⟩ => ⟨M, ρ, S, hr, hs, wpG.bind' w fun M1 vs H1 ds S1 e0 e1 r1 hs1 w1 =>
    ⟨by rw [r1.length, eArgs_len e0, hl], M1, ds, S1, r1, hs1, w1⟩⟩
theorem de_call0 {W1 : XK} (F : DFn X.prog X.w X.K X.mg X.base x [] k g) (hr : Room k X.A) (tk : Takes X (fun c d _ H => W1 c d H)) (hg : Gl X x := by rfl) (hdb : (x == ("__debug__" : Str)) = false := by decide) : DE X (fun c d _ H => W1 c d H) (.Call (.Name x p) [] [] pos) (eCall g []) := by
  obtain ⟨a, fd, hm, hk, hb, F⟩ := F.ex
  exact peI (pe_call0 (dvs := []) F hr hg hm hk hb .nil (E := W1) (passes_call tk fun _ _ _ _ h => h) hdb) fun σ H Q ⟨M, ρ, S, hr, hs, w⟩ => ⟨rfl, M, [], S, .nil, hs, w⟩
end
/-- a def by its body: n parameters, N names -/
def fnP (n N : Nat) (body : Sm) : Fn := fun ds S => popR S.length (match body (ds.map some ++ List.replicate (N - n) none) S with
  | .nx _ S' => .ok .non S'
  | .rt d S' => .ok d S'
  | .ex e _ S' => .ex e S'
  | _ => .bad)
/-- .. that hands back what will be changed -/
def fnQ (n N : Nat) (body : Sm) : Fn := fun ds S => match body (ds.map some ++ List.replicate (N - n) none) S with
  | .nx _ S' => .ok .non S'
  | .rt d S' => .ok d S'
  | .ex e _ S' => .ex e S'
  | _ => .bad
section
variable {P : Program} {w : World} {K : PySem.W.Frag} {mg : Str → Option Value} {base : Heap} {x : Str} {ps N : List Str} {k : Nat} {st : Stmt} {f : Addr} {fd : FuncData} {body : Sm}
theorem start_rep {M : Mp} {H : Hp} {vs : List V} {ds : List D} (r : Reps K M H vs ds) (n : Nat) (hl : vs.length = n) : RepE K M H (L2.start N vs) (ds.map some ++ List.replicate (N.length - n) none) := by
  subst hl
  refine ⟨by simp [L2.start, r.length], fun i d h => ?_⟩
  by_cases hi : i < ds.length
  · rw [List.getElem?_append_left (by simpa using hi)] at h
    rw [List.getElem?_map] at h
    cases q : ds[i]? with
    | none => rw [q] at h; cases h
    | some d' =>
      rw [q] at h
      cases h
      obtain ⟨v, hv, rv⟩ := r.get' q
      refine ⟨v, ?_, rv⟩
      unfold L2.start
      rw [List.getElem?_append_left (by simpa [r.length] using hi), List.getElem?_map, hv]
      rfl
  · rw [List.getElem?_append_right (by simpa using Nat.le_of_not_lt hi)] at h
    rw [List.getElem?_replicate] at h
    split at h <;> cases h
theorem fnQ_fn (Ff : Fun K x x st f fd) (S : FnScope N ps (defScope st))
    (h : ∀ (cdv : Value) (A : Around) (outer : List Env) (s : Shared) (H : Hp) (E : XK), Room k (A.deeper (envOfC x (defScope st) s.heap.objs.size f cdv)) → DSs (cxOf (L2.CX P w) P w K mg base N x (defScope st) f cdv A outer s H E) (fun cls d _ H => E cls d H) (defBody st) body) :
    FnOk P w K mg base (L2.CX P w) (k + 1) f fd ps (spD K ps.length (fnQ ps.length N.length body)) := Ff.okX S (fun vs H Q E h => h.1) (fun cdv A outer s H vs Q E hr q => by
    obtain ⟨hl, M, ds, S0, r, hs, w⟩ := q
    refine ⟨_, h cdv A outer s H E hr, M, _, S0, start_rep r ps.length hl, hs, ?_⟩
    unfold fnQ at w
    split at w
    · rename_i ρ S' e
      rw [e]
      exact fun M' σ' H' e1 r1 hs1 => w M' .non H' e1 .non hs1
    · rename_i d S' e
      rw [e]
      exact w
    · rename_i e ρ S' q
      rw [q]
      exact fun M' σ' H' cls dd e1 r1 hs1 q => w M' H' cls dd e1 hs1 q
    · exact w.elim)
theorem fnQ_ok (hm : mg x = some (.ref f)) (Ff : Fun K x x st f fd) (hb : Binds K fd ps []) (S : FnScope N ps (defScope st))
    (h : ∀ (cdv : Value) (A : Around) (outer : List Env) (s : Shared) (H : Hp) (E : XK), Room k (A.deeper (envOfC x (defScope st) s.heap.objs.size f cdv)) → DSs (cxOf (L2.CX P w) P w K mg base N x (defScope st) f cdv A outer s H E) (fun cls d _ H => E cls d H) (defBody st) body) :
    DFn P w K mg base x ps (k + 1) (fnQ ps.length N.length body) := ⟨f, fd, hm, Ff.kp, hb, fnQ_fn Ff S h⟩
theorem fn_imp {CX : CXT} {g g' : Fn} {n : Nat} (F : FnOk P w K mg base CX k f fd ps (spD K n g)) (h : ∀ (W : WX) (M : Mp) (H : Hp) (S : Sto) (ds : List D) (Q : VK), HS K M S H → wpG (Rep K) K W [] M H (g' ds S) Q → wpG (Rep K) K W [] M H (g ds S) Q) : FnOk P w K mg base CX k f fd ps (spD K n g') :=
  F.imp fun vs H Q E ⟨hl, M, ds, S, r, hs, w⟩ => ⟨hl, M, ds, S, r, hs, h _ M H S ds Q hs w⟩
theorem fnP_fn (Ff : Fun K x x st f fd) (S : FnScope N ps (defScope st))
    (h : ∀ (cdv : Value) (A : Around) (outer : List Env) (s : Shared) (H : Hp) (E : XK), Room k (A.deeper (envOfC x (defScope st) s.heap.objs.size f cdv)) → DSs (cxOf (L2.CX P w) P w K mg base N x (defScope st) f cdv A outer s H E) (fun cls d _ H => E cls d H) (defBody st) body) :
    FnOk P w K mg base (L2.CX P w) (k + 1) f fd ps (spD K ps.length (fnP ps.length N.length body)) := fn_imp (fnQ_fn Ff S h) fun W M H S ds Q hs w => by
    unfold fnP at w
    rw [← hs.len] at w
    exact popR_ok hs w
theorem DFn.imp {g g' : Fn} (F : DFn P w K mg base x ps k g) (h : ∀ (W : WX) (M : Mp) (H : Hp) (S : Sto) (ds : List D) (Q : VK), HS K M S H → wpG (Rep K) K W [] M H (g' ds S) Q → wpG (Rep K) K W [] M H (g ds S) Q) : DFn P w K mg base x ps k g' := by
  obtain ⟨f, fd, hm, hk, hb, F⟩ := F.ex
  exact ⟨f, fd, hm, hk, hb, F.imp fun vs H Q E ⟨hl, M, ds, S, r, hs, w⟩ => ⟨hl, M, ds, S, r, hs, h _ M H S ds Q hs w⟩⟩
theorem fnP_ok (hm : mg x = some (.ref f)) (Ff : Fun K x x st f fd) (hb : Binds K fd ps []) (S : FnScope N ps (defScope st))
    (h : ∀ (cdv : Value) (A : Around) (outer : List Env) (s : Shared) (H : Hp) (E : XK), Room k (A.deeper (envOfC x (defScope st) s.heap.objs.size f cdv)) → DSs (cxOf (L2.CX P w) P w K mg base N x (defScope st) f cdv A outer s H E) (fun cls d _ H => E cls d H) (defBody st) body) :
    DFn P w K mg base x ps (k + 1) (fnP ps.length N.length body) := ⟨f, fd, hm, Ff.kp, hb, fnP_fn Ff S h⟩
theorem DFn.mono {g : Fn} {j : Nat} (F : DFn P w K mg base x ps j g) (h : j ≤ k) : DFn P w K mg base x ps k g := by
  obtain ⟨f, fd, hm, hk, hb, F⟩ := F.ex
  exact ⟨f, fd, hm, hk, hb, F.mono h⟩
end
end DL
/-! list(range(a, b)) with great bounds -/
namespace DL
open PySem PySem.Spec PyProof.Rows L2
/-! facts of longrange_iterator -/
theorem lr_owner : Manifest.owners.lookup (String.ofList ['r', 'o', 't', 'a', 'r', 'e', 't', 'i', '_', 'e', 'g', 'n', 'a', 'r', 'g', 'n', 'o', 'l'].reverse) = some Manifest.sig_longrange_iterator := by kernel_rfl
theorem lr_slot_next : Slot "longrange_iterator" "__next__" "longrange_iterator.__next__" :=
  .of (owner := "longrange_iterator") (n := "__next__") (by rw [typeLookup_type, builtinLookup_eq_fast]; kernel_rfl) (by decide +kernel) (by decide +kernel) (by decide +kernel)
    (by first | exact .inl (by decide +kernel) | exact .inr (by decide +kernel)) (by rw [isSubtype_type]; kernel_rfl)
theorem lr_entry_next : entryFor table "longrange_iterator.__next__" = some Builtin.«longrange_iterator.__next__» := entryFor_of_tree (by kernel_rfl)
theorem lr_sig : Manifest.signature? "longrange_iterator.__next__" = some ⟨.exact, "wrapper __next__", "", .self, []⟩ := by
  rw [signature?_of (id := "longrange_iterator.__next__") (n := ['_', '_', 't', 'x', 'e', 'n', '_', '_']) (o := ['r', 'o', 't', 'a', 'r', 'e', 't', 'i', '_', 'e', 'g', 'n', 'a', 'r', 'g', 'n', 'o', 'l']) (by kernel_rfl) lr_owner]; kernel_rfl
theorem lr_args_next (a : Value) : argsOk "longrange_iterator.__next__" ⟨[a], []⟩ := by
  unfold argsOk; rw [lr_sig]; kernel_rfl
theorem lr_slot_iter : Slot "longrange_iterator" "__iter__" "longrange_iterator.__iter__" :=
  .of (owner := "longrange_iterator") (n := "__iter__") (by rw [typeLookup_type, builtinLookup_eq_fast]; kernel_rfl) (by decide +kernel) (by decide +kernel) (by decide +kernel)
    (by first | exact .inl (by decide +kernel) | exact .inr (by decide +kernel)) (by rw [isSubtype_type]; kernel_rfl)
theorem lr_entry_iter : entryFor table "longrange_iterator.__iter__" = some Builtin.«dict_keyiterator.__iter__» :=
  entryFor_alias (id' := "dict_keyiterator.__iter__") (by kernel_rfl) (by first | rfl | decide +kernel | (unfold String.splitOn; simp +decide [String.splitOnAux])) (by decide +kernel) (by kernel_rfl)
theorem lr_args_iter (a : Value) : argsOk "longrange_iterator.__iter__" ⟨[a], []⟩ := by
  unfold argsOk; rw [signature?_of (id := "longrange_iterator.__iter__") (n := ['_', '_', 'r', 'e', 't', 'i', '_', '_']) (o := ['r', 'o', 't', 'a', 'r', 'e', 't', 'i', '_', 'e', 'g', 'n', 'a', 'r', 'g', 'n', 'o', 'l']) (by kernel_rfl) lr_owner]; kernel_rfl
theorem lr_bound (a : Value) : bound "longrange_iterator.__next__" ⟨[a], []⟩ = pure #[some a] := by
  unfold bound
  rw [lr_sig]
  first | rfl | kernel_rfl
/-- the iterator of a great range -/
abbrev IsLong (h : Heap) (it : Addr) (x left : Int) : Prop := h.get? it = some { cls := .type "longrange_iterator", dict := none, data := .fields #[rawInt x, rawInt left, rawInt 1], slots := #[] }
section
variable {prog : Program} {w : World} {A : Around} {E : Value → Shared → Prop} {s : Shared}
theorem lr_next_item {it : Addr} {x left : Int} {Q : Option Value → Shared → Prop} (hit : IsLong s.heap it x left) (hl : 0 < left)
    (hQ : ∀ h', IsLong h' it (x + 1) (left - 1) → Heap.SameBut it s.heap h' → Q (some (.int x s.toks)) { s with heap := h', toks := s.toks + 1 }) : wpAny (model prog w) A (pyNext (.ref it)) Q E s := by
  have hT : s.TypeIs (.ref it) "longrange_iterator" := ⟨_, hit, rfl⟩
  unfold pyNext
  refine wpAny_bind (wpAny_attempt (wpAny_callSpecial?_slot (name := Str.ofString "__next__") hT lr_slot_next (wpAny_call_entry lr_slot_next hT lr_entry_next ?_ (lr_args_next _))))
  unfold Builtin.«longrange_iterator.__next__»
  refine wpAny_bind (wpAny_of_eq (lr_bound _) ?_)
  show wpAny _ _ (Builtin.Iterators_pickling.intField _ (.ref it) 0 >>= _) _ _ s
  unfold Builtin.Iterators_pickling.intField
  refine wpAny_bind (wpAny_bind (wpAny_field hit rfl (x := rawInt x) rfl (wpAny_pure ?_)))
  refine wpAny_bind (wpAny_bind (wpAny_field hit rfl (x := rawInt left) rfl (wpAny_pure ?_)))
  refine wpAny_bind (wpAny_bind (wpAny_field hit rfl (x := rawInt 1) rfl (wpAny_pure ?_)))
  show wpAny _ _ (if left ≤ 0 then _ else _) _ _ s
  rw [if_neg (by omega)]
  refine wpAny_bind (wpAny_setField_rec hit (by simp) fun h1 hit1 hs1 => ?_)
  refine wpAny_bind (wpAny_setField_rec hit1 (by simp) fun h2 hit2 hs2 => ?_)
  refine wpAny_bind (wpAny_mkInt ?_)
  exact wpAny_pure ⟨_, rfl, wpAny_pure (hQ h2 hit2 (Heap.SameBut.trans hs1 hs2))⟩
theorem lr_next_end {it : Addr} {x left : Int} {Q : Option Value → Shared → Prop} (hh : A.in1.handled = none) (hit : IsLong s.heap it x left) (hl : left ≤ 0)
    (hQ : ∀ h', Heap.ExtBut it s.heap h' → Q none { s with heap := h' }) : wpAny (model prog w) A (pyNext (.ref it)) Q E s := by
  have hT : s.TypeIs (.ref it) "longrange_iterator" := ⟨_, hit, rfl⟩
  unfold pyNext
  refine wpAny_bind (wpAny_attempt (wpAny_callSpecial?_slot (name := Str.ofString "__next__") hT lr_slot_next (wpAny_call_entry lr_slot_next hT lr_entry_next ?_ (lr_args_next _))))
  unfold Builtin.«longrange_iterator.__next__»
  refine wpAny_bind (wpAny_of_eq (lr_bound _) ?_)
  show wpAny _ _ (Builtin.Iterators_pickling.intField _ (.ref it) 0 >>= _) _ _ s
  unfold Builtin.Iterators_pickling.intField
  refine wpAny_bind (wpAny_bind (wpAny_field hit rfl (x := rawInt x) rfl (wpAny_pure ?_)))
  refine wpAny_bind (wpAny_bind (wpAny_field hit rfl (x := rawInt left) rfl (wpAny_pure ?_)))
  refine wpAny_bind (wpAny_bind (wpAny_field hit rfl (x := rawInt 1) rfl (wpAny_pure ?_)))
  show wpAny _ _ (if left ≤ 0 then _ else _) _ _ s
  rw [if_pos hl]
  refine wpAny_bind (wpAny_rule ?_)
  refine wpAny_bind ?_
  simp only [newExc, newTuple]
  refine wpAny_bind (wpAny_newObj_type ?_ (by size_fits))
  refine wpAny_bind (m := firstArgMember _ _) (wpAny_of_eq (a := Value.none) (by first | rfl | (simp only [firstArgMember]; rfl)) ?_)
  refine wpAny_newObj_type ?_ (by size_fits)
  refine wpAny_bind ?_
  simp only [raiseNew]
  refine wpAny_bind (wpAny_handled ?_)
  rw [hh]
  refine wpAny_bind (wpAny_pure (wpAny_throw ?_))
  refine wpAny_bind (wpAny_isInstance (T := "StopIteration") (b := true) ⟨_, Heap.get?_push_size _ rfl, rfl⟩ isSubtype_stop ?_)
  exact wpAny_pure (hQ _ (((Heap.ExtBut.refl it s.heap).push _).push _))
theorem lr_walks (hh : A.handled = none) (I : Addr) (a : Int) (n : Nat) :
    Walks prog w A I [I] [I] n (fun i v => ∃ t, v = .int (a + i * 1) t) (fun i h => IsLong h I (a + (i : Nat) * 1) ((n : Int) - (i : Nat))) where
  sub := fun _ hb => hb
  frame := fun _ _ _ st hk => hk I (by simp) _ st
  item := fun i s Q E hi st hQ => by
    refine lr_next_item st (by omega) fun h' hit' hs' => ?_
    refine hQ _ h' _ ⟨_, rfl⟩ ?_ fun b o hb e => hs'.extBut b o (fun h => hb (by simp [h])) e
    have e1 : a + ((i + 1 : Nat) : Int) * 1 = a + (i : Int) * 1 + 1 := by omega
    have e2 : (n : Int) - ((i + 1 : Nat) : Int) = (n : Int) - (i : Int) - 1 := by omega
    rw [e1, e2]; exact hit'
  done := fun s Q E st hQ => lr_next_end (show A.in1.handled = none from hh) st (by omega) fun h' he' => hQ h' s.toks fun b o hb e => he' b o (fun h => hb (by simp [h])) e
  self := fun _ s _ _ st hQ => by
    have hT : s.TypeIs (.ref I) "longrange_iterator" := ⟨_, st, rfl⟩
    refine wpAny_pyIter_slot hT lr_slot_iter (wpAny_call_entry lr_slot_iter hT lr_entry_iter ?_ (lr_args_iter _))
    exact wpAny_pure ⟨_, rfl, "longrange_iterator", _, hT, lr_slot_next.lookup, hQ⟩
/-- iter of a great range -/
theorem lr_iter {r : Addr} {a b : Int} {t u v : Tok} {Q : Value → Shared → Prop} (hr : IsRange s.heap r a b 1 t u v) (hbig : Builtin.Range.small a b 1 = false)
    (hQ : Q (.ref s.heap.objs.size) { s with heap := s.heap.push { cls := .type "longrange_iterator", data := .fields #[rawInt a, rawInt (Builtin.Range.rangeSize a b 1), rawInt 1] } }) :
    wpAny (model prog w) A (pyIter (.ref r)) Q E s := by
  have hT : s.TypeIs (.ref r) "range" := ⟨_, hr, rfl⟩
  unfold Builtin.Range.small at hbig
  refine wpAny_pyIter_slot hT F.slot_range_iter (call_meets F.slot_range_iter hT F.entry_range_iter (F.args_range_iter_1 _)
    (AutoRange.range___iter___range_0 r a b 1 t u v (by simp only [hbig]; rfl)) ⟨hr, ?_⟩)
  simp only [hbig]
  exact ⟨"longrange_iterator", _, ⟨_, Heap.get?_push_size _ rfl, rfl⟩, lr_slot_next.lookup, hQ⟩
/-- what stands at S goes through a great range -/
theorem lr_extend {R : Result → Shared → Prop} {r : Addr} {a b : Int} {t u v : Tok} {n : Nat} (hh : A.handled = none) (hr : IsRange s.heap r a b 1 t u v) (hbig : Builtin.Range.small a b 1 = false)
    (hn : Builtin.Range.rangeSize a b 1 = n) (hlen : n ≤ 2 ^ 24) (S : Addr) (res : Value) (c₀ : Nat) (hS : s.heap.get? S = some { cls := .type "list", data := .seq #[] c₀ })
    (hR : ∀ h' tk acc' c', (∀ b o, b ≠ S → s.heap.get? b = some o → h'.get? b = some o) → h'.get? S = some { cls := .type "list", dict := none, data := .seq acc' c', slots := #[] } →
      ItemsOf (fun i v => ∃ t, v = .int (a + i * 1) t) acc' n → R (.ok (.ret res)) { s with heap := h', toks := tk }) :
    wpAny (model prog w) A.in1 (Builtin.List.listExtendWith (.ref S) (.ref r) res)
      (fun fin s' => match fin with | .done f => R (.ok f) s' | .again c' => c'.quiet = true ∧ codeAny (model prog w) A c' R s') (fun e s' => R (.error e) s') s := by
  have hSr : S ≠ r := fun e => by rw [e, hr] at hS; simp at hS
  have hSI : S ≠ s.heap.objs.size := Nat.ne_of_lt (Heap.lt_size hS)
  have hSf : S ∉ [s.heap.objs.size] := fun hm => hSI (List.mem_singleton.mp hm)
  have W := (lr_walks (prog := prog) (w := w) (A := A.in1) hh s.heap.objs.size a n).toS
  have key : ∀ (h : Heap) (c₁ tk : Nat), IsLong h s.heap.objs.size (a + ((0 : Nat) : Int) * 1) ((n : Int) - ((0 : Nat) : Int)) → (∀ b o, b ≠ S → s.heap.get? b = some o → h.get? b = some o) →
      h.get? S = some { cls := .type "list", data := .seq #[] c₁ } → codeAny (model prog w) A (.builtin "list.extend.loop" ⟨[.ref S, .ref s.heap.objs.size, res], []⟩) R { s with heap := h, toks := tk } := by
    intro h c₁ tk hit hk hS₁
    refine codeAny_extend_loopS W (by rw [sizeLine_eq]; omega) S hSf res n 0 _ #[] c₁ rfl (Nat.zero_le _) hit hS₁ (ItemsOf.nil _) fun s' acc' c' hm hS' hacc => ?_
    rw [Moved.eq_with hm]
    refine hR s'.heap s'.toks acc' c' (fun b o hb e => hm.heap b o (fun hmem => ?_) (hk b o hb e)) hS' hacc
    rcases List.mem_cons.mp hmem with e' | hmem
    · exact hb e'
    · exact absurd (Heap.lt_size e) (by rw [List.mem_singleton.mp hmem]; exact Nat.lt_irrefl _)
  unfold Builtin.List.listExtendWith
  refine wpAny_bind (wpAny_typeOf (T := "range") ⟨_, hr, rfl⟩ ?_)
  have h1 : Builtin.List.listSameRef (.ref S) (.ref r) = false := by simp [Builtin.List.listSameRef, hSr]
  have h2 : (Value.type "range" == Value.type "list") = false := by decide
  have h3 : (Value.type "range" == Value.type "tuple") = false := by decide
  simp only [h1, h2, h3, Bool.or_false, Bool.false_eq_true, if_false]
  refine wpAny_bind (lr_iter hr hbig ?_)
  refine wpAny_bind (wpAny_holding (wpAny_hint_range (n := n) (Heap.get?_push_of_some _ hr) hn hlen ?_))
  have hit₁ : IsLong (s.heap.push { cls := .type "longrange_iterator", data := .fields #[rawInt a, rawInt (Builtin.Range.rangeSize a b 1), rawInt 1] }) s.heap.objs.size (a + ((0 : Nat) : Int) * 1) ((n : Int) - ((0 : Nat) : Int)) := by
    show IsLong _ _ _ _; rw [hn]; simpa using Heap.get?_push_size _ rfl
  have hS₁ := Heap.get?_push_of_some { cls := .type "longrange_iterator", data := .fields #[rawInt a, rawInt (Builtin.Range.rangeSize a b 1), rawInt 1] } hS
  refine wpAny_ite_split (fun _ => ?_) (fun _ => wpAny_pure ⟨plainId_quiet F.plain_extend_loop _, key _ c₀ _ hit₁ (fun b o _ e => Heap.get?_push_of_some _ e) hS₁⟩)
  refine wpAny_bind (wpAny_rule ?_)
  refine wpAny_bind ?_
  show wpAny _ _ (updateSeq S (·.push .none) >>= fun _ => updateSeq S (·.pop)) _ _ _
  refine wpAny_bind (wpAny_updateSeq hS₁ rfl ?_)
  have hS₂ := Heap.get?_update_self (Obj.mapSeq (·.push Value.none)) hS₁ rfl
  refine wpAny_updateSeq (hz := by seq_fits) hS₂ rfl ?_
  have hS₃ := Heap.get?_update_self (Obj.mapSeq (·.pop)) hS₂ rfl
  refine wpAny_pure ⟨plainId_quiet F.plain_extend_loop _, key _ _ _ ?_ (fun b o hb e => ?_) hS₃⟩
  · exact (Heap.get?_update_other _ _ hSI).trans ((Heap.get?_update_other _ _ hSI).trans hit₁)
  · exact (Heap.get?_update_other _ _ (Ne.symm hb)).trans ((Heap.get?_update_other _ _ (Ne.symm hb)).trans (Heap.get?_push_of_some _ e))
theorem lr_init {R : Result → Shared → Prop} {r : Addr} {a b : Int} {t u v : Tok} {n : Nat} (hh : A.handled = none) (hr : IsRange s.heap r a b 1 t u v) (hbig : Builtin.Range.small a b 1 = false)
    (hn : Builtin.Range.rangeSize a b 1 = n) (hlen : n ≤ 2 ^ 24) (S : Addr) (hS : s.heap.get? S = some { cls := .type "list", data := .seq #[] })
    (hR : ∀ h' tk acc' c', (∀ b o, b ≠ S → s.heap.get? b = some o → h'.get? b = some o) → h'.get? S = some { cls := .type "list", dict := none, data := .seq acc' c', slots := #[] } →
      ItemsOf (fun i v => ∃ t, v = .int (a + i * 1) t) acc' n → R (.ok (.ret .none)) { s with heap := h', toks := tk }) :
    wpAny (model prog w) A.in1 (Builtin.«list.__init__» ⟨[.ref S, .ref r], []⟩)
      (fun fin s' => match fin with | .done f => R (.ok f) s' | .again c' => c'.quiet = true ∧ codeAny (model prog w) A c' R s') (fun e s' => R (.error e) s') s := by
  have hSr : S ≠ r := fun e => by rw [e, hr] at hS; simp at hS
  show wpAny _ _ (do let old ← Builtin.List.listItems (.ref S); Builtin.List.listUpdate (.ref S) (fun _ => #[]); letGo old.toList.reverse; Builtin.List.listExtendWith (.ref S) (.ref r) .none) _ _ s
  refine wpAny_bind ?_
  unfold Builtin.List.listItems
  refine wpAny_bind (wpAny_seqItems hS rfl (wpAny_pure ?_))
  show wpAny _ _ (updateSeq S (fun _ => #[]) >>= fun _ => letGo (#[] : Array Value).toList.reverse >>= fun _ => Builtin.List.listExtendWith (.ref S) (.ref r) .none) _ _ s
  refine wpAny_bind (wpAny_updateSeq hS rfl ?_)
  have hS₂ := Heap.get?_update_self (Obj.mapSeq (fun _ => (#[] : Array Value))) hS rfl
  have oth : ∀ b o, b ≠ S → s.heap.get? b = some o → (s.heap.update S (Obj.mapSeq (fun _ => (#[] : Array Value)))).get? b = some o :=
    fun b o hb e => (Heap.get?_update_other _ _ (Ne.symm hb)).trans e
  refine wpAny_bind (wpAny_letGo ?_)
  refine lr_extend hh (oth r _ (Ne.symm hSr) hr) hbig hn hlen S .none _ hS₂ fun h' tk acc' c' hk hS' hacc => ?_
  exact hR h' tk acc' c' (fun b o hb e => hk b o hb (oth b o hb e)) hS' hacc
theorem lr_call {Q : Value → Shared → Prop} {r : Addr} {a b : Int} {t u v : Tok} {n : Nat} (hh : A.handled = none) (hr : IsRange s.heap r a b 1 t u v) (hbig : Builtin.Range.small a b 1 = false)
    (hn : Builtin.Range.rangeSize a b 1 = n) (hlen : n ≤ 2 ^ 24)
    (hQ : ∀ h' tk acc' c', (∀ b o, s.heap.get? b = some o → h'.get? b = some o) →
      h'.get? s.heap.objs.size = some { cls := .type "list", dict := none, data := .seq acc' c', slots := #[] } → ItemsOf (fun i v => ∃ t, v = .int (a + i * 1) t) acc' n → Q (.ref s.heap.objs.size) { s with heap := h', toks := tk }) :
    wpAny (model prog w) A (call (.type "list") [.ref r]) Q E s := by
  refine callType_codes (Q₁ := fun obj s₁ => obj = .ref s.heap.objs.size ∧ s₁ = { s with heap := s.heap.push { cls := .type "list", data := .seq #[] } }) F.called_list (F.typeCall_list_1 _) F.entry_list_init
    (code_list_new _ ⟨rfl, rfl⟩) fun obj s₁ h₁ => ?_
  obtain ⟨rfl, rfl⟩ := h₁
  have hS : (s.heap.push { cls := .type "list", data := .seq #[] }).get? s.heap.objs.size = some { cls := .type "list", data := .seq #[] } := Heap.get?_push_size _ rfl
  refine ⟨⟨_, hS, rfl⟩, F.args_list_init_2 _ _, lr_init (A := A.in1) hh (Heap.get?_push_of_some _ hr) hbig hn hlen _ hS fun h' tk acc' c' hk hS' hacc => ?_⟩
  exact ⟨rfl, hQ h' tk acc' c' (fun b o e => hk b o (Nat.ne_of_lt (Heap.lt_size e)) (Heap.get?_push_of_some _ e)) hS' hacc⟩
end
section
variable {X : Cx} {e : Expr} {te : L2.St → Hp → (Int → Int → Hp → Prop) → Prop}
def tLstRgA (te : L2.St → Hp → (Int → Int → Hp → Prop) → Prop) : TE := fun σ H Q => te σ H fun a b H1 => (b - a).toNat ≤ 2 ^ 24 ∧ ∀ q, H1 q = none → Q (.ref q) (upd H1 q (.lst (rgV a b)))
theorem pe_listRgA {p pos : Pos} (hc : X.calm = true) (hg : Gl X "list") (hm : X.mg "list" = none) (he : PRg X e te) (na : starEach [e] X.env = (false, eval e X.env) :: starEach [] X.env := by rfl) : PE X (.Call (.Name "list" p) [e] [] pos) (tLstRgA te) := by
  refine ⟨fun pins s σ H Q I h => ?_⟩
  refine Call_ (ld_blt I hg hm boot_list (PyProof.Rows.callWith_type1 (args_cons (thn (he pins s σ H _ I h) fun x s1 ⟨r, a, b, t, u, v, H1, ex, hr, I1, b5, q⟩ => args_nil ?_) na) na))
  subst ex
  have fin : ∀ (h' : Heap) (tk : Nat) (acc : Array Value) (c' : Nat), (∀ b o, s1.heap.get? b = some o → h'.get? b = some o) → h'.get? s1.heap.objs.size = some { cls := .type "list", dict := none, data := .seq acc c', slots := #[] } → ItemsOf (fun i v => ∃ t, v = .int (a + i * 1) t) acc (b - a).toNat →
      EP X pins σ Q (.ref s1.heap.objs.size) { s1 with heap := h', toks := tk } := fun h' tk acc c' hk e' hi => by
    refine ⟨.ref s1.heap.objs.size, upd H1 s1.heap.objs.size (.lst (rgV a b)), I1.laid hk (Nat.le_refl _) (show ObjOk X.prog X.w _ _ _ (.lst (rgV a b)) from ⟨?_, acc.toList, c', vals_rg hi, ?_⟩), rfl, q _ (I1.hok.fresh (Nat.le_refl _))⟩
    · rw [rgV_length, sizeLine_eq]; omega
    · rw [Array.toArray_toList]; exact e'
  cases hs : Builtin.Range.small a b 1 with
  | true => exact call_list_range (n := (b - a).toNat) (I1.ok.hd hc) hr hs (rangeSize_nat a b) b5 fin
  | false => exact lr_call (n := (b - a).toNat) (I1.ok.hd hc) hr hs (rangeSize_nat a b) b5 fin
end
end DL
namespace DL
open PySem PySem.Spec PyProof.Rows L2

/-! ### sum, max, min of a tuple of ints -/
section
variable {prog : Program} {w : World} {A : Around} {E : Value → Shared → Prop} {s : Shared} {l : Addr} {xs : Array (Int × Tok)}
theorem iter_intTup {Q : Value → Shared → Prop} (hl : s.heap.IsTuple l (intItems xs))
    (h : ∀ s₂ : Shared, s₂ = { s with heap := s.heap.push { cls := .type "tuple_iterator", data := .fields #[.ref l, .int 0 0] } } →
      (s₂.heap.IsTupleIter s.heap.objs.size l 0 ∧ s₂.heap.IsTuple l (intItems xs)) → (∀ c ∈ [s.heap.objs.size, l], c < s₂.heap.objs.size) → l ≠ s.heap.objs.size → Q (.ref s.heap.objs.size) s₂) : wpAny (model prog w) A (pyIter (.ref l)) Q E s := by
  have hlt : l < s.heap.objs.size := by obtain ⟨_, e, _⟩ := hl; exact Heap.lt_size e
  refine wpAny_pyIter_tuple hl (h _ rfl ⟨⟨_, Heap.get?_push_size _ rfl, rfl, rfl⟩, hl.push _⟩ (fun c hc => ?_) (Nat.ne_of_lt hlt))
  show c < (s.heap.push _).objs.size
  rw [Heap.size_push]
  rcases List.mem_cons.mp hc with rfl | hc
  · exact Nat.lt_succ_self _
  · rcases List.mem_cons.mp hc with rfl | hc
    · exact Nat.lt_succ_of_lt hlt
    · cases hc
theorem old_keptT {h' : Heap} (hk : ∀ b o, b ∉ [s.heap.objs.size] → (s.heap.push { cls := .type "tuple_iterator", data := .fields #[.ref l, .int 0 0] }).get? b = some o → h'.get? b = some o) :
    ∀ b o, s.heap.get? b = some o → h'.get? b = some o := fun b o e => by
  refine hk b o (fun hm => ?_) (Heap.get?_push_of_some _ e)
  rcases List.mem_cons.mp hm with e1 | hm
  · exact absurd (e1 ▸ Heap.lt_size e) (Nat.lt_irrefl _)
  · cases hm
theorem sum_intTup {Q : Value → Shared → Prop} (hh : A.handled = none) (hl : s.heap.IsTuple l (intItems xs))
    (h : ∀ h' tk t', (∀ b o, s.heap.get? b = some o → h'.get? b = some o) → Q (.int (preSum (numAt xs) xs.size) t') { s with heap := h', toks := tk }) :
    wpAny (model prog w) A (call (.builtin "sum") [.ref l]) Q E s := by
  refine call_sum_walkG (iter_intTup hl fun s₂ e st hfp hlI => ?_)
  subst e
  refine ⟨_, _, _, _, _, _, numAt xs, rfl, Walks.tuple (A := A.in1) hh _ l hlI (intItems xs), st, hfp, (fun _ _ => intItems_at), fun h' tk t' hk => ?_⟩
  have := h h' tk t' (old_keptT hk)
  simpa [intItems] using this
end

section
variable {X : Cx}
def rSumT (K : PySem.W.Frag) : List V → Hp → VK → Prop := fun vs H Q => ∃ (a : Addr) (ns : List Int), vs = [V.ref a] ∧ SqT K H a (ns.map V.int) ∧ Q (.int ns.sum) H
theorem cr_sumT (hc : X.calm = true) : CallR X (.builtin "sum") (rSumT X.K) := by
  intro pins s σ H vs us Q I r h
  obtain ⟨a, ns, rfl, hs, q⟩ := h
  obtain ⟨its, rv, hl, _⟩ := I.tuple hs
  rw [Vals.ref1 r]
  have hi := rv.ints
  obtain ⟨xs, e⟩ := hi.allInts.items
  have hn : numsOf (intItems xs).toList = ns := by rw [← e]; exact hi.numsOf
  rw [nums_intItems] at hn
  rw [e] at hl
  refine sum_intTup (I.ok.hd hc) hl fun h' tk t' hk => ?_
  rw [preSum_eq, List.take_of_length_le (by simp), hn]
  exact ⟨.int _, H, I.kept hk, ⟨_, rfl⟩, q⟩
end
def gSum : Gc := fun ds S => match ds with
  | [d] => match view S d with
    | .lst xs => match intsOf xs with
      | some l => .ok (.int l.sum) S
      | none => .bad
    | .tup xs => match intsOf xs with
      | some l => .ok (.int l.sum) S
      | none => .bad
    | _ => .bad
  | _ => .bad
theorem cd_sum {K : PySem.W.Frag} : CallD K (fun xs H Q => rSum K xs H Q ∨ rSumT K xs H Q) gSum := by
  intro W σ M H S xs ds Q hs r w
  unfold gSum at w
  split at w
  · obtain ⟨v, rfl, r1⟩ := reps1 r
    split at w
    · rename_i ys e
      obtain ⟨p, vs, rfl, h1, q1⟩ := view_lst hs r1 e
      split at w
      · rename_i l hl
        rw [q1.intsV hl] at h1
        exact .inl ⟨p, l, rfl, SqL.of h1, wp_val hs (.int _) w⟩
      · exact w.elim
    · rename_i ys e
      obtain ⟨p, vs, rfl, h1, q1⟩ := view_tup r1 e
      split at w
      · rename_i l hl
        rw [q1.intsV hl] at h1
        exact .inr ⟨p, l, rfl, h1, wp_val hs (.int _) w⟩
      · exact w.elim
    · exact w.elim
  · exact w.elim
theorem call_sumD {X : Cx} (hc : X.calm = true) : CallR X (.builtin "sum") (fun xs H Q => rSum X.K xs H Q ∨ rSumT X.K xs H Q) := CallR.or (cr_sum hc) (cr_sumT hc)

/-! ### isinstance of a built-in type -/
def tyN : Nat → String
  | 0 => "NoneType" | 1 => "bool" | 2 => "int" | 3 => "str" | 4 => "tuple" | _ => "list"
def isiN (i k : Nat) : Bool := i == k || (i == 1 && k == 2)
theorem isi_kit : ∀ i, i < 6 → ∀ k, k < 6 → kitB (tyN i) (tyN k) = some (isiN i k) := by decide +kernel
def tag (S : Sto) : D → Option Nat
  | .non => some 0
  | .bl _ => some 1
  | .int _ => some 2
  | .str _ => some 3
  | .tup _ => some 4
  | .lst _ => some 5
  | .obj n => match S[n]? with
    | some (.lst _) => some 5
    | _ => none
  | _ => none
theorem tag_lt {S : Sto} {d : D} {n : Nat} (h : tag S d = some n) : n < 6 := by
  unfold tag at h
  split at h <;> first | (cases h; decide) | skip
  · split at h <;> first | (cases h; decide) | cases h
  · cases h
theorem tag_ty {K : PySem.W.Frag} {M : Mp} {H : Hp} {S : Sto} {v : V} {d : D} {n : Nat} (hs : HS K M S H) (r : Rep K M H v d) (h : tag S d = some n) : TyX K H v (.type (tyN n)) := by
  cases r with
  | non => simp only [tag] at h; cases h; exact .base .non
  | bl b => simp only [tag] at h; cases h; exact .base (.bl b)
  | int i => simp only [tag] at h; cases h; exact .base (.int i)
  | str x => simp only [tag] at h; cases h; exact .base (.str x)
  | tup q _ =>
    simp only [tag] at h; cases h
    rcases q with q | ⟨o, its, m, q1, q2, _⟩
    · exact .base (.tup q.2)
    · exact .kTuple q1 q2
  | lst q _ => simp only [tag] at h; cases h; exact .base (.lst q.2)
  | @obj m a q =>
    simp only [tag] at h
    split at h
    · rename_i ds e
      cases h
      obtain ⟨xs, q1, _⟩ := hs.at m a _ q e
      exact .base (.lst q1)
    · cases h
  | ref a => simp only [tag] at h; cases h
  | frz _ _ => simp only [tag] at h; cases h
def eIsi (k : Nat) (f : Ee) : Ee := fun ρ S => (f ρ S).bind fun d S1 => match tag S1 d with
  | some n => .ok (.bl (isiN n k)) S1
  | none => .bad
section
variable {X : Cx} {W : WX} {pos p : Pos} {e a b : Expr} {es : List Expr} {f fa fb : Ee} {fs : List Ee}
theorem de_isi (k : Nat) {x : Str} {px : Pos} (hk : k < 6) (hv : bootBuiltins x = some (.type (tyN k))) (hm : X.mg "isinstance" = none) (hmx : X.mg x = none) (h : DE X W e f) (hg : Gl X "isinstance" := by rfl) (hgx : Gl X x := by rfl)
    (hn : x ≠ "__name__" := by decide) (hd : (x == ("__debug__" : Str)) = false := by decide)
    (he : starEach (e :: [.Name x px]) X.env = (false, eval e X.env) :: starEach [.Name x px] X.env := by rfl) (hpl : (backTo pos (starEach [.Name x px] X.env)).any (·.1) = false := by rfl) :
    DE X W (.Call (.Name "isinstance" p) [e, .Name x px] [] pos) (eIsi k f) :=
  peI (pe_callB call_isi hg hm b_isinstance (pa_cons h (pa_cons (pe_bltn (v := .ty (tyN k)) hgx hmx hv rfl hn hd) pa_nil) he) (by decide) (by decide) he hpl) fun σ H Q ⟨M, ρ, S, hr, hs, w⟩ => ⟨M, ρ, S, hr, hs, wpG.bind w fun M1 v H1 d S1 e1 r1 hs1 w1 => by
    split at w1
    · rename_i n hn
      exact ⟨v, .ty (tyN k), _, _, isiN n k, rfl, .ty _, tag_ty hs1 r1 hn, kit_ty (isi_kit n (tag_lt hn) k hk), wp_val hs1 (.bl _) w1⟩
    · exact w1.elim⟩

/-! ### list(range(..)) -/
def rgD (a b : Int) : List D := (List.range (b - a).toNat).map fun i => D.int (a + (i : Nat))
theorem rg_rep {K : PySem.W.Frag} {M : Mp} {H : Hp} (a b : Int) : Reps K M H (rgV a b) (rgD a b) := by
  unfold rgV rgD
  induction List.range (b - a).toNat with
  | nil => exact .nil
  | cons i l ih => exact .cons (.int _) ih
def rgOk (a b : Int) : Bool := smallI a && smallI b && decide ((b - a).toNat ≤ 16777216)
theorem rgOk_of {a b : Int} (h : rgOk a b = true) : RgOk a b := by
  unfold rgOk at h
  rw [Bool.and_eq_true, Bool.and_eq_true, decide_eq_true_eq] at h
  have h1 := smallI_of h.1.1
  have h2 := smallI_of h.1.2
  exact ⟨h1.1, h1.2, h2.1, h2.2, h.2⟩
def eListRg1 (f : Ee) : Ee := fun ρ S => (f ρ S).bind fun x S1 => match x with
  | .int j => if rgOk 0 j then .ok (.lst (rgD 0 j)) S1 else .bad
  | _ => .bad
def eListRg2 (f g : Ee) : Ee := fun ρ S => (f ρ S).bind fun x S1 => (g ρ S1).bind fun y S2 => match x, y with
  | .int i, .int j => if rgOk i j then .ok (.lst (rgD i j)) S2 else if (j - i).toNat ≤ 16777216 then .ok (.lst (rgD i j)) S2 else .bad
  | _, _ => .bad
theorem de_listRg1 {p2 pos2 : Pos} (hc : X.calm = true) (hml : X.mg "list" = none) (hmr : X.mg "range" = none) (ha : DE X W a fa) (hgl : Gl X "list" := by rfl) (hgr : Gl X "range" := by rfl) (na : starEach [a] X.env = (false, eval a X.env) :: starEach [] X.env := by rfl)
    (nl : starEach [.Call (.Name "range" p2) [a] [] pos2] X.env = (false, eval (.Call (.Name "range" p2) [a] [] pos2) X.env) :: starEach [] X.env := by rfl) :
    DE X W (.Call (.Name "list" p) [.Call (.Name "range" p2) [a] [] pos2] [] pos) (eListRg1 fa) := peI (pe_listRg hc hgl hml (prg_1 hgr hmr ha na) nl) fun σ H Q ⟨M, ρ, S, hr, hs, w⟩ => ⟨M, ρ, S, hr, hs, wpG.bind w fun M1 v H1 d S1 e1 r1 hs1 w1 => by
    split at w1
    · split at w1
      · rename_i j hj
        cases r1
        exact ⟨_, rfl, rgOk_of hj, wp_newL hs1 (rg_rep _ _) w1⟩
      · exact w1.elim
    · exact w1.elim⟩
theorem de_listRg2 {p2 pos2 : Pos} (hc : X.calm = true) (hml : X.mg "list" = none) (hmr : X.mg "range" = none) (ha : DE X W a fa) (hb : DE X W b fb) (hgl : Gl X "list" := by rfl) (hgr : Gl X "range" := by rfl) (na : starEach [a, b] X.env = (false, eval a X.env) :: starEach [b] X.env := by rfl)
    (nb : starEach [b] X.env = (false, eval b X.env) :: starEach [] X.env := by rfl) (hp : (backTo pos2 (starEach [b] X.env)).any (·.1) = false := by rfl)
    (nl : starEach [.Call (.Name "range" p2) [a, b] [] pos2] X.env = (false, eval (.Call (.Name "range" p2) [a, b] [] pos2) X.env) :: starEach [] X.env := by rfl) :
    DE X W (.Call (.Name "list" p) [.Call (.Name "range" p2) [a, b] [] pos2] [] pos) (eListRg2 fa fb) := peI (pe_listRgA hc hgl hml (prg_2 hgr hmr ha hb na nb hp) nl) fun σ H Q ⟨M, ρ, S, hr, hs, w⟩ => ⟨M, ρ, S, hr, hs, wpG.bind w fun M1 v H1 d S1 e1 r1 hs1 w1 => ⟨M1, ρ, S1, hr.mono e1, hs1, wpG.bind w1 fun M2 v2 H2 d2 S2 e2 r2 hs2 w2 => by
    split at w2
    · rename_i i j
      cases r1
      cases r2
      split at w2
      · rename_i hj
        exact ⟨_, _, rfl, rfl, (rgOk_of hj).2.2.2.2, wp_newL hs2 (rg_rep _ _) w2⟩
      · split at w2
        · rename_i hj
          exact ⟨_, _, rfl, rfl, hj, wp_newL hs2 (rg_rep _ _) w2⟩
        · exact w2.elim
    · exact w2.elim⟩⟩

/-! ### append -/
def eApp (o e : Ee) : Ee := fun ρ S => (o ρ S).bind fun l S1 => (eArgs [e] ρ S1).bind fun xs S2 => match l, xs with
  | .obj n, [x] => match S2[n]? with
    | some (.lst ys) => if ys.length < 16777216 then .ok .non (S2.set n (.lst (ys ++ [x]))) else .bad
    | _ => .bad
  | _, _ => .bad
def isLO (S : Sto) : D → Bool
  | .obj n => match S[n]? with
    | some (.lst _) => true
    | _ => false
  | _ => false
/-- .. its object is asked ahead of the argument -/
def eAppend (o e : Ee) : Ee := fun ρ S => (o ρ S).bind fun l S1 => if isLO S1 l then (eArgs [e] ρ S1).bind fun xs S2 => match l, xs with
  | .obj n, [x] => match S2[n]? with
    | some (.lst ys) => if ys.length < 16777216 then .ok .non (S2.set n (.lst (ys ++ [x]))) else .bad
    | _ => .bad
  | _, _ => .bad else .bad
theorem de_append {apos cpos : Pos} (ho : DE X W a fa) (ha : DA X W [e] (eArgs [f]))
    (hbase : attributeBase a "append" X.env (eval a X.env) = eval a X.env := by rfl)
    (hfew : ((backTo cpos (starEach (e :: []) X.env)).all (fun x => !x.1) && (backToKw cpos (keywordEach [] X.env)).all (fun x => x.1.isSome)
      && decide ((e :: []).length + ([] : List Keyword).length + (if ([] : List Keyword).isEmpty then 0 else 1) < 30)) = true := by rfl)
    (hline : (apos.endLine == cpos.line) = true := by rfl) (hs : starEach (e :: []) X.env = (false, eval e X.env) :: starEach [] X.env := by rfl) (hplain : (backTo cpos (starEach [] X.env)).any (·.1) = false := by rfl) :
    DE X W (.Call (.Attribute a "append" apos) [e] [] cpos) (eAppend fa f) :=
  peI (pe_bm PySem.F.plainAttrs_list PySem.F.slot_list_append PySem.F.type_list_append mt_append ho ha hbase hfew hline hs hplain) fun σ H Q ⟨M, ρ, S, hr, hs, w⟩ => ⟨M, ρ, S, hr, hs, wpG.bind w fun M1 v H1 d S1 e1 r1 hs1 w1 => by
    split at w1
    · rename_i hl
      cases r1 with
      | @obj n a hn =>
        simp only [isLO] at hl
        split at hl
        · rename_i ds hx
          obtain ⟨vs, h1, q1⟩ := hs1.at n a _ hn hx
          refine ⟨.inl ⟨rfl, _, SqL.of h1⟩, M1, ρ, S1, hr.mono e1, hs1, wpG.bind w1 fun M2 xs H2 ds2 S2 e2 r2 hs2 w2 => ?_⟩
          split at w2
          · rename_i m x hm
            cases hm
            obtain ⟨y, rfl, ry⟩ := reps1 r2
            split at w2
            · rename_i ys hy
              split at w2
              · rename_i hlt
                have hn2 := e2.get hn
                obtain ⟨us, k1, k2⟩ := hs2.at _ a _ hn2 hy
                have e4 : Ext M2 H2 M2 (upd H2 a (.lst (us ++ [y]))) := hs2.ext_write hn2
                exact ⟨a, us, y, rfl, rfl, k1, lt_line (by rw [k2.length]; exact hlt), w2 M2 .non _ e4 .non (hs2.write hn2 ⟨_, upd_same, (k2.append (.cons ry .nil)).mono e4⟩)⟩
              · exact w2.elim
            · exact w2.elim
          · exact w2.elim
        · cases hl
      | _ => simp only [isLO] at hl; cases hl
    · exact w1.elim⟩

/-! ### x op= e of ints, texts -/
def OpI (X : Cx) (op : Operator) (r : R2) : Prop := PIp X op r
theorem ds_aug {i : Nat} {x : Str} {op : Operator} {r : R2} {g : D → D → Sto → R D} {pos' : Pos} (hN : X.N.Nodup) (ho : PIp X op r) (hg : OpD X.K r g) (he : DE X W e f) (hi : X.N[i]? = some x := by rfl) (hx : Loc X.env.scope x := by first | exact Or.inl rfl | exact Or.inr rfl) (hf : X.fn x = true ∨ X.env.scope.names.lookup x = some .local := by first | exact .inl rfl | exact .inr rfl | assumption) :
    DS X W (.AugAssign (.Name x pos') op e pos) (sAug i g f) := psI (ps_aug hN hi hx he ho hf) fun Dd σ H ⟨M, ρ, S, hr, hs, w⟩ => by
  unfold sAug at w
  cases hv : eVar i ρ S with
  | bad => rw [hv] at w; exact w.elim
  | ex x S1 => unfold eVar at hv; split at hv <;> cases hv
  | ok d S1 =>
    rw [hv] at w
    simp only [F.ofR_ok] at w
    unfold eVar at hv
    split at hv
    · rename_i d' hd
      cases hv
      obtain ⟨v, h1, r1⟩ := hr.at i d hd
      refine ⟨v, h1, M, ρ, S, hr, hs, wpS.ofR hr w fun M1 y H1 d1 S1 e1 r2 hs1 w1 => ?_⟩
      refine hg W σ M1 H1 S1 v y d d1 _ hs1 (r1.mono e1) r2 (wpS.ofR (hr.mono e1) w1 fun M2 z H2 d2 S2 e2 r3 hs2 w2 => ?_)
      exact w2 M2 _ H2 (Ext.refl hs2) (((hr.mono e1).mono e2).set r3) hs2
    · cases hv
end
end DL
namespace DL
open PySem PySem.Spec PyProof.Rows L2
/-! ### methods of built-in values, by data -/
def isT (T : String) (S : Sto) (d : D) : Bool := match view S d with
  | .lst _ => T == "list"
  | .str _ => T == "str"
  | _ => false
section
variable {K : PySem.W.Frag} {M : Mp} {H : Hp} {S : Sto}
theorem isT_ty {T : String} {v : V} {d : D} (hs : HS K M S H) (r : Rep K M H v d) (h : isT T S d = true) : tyV K T v H := by
  unfold isT at h
  split at h
  · rename_i xs e
    obtain ⟨a, vs, rfl, h1, _⟩ := view_lst hs r e
    exact .inl ⟨by simpa using h, _, SqL.of h1⟩
  · rename_i x e
    have : d = .str x := by
      cases d with
      | obj n => rcases view_obj e with ⟨_, h⟩ | h <;> cases h
      | _ => simp only [view] at e; exact e
    subst this
    cases r
    show T = "str"
    simpa using h
  · cases h
/-- what a method asks, by data -/
def MtD (K : PySem.W.Frag) (r : V → List V → Hp → VK → Prop) (g : D → List D → Sto → R D) : Prop := ∀ (W : WX) (σ : L2.St) (M : Mp) (H : Hp) (S : Sto) (x : V) (xs : List V) (d : D) (ds : List D) (Q : VK), HS K M S H → Rep K M H x d → Reps K M H xs ds → wpG (Rep K) K W σ M H (g d ds S) Q → r x xs H Q
end
def eMeth (T : String) (g : D → List D → Sto → R D) (o : Ee) (fs : List Ee) : Ee := fun ρ S => (o ρ S).bind fun l S1 => if isT T S1 l then (eArgs fs ρ S1).bind fun xs S2 => g l xs S2 else .bad
section
variable {X : Cx} {W : WX} {a e : Expr} {es : List Expr} {fa : Ee} {fs : List Ee} {T id : String} {name : Str} {r : V → List V → Hp → VK → Prop} {g : D → List D → Sto → R D}
theorem de_meth {apos cpos : Pos} (pa : PlainAttrs T) (slot : Slot T name id) (hty : typeOf (.builtin id) = pure (.type "method_descriptor")) (hm : MtR X id r) (hg : MtD X.K r g) (ho : DE X W a fa) (ha : DA X W (e :: es) (eArgs fs))
    (hbase : attributeBase a name X.env (eval a X.env) = eval a X.env := by rfl)
    (hfew : ((backTo cpos (starEach (e :: es) X.env)).all (fun x => !x.1) && (backToKw cpos (keywordEach [] X.env)).all (fun x => x.1.isSome)
      && decide ((e :: es).length + ([] : List Keyword).length + (if ([] : List Keyword).isEmpty then 0 else 1) < 30)) = true := by rfl)
    (hline : (apos.endLine == cpos.line) = true := by rfl) (hs : starEach (e :: es) X.env = (false, eval e X.env) :: starEach es X.env := by rfl) (hplain : (backTo cpos (starEach es X.env)).any (·.1) = false := by rfl) :
    DE X W (.Call (.Attribute a name apos) (e :: es) [] cpos) (eMeth T g fa fs) :=
  peI (pe_bm pa slot hty hm ho ha hbase hfew hline hs hplain) fun σ H Q ⟨M, ρ, S, hr, hs, w⟩ => ⟨M, ρ, S, hr, hs, wpG.bind w fun M1 v H1 d S1 e1 r1 hs1 w1 => by
    split at w1
    · rename_i hl
      refine ⟨isT_ty hs1 r1 hl, M1, ρ, S1, hr.mono e1, hs1, wpG.bind w1 fun M2 xs H2 ds2 S2 e2 r2 hs2 w2 => ?_⟩
      exact hg W σ M2 H2 S2 v xs d ds2 Q hs2 (r1.mono e2) r2 w2
    · exact w1.elim⟩
end
/-! ### l.index(x) of flat items -/
def findD (x : D) : Nat → List D → Option Nat
  | _, [] => none
  | i, y :: ys => if eqF y x then some i else findD x (i + 1) ys
theorem find_rep {K : PySem.W.Frag} {M : Mp} {H : Hp} {w : V} {e : D} (q : Rep K M H w e) (h' : flatD e = true) : ∀ {vs : List V} {ds : List D} {i j : Nat}, Reps K M H vs ds → ds.all flatD = true → findD e i ds = some j → ∃ k z, j = i + k ∧ vs[k]? = some z ∧ eqV z w = true ∧ ∀ m z', m < k → vs[m]? = some z' → eqV z' w = false
  | _, _, _, _, .nil, _, h => by cases h
  | _, _, i, j, .cons (v := v) (d := d) r t, hf, h => by
    rw [List.all_cons, Bool.and_eq_true] at hf
    simp only [findD] at h
    have ev := eqF_V r q hf.1 h'
    by_cases c : eqF d e = true
    · rw [if_pos c] at h
      cases h
      exact ⟨0, v, rfl, rfl, by rw [ev, c], fun m z' hm => by omega⟩
    · rw [if_neg c] at h
      obtain ⟨k, z, h1, h2, h3, h4⟩ := find_rep q h' t hf.2 h
      refine ⟨k + 1, z, by omega, by simpa using h2, h3, fun m z' hm hz => ?_⟩
      cases m with
      | zero =>
        simp only [List.getElem?_cons_zero, Option.some.injEq] at hz
        rw [← hz, ev]
        simpa using c
      | succ m => exact h4 m z' (by omega) (by simpa using hz)
def gIndexM (d : D) (ds : List D) (S : Sto) : R D := match view S d, ds with
  | .lst xs, [y] => if flatD y && xs.all flatD then match findD y 0 xs with
    | some j => .ok (.int (j : Nat)) S
    | none => .bad else .bad
  | _, _ => .bad
theorem md_index {K : PySem.W.Frag} : MtD K (rIndex K) gIndexM := by
  intro W σ M H S x xs d ds Q hs r rs w
  unfold gIndexM at w
  split at w
  · rename_i l y e
    obtain ⟨a, vs, rfl, h1, q1⟩ := view_lst hs r e
    obtain ⟨y', rfl, ry⟩ := reps1 rs
    split at w
    · rename_i hl
      rw [Bool.and_eq_true] at hl
      split at w
      · rename_i j hj
        obtain ⟨k, z, e1, e2, e3, e4⟩ := find_rep ry hl.1 q1 hl.2 hj
        have : j = k := by omega
        subst this
        exact ⟨a, vs, y', j, z, rfl, rfl, SqL.of h1, ry.flat hl.1, q1.flat hl.2, e2, e3, e4, wp_val hs (.int _) w⟩
      · exact w.elim
    · exact w.elim
  · exact w.elim
section
variable {X : Cx} {W : WX} {a e : Expr} {fa fe : Ee}
theorem de_index {apos cpos : Pos} (ho : DE X W a fa) (ha : DA X W [e] (eArgs [fe]))
    (hbase : attributeBase a "index" X.env (eval a X.env) = eval a X.env := by rfl)
    (hfew : ((backTo cpos (starEach (e :: []) X.env)).all (fun x => !x.1) && (backToKw cpos (keywordEach [] X.env)).all (fun x => x.1.isSome)
      && decide ((e :: []).length + ([] : List Keyword).length + (if ([] : List Keyword).isEmpty then 0 else 1) < 30)) = true := by rfl)
    (hline : (apos.endLine == cpos.line) = true := by rfl) (hs : starEach (e :: []) X.env = (false, eval e X.env) :: starEach [] X.env := by rfl) (hplain : (backTo cpos (starEach [] X.env)).any (·.1) = false := by rfl) :
    DE X W (.Call (.Attribute a "index" apos) [e] [] cpos) (eMeth "list" gIndexM fa [fe]) :=
  de_meth PySem.F.plainAttrs_list PySem.F.slot_list_index PySem.F.type_list_index mt_index md_index ho ha hbase hfew hline hs hplain
end
end DL
namespace DL
open PySem PySem.Spec PyProof.Rows L2
section
variable {K : PySem.W.Frag}
theorem od_lt : OpD K (rI0 fun i j => .bl (decide (i < j))) gLt := od_I2
theorem od_le : OpD K (rI0 fun i j => .bl (decide (i ≤ j))) gLe := od_I2
theorem od_gt : OpD K (rI0 fun i j => .bl (decide (j < i))) gGt := od_I2
theorem od_ge : OpD K (rI0 fun i j => .bl (decide (j ≤ i))) gGe := od_I2
end
theorem Room.units65 {k : Nat} {A : Around} (r : Room k A) : A.units + 65 < cLine := by have := r.un; omega
theorem op_inA {X : Cx} {k : Nat} (hr : Room k X.A) : OpR X (compareOp .In) (rInA X.K) := OpR.or op_in_seq (op_inD (Room.units65 hr))
theorem op_notInA {X : Cx} {k : Nat} (hr : Room k X.A) : OpR X (compareOp .NotIn) (rNotInA X.K) := OpR.or op_notIn_seq (op_notInD (Room.units65 hr))
theorem de_gint {X : Cx} {W : WX} {x : Str} {pos : Pos} {i : Int} (h : ∃ t, X.mg x = some (.int i t)) (hg : Gl X x := by rfl) (hd : (x == ("__debug__" : Str)) = false := by decide) : DE X W (.Name x pos) (eK (.int i)) := by
  obtain ⟨t, h⟩ := h
  exact de_K (pe_glob (v := .int i) hg h ⟨t, rfl⟩ hd) fun _ _ => .int i
theorem dss_bad {X : Cx} {W : WX} {sts : List Stmt} : DSs X W sts sBad := pssI pss_never fun Dd σ H ⟨M, ρ, S, hr, hs, w⟩ => w
theorem DFn.bad {P : Program} {w : World} {K : PySem.W.Frag} {mg : Str → Option Value} {base : Heap} {x : Str} {ps N : List Str} {k : Nat} {st : Stmt} {f : Addr} {fd : FuncData} (hm : mg x = some (.ref f)) (Ff : Fun K x x st f fd) (hb : Binds K fd ps []) (S : FnScope N ps (defScope st)) :
    DFn P w K mg base x ps (k + 1) (fun _ _ => .bad) := (fnQ_ok (body := sBad) hm Ff hb S fun _ _ _ _ _ _ _ => dss_bad).imp fun _ _ _ _ _ _ _ w => w.elim

/-! ### an error of a class without an __init__ of its own is raised -/
abbrev veMro : List Value := [.type "ValueError", .type "Exception", .type "BaseException", .type "object"]
structure ExC (K : PySem.W.Frag) (mg : Str → Option Value) (x : Str) : Prop where
  ex : ∃ C, PySem.W.nsIn K mainGlobals x = some (some (.ref C)) ∧ mg x = some (.ref C) ∧ PySem.W.excIn K C veMro "ValueError.__new__" = true ∧ PySem.W.keepIn K (.ref C) = true ∧
    PySem.W.subIn K (.ref C) (.type "BaseException") = some true ∧ PySem.W.typeIn K (.ref C) = some (.type "type")
def sRaise (x : Str) : Sm := fun ρ S => .ex ⟨x, []⟩ ρ S
theorem ds_raise {X : Cx} {W : WX} {x m : Str} {j : Nat} {p p2 pos pos2 : Pos} (hc : X.calm = true) (tk : Takes X W) (h : ExC X.K X.mg x) (hg : Gl X x := by rfl) (hdb : (x == ("__debug__" : Str)) = false := by decide) :
    DS X W (.Raise (some (.Call (.Name x p) [.Constant (.str m) j p2] [] pos)) none pos2) (sRaise x) := by
  obtain ⟨C, h1, h2, h3, h4, h5, h6⟩ := h.ex
  exact psI (ps_raise hc tk (pmk_own PySem.F.excBase_ValueError h3 h2 h4 (raises_own h5 h6) hg hdb)) fun Dd σ H ⟨M, ρ, S, hr, hs, w⟩ => w M σ H (.ref C) none (Ext.refl hs) hr hs ⟨h1, .inl ⟨rfl, rfl⟩⟩
end DL
/-! t[::-1] of a tuple -/
namespace DL
open PySem PySem.Spec PyProof.Rows L2 HT
section
variable {prog : Program} {w : World} {A : Around} {E : Value → Shared → Prop} {s : Shared}
theorem applied_rev {sl : Addr} {vl vu vs : Value} {n : Nat} {Q : Int × Int × Nat → Shared → Prop} (hs : s.heap.IsSliceOf sl vl vu vs) (pl : IsPart vl none) (pu : IsPart vu none) (ps : IsPart vs (some (-1)))
    (h : Q ((n : Int) - 1, -1, n) s) : wpAny (model prog w) A (Builtin.Slice.sliceApplied (.ref sl) (pure (n : Int))) Q E s := by
  obtain ⟨os, hos, hcs, hds⟩ := id hs
  unfold Builtin.Slice.sliceApplied Builtin.Slice.sliceFields
  refine wpAny_bind (wpAny_bind (wpAny_field hos hds (x := vl) rfl (wpAny_bind (wpAny_field hos hds (x := vu) rfl (wpAny_bind (wpAny_field hos hds (x := vs) rfl (wpAny_pure ?_)))))))
  refine wpAny_bind (slicePart_ ps ?_)
  show wpAny _ _ (if ((-1 : Int) == 0) = true then _ else _) _ _ s
  rw [if_neg (by decide)]
  refine wpAny_bind (slicePart_ pl (wpAny_bind (slicePart_ pu (wpAny_bind (wpAny_pure ?_)))))
  have e1 : Builtin.Slice.sliceAdjust none none (-1) (n : Int) = ((n : Int) - 1, -1) := rfl
  have e2 : Builtin.Slice.slicePlaces ((n : Int) - 1) (-1) (-1) = n := by
    unfold Builtin.Slice.slicePlaces
    rw [if_neg (by decide)]
    by_cases hn : n = 0
    · subst hn; rfl
    · rw [if_pos (by omega), show (- -1 : Int) = 1 by decide, Int.ediv_one]
      omega
  show wpAny _ _ (match Builtin.Slice.sliceAdjust none none (-1) (n : Int) with | (lo, hi) => pure (lo, (-1 : Int), Builtin.Slice.slicePlaces lo hi (-1))) _ _ s
  rw [e1]
  show wpAny _ _ (pure ((n : Int) - 1, (-1 : Int), Builtin.Slice.slicePlaces ((n : Int) - 1) (-1) (-1))) _ _ s
  rw [e2]
  exact wpAny_pure h
theorem pick_rev (xs : Array Value) : ((List.range xs.size).filterMap fun (m : Nat) => xs[(((xs.size : Int) - 1) + (m : Int) * (-1)).toNat]?).toArray = xs.toList.reverse.toArray := by
  have e : (List.range xs.size).filterMap (fun (m : Nat) => xs[(((xs.size : Int) - 1) + (m : Int) * (-1)).toNat]?) = ((List.range xs.size).map fun k => xs.size - 1 - k).filterMap (xs[·]?) := by
    rw [List.filterMap_map]
    have : ∀ (l : List Nat), (∀ m ∈ l, m < xs.size) → l.filterMap (fun (m : Nat) => xs[(((xs.size : Int) - 1) + (m : Int) * (-1)).toNat]?) = l.filterMap ((xs[·]?) ∘ fun k => xs.size - 1 - k) := by
      intro l
      induction l with
      | nil => intro _; rfl
      | cons m l ih =>
        intro h
        have h1 := h m List.mem_cons_self
        have e1 : (((xs.size : Int) - 1) + (m : Int) * (-1)).toNat = xs.size - 1 - m := by omega
        rw [List.filterMap_cons, List.filterMap_cons, e1, ih (fun y hy => h y (List.mem_cons_of_mem _ hy))]
        rfl
    exact this _ fun m hm => List.mem_range.mp hm
  rw [e, PySem.W.krv_range, List.filterMap_reverse, PySem.W.krv_all]
theorem getItem_tuple_rev {t sl : Addr} {items : Array Value} {vl vu vs : Value} {Q : Value → Shared → Prop} (ht : IsTup s.heap t items) (hs : s.heap.IsSliceOf sl vl vu vs) (pl : IsPart vl none) (pu : IsPart vu none) (ps : IsPart vs (some (-1)))
    (h : Q (.ref s.heap.objs.size) { s with heap := s.heap.push { cls := .type "tuple", data := .seq items.toList.reverse.toArray } })
    (hsz : items.size ≤ sizeLine) : wpAny (model prog w) A (getItem (.ref t) (.ref sl)) Q E s := by
  have htake : sizeOk (.seq items.toList.reverse.toArray) := by
    show items.toList.reverse.toArray.size ≤ sizeLine
    rw [List.size_toArray, List.length_reverse, Array.length_toList]
    exact hsz
  obtain ⟨os, hos, hcs, hds⟩ := id hs
  have hTs : s.TypeIs (.ref sl) "slice" := ⟨os, hos, hcs⟩
  unfold getItem
  try with_reducible refine wpAny_holding ?_
  first | refine wpAny_bind (wpAny_pure ?_) | skip
  refine wpAny_bind (wpAny_sequenceKey ht.typeIs (by decide) ?_)
  refine wpAny_bind (wpAny_callSpecial?_slot (name := Str.ofString "__getitem__") ht.typeIs PyProof.Rows.slot_tuple_getitem
    (wpAny_call_entry PyProof.Rows.slot_tuple_getitem ht.typeIs entry_tuple_getitem ?_ (args_tuple_getitem _ _)))
  show wpAny _ _ (Builtin.Tuple.tupleItemsOf (.ref t) >>= _) _ _ s
  refine wpAny_bind (tupleItemsOf_ ht ?_)
  refine wpAny_bind (wpAny_typeOf hTs ?_)
  rw [if_pos (by decide)]
  refine wpAny_bind (applied_rev hs pl pu ps ?_)
  have hno : ¬ ((((items.size : Int) - 1) == 0 && (-1 : Int) == 1 && items.size == items.size) = true) := by
    intro q
    rw [Bool.and_eq_true, Bool.and_eq_true] at q
    exact absurd q.1.2 (by decide)
  show wpAny _ _ (if (((items.size : Int) - 1) == 0 && (-1 : Int) == 1 && items.size == items.size) = true then _ else _) _ _ s
  rw [if_neg hno, pick_rev]
  first
    | exact wpAny_bind (m := Builtin.Tuple.tupleExact _) (wpAny_newObj_type (wpAny_pure ⟨_, rfl, wpAny_pure h⟩) htake)
    | exact wpAny_bind (m := Builtin.Tuple.tupleExact _) (wpAny_newObj_type (wpAny_bind (wpAny_pure (wpAny_pure ⟨_, rfl, wpAny_pure h⟩))) htake)
    | exact wpAny_bind (wpAny_bind (m := Builtin.Tuple.tupleExact _) (wpAny_newObj_type (wpAny_pure (wpAny_pure ⟨_, rfl, wpAny_pure h⟩)) htake))
    | exact wpAny_bind (wpAny_bind (m := Builtin.Tuple.tupleExact _) (wpAny_newObj_type (wpAny_pure ⟨_, rfl, wpAny_pure h⟩) htake))
end
section
variable {X : Cx}
def tRevT (K : PySem.W.Frag) (te : TE) : TE := fun σ H Q => te σ H fun x H1 => ∃ a xs, x = .ref a ∧ SqT K H1 a xs ∧ ∀ p, H1 p = none → Q (.ref p) (upd H1 p (.tup xs.reverse))
theorem pe_revT {e : Expr} {te : TE} {k : Nat} {p1 p2 p3 pos : Pos} (he : PE X e te) : PE X (.Subscript e (.Slice none none (some (.UnaryOp .USub (.Constant (.int 1) k p1) p2)) p3) pos) (tRevT X.K te) := by
  refine ⟨fun pins s σ H Q I h => ?_⟩
  refine Subscript_ (thn (he.run pins s σ H _ I h) fun v s1 ⟨x, H1, I1, r1, q1⟩ => ?_)
  obtain ⟨a, xs, ex, hx, q⟩ := q1
  subst ex
  cases r1
  have hst : PO X (some (.UnaryOp .USub (.Constant (.int 1) k p1) p2)) (tPart (tUn (rU fun i => .int (-i)) (tC (.int 1)))) := po_some (pe_un un_neg pe_int)
  refine wpAny_Slice (thn (po_none.run pins s1 σ H1 (fun o H2 => o = none ∧ H2 = H1) I1 ⟨rfl, rfl⟩) fun vl s2 ⟨l, H2, I2, pl, el, e2⟩ => ?_)
  subst el e2
  refine thn (po_none.run pins s2 σ H2 (fun o H3 => o = none ∧ H3 = H2) I2 ⟨rfl, rfl⟩) fun vu s3 ⟨u, H3, I3, pu, eu, e3⟩ => ?_
  subst eu e3
  refine thn (hst.run pins s3 σ H3 (fun o H4 => o = some (-1) ∧ H4 = H3) I3 ⟨1, rfl, -1, rfl, rfl, rfl⟩) fun vs s4 ⟨o, H4, I4, ps, eo, e4⟩ => ?_
  subst eo e4
  have I5 : Inv X pins σ H4 { s4 with heap := s4.heap.push { cls := .type "slice", data := .fields #[vl, vu, vs] } } := I4.kept (t' := s4.toks) fun b ob q => Heap.get?_push_of_some _ q
  obtain ⟨its, r, ht, hz⟩ := I5.tuple hx
  have hlen := r.length
  show wpAny (model X.prog X.w) X.A (subscriptTail e (.Slice none none (some (.UnaryOp .USub (.Constant (.int 1) k p1) p2)) p3) (.ref a) (.ref s4.heap.objs.size)) (EP X pins σ Q) X.xe { s4 with heap := s4.heap.push { cls := .type "slice", data := .fields #[vl, vu, vs] } }
  refine tail_any (ops := [.ref a, .ref s4.heap.objs.size]) ht.typeIs (PyProof.Rows.slot_tuple_getitem.lookup) ?_ (by with_unfolding_all rfl)
  refine getItem_tuple_rev ht (Heap.IsSliceOf.new _ vl vu vs) pl pu ps ?_ (by rw [List.size_toArray]; omega)
  refine ⟨.ref _, _, I5.laid (t' := s4.toks) (o := .tup xs.reverse) (fun b ob q => Heap.get?_push_of_some _ q) (Nat.le_refl _) ?_, rfl, q _ (I5.hok.fresh (Nat.le_refl _))⟩
  exact ⟨by rw [List.length_reverse]; exact hz, _, r.reverse, IsTup.new _ _⟩
end
theorem Reps.reverse {K : PySem.W.Frag} {M : Mp} {H : Hp} : ∀ {vs : List V} {ds : List D}, Reps K M H vs ds → Reps K M H vs.reverse ds.reverse
  | _, _, .nil => .nil
  | _, _, .cons r t => by
    rw [List.reverse_cons, List.reverse_cons]
    exact (Reps.reverse t).append (.cons r .nil)
def gRev (d : D) (S : Sto) : R D := match view S d with
  | .tup xs => .ok (.tup xs.reverse) S
  | _ => .bad
def eRev (a : Ee) : Ee := fun ρ S => (a ρ S).bind gRev
@[simp] theorem eRev_ap (a : Ee) (ρ : Rho) (S : Sto) : eRev a ρ S = (a ρ S).bind gRev := rfl
@[simp] theorem gRev_tup (xs : List D) (S : Sto) : gRev (.tup xs) S = .ok (.tup xs.reverse) S := rfl
section
variable {X : Cx} {W : WX} {a : Expr} {fa : Ee} {pos : Pos}
theorem de_rev {k : Nat} {p1 p2 p3 : Pos} (ha : DE X W a fa) : DE X W (.Subscript a (.Slice none none (some (.UnaryOp .USub (.Constant (.int 1) k p1) p2)) p3) pos) (eRev fa) :=
  peI (pe_revT ha) fun σ H Q ⟨M, ρ, S, hr, hs, w⟩ => ⟨M, ρ, S, hr, hs, wpG.bind w fun M1 x H1 d1 S1 e1 r1 hs1 w1 => by
    unfold gRev at w1
    split at w1
    · rename_i xs e
      obtain ⟨p, vs, rfl, h1, q1⟩ := view_tup r1 e
      exact ⟨p, vs, rfl, h1, wp_newT hs1 q1.reverse w1⟩
    · exact w1.elim⟩
end
end DL
namespace DL
open PySem PySem.Spec PyProof.Rows L2
section
variable {K : PySem.W.Frag} {h : Heap} {mg : Str → Option Value} {x : Str} {ps : List Str} {st : Stmt} {f : Addr} {od an : Option Addr} {sl : Array (Option Value)} {oc kV dc pm cd ct : Value}
theorem def_mk (X : K.In h) (G : h.Ns mainGlobals mg) (a : PySem.W.nsIn K mainGlobals x = some (some (.ref f)))
    (l : K.lookup f = some ⟨oc, od, .func (PySem.W.fnOf x x (defArgs st) (defBody st) (defScope st) .none kV dc pm an cd ct), sl⟩) (c : PySem.W.codeIn K cd x = true) (k : PySem.W.keepIn K (.ref f) = true)
    (hb : ∀ (kV doc pm : Value) (an : Option Addr) (cdv ct : Value) (us : List Value), us.length = ps.length → bindArgs (PySem.W.fnOf x x (defArgs st) (defBody st) (defScope st) .none kV doc pm an cdv ct) ⟨us, []⟩ = pure (ps.zip us)) :
    ∃ f fd, mg x = some (.ref f) ∧ Fun K x x st f fd ∧ Binds K fd ps [] :=
  have F := fun_mk (st := st) l c k
  ⟨f, _, PySem.W.mg_of X G a, F, F.binds hb⟩
theorem law_mk (X : K.In h) (G : h.Ns mainGlobals mg) (a : PySem.W.nsIn K mainGlobals x = some (some (.ref f)))
    (l : K.lookup f = some ⟨oc, od, .func (PySem.W.fnOf x x (defArgs st) (defBody st) (defScope st) .none kV dc pm an cd ct), sl⟩) (c : PySem.W.codeIn K cd x = true) (k : PySem.W.keepIn K (.ref f) = true)
    (hb : ∀ (kV doc pm : Value) (an : Option Addr) (cdv ct : Value) (s : Shared) (u : Value), BindsTo s (PySem.W.fnOf x x (defArgs st) (defBody st) (defScope st) .none kV doc pm an cdv ct) ⟨[u], []⟩ [("script", u)]) :
    ∃ f fd, mg x = some (.ref f) ∧ Fun K x x st f fd ∧ ∀ (s : Shared) (u : Value), BindsTo s fd ⟨[u], []⟩ [("script", u)] :=
  ⟨f, _, PySem.W.mg_of X G a, fun_mk (st := st) l c k, hb _ _ _ _ _ _⟩
theorem exc_mk {C : Addr} (X : K.In h) (G : h.Ns mainGlobals mg) (a : PySem.W.nsIn K mainGlobals x = some (some (.ref C))) (q : PySem.W.excIn K C veMro "ValueError.__new__" = true) (k : PySem.W.keepIn K (.ref C) = true)
    (b : PySem.W.subIn K (.ref C) (.type "BaseException") = some true) (t : PySem.W.typeIn K (.ref C) = some (.type "type")) : ExC K mg x := ⟨C, a, PySem.W.mg_of X G a, q, k, b, t⟩
theorem hs_nil : HS K ⟨[], []⟩ [] (fun _ => none) := ⟨rfl, List.nodup_nil, fun _ h => (nomatch h), fun n a mo h _ => by simp at h⟩
theorem law_sp {g : Fn} {n : Nat} (hg : ∀ ns : List Int, ns.length ≤ n → ∃ S, g [.frz (ns.map D.int)] [] = .ok (.bl true) S) (H : Hp) (a : Addr) (ns : List Int) (hl : ns.length ≤ n) (hs : SqL K H a (ns.map V.int)) :
    spD K 1 g [.ref a] H (fun v _ => v = .bl true) fun _ _ _ => False := by
  obtain ⟨S, e⟩ := hg ns hl
  refine ⟨rfl, ⟨[], []⟩, _, [], .cons (.frz (xs := ns.map V.int) ?_ Reps.ints) .nil, ⟨rfl, List.nodup_nil, fun _ h => (nomatch h), fun n a mo h _ => by simp at h⟩, ?_⟩
  · rcases hs with h | h
    · exact .inl ⟨fun z => (by rcases z with z | z <;> cases z), h⟩
    · exact .inr h
  · rw [e]
    intro M v H' _ r _
    cases r
    rfl
end
theorem cx_none {P : Program} {w : World} (H : Hp) (s : Shared) (e : Value) (s' : Shared) (h : L2.CX P w [] H s (fun _ _ _ => False) e s') : False := by
  obtain ⟨_, _, _, _, _, _, _, _, _, _, _, _, h⟩ := h
  exact h

/-- walk_of, with what is known of the loose names -/
theorem walk_ofX {l : PySem.W.OpenLaw} {n k : Nat} {q : Program} {loose : List Str} {XP : (Str → Option Value) → Heap → Prop} {YP : World → Heap → Prop} {d : DefRec} {K : Params → PySem.W.Frag} {CX : World → CXT} {sp : World → Sp} {x : Str}
    (hn : l.most = some n) (hn2 : n ≤ sizeLine) (hdf : d.params.defaults = []) (hr : Room k callerA)
    (hY : ∀ (w : World) (h : Heap), YP w h → (K w.params).In h)
    (F : ∀ (w : World) (mg : Str → Option Value) (fa : Addr) (h : Heap), (K w.params).In h → XP mg h → h.Ns mainGlobals mg → mg d.name = some (.ref fa) →
      ∃ fd : FuncData, (∀ (s : Shared) (u : Value), BindsTo s fd ⟨[u], []⟩ [(x, u)]) ∧
        ∀ base : Heap, (K w.params).In base → base.Ns mainGlobals mg → FnOk l.prog w (K w.params) mg base (CX w) k fa fd [x] (sp w))
    (hsp : ∀ (w : World) (H : Hp) (a : Addr) (ns : List Int), ns.length ≤ n → Only H → SqL (K w.params) H a (ns.map V.int) → sp w [.ref a] H (fun v _ => v = .bl true) fun _ _ _ => False)
    (hCX : ∀ (w : World) (H : Hp) (s : Shared) (e : Value) (s' : Shared), CX w [] H s (fun _ _ _ => False) e s' → False) :
    PySem.W.WalkO q loose XP YP l.row.toRowW d [] (fun f vs => PySem.call f vs) := by
  refine Att.attach_call hn hdf fun w s₀ s₁ mg mb fa o pm cd doc a vs ns G Y ho hd hcd hmg hobj hints hlen hg => ?_
  have KX := hY w _ Y
  obtain ⟨fd, hb, hF⟩ := F w mg fa _ KX G.X G.T.g hmg
  exact law_call KX G.T.g G.T.b G.T.builtins G.T.nolimit hg hobj hints (Nat.le_trans hlen hn2) hr hF hb (fun H hO hS => hsp w H a ns hlen hO hS) fun H e s' => hCX w H s₁ e s'
theorem loose_int {p : Program} {lv : List (Str × PySem.W.WData)} {mg : Str → Option Value} {h : Heap} {x : Str} {i : Int} (X : PySem.W.XL p lv mg h) (e : lv.lookup x = some (.int i)) : ∃ t, mg x = some (.int i t) := by
  have hm : (x, PySem.W.WData.int i) ∈ lv := by
    clear X
    induction lv with
    | nil => cases e
    | cons y r ih =>
      obtain ⟨k, v⟩ := y
      rw [List.lookup_cons] at e
      by_cases c : x == k
      · rw [c] at e
        cases e
        rw [eq_of_beq c]
        exact List.mem_cons_self
      · simp only [c] at e
        exact List.mem_cons_of_mem _ (ih e)
  obtain ⟨v, h1, h2⟩ := X.2.val _ hm
  cases h2 with
  | int _ t => exact ⟨t, h1⟩
end DL
/-! rows for simp: how mirrors reckon -/
namespace DL
open PySem L2
section
variable (ρ : Rho) (S : Sto) (a b c : Ee) (t u : Et) (f g : Sm)
theorem popR_le {k : Nat} {d : D} {S : Sto} (h : S.length ≤ k) : popR k (.ok d S) = .ok d S := by simp [popR, h]
theorem popR_exle {k : Nat} {e : Exn} {S : Sto} (h : S.length ≤ k) : popR k (.ex e S) = .ex e S := by simp [popR, h]
@[simp] theorem popR_same {d : D} {S : Sto} : popR S.length (.ok d S) = .ok d S := popR_le (Nat.le_refl _)
@[simp] theorem popR_bad {k : Nat} : popR k .bad = .bad := rfl
/-- the end of a def -/
def F.fin : F → R D
  | .nx _ S' => .ok .non S'
  | .rt d S' => .ok d S'
  | .ex e _ S' => .ex e S'
  | _ => .bad
@[simp] theorem fin_nx (ρ : Rho) (S : Sto) : (F.nx ρ S).fin = .ok .non S := rfl
@[simp] theorem fin_rt (d : D) (S : Sto) : (F.rt d S).fin = .ok d S := rfl
@[simp] theorem fin_ex (e : Exn) (ρ : Rho) (S : Sto) : (F.ex e ρ S).fin = .ex e S := rfl
@[simp] theorem fin_bad : F.bad.fin = .bad := rfl
theorem fnP_ap (n N : Nat) (body : Sm) (ds : List D) (S : Sto) : fnP n N body ds S = popR S.length (body (ds.map some ++ List.replicate (N - n) none) S).fin := by
  unfold fnP F.fin
  split <;> simp_all
theorem fnQ_ap (n N : Nat) (body : Sm) (ds : List D) (S : Sto) : fnQ n N body ds S = (body (ds.map some ++ List.replicate (N - n) none) S).fin := by
  unfold fnQ F.fin
  split <;> simp_all
@[simp] theorem eK_ap (d : D) : eK d ρ S = .ok d S := rfl
@[simp] theorem eVar0 (d : D) (r : Rho) : eVar 0 (some d :: r) S = .ok d S := rfl
@[simp] theorem eVarS (x : Option D) (r : Rho) (i : Nat) : eVar (i + 1) (x :: r) S = eVar i r S := rfl
@[simp] theorem eVar1 (x : Option D) (d : D) (r : Rho) : eVar 1 (x :: some d :: r) S = .ok d S := rfl
@[simp] theorem eVar2 (x y : Option D) (d : D) (r : Rho) : eVar 2 (x :: y :: some d :: r) S = .ok d S := rfl
@[simp] theorem eVar3 (x y z : Option D) (d : D) (r : Rho) : eVar 3 (x :: y :: z :: some d :: r) S = .ok d S := rfl
@[simp] theorem eVar4 (x y z w : Option D) (d : D) (r : Rho) : eVar 4 (x :: y :: z :: w :: some d :: r) S = .ok d S := rfl
@[simp] theorem eVar5 (x y z w v : Option D) (d : D) (r : Rho) : eVar 5 (x :: y :: z :: w :: v :: some d :: r) S = .ok d S := rfl
@[simp] theorem eVar6 (x y z w v u : Option D) (d : D) (r : Rho) : eVar 6 (x :: y :: z :: w :: v :: u :: some d :: r) S = .ok d S := rfl
@[simp] theorem eVar7 (x y z w v u t : Option D) (d : D) (r : Rho) : eVar 7 (x :: y :: z :: w :: v :: u :: t :: some d :: r) S = .ok d S := rfl
@[simp] theorem eVar8 (x y z w v u t s : Option D) (d : D) (r : Rho) : eVar 8 (x :: y :: z :: w :: v :: u :: t :: s :: some d :: r) S = .ok d S := rfl
@[simp] theorem eVar9 (x y z w v u t s q : Option D) (d : D) (r : Rho) : eVar 9 (x :: y :: z :: w :: v :: u :: t :: s :: q :: some d :: r) S = .ok d S := rfl
@[simp] theorem eBin_ap (h : D → D → Sto → R D) : eBin h a b ρ S = (a ρ S).bind fun x S1 => (b ρ S1).bind fun y S2 => h x y S2 := rfl
@[simp] theorem eTb_ap : eTb a ρ S = (a ρ S).bind fun x S1 => match x with
  | .bl b => .ok b S1
  | _ => .bad := rfl
@[simp] theorem eChain_ap (h h' : D → D → Sto → R D) : eChain h h' a b c ρ S = (a ρ S).bind fun x S1 => (b ρ S1).bind fun y S2 => (h x y S2).bind fun z S3 => match z with
  | .bl true => (c ρ S3).bind fun u S4 => h' y u S4
  | .bl false => .ok (.bl false) S3
  | _ => .bad := rfl
@[simp] theorem eNeg_ap : eNeg a ρ S = (a ρ S).bind fun x S1 => match view S1 x with
  | .int i => .ok (.int (-i)) S1
  | _ => .bad := rfl
@[simp] theorem eTr_ap : eTr a ρ S = (a ρ S).bind fun x S1 => match gTru S1 x with
  | some k => .ok k S1
  | none => .bad := rfl
@[simp] theorem eNotT_ap : eNotT t ρ S = (t ρ S).bind fun k S1 => .ok (!k) S1 := rfl
@[simp] theorem eNot_ap : eNot a ρ S = (a ρ S).bind fun x S1 => match gTru S1 x with
  | some k => .ok (.bl (!k)) S1
  | none => .bad := rfl
@[simp] theorem eAnd_ap : eAnd a b ρ S = (a ρ S).bind fun x S1 => match gTru S1 x with
  | some true => b ρ S1
  | some false => .ok x S1
  | none => .bad := rfl
@[simp] theorem eOr_ap : eOr a b ρ S = (a ρ S).bind fun x S1 => match gTru S1 x with
  | some true => .ok x S1
  | some false => b ρ S1
  | none => .bad := rfl
@[simp] theorem eAndT_ap : eAndT t u ρ S = (t ρ S).bind fun k S1 => match k with
  | true => u ρ S1
  | false => .ok false S1 := rfl
@[simp] theorem eOrT_ap : eOrT t u ρ S = (t ρ S).bind fun k S1 => match k with
  | true => .ok true S1
  | false => u ρ S1 := rfl
@[simp] theorem eIf_ap : eIf t a b ρ S = (t ρ S).bind fun k S1 => match k with
  | true => a ρ S1
  | false => b ρ S1 := rfl
@[simp] theorem eArgs_nil : eArgs [] ρ S = .ok [] S := rfl
@[simp] theorem eArgs_cons (fs : List Ee) : eArgs (a :: fs) ρ S = (a ρ S).bind fun x S1 => (eArgs fs ρ S1).bind fun xs S2 => .ok (x :: xs) S2 := rfl
@[simp] theorem eTup_ap (fs : List Ee) : eTup fs ρ S = (eArgs fs ρ S).bind fun xs S1 => .ok (.tup xs) S1 := rfl
@[simp] theorem eLst_ap (fs : List Ee) : eLst fs ρ S = (eArgs fs ρ S).bind fun xs S1 => .ok (.lst xs) S1 := rfl
@[simp] theorem eNewL_ap (fs : List Ee) : eNewL fs ρ S = (eArgs fs ρ S).bind fun xs S1 => .ok (.obj S1.length) (S1 ++ [.lst xs]) := rfl
@[simp] theorem eCall_ap (h : Gc) (fs : List Ee) : eCall h fs ρ S = (eArgs fs ρ S).bind fun xs S1 => h xs S1 := rfl
@[simp] theorem eNo_ap : eNo ρ S = .ok none S := rfl
@[simp] theorem ePart_ap : ePart a ρ S = (a ρ S).bind fun x S1 => match view S1 x with
  | .int i => .ok (some i) S1
  | _ => .bad := rfl
@[simp] theorem eSl_ap (lo hi : Eo) : eSl a lo hi ρ S = (a ρ S).bind fun x S1 => (lo ρ S1).bind fun l S2 => (hi ρ S2).bind fun u S3 => gCut x l u S3 := rfl
@[simp] theorem eIsi_ap (k : Nat) : eIsi k a ρ S = (a ρ S).bind fun d S1 => match tag S1 d with
  | some n => .ok (.bl (isiN n k)) S1
  | none => .bad := rfl
@[simp] theorem eItS_ap : eItS a ρ S = (a ρ S).bind fun d S1 => match itsOf S1 d with
  | some _ => .ok (.it d) S1
  | none => .bad := rfl
@[simp] theorem eListRg1_ap : eListRg1 a ρ S = (a ρ S).bind fun x S1 => match x with
  | .int j => if rgOk 0 j then .ok (.lst (rgD 0 j)) S1 else .bad
  | _ => .bad := rfl
@[simp] theorem eListRg2_ap : eListRg2 a b ρ S = (a ρ S).bind fun x S1 => (b ρ S1).bind fun y S2 => match x, y with
  | .int i, .int j => if rgOk i j then .ok (.lst (rgD i j)) S2 else if (j - i).toNat ≤ 16777216 then .ok (.lst (rgD i j)) S2 else .bad
  | _, _ => .bad := rfl
@[simp] theorem eRng1_ap : eRng1 a ρ S = (eArgs [a] ρ S).bind fun ds S1 => match ds with
  | [.int j] => if smallI j then .ok (.rng 0 j.toNat) S1 else .bad
  | _ => .bad := rfl
@[simp] theorem eRng2_ap : eRng2 a b ρ S = (eArgs [a, b] ρ S).bind fun ds S1 => match ds with
  | [.int i, .int j] => if smallI i && smallI j then .ok (.rng i (j - i).toNat) S1 else .bad
  | _ => .bad := rfl
@[simp] theorem eEn_ap : eEn a ρ S = (eArgs [a] ρ S).bind fun ds S1 => match ds with
  | [d] => if isLT d then match itsOf S1 d with
    | some _ => .ok (.en d) S1
    | none => .bad else .bad
  | _ => .bad := rfl
@[simp] theorem tYes_ap : tYesD ρ S = .ok true S := rfl
@[simp] theorem sNx_ap : sNx ρ S = .nx ρ S := rfl
@[simp] theorem sSeq_ap : sSeq f g ρ S = (f ρ S).seq g := rfl
@[simp] theorem sBad_ap : sBad ρ S = .bad := rfl
@[simp] theorem sEx_ap : sEx a ρ S = F.ofR (a ρ S) ρ fun _ S1 => .nx ρ S1 := rfl
@[simp] theorem sRt_ap : sRt a ρ S = F.ofR (a ρ S) ρ fun d S1 => .rt d S1 := rfl
@[simp] theorem sRtN_ap : sRtN ρ S = .rt .non S := rfl
@[simp] theorem sIf_ap : sIf t f g ρ S = F.ofR (t ρ S) ρ fun k S1 => match k with
  | true => f ρ S1
  | false => g ρ S1 := rfl
@[simp] theorem sBk_ap : sBk ρ S = .bk ρ S := rfl
@[simp] theorem sCt_ap : sCt ρ S = .ct ρ S := rfl
@[simp] theorem gNm_ap (i : Nat) (d : D) : gNm i d ρ S = .nx (ρ.set i (some d)) S := rfl
@[simp] theorem gsNil_ap : gsNil [] ρ S = .nx ρ S := rfl
@[simp] theorem gsCons_ap (h : Tg) (k : Tgs) (d : D) (ds : List D) : gsCons h k (d :: ds) ρ S = (h d ρ S).seq (k ds) := rfl
@[simp] theorem gTp_ap (n : Nat) (h : Tgs) (xs : List D) : gTp n h (.tup xs) ρ S = if xs.length = n then h xs ρ S else .bad := rfl
@[simp] theorem sSt_ap (h : Tg) : sSt a h ρ S = F.ofR (a ρ S) ρ fun d S1 => (h d ρ S1).on := rfl
@[simp] theorem on_nx : (F.nx ρ S).on = .nx ρ S := rfl
@[simp] theorem on_bad : F.bad.on = .bad := rfl
@[simp] theorem sSet_ap (i : Nat) : sSet i a ρ S = F.ofR (a ρ S) ρ fun d S1 => .nx (ρ.set i (some d)) S1 := rfl
@[simp] theorem sPar_ap (i j : Nat) : sPar i j a b ρ S = F.ofR (a ρ S) ρ fun x S1 => F.ofR (b ρ S1) ρ fun y S2 => .nx ((ρ.set i (some x)).set j (some y)) S2 := rfl
@[simp] theorem sIx_ap : sIx a b c ρ S = F.ofR (a ρ S) ρ fun x S1 => F.ofR (b ρ S1) ρ fun l S2 => F.ofR (c ρ S2) ρ fun k S3 => match l, k with
  | .obj n, .int k => match S3[n]? with
    | some (.lst xs) => match ixN xs.length k with
      | some j => .nx ρ (S3.set n (.lst (xs.set j x)))
      | none => .bad
    | _ => .bad
  | _, _ => .bad := rfl
@[simp] theorem view_non_ : view S .non = .non := rfl
@[simp] theorem view_bl_ (x : Bool) : view S (.bl x) = .bl x := rfl
@[simp] theorem view_int_ (x : Int) : view S (.int x) = .int x := rfl
@[simp] theorem view_str_ (x : Str) : view S (.str x) = .str x := rfl
@[simp] theorem view_tup_ (x : List D) : view S (.tup x) = .tup x := rfl
@[simp] theorem view_lst_ (x : List D) : view S (.lst x) = .lst x := rfl
@[simp] theorem view_frz_ (x : List D) : view S (.frz x) = .frz x := rfl
theorem view_at {n : Nat} {ds : List D} (h : S[n]? = some (.lst ds)) : view S (.obj n) = .lst ds := by simp [view, h]
@[simp] theorem itsOf_tup (x : List D) : itsOf S (.tup x) = some x := rfl
@[simp] theorem itsOf_lst (x : List D) : itsOf S (.lst x) = some x := rfl
@[simp] theorem tag_non : tag S .non = some 0 := rfl
@[simp] theorem tag_bl (x : Bool) : tag S (.bl x) = some 1 := rfl
@[simp] theorem tag_int (x : Int) : tag S (.int x) = some 2 := rfl
@[simp] theorem tag_str (x : Str) : tag S (.str x) = some 3 := rfl
@[simp] theorem tag_tup (x : List D) : tag S (.tup x) = some 4 := rfl
@[simp] theorem tag_lst (x : List D) : tag S (.lst x) = some 5 := rfl
@[simp] theorem gTru_bl (x : Bool) : gTru S (.bl x) = some x := rfl
@[simp] theorem gTru_non : gTru S .non = some false := rfl
@[simp] theorem gTru_int (x : Int) : gTru S (.int x) = some (x != 0) := rfl
@[simp] theorem gTru_tup (x : List D) : gTru S (.tup x) = some (!x.isEmpty) := rfl
@[simp] theorem gTru_lst (x : List D) : gTru S (.lst x) = some (!x.isEmpty) := rfl
@[simp] theorem gAdd_int (i j : Int) : gAdd (.int i) (.int j) S = .ok (.int (i + j)) S := rfl
@[simp] theorem gAdd_bi (p : Bool) (j : Int) : gAdd (.bl p) (.int j) S = .ok (.int ((if p = true then 1 else 0) + j)) S := rfl
@[simp] theorem gSub_int (i j : Int) : gSub (.int i) (.int j) S = .ok (.int (i - j)) S := rfl
theorem gMul_int {i j : Int} (h : i.natAbs.log2 + j.natAbs.log2 < 1000000) : gMul (.int i) (.int j) S = .ok (.int (i * j)) S := by simp [gMul, h]
theorem gMod_int {i j : Int} (h : 0 < j) : gMod (.int i) (.int j) S = .ok (.int (i % j)) S := by simp [gMod, h]
theorem gDiv_int {i j : Int} (h : 0 < j) (h2 : j.natAbs.log2 < 9000) : gDiv (.int i) (.int j) S = .ok (.int (i / j)) S := by simp [gDiv, h, h2]
@[simp] theorem gI2_int (p : Int → Int → Bool) (i j : Int) : gI2 p (.int i) (.int j) S = .ok (.bl (p i j)) S := rfl
theorem gAdd_lst {xs ys : List D} (h : xs.length + ys.length ≤ 16777216) : gAdd (.lst xs) (.lst ys) S = .ok (.lst (xs ++ ys)) S := by simp [gAdd, h]
theorem gAdd_tup {xs ys : List D} (h : xs.length + ys.length ≤ 16777216) : gAdd (.tup xs) (.tup ys) S = .ok (.tup (xs ++ ys)) S := by simp [gAdd, h]
@[simp] theorem gLen_lst (xs : List D) : gLen [.lst xs] S = .ok (.int xs.length) S := rfl
@[simp] theorem gLen_tup (xs : List D) : gLen [.tup xs] S = .ok (.int xs.length) S := rfl
@[simp] theorem gLen_frz (xs : List D) : gLen [.frz xs] S = .ok (.int xs.length) S := rfl
@[simp] theorem gAbs_int (i : Int) : gAbs [.int i] S = .ok (.int (if i < 0 then -i else i)) S := rfl
@[simp] theorem gInt_int (i : Int) : gInt [.int i] S = .ok (.int i) S := rfl
@[simp] theorem gMax_int (i j : Int) : gMax [.int i, .int j] S = .ok (.int (if j > i then j else i)) S := rfl
@[simp] theorem gMin_int (i j : Int) : gMin [.int i, .int j] S = .ok (.int (if j < i then j else i)) S := rfl
@[simp] theorem gTuple_lst (xs : List D) : gTuple [.lst xs] S = .ok (.tup xs) S := rfl
@[simp] theorem gTuple_tup (xs : List D) : gTuple [.tup xs] S = .ok (.tup xs) S := rfl
@[simp] theorem gList_lst (xs : List D) : gList [.lst xs] S = .ok (.lst xs) S := rfl
@[simp] theorem gList_tup (xs : List D) : gList [.tup xs] S = .ok (.lst xs) S := rfl
theorem gSum_tup {xs : List D} {l : List Int} (h : intsOf xs = some l) : gSum [.tup xs] S = .ok (.int l.sum) S := by simp [gSum, h]
@[simp] theorem gSum_ints (l : List Int) : gSum [.tup (l.map D.int)] S = .ok (.int l.sum) S := gSum_tup S (intsOf_map l)
theorem gAll_lst {xs : List D} {l : List Bool} (h : blsOf xs = some l) : gAll [.lst xs] S = .ok (.bl (l.all id)) S := by simp [gAll, h]
@[simp] theorem gAll_bls (l : List Bool) : gAll [.lst (l.map D.bl)] S = .ok (.bl (l.all id)) S := gAll_lst S (blsOf_map l)
theorem gIdx_tup {xs : List D} {i : Int} {d : D} (h : atI xs i = some d) : gIdx (.tup xs) (.int i) S = .ok d S := by simp [gIdx, h]
theorem gIdx_lst {xs : List D} {i : Int} {d : D} (h : atI xs i = some d) : gIdx (.lst xs) (.int i) S = .ok d S := by simp [gIdx, h]
theorem gIdx_frz {xs : List D} {i : Int} {d : D} (h : atI xs i = some d) : gIdx (.frz xs) (.int i) S = .ok d S := by simp [gIdx, h]
theorem gIdx_obj {n : Nat} {xs : List D} {i : Int} {d : D} (hn : S[n]? = some (.lst xs)) (h : atI xs i = some d) : gIdx (.obj n) (.int i) S = .ok d S := by simp [gIdx, view, hn, h]
@[simp] theorem gCut_tup (xs : List D) (lo hi : Option Int) : gCut (.tup xs) lo hi S = .ok (.tup (cutD xs lo hi)) S := rfl
@[simp] theorem gCut_lst (xs : List D) (lo hi : Option Int) : gCut (.lst xs) lo hi S = .ok (.lst (cutD xs lo hi)) S := rfl
@[simp] theorem gIsN_ (d : D) : gIsN d .non S = .ok (.bl (isNon d)) S := rfl
@[simp] theorem gNotN_ (d : D) : gNotN d .non S = .ok (.bl (!isNon d)) S := rfl
end

/-! ### loops over what stands still -/
/-- for x in xs -/
def forL (g : Tg) (b : Sm) : List D → Sm
  | [] => fun ρ S => .nx ρ S
  | x :: xs => fun ρ S => (g x ρ S).on.seq fun ρ1 S1 => (b ρ1 S1).turn (forL g b xs)
/-- for i in lo, lo + 1 .. -/
def forR (g : Tg) (b : Sm) : Nat → Int → Sm
  | 0, _ => fun ρ S => .nx ρ S
  | n + 1, lo => fun ρ S => (g (.int lo) ρ S).on.seq fun ρ1 S1 => (b ρ1 S1).turn (forR g b n (lo + 1))
theorem forLoop_L {s : Src} {xs : List D} {g : Tg} {b : Sm} (hs : ∀ S i, srcAt S i s = xs[i]?) (hl : ∀ S, srcLen S s = some xs.length) : ∀ (k i : Nat), i + k = xs.length → forLoop s g b k i = forL g b (xs.drop i)
  | 0, i, h => by
    funext ρ S
    rw [List.drop_eq_nil_of_le (by omega)]
    simp only [forLoop, hl, forL]
    rw [if_pos (by omega)]
  | k + 1, i, h => by
    funext ρ S
    have hi : i < xs.length := by omega
    rw [List.drop_eq_getElem_cons hi]
    simp only [forLoop, hs, List.getElem?_eq_getElem hi, forL, forLoop_L hs hl k (i + 1) (by omega)]
theorem forLoop_R {g : Tg} {b : Sm} (lo : Int) (n : Nat) : ∀ (k i : Nat), i + k = n → forLoop (.rng lo n) g b k i = forR g b k (lo + i)
  | 0, i, h => by
    funext ρ S
    simp only [forLoop, srcLen, forR]
    rw [if_pos (by omega)]
  | k + 1, i, h => by
    funext ρ S
    have hi : i < n := by omega
    simp only [forLoop, srcAt, forR]
    rw [if_pos hi]
    simp only [forLoop_R lo n k (i + 1) (by omega)]
    have e : lo + ((i + 1 : Nat) : Int) = lo + (i : Int) + 1 := by omega
    rw [e]
@[simp] theorem sFor_lst {f : Es} {g : Tg} {b : Sm} {ρ : Rho} {S S1 : Sto} {xs : List D} (h : f ρ S = .ok (.it (.lst xs)) S1) : sFor f g b ρ S = forL g b xs ρ S1 := by
  simp only [sFor, h, F.ofR_ok, srcLen, itsOf_lst]
  rw [forLoop_L (xs := xs) (fun S i => by simp [srcAt]) (fun S => by simp [srcLen]) _ 0 (by omega)]
  rfl
@[simp] theorem sFor_tup {f : Es} {g : Tg} {b : Sm} {ρ : Rho} {S S1 : Sto} {xs : List D} (h : f ρ S = .ok (.it (.tup xs)) S1) : sFor f g b ρ S = forL g b xs ρ S1 := by
  simp only [sFor, h, F.ofR_ok, srcLen, itsOf_tup]
  rw [forLoop_L (xs := xs) (fun S i => by simp [srcAt]) (fun S => by simp [srcLen]) _ 0 (by omega)]
  rfl
@[simp] theorem sFor_rng {f : Es} {g : Tg} {b : Sm} {ρ : Rho} {S S1 : Sto} {lo : Int} {n : Nat} (h : f ρ S = .ok (.rng lo n) S1) : sFor f g b ρ S = forR g b n lo ρ S1 := by
  simp only [sFor, h, F.ofR_ok, srcLen]
  rw [forLoop_R lo n n 0 (by omega)]
  simp
/-- the items of enumerate -/
def enumD : Nat → List D → List D
  | _, [] => []
  | i, x :: xs => .tup [.int (i : Nat), x] :: enumD (i + 1) xs
theorem enumD_get : ∀ (xs : List D) (i j : Nat), (enumD i xs)[j]? = (xs[j]?).map fun x => .tup [.int ((i + j : Nat) : Int), x]
  | [], i, j => by simp [enumD]
  | x :: xs, i, 0 => by simp [enumD]
  | x :: xs, i, j + 1 => by
    simp only [enumD, List.getElem?_cons_succ, enumD_get xs (i + 1) j]
    rw [show i + 1 + j = i + (j + 1) by omega]
theorem enumD_len : ∀ (xs : List D) (i : Nat), (enumD i xs).length = xs.length
  | [], _ => rfl
  | x :: xs, i => by simp [enumD, enumD_len xs]
@[simp] theorem sFor_en {f : Es} {g : Tg} {b : Sm} {ρ : Rho} {S S1 : Sto} {xs : List D} (h : f ρ S = .ok (.en (.lst xs)) S1) : sFor f g b ρ S = forL g b (enumD 0 xs) ρ S1 := by
  simp only [sFor, h, F.ofR_ok, srcLen, itsOf_lst]
  rw [forLoop_L (s := .en (.lst xs)) (xs := enumD 0 xs) (fun S i => by simp only [srcAt, itsOf_lst, enumD_get, Nat.zero_add]; cases xs[i]? <;> rfl) (fun S => by simp [srcLen, enumD_len]) _ 0 (by rw [enumD_len]; omega)]
  rfl
@[simp] theorem sFor_enT {f : Es} {g : Tg} {b : Sm} {ρ : Rho} {S S1 : Sto} {xs : List D} (h : f ρ S = .ok (.en (.tup xs)) S1) : sFor f g b ρ S = forL g b (enumD 0 xs) ρ S1 := by
  simp only [sFor, h, F.ofR_ok, srcLen, itsOf_tup]
  rw [forLoop_L (s := .en (.tup xs)) (xs := enumD 0 xs) (fun S i => by simp only [srcAt, itsOf_tup, enumD_get, Nat.zero_add]; cases xs[i]? <;> rfl) (fun S => by simp [srcLen, enumD_len]) _ 0 (by rw [enumD_len]; omega)]
  rfl
/-! ### comprehensions over what stands still -/
def lcL (c : Ct) (t : Et) (e : Ee) (ρ : Rho) : List D → Sto → R (List D)
  | [], S => .ok [] S
  | x :: xs, S => match c.put x ρ with
    | some ρ1 => (t ρ1 S).calm.bind fun b S2 => match b with
      | true => (e ρ1 S2).calm.bind fun y S3 => (lcL c t e ρ xs S3).bind fun ys S4 => .ok (y :: ys) S4
      | false => lcL c t e ρ xs S2
    | none => .bad
theorem lcLoop_L {s : Src} {xs : List D} {c : Ct} {t : Et} {e : Ee} {ρ : Rho} (hs : ∀ S i, srcAt S i s = xs[i]?) (hl : ∀ S, srcLen S s = some xs.length) : ∀ (k i : Nat) (S : Sto), i + k = xs.length → lcLoop s c t e k i ρ S = lcL c t e ρ (xs.drop i) S
  | 0, i, S, h => by
    rw [List.drop_eq_nil_of_le (by omega)]
    simp only [lcLoop, hl, lcL]
    rw [if_pos (by omega)]
  | k + 1, i, S, h => by
    have hi : i < xs.length := by omega
    rw [List.drop_eq_getElem_cons hi]
    simp only [lcLoop, hs, List.getElem?_eq_getElem hi, lcL]
    cases c.put xs[i] ρ with
    | none => rfl
    | some ρ1 =>
      simp only [lcLoop_L hs hl k (i + 1) _ (by omega)]
      all_goals rfl
/-- the numbers lo .. -/
def rgN (lo : Int) : Nat → List D
  | 0 => []
  | n + 1 => .int lo :: rgN (lo + 1) n
theorem rgN_get : ∀ (n : Nat) (lo : Int) (i : Nat), (rgN lo n)[i]? = if i < n then some (.int (lo + i)) else none
  | 0, lo, i => by simp [rgN]
  | n + 1, lo, 0 => by simp [rgN]
  | n + 1, lo, i + 1 => by
    simp only [rgN, List.getElem?_cons_succ, rgN_get n]
    by_cases h : i < n
    · rw [if_pos h, if_pos (by omega), show lo + 1 + (i : Int) = lo + ((i + 1 : Nat) : Int) by omega]
    · rw [if_neg h, if_neg (by omega)]
theorem rgN_len : ∀ (n : Nat) (lo : Int), (rgN lo n).length = n
  | 0, _ => rfl
  | n + 1, lo => by simp [rgN, rgN_len n]
/-- a comprehension, its source known -/
theorem eLc_L {f : Es} {c : Ct} {t : Et} {e : Ee} {ws : List Nat} {ρ : Rho} {S S1 : Sto} {s : Src} {xs : List D} (h : f ρ S = .ok s S1) (hs : ∀ S i, srcAt S i s = xs[i]?) (hl : ∀ S, srcLen S s = some xs.length) (hn : xs.length ≤ 16777216) :
    eLc f c t e ws ρ S = (lcL c t e (wipeR ρ ws) xs S1).calm.bind fun ys S2 => .ok (.lst ys) S2 := by
  simp only [eLc, h, R.bind_ok, hl, if_pos hn]
  rw [lcLoop_L hs hl _ 0 _ (by omega)]
  rfl
theorem eLc_lst {f : Es} {c : Ct} {t : Et} {e : Ee} {ws : List Nat} {ρ : Rho} {S S1 : Sto} {xs : List D} (h : f ρ S = .ok (.it (.lst xs)) S1) (hn : xs.length ≤ 16777216) :
    eLc f c t e ws ρ S = (lcL c t e (wipeR ρ ws) xs S1).calm.bind fun ys S2 => .ok (.lst ys) S2 := eLc_L h (fun S i => by simp [srcAt]) (fun S => by simp [srcLen]) hn
theorem eLc_tup {f : Es} {c : Ct} {t : Et} {e : Ee} {ws : List Nat} {ρ : Rho} {S S1 : Sto} {xs : List D} (h : f ρ S = .ok (.it (.tup xs)) S1) (hn : xs.length ≤ 16777216) :
    eLc f c t e ws ρ S = (lcL c t e (wipeR ρ ws) xs S1).calm.bind fun ys S2 => .ok (.lst ys) S2 := eLc_L h (fun S i => by simp [srcAt]) (fun S => by simp [srcLen]) hn
theorem eLc_rng {f : Es} {c : Ct} {t : Et} {e : Ee} {ws : List Nat} {ρ : Rho} {S S1 : Sto} {lo : Int} {n : Nat} (h : f ρ S = .ok (.rng lo n) S1) (hn : n ≤ 16777216) :
    eLc f c t e ws ρ S = (lcL c t e (wipeR ρ ws) (rgN lo n) S1).calm.bind fun ys S2 => .ok (.lst ys) S2 := eLc_L h (fun S i => by simp [srcAt, rgN_get]) (fun S => by simp [srcLen, rgN_len]) (by rw [rgN_len]; exact hn)
theorem eLc_enT {f : Es} {c : Ct} {t : Et} {e : Ee} {ws : List Nat} {ρ : Rho} {S S1 : Sto} {xs : List D} (h : f ρ S = .ok (.en (.tup xs)) S1) (hn : xs.length ≤ 16777216) :
    eLc f c t e ws ρ S = (lcL c t e (wipeR ρ ws) (enumD 0 xs) S1).calm.bind fun ys S2 => .ok (.lst ys) S2 := eLc_L h (fun S i => by simp only [srcAt, itsOf_tup, enumD_get, Nat.zero_add]; cases xs[i]? <;> rfl) (fun S => by simp [srcLen, enumD_len]) (by rw [enumD_len]; exact hn)
theorem eLc_en {f : Es} {c : Ct} {t : Et} {e : Ee} {ws : List Nat} {ρ : Rho} {S S1 : Sto} {xs : List D} (h : f ρ S = .ok (.en (.lst xs)) S1) (hn : xs.length ≤ 16777216) :
    eLc f c t e ws ρ S = (lcL c t e (wipeR ρ ws) (enumD 0 xs) S1).calm.bind fun ys S2 => .ok (.lst ys) S2 := eLc_L h (fun S i => by simp only [srcAt, itsOf_lst, enumD_get, Nat.zero_add]; cases xs[i]? <;> rfl) (fun S => by simp [srcLen, enumD_len]) (by rw [enumD_len]; exact hn)
/-- each item by a function, the store as it is -/
theorem lcL_map {c : Ct} {e : Ee} {ρ : Rho} {S : Sto} {φ : D → D} : ∀ (xs : List D), (∀ x ∈ xs, ∃ ρ1, c.put x ρ = some ρ1 ∧ e ρ1 S = .ok (φ x) S) → lcL c tYesD e ρ xs S = .ok (xs.map φ) S
  | [], _ => rfl
  | x :: xs, h => by
    obtain ⟨ρ1, h1, h2⟩ := h x List.mem_cons_self
    simp only [lcL, h1, tYes_ap, R.calm_ok, R.bind_ok, h2, lcL_map xs (fun y hy => h y (List.mem_cons_of_mem _ hy)), List.map_cons]
theorem lcL_filter {c : Ct} {t : Et} {e : Ee} {ρ : Rho} {S : Sto} {φ : D → D} {p : D → Bool} : ∀ (xs : List D), (∀ x ∈ xs, ∃ ρ1, c.put x ρ = some ρ1 ∧ t ρ1 S = .ok (p x) S ∧ (p x = true → e ρ1 S = .ok (φ x) S)) → lcL c t e ρ xs S = .ok ((xs.filter p).map φ) S
  | [], _ => rfl
  | x :: xs, h => by
    obtain ⟨ρ1, h1, h2, h3⟩ := h x List.mem_cons_self
    have ih := lcL_filter xs (fun y hy => h y (List.mem_cons_of_mem _ hy))
    simp only [lcL, h1, h2, R.calm_ok, R.bind_ok]
    cases hp : p x with
    | true => simp only [h3 hp, R.calm_ok, R.bind_ok, ih, List.filter_cons, hp, if_true, List.map_cons]
    | false => simp only [ih, List.filter_cons, hp, Bool.false_eq_true, if_false]
@[simp] theorem put_nm (i : Nat) (d : D) (ρ : Rho) : (Ct.nm i).put d ρ = some (ρ.set i (some d)) := rfl
/-! ### a for loop by what holds of it -/
theorem forL_inv {g : Tg} {b : Sm} (I : List D → Rho → Sto → Prop) : ∀ (xs : List D) (ρ : Rho) (S : Sto), I xs ρ S →
    (∀ x r ρ S, I (x :: r) ρ S → ∃ ρ1 S1 ρ2 S2, g x ρ S = .nx ρ1 S1 ∧ (b ρ1 S1 = .nx ρ2 S2 ∨ b ρ1 S1 = .ct ρ2 S2) ∧ I r ρ2 S2) → ∃ ρ' S', forL g b xs ρ S = .nx ρ' S' ∧ I [] ρ' S'
  | [], ρ, S, h, _ => ⟨ρ, S, rfl, h⟩
  | x :: r, ρ, S, h, hs => by
    obtain ⟨ρ1, S1, ρ2, S2, h1, h2, h3⟩ := hs x r ρ S h
    obtain ⟨ρ', S', h4, h5⟩ := forL_inv I r ρ2 S2 h3 hs
    refine ⟨ρ', S', ?_, h5⟩
    rcases h2 with h2 | h2 <;> simp only [forL, h1, on_nx, F.seq_nx, h2, F.turn_nx, F.turn_ct, h4]
theorem forR_inv {g : Tg} {b : Sm} (I : Nat → Int → Rho → Sto → Prop) : ∀ (n : Nat) (lo : Int) (ρ : Rho) (S : Sto), I n lo ρ S →
    (∀ n lo ρ S, I (n + 1) lo ρ S → ∃ ρ1 S1 ρ2 S2, g (.int lo) ρ S = .nx ρ1 S1 ∧ (b ρ1 S1 = .nx ρ2 S2 ∨ b ρ1 S1 = .ct ρ2 S2) ∧ I n (lo + 1) ρ2 S2) → ∃ ρ' S' hi, forR g b n lo ρ S = .nx ρ' S' ∧ I 0 hi ρ' S'
  | 0, lo, ρ, S, h, _ => ⟨ρ, S, lo, rfl, h⟩
  | n + 1, lo, ρ, S, h, hs => by
    obtain ⟨ρ1, S1, ρ2, S2, h1, h2, h3⟩ := hs n lo ρ S h
    obtain ⟨ρ', S', hi, h4, h5⟩ := forR_inv I n (lo + 1) ρ2 S2 h3 hs
    refine ⟨ρ', S', hi, ?_, h5⟩
    rcases h2 with h2 | h2 <;> simp only [forR, h1, on_nx, F.seq_nx, h2, F.turn_nx, F.turn_ct, h4]
end DL
namespace DL
open PySem L2
theorem Int.beq_eq_decide_eq (i j : Int) : (i == j) = decide (i = j) := by by_cases h : i = j <;> simp [h]
theorem shaped_int (i : Int) : SeqAt.shaped (.int i) = true := by simp [SeqAt.shaped, PyData.canLay0, PyData.depth]
theorem shaped_none : SeqAt.shaped .none = true := by simp [SeqAt.shaped, PyData.canLay0, PyData.depth]
theorem shaped_bool (b : Bool) : SeqAt.shaped (.bool b) = true := by simp [SeqAt.shaped, PyData.canLay0, PyData.depth]
@[simp] theorem gEq_int (i j : Int) (S : Sto) : gEqB false (.int i) (.int j) S = .ok (.bl (decide (i = j))) S := by simp [gEqB, toPy, shaped_int, PyData.eqv, Int.beq_eq_decide_eq]
@[simp] theorem gNe_int (i j : Int) (S : Sto) : gEqB true (.int i) (.int j) S = .ok (.bl (!decide (i = j))) S := by simp [gEqB, toPy, shaped_int, PyData.eqv, Int.beq_eq_decide_eq]
/-- a test that an int is an int -/
@[simp] theorem gEq_nn (S : Sto) : gEqB false .non .non S = .ok (.bl true) S := by simp [gEqB, toPy, shaped_none, PyData.eqv]
@[simp] theorem gNe_nn (S : Sto) : gEqB true .non .non S = .ok (.bl false) S := by simp [gEqB, toPy, shaped_none, PyData.eqv]
@[simp] theorem gEq_ni (i : Int) (S : Sto) : gEqB false .non (.int i) S = .ok (.bl false) S := by simp [gEqB, toPy, shaped_none, shaped_int, PyData.eqv]
@[simp] theorem gNe_ni (i : Int) (S : Sto) : gEqB true .non (.int i) S = .ok (.bl true) S := by simp [gEqB, toPy, shaped_none, shaped_int, PyData.eqv]
@[simp] theorem gEq_in (i : Int) (S : Sto) : gEqB false (.int i) .non S = .ok (.bl false) S := by simp [gEqB, toPy, shaped_none, shaped_int, PyData.eqv]
@[simp] theorem gNe_in (i : Int) (S : Sto) : gEqB true (.int i) .non S = .ok (.bl true) S := by simp [gEqB, toPy, shaped_none, shaped_int, PyData.eqv]
@[simp] theorem gEq_bb (i j : Bool) (S : Sto) : gEqB false (.bl i) (.bl j) S = .ok (.bl (i == j)) S := by simp [gEqB, toPy, shaped_bool, PyData.eqv]
@[simp] theorem gNe_bb (i j : Bool) (S : Sto) : gEqB true (.bl i) (.bl j) S = .ok (.bl (!(i == j))) S := by simp [gEqB, toPy, shaped_bool, PyData.eqv]
end DL
/-! printed by gen.py: the mirrors of the defs -/
namespace DL
open PySem L2
def F_is_number : Fn := fnP 3 3
    (sRt (eAnd (eIsi 2 (eVar 0)) (eAnd (eNot (eIsi 1 (eVar 0))) (eChain gLe gLe (eVar 1) (eVar 0) (eVar 2)))))
def F_is_tuple : Fn := fnP 3 3
    (sRt (eAnd (eIsi 4 (eVar 0)) (eChain gLe gLe (eVar 1) (eCall gLen [(eVar 0)]) (eVar 2))))
def F__law_source : Fn := fnQ 2 3
    (sSeq (sSet 2 (eK (.int 0)))
    (sSeq (sIf (eTb (eBin gLt (eVar 1) (eCall gLen [(eVar 0)])))
    (sSet 2 (eCall gAbs [(eCall gInt [(eBin gIdx (eVar 0) (eVar 1))])]))
    sNx)
    (sSeq (sIf (eTb (eBin gLt (eVar 2) (eBin gPow (eK (.int 10)) (eK (.int 18)))))
    (sRt (eNewL [(eK (.int 0)), (eBin gAdd (eK (.int 1)) (eBin gMod (eCall gInt [(eBin gAdd (eBin gMul (eVar 2) (eK (.int 7919))) (eBin gMul (eK (.int 104729)) (eVar 1)))]) (eK (.int 2147483646))))]))
    sNx)
    (sRt (eNewL [(eVar 2), (eBin gAdd (eK (.int 1)) (eBin gMod (eCall gInt [(eBin gAdd (eVar 2) (eVar 1))]) (eK (.int 2147483646))))])))))
def F__law_draw : Fn := fnP 2 3
    (sSeq (sIf (eTb (eBin gGt (eBin gIdx (eVar 0) (eK (.int 0))) (eK (.int 0))))
    (sSeq (sSet 2 (eBin gMod (eCall gInt [(eBin gIdx (eVar 0) (eK (.int 0)))]) (eVar 1)))
    (sSeq (sIx (eBin gDiv (eBin gIdx (eVar 0) (eK (.int 0))) (eVar 1)) (eVar 0) (eK (.int 0)))
    (sRt (eVar 2))))
    sNx)
    (sSeq (sIx (eBin gMod (eCall gInt [(eBin gMul (eBin gIdx (eVar 0) (eK (.int 1))) (eK (.int 48271)))]) (eK (.int 2147483647))) (eVar 0) (eK (.int 1)))
    (sRt (eBin gMod (eCall gInt [(eBin gDiv (eBin gMod (eCall gInt [(eBin gMul (eBin gIdx (eVar 0) (eK (.int 1))) (eBin gIdx (eVar 0) (eK (.int 1))))]) (eK (.int 2147483629))) (eK (.int 64)))]) (eVar 1)))))
def F_stepped : Fn := fnP 2 2
    (sRt (eIf (eTb (eBin gGt (eBin gAdd (eVar 0) (eVar 1)) (eK (.int 0)))) (eBin gAdd (eVar 0) (eVar 1)) (eK (.int 0))))
def F_lowest_sum : Fn := fnP 1 4
    (sSeq (sSt (eTup [(eK (.int 0)), (eK (.int 0))]) (gTp 2 (gsCons (gNm 1) (gsCons (gNm 2) gsNil))))
    (sSeq (sFor (eItS (eVar 0)) (gNm 3)
    (sSeq (sSet 1 (eBin gAdd (eVar 1) (eVar 3)))
    (sSet 2 (eIf (eTb (eBin gLt (eVar 1) (eVar 2))) (eVar 1) (eVar 2)))))
    (sRt (eVar 2))))
def F_least_turn : Fn := fnP 2 7
    (sSeq (sSet 2 (eCall gLen [(eVar 0)]))
    (sSeq (sFor (eRng2 (eK (.int 1)) (eBin gAdd (eVar 2) (eK (.int 1)))) (gNm 3)
    (sIf (eAndT (eTb (eBin gEq (eBin gMod (eVar 2) (eVar 3)) (eK (.int 0)))) (eTb (eBin gEq (eBin gMod (eBin gMul (eVar 1) (eVar 3)) (eVar 2)) (eK (.int 0)))))
    (sSeq (sSet 4 (eBin gDiv (eBin gMul (eVar 1) (eVar 3)) (eVar 2)))
    (sSeq (sSet 5 (eBin gAdd (eSl (eVar 0) (ePart (eVar 3)) eNo) (eLc (eItS (eSl (eVar 0) eNo (ePart (eVar 3)))) (.nm 6) tYesD (eBin gAdd (eVar 6) (eVar 1)) [6])))
    (sIf (eTb (eBin gEq (eVar 5) (eLc (eItS (eVar 0)) (.nm 6) tYesD (eBin gAdd (eVar 6) (eVar 4)) [6])))
    (sRt (eVar 3))
    sNx)))
    sNx))
    (sRt (eVar 2))))
def F_minute_in : Fn := fnP 2 7
    (sSeq (sSt (eVar 0) (gTp 3 (gsCons (gNm 2) (gsCons (gNm 3) (gsCons (gNm 4) gsNil)))))
    (sSeq (sIf (eTb (eBin gLe (eVar 1) (eCall gLen [(eVar 2)])))
    (sRt (eBin gIdx (eVar 2) (eBin gSub (eVar 1) (eK (.int 1)))))
    sNx)
    (sSeq (sSet 5 (eBin gSub (eBin gSub (eVar 1) (eK (.int 1))) (eCall gLen [(eVar 2)])))
    (sSeq (sSet 6 (eBin gIdx (eVar 3) (eBin gMod (eVar 5) (eCall gLen [(eVar 3)]))))
    (sRt (eIf (eTb (eBin gIsN (eVar 6) (eK .non))) (eK .non) (eBin gAdd (eVar 6) (eBin gMul (eBin gDiv (eVar 5) (eCall gLen [(eVar 3)])) (eVar 4)))))))))
def F__law_up : Fn := fnP 2 2
    (sRt (eCall gMax [(eK (.int 0)), (eBin gAdd (eVar 0) (eVar 1))]))
def F__law_gains : Fn := fnP 2 4
    (sSeq (sSet 2 (eVar 0))
    (sSeq (sFor (eItS (eVar 1)) (gNm 3)
    (sSeq (sSet 2 (eBin gAdd (eVar 2) (eVar 3)))
    (sIf (eTb (eBin gLt (eVar 2) (eK (.int 0))))
    (sRt (eK .non))
    sNx)))
    (sRt (eBin gSub (eVar 2) (eVar 0)))))
def F__law_told_at : Fn := fnP 2 7
    (sSeq (sSt (eVar 0) (gTp 3 (gsCons (gNm 2) (gsCons (gNm 3) (gsCons (gNm 4) gsNil)))))
    (sSeq (sIf (eTb (eBin gLe (eVar 1) (eCall gLen [(eVar 2)])))
    (sRt (eBin gIdx (eVar 2) (eBin gSub (eVar 1) (eK (.int 1)))))
    sNx)
    (sSeq (sSet 5 (eBin gSub (eBin gSub (eVar 1) (eK (.int 1))) (eCall gLen [(eVar 2)])))
    (sSeq (sSet 6 (eBin gIdx (eVar 3) (eBin gMod (eVar 5) (eCall gLen [(eVar 3)]))))
    (sRt (eIf (eTb (eBin gIsN (eVar 6) (eK .non))) (eK .non) (eBin gAdd (eVar 6) (eBin gMul (eBin gDiv (eVar 5) (eCall gLen [(eVar 3)])) (eVar 4)))))))))
def F_divisor : Fn := fnP 2 2
    (sSeq (sWh 4096 (eTb (eBin gNe (eVar 1) (eK (.int 0))))
    (sPar 0 1 (eVar 1) (eBin gMod (eVar 0) (eVar 1))))
    (sRt (eVar 0)))
def F_rise_in : Fn := fnP 2 2
    (sRt (eBin gMul (eBin gIdx (eVar 0) (eK (.int 2))) (eBin gDiv (eVar 1) (eCall gLen [(eBin gIdx (eVar 0) (eK (.int 1)))]))))
def F_is_endless : Fn := fnP 1 1
    (sRt (eBin gNe (eBin gIdx (eVar 0) (eK (.int 1))) (eTup [(eK .non)])))
def F_shortened : Fn := fnP 2 7
    (sSeq (sSet 2 (eCall gLen [(eVar 1)]))
    (sSeq (sSet 3 (eCall gMin [(eLc (eRng2 (eK (.int 1)) (eBin gAdd (eVar 2) (eK (.int 1)))) (.nm 6) (eAndT (eTb (eBin gEq (eBin gMod (eVar 2) (eVar 6)) (eK (.int 0)))) (eTb (eBin gEq (eBin gAdd (eSl (eVar 1) (ePart (eVar 6)) eNo) (eSl (eVar 1) eNo (ePart (eVar 6)))) (eVar 1)))) (eVar 6) [6])]))
    (sSeq (sSt (eTup [(eSl (eVar 1) eNo (ePart (eVar 3))), (eK (.int 0))]) (gTp 2 (gsCons (gNm 1) (gsCons (gNm 4) gsNil))))
    (sSeq (sWh 20000000 (eAndT (eTb (eBin gLt (eVar 4) (eCall gLen [(eVar 0)]))) (eTb (eBin gEq (eBin gIdx (eVar 0) (eBin gSub (eBin gSub (eCall gLen [(eVar 0)]) (eK (.int 1))) (eVar 4))) (eBin gIdx (eVar 1) (eBin gMod (eBin gSub (eBin gSub (eVar 3) (eK (.int 1))) (eVar 4)) (eVar 3))))))
    (sSet 4 (eBin gAdd (eVar 4) (eK (.int 1)))))
    (sSeq (sSet 5 (eBin gSub (eVar 3) (eBin gMod (eVar 4) (eVar 3))))
    (sRt (eTup [(eCall gTuple [(eSl (eVar 0) eNo (ePart (eBin gSub (eCall gLen [(eVar 0)]) (eVar 4))))]), (eCall gTuple [(eBin gAdd (eSl (eVar 1) (ePart (eVar 5)) eNo) (eSl (eVar 1) eNo (ePart (eVar 5))))])])))))))
def F_first_of : Fn := fnP 1 4
    (sSeq (sSet 1 (eLc (eItS (eVar 0)) (.nm 2) (eTb (eBin gNotN (eVar 2) (eK .non))) (eCall gInt [(eVar 2)]) [2]))
    (sSeq (sIf (eTb (eBin gEq (eVar 1) (eLst [])))
    (sRt (eTup []))
    sNx)
    (sRt (eCall gTuple [(eLc (eEn (eVar 0)) (.tp [3, 2]) (eTb (eBin gEq (eVar 2) (eCall gMin [(eVar 1)]))) (eVar 3) [3, 2])]))))
def F__law_item_at : Fn := fnP 2 4
    (sSeq (sSt (eVar 0) (gTp 2 (gsCons (gNm 2) (gsCons (gNm 3) gsNil))))
    (sSeq (sIf (eTb (eBin gLt (eVar 1) (eCall gLen [(eVar 2)])))
    (sRt (eBin gIdx (eVar 2) (eVar 1)))
    sNx)
    (sRt (eBin gIdx (eVar 3) (eBin gMod (eBin gSub (eVar 1) (eCall gLen [(eVar 2)])) (eCall gLen [(eVar 3)]))))))
def F__law_is_short : Fn := fnP 2 3
    (sSeq (sIf (eOrT (eNotT (eTr (eIsi 4 (eVar 0)))) (eOrT (eNotT (eTr (eIsi 4 (eVar 1)))) (eTb (eBin gEq (eVar 1) (eTup [])))))
    (sRt (eK (.bl false)))
    sNx)
    (sSeq (sFor (eRng2 (eK (.int 1)) (eCall gLen [(eVar 1)])) (gNm 2)
    (sIf (eAndT (eTb (eBin gEq (eBin gMod (eCall gLen [(eVar 1)]) (eVar 2)) (eK (.int 0)))) (eTb (eBin gEq (eBin gAdd (eSl (eVar 1) (ePart (eVar 2)) eNo) (eSl (eVar 1) eNo (ePart (eVar 2)))) (eVar 1))))
    (sRt (eK (.bl false)))
    sNx))
    (sRt (eOr (eBin gEq (eVar 0) (eTup [])) (eBin gNe (eBin gIdx (eVar 0) (eNeg (eK (.int 1)))) (eBin gIdx (eVar 1) (eNeg (eK (.int 1)))))))))
def F_is_later : Fn := fnP 2 2
    (sRt (eAnd (eBin gNotN (eVar 1) (eK .non)) (eOr (eBin gIsN (eVar 0) (eK .non)) (eBin gGt (eVar 0) (eVar 1)))))
def F_word_of : Fn := fnP 1 1
    (sRt (eIf (eTb (eBin gGt (eVar 0) (eK (.int 0)))) (eK (.str (Str.ofString "over"))) (eIf (eTb (eBin gLt (eVar 0) (eK (.int 0)))) (eK (.str (Str.ofString "under"))) (eK (.str (Str.ofString "same"))))))
def F_with_round : Fn := fnP 2 2
    (sRt (eTup [(eBin gIdx (eVar 0) (eK (.int 0))), (eBin gIdx (eVar 0) (eK (.int 1))), (eVar 1)]))
def F_without : Fn := fnP 2 2
    (sRt (eBin gAdd (eSl (eVar 0) eNo (ePart (eVar 1))) (eSl (eVar 0) (ePart (eBin gAdd (eVar 1) (eK (.int 1)))) eNo)))
def F_exchanged : Fn := fnP 2 2
    (sRt (eBin gAdd (eBin gAdd (eSl (eVar 0) eNo (ePart (eVar 1))) (eTup [(eBin gIdx (eVar 0) (eBin gAdd (eVar 1) (eK (.int 1)))), (eBin gIdx (eVar 0) (eVar 1))])) (eSl (eVar 0) (ePart (eBin gAdd (eVar 1) (eK (.int 2)))) eNo)))
def F_started : Fn := fnP 2 2
    (sRt (eBin gAdd (eTup [(eVar 1)]) (eSl (eVar 0) (ePart (eK (.int 1))) eNo)))
def F_both : Fn := fnP 2 4
    (sSeq (sIf (eOrT (eTb (eBin gIsN (eVar 0) (eK .non))) (eTb (eBin gIsN (eVar 1) (eK .non))))
    (sRt (eK .non))
    sNx)
    (sSeq (sSet 2 (eIf (eTb (eBin gGt (eBin gIdx (eVar 0) (eK (.int 0))) (eBin gIdx (eVar 1) (eK (.int 0))))) (eBin gIdx (eVar 0) (eK (.int 0))) (eBin gIdx (eVar 1) (eK (.int 0)))))
    (sSeq (sSet 3 (eIf (eTb (eBin gIsN (eBin gIdx (eVar 1) (eK (.int 1))) (eK .non))) (eBin gIdx (eVar 0) (eK (.int 1))) (eBin gIdx (eVar 1) (eK (.int 1)))))
    (sSeq (sIf (eAndT (eTb (eBin gNotN (eBin gIdx (eVar 0) (eK (.int 1))) (eK .non))) (eAndT (eTb (eBin gNotN (eBin gIdx (eVar 1) (eK (.int 1))) (eK .non))) (eTb (eBin gLt (eBin gIdx (eVar 0) (eK (.int 1))) (eBin gIdx (eVar 1) (eK (.int 1)))))))
    (sSet 3 (eBin gIdx (eVar 0) (eK (.int 1))))
    sNx)
    (sRt (eIf (eOrT (eTb (eBin gIsN (eVar 3) (eK .non))) (eTb (eBin gLe (eVar 2) (eVar 3)))) (eTup [(eVar 2), (eVar 3)]) (eK .non)))))))
def F__wall : Fn := fnP 1 1
    (sWh 4096 (eTr (eK (.bl true)))
    sNx)
def F_is_round : Fn := fnP 1 2
    (sRt (eAnd (eCall F_is_tuple [(eVar 0), (eK (.int 1)), (eK (.int 4))]) (eCall gAll [(eLc (eItS (eVar 0)) (.nm 1) tYesD (eCall F_is_number [(eVar 1), (eNeg (eK (.int 3))), (eK (.int 3))]) [1])])))
def F__law_of : Fn := fnP 2 2
    (sRt (eBin gIdx (eVar 1) (eCall F__law_draw [(eVar 0), (eCall gLen [(eVar 1)])])))
def F_need_number : Fn := fnP 2 2
    (sIf (eNotT (eTr (eCall F_is_number [(eVar 0), (eVar 1), (eK (.int (1000000000000000000000000000000)))])))
    (sRaise "InvalidNumber")
    sNx)
def F_behind : Fn := fnP 2 3
    (sSeq (sFor (eItS (eVar 1)) (gNm 2)
    (sSet 0 (eCall F_stepped [(eVar 0), (eVar 2)])))
    (sRt (eVar 0)))
def F_records_of : Fn := fnP 2 9
    (sSeq (sSt (eVar 0) (gTp 3 (gsCons (gNm 2) (gsCons (gNm 3) (gsCons (gNm 4) gsNil)))))
    (sSeq (sSet 5 (eBin gMul (eLst [(eK (.int 0))]) (eVar 3)))
    (sSeq (sSet 6 (eVar 2))
    (sSeq (sFor (eRng1 (eVar 1)) (gNm 7)
    (sFor (eItS (eVar 4)) (gNm 8)
    (sSeq (sPar 3 6 (eCall F_stepped [(eVar 3), (eVar 8)]) (eBin gAdd (eVar 6) (eK (.int 1))))
    (sSet 5 (eBin gAdd (eVar 5) (eBin gMul (eLst [(eVar 6)]) (eCall gMax [(eK (.int 0)), (eBin gSub (eVar 3) (eCall gLen [(eVar 5)]))])))))))
    (sRt (eVar 5))))))
def F__law_end : Fn := fnP 2 3
    (sSeq (sFor (eItS (eVar 1)) (gNm 2)
    (sSet 0 (eCall F__law_up [(eVar 0), (eVar 2)])))
    (sRt (eVar 0)))
def F__law_out : Fn := fnP 2 10
    (sSeq (sSt (eVar 0) (gTp 3 (gsCons (gNm 2) (gsCons (gNm 3) (gsCons (gNm 4) gsNil)))))
    (sSeq (sIf (eTb (eBin gGe (eVar 3) (eVar 1)))
    (sRt (eK (.int 0)))
    sNx)
    (sSeq (sFor (eRng1 (eK (.int 600))) (gNm 5)
    (sSeq (sPar 6 7 (eCall F__law_gains [(eVar 3), (eVar 4)]) (eVar 3))
    (sSeq (sIf (eAndT (eTb (eBin gNotN (eVar 6) (eK .non))) (eAndT (eTb (eBin gGt (eVar 6) (eK (.int 0)))) (eTb (eBin gGt (eBin gSub (eVar 1) (eVar 3)) (eK (.int 40))))))
    (sSeq (sSet 8 (eBin gDiv (eBin gSub (eBin gSub (eVar 1) (eVar 3)) (eK (.int 20))) (eVar 6)))
    (sSeq (sSet 3 (eBin gAdd (eVar 3) (eBin gMul (eVar 8) (eVar 6))))
    (sSet 2 (eBin gAdd (eVar 2) (eBin gMul (eVar 8) (eCall gLen [(eVar 4)]))))))
    sNx)
    (sSeq (sFor (eItS (eVar 4)) (gNm 9)
    (sSeq (sPar 3 2 (eCall F__law_up [(eVar 3), (eVar 9)]) (eBin gAdd (eVar 2) (eK (.int 1))))
    (sIf (eTb (eBin gGe (eVar 3) (eVar 1)))
    (sRt (eVar 2))
    sNx)))
    (sIf (eTb (eBin gEq (eVar 3) (eVar 7)))
    (sRt (eK .non))
    sNx)))))
    (sRt (eK .non)))))
def F__law_depths : Fn := fnP 2 5
    (sSeq (sSet 2 (eLst [(eBin gPow (eK (.int 10)) (eK (.int 30))), (eBin gSub (eBin gPow (eK (.int 10)) (eK (.int 30))) (eCall F__law_draw [(eVar 0), (eK (.int 999))])), (eBin gAdd (eBin gPow (eK (.int 10)) (eK (.int 9))) (eCall F__law_draw [(eVar 0), (eBin gPow (eK (.int 10)) (eK (.int 9)))]))]))
    (sSeq (sSet 3 (eLc (eRng1 (eK (.int 6))) (.nm 4) tYesD (eBin gAdd (eBin gAdd (eVar 1) (eK (.int 1))) (eCall F__law_draw [(eVar 0), (eK (.int 2000))])) [4]))
    (sRt (eBin gAdd (eBin gAdd (eListRg2 (eK (.int 1)) (eBin gAdd (eVar 1) (eK (.int 1)))) (eVar 2)) (eVar 3)))))
def F_need_index : Fn := fnP 2 2
    (sIf (eNotT (eTr (eCall F_is_number [(eVar 1), (eK (.int 0)), (eBin gSub (eCall gLen [(eVar 0)]) (eK (.int 1)))])))
    (sRaise "InvalidIndex")
    sNx)
def F_common_turn : Fn := fnP 1 5
    (sSeq (sSet 1 (eK (.int 1)))
    (sSeq (sFor (eItS (eVar 0)) (gTp 3 (gsCons (gNm 2) (gsCons (gNm 3) (gsCons (gNm 4) gsNil))))
    (sSet 1 (eBin gDiv (eBin gMul (eVar 1) (eCall gLen [(eVar 3)])) (eCall F_divisor [(eVar 1), (eCall gLen [(eVar 3)])]))))
    (sRt (eVar 1))))
def F_blocks_until : Fn := fnP 4 8
    (sSeq (sSet 4 (eBin gSub (eCall F_rise_in [(eVar 0), (eVar 3)]) (eCall F_rise_in [(eVar 1), (eVar 3)])))
    (sSeq (sSet 5 (eK (.int 0)))
    (sSeq (sIf (eTb (eBin gNe (eVar 4) (eK (.int 0))))
    (sFor (eRng2 (eVar 2) (eBin gAdd (eVar 2) (eVar 3))) (gNm 6)
    (sSeq (sSet 7 (eBin gSub (eCall F_minute_in [(eVar 0), (eVar 6)]) (eCall F_minute_in [(eVar 1), (eVar 6)])))
    (sSeq (sSet 7 (eIf (eTb (eBin gGt (eVar 4) (eK (.int 0)))) (eVar 7) (eNeg (eVar 7))))
    (sSet 5 (eCall gMax [(eVar 5), (eBin gAdd (eCall gInt [(eBin gDiv (eNeg (eVar 7)) (eCall gAbs [(eVar 4)]))]) (eK (.int 1)))])))))
    sNx)
    (sRt (eVar 5)))))
def F_first_at : Fn := fnP 2 3
    (sRt (eCall F_first_of [(eLc (eItS (eVar 0)) (.nm 2) tYesD (eCall F_minute_in [(eVar 2), (eVar 1)]) [2])]))
def F_is_fact : Fn := fnP 2 2
    (sSeq (sIf (eOrT (eNotT (eTr (eCall F_is_tuple [(eVar 1), (eK (.int 2)), (eK (.int 2))]))) (eNotT (eTr (eCall F_is_number [(eBin gIdx (eVar 1) (eK (.int 0))), (eK (.int 0)), (eBin gSub (eCall gLen [(eVar 0)]) (eK (.int 1)))]))))
    (sRt (eK (.bl false)))
    sNx)
    (sRt (eOr (eBin gIsN (eBin gIdx (eVar 1) (eK (.int 1))) (eK .non)) (eCall F_is_number [(eBin gIdx (eVar 1) (eK (.int 1))), (eK (.int 0)), (eK (.int (100000000000000000000000000000000)))]))))
def F_depths_at : Fn := fnP 2 10
    (sSeq (sSt (eVar 0) (gTp 3 (gsCons (gNm 2) (gsCons (gNm 3) (gsCons (gNm 4) gsNil)))))
    (sSeq (sIf (eTb (eBin gIsN (eVar 1) (eK .non)))
    (sRt (eIf (eTr (eCall F_is_endless [(eVar 0)])) (eK .non) (eTup [(eBin gAdd (eCall gLen [(eVar 2)]) (eK (.int 1))), (eK .non)])))
    sNx)
    (sSeq (sSet 5 (eIf (eTr (eCall F_is_endless [(eVar 0)])) (eCall gMax [(eK (.int 0)), (eBin gSub (eBin gDiv (eBin gSub (eVar 1) (eBin gIdx (eVar 3) (eK (.int 0)))) (eVar 4)) (eK (.int 1)))]) (eK (.int 0))))
    (sSeq (sSet 6 (eBin gAdd (eBin gAdd (eCall gLen [(eVar 2)]) (eK (.int 1))) (eBin gMul (eVar 5) (eCall gLen [(eVar 3)]))))
    (sSeq (sSet 7 (eListRg2 (eK (.int 1)) (eBin gAdd (eCall gLen [(eVar 2)]) (eK (.int 1)))))
    (sSeq (sIf (eTr (eCall F_is_endless [(eVar 0)]))
    (sSet 7 (eBin gAdd (eVar 7) (eListRg2 (eVar 6) (eBin gAdd (eVar 6) (eBin gMul (eK (.int 4)) (eCall gLen [(eVar 3)]))))))
    sNx)
    (sSeq (sSet 8 (eLc (eItS (eVar 7)) (.nm 9) (eTb (eBin gEq (eCall F_minute_in [(eVar 0), (eVar 9)]) (eVar 1))) (eVar 9) [9]))
    (sRt (eIf (eTb (eBin gNe (eVar 8) (eLst []))) (eTup [(eBin gIdx (eVar 8) (eK (.int 0))), (eBin gIdx (eVar 8) (eNeg (eK (.int 1))))]) (eK .non))))))))))
def F_is_good_snail : Fn := fnP 1 1
    (sSeq (sIf (eOrT (eNotT (eTr (eCall F_is_tuple [(eVar 0), (eK (.int 3)), (eK (.int 3))]))) (eNotT (eTr (eCall F_is_number [(eBin gIdx (eVar 0) (eK (.int 0))), (eK (.int 0)), (eK (.int 20))]))))
    (sRt (eK (.bl false)))
    sNx)
    (sRt (eAnd (eCall F_is_number [(eBin gIdx (eVar 0) (eK (.int 1))), (eK (.int 0)), (eK (.int 5))]) (eCall F_is_round [(eBin gIdx (eVar 0) (eK (.int 2)))]))))
def F__law_round : Fn := fnP 1 4
    (sSeq (sSet 1 (eLst [(eTup [(eK (.int 1))]), (eTup [(eK (.int 3)), (eNeg (eK (.int 2)))]), (eTup [(eK (.int 2)), (eNeg (eK (.int 1)))]), (eTup [(eK (.int 3)), (eNeg (eK (.int 1))), (eNeg (eK (.int 1)))]), (eTup [(eK (.int 1)), (eK (.int 0))]), (eTup [(eK (.int 2)), (eK (.int 1)), (eNeg (eK (.int 2)))]), (eTup [(eK (.int 3)), (eK (.int 3)), (eNeg (eK (.int 3))), (eK (.int 0))]), (eTup [(eNeg (eK (.int 1))), (eK (.int 2))])]))
    (sSeq (sIf (eTb (eBin gEq (eCall F__law_draw [(eVar 0), (eK (.int 3))]) (eK (.int 0))))
    (sRt (eCall F__law_of [(eVar 0), (eVar 1)]))
    sNx)
    (sSeq (sSet 2 (eTup []))
    (sSeq (sFor (eRng1 (eBin gAdd (eK (.int 1)) (eCall F__law_draw [(eVar 0), (eK (.int 4))]))) (gNm 3)
    (sSet 2 (eBin gAdd (eVar 2) (eTup [(eCall F__law_of [(eVar 0), (eLst [(eNeg (eK (.int 3))), (eNeg (eK (.int 2))), (eNeg (eK (.int 1))), (eK (.int 0)), (eK (.int 1)), (eK (.int 2)), (eK (.int 3)), (eK (.int 3)), (eK (.int 2)), (eK (.int 1))])])]))))
    (sRt (eVar 2))))))
def F_is_settled : Fn := fnP 2 3
    (sSeq (sSet 2 (eCall gSum [(eVar 1)]))
    (sRt (eOr (eAnd (eBin gGe (eBin gAdd (eVar 0) (eCall F_lowest_sum [(eVar 1)])) (eK (.int 0))) (eBin gGe (eVar 2) (eK (.int 0)))) (eBin gEq (eCall F_behind [(eVar 0), (eVar 1)]) (eVar 0)))))
def F_gain_of : Fn := fnP 2 2
    (sRt (eBin gSub (eCall F_behind [(eVar 0), (eVar 1)]) (eVar 0)))
def F__law_height : Fn := fnP 2 9
    (sSeq (sSt (eVar 0) (gTp 3 (gsCons (gNm 2) (gsCons (gNm 3) (gsCons (gNm 4) gsNil)))))
    (sSeq (sIf (eTb (eBin gLe (eVar 1) (eVar 2)))
    (sRt (eVar 3))
    sNx)
    (sSeq (sFor (eRng1 (eK (.int 600))) (gNm 5)
    (sSeq (sSet 6 (eCall F__law_gains [(eVar 3), (eVar 4)]))
    (sSeq (sIf (eTb (eBin gIsN (eVar 6) (eK .non)))
    (sSet 6 (eIf (eTb (eBin gEq (eCall F__law_end [(eVar 3), (eVar 4)]) (eVar 3))) (eK (.int 0)) (eK .non)))
    sNx)
    (sSeq (sSet 7 (eBin gDiv (eBin gSub (eVar 1) (eVar 2)) (eCall gLen [(eVar 4)])))
    (sSeq (sIf (eAndT (eTb (eBin gNotN (eVar 6) (eK .non))) (eAndT (eTb (eBin gGe (eVar 6) (eK (.int 0)))) (eTb (eBin gGt (eVar 7) (eK (.int 0))))))
    (sSeq (sSet 3 (eBin gAdd (eVar 3) (eBin gMul (eVar 7) (eVar 6))))
    (sSet 2 (eBin gAdd (eVar 2) (eBin gMul (eVar 7) (eCall gLen [(eVar 4)])))))
    sNx)
    (sFor (eItS (eVar 4)) (gNm 8)
    (sSeq (sIf (eTb (eBin gEq (eVar 2) (eVar 1)))
    (sRt (eVar 3))
    sNx)
    (sPar 3 2 (eCall F__law_up [(eVar 3), (eVar 8)]) (eBin gAdd (eVar 2) (eK (.int 1)))))))))))
    (sRt (eVar 3)))))
def F_settled_from : Fn := fnP 1 9
    (sSeq (sSet 1 (eCall F_common_turn [(eVar 0)]))
    (sSeq (sSet 2 (eBin gAdd (eK (.int 1)) (eCall gMax [(eLc (eItS (eVar 0)) (.nm 5) tYesD (eCall gLen [(eBin gIdx (eVar 5) (eK (.int 0)))]) [5])])))
    (sSeq (sSet 3 (eLc (eItS (eVar 0)) (.nm 5) (eTr (eCall F_is_endless [(eVar 5)])) (eVar 5) [5]))
    (sSeq (sSet 4 (eLc2 (eItS (eVar 3)) (.nm 6) tYesD (eItS (eVar 3)) (.nm 7) tYesD (eCall F_blocks_until [(eVar 6), (eVar 7), (eVar 2), (eVar 1)]) [6, 7] [7]))
    (sRt (eTup [(eBin gAdd (eVar 2) (eBin gMul (eVar 1) (eCall gMax [(eBin gAdd (eLst [(eK (.int 0))]) (eLc (eItS (eVar 4)) (.nm 8) tYesD (eCall gInt [(eVar 8)]) [8]))]))), (eVar 1)]))))))
def F_need_seen : Fn := fnP 2 3
    (sIf (eOrT (eNotT (eTr (eCall F_is_tuple [(eVar 1), (eK (.int 1)), (eK (.int 4))]))) (eNotT (eTr (eCall gAll [(eLc (eItS (eVar 1)) (.nm 2) tYesD (eCall F_is_fact [(eVar 0), (eVar 2)]) [2])]))))
    (sRaise "InvalidSeen")
    sNx)
def F_fewer : Fn := fnP 2 2
    (sSeq (sEx (eCall F_need_index [(eVar 0), (eVar 1)]))
    (sRt (eCall F_without [(eVar 0), (eVar 1)])))
def F_is_row : Fn := fnP 1 1
    (sSeq (sIf (eOrT (eNotT (eTr (eCall F_is_tuple [(eVar 0), (eK (.int 3)), (eK (.int 3))]))) (eNotT (eTr (eCall F_is_number [(eBin gIdx (eVar 0) (eK (.int 0))), (eK (.int 0)), (eK (.int 1000))]))))
    (sRt (eK (.bl false)))
    sNx)
    (sRt (eAnd (eCall F_is_number [(eBin gIdx (eVar 0) (eK (.int 1))), (eK (.int 0)), (eK (.int 5))]) (eCall F_is_round [(eBin gIdx (eVar 0) (eK (.int 2)))]))))
def F_are_good_snails : Fn := fnP 1 2
    (sRt (eAnd (eCall F_is_tuple [(eVar 0), (eK (.int 1)), (eK (.int 3))]) (eCall gAll [(eLc (eItS (eVar 0)) (.nm 1) tYesD (eCall F_is_good_snail [(eVar 1)]) [1])])))
def F_is_snail : Fn := fnP 1 1
    (sRt (eCall F_is_good_snail [(eVar 0)]))
def F__law_snail : Fn := fnP 1 3
    (sSeq (sSet 1 (eCall F__law_of [(eVar 0), (eLst [(eK (.int 0)), (eK (.int 0)), (eK (.int 1)), (eK (.int 3)), (eCall F__law_draw [(eVar 0), (eK (.int 21))])])]))
    (sSeq (sSet 2 (eCall F__law_of [(eVar 0), (eLst [(eK (.int 0)), (eK (.int 0)), (eK (.int 0)), (eK (.int 1)), (eCall F__law_draw [(eVar 0), (eK (.int 6))])])]))
    (sRt (eTup [(eVar 1), (eVar 2), (eCall F__law_round [(eVar 0)])]))))
def F_need_snail : Fn := fnP 1 1
    (sIf (eNotT (eTr (eCall F_is_good_snail [(eVar 0)])))
    (sRaise "InvalidSnail")
    sNx)
def F_settled : Fn := fnP 2 3
    (sSeq (sSet 2 (eLst [(eVar 0)]))
    (sSeq (sWh 4096 (eNotT (eTr (eCall F_is_settled [(eBin gIdx (eVar 2) (eNeg (eK (.int 1)))), (eVar 1)])))
    (sSet 2 (eBin gAdd (eVar 2) (eLst [(eCall F_behind [(eBin gIdx (eVar 2) (eNeg (eK (.int 1)))), (eVar 1)])]))))
    (sRt (eVar 2))))
def F_winners_by : Fn := fnP 1 5
    (sSeq (sSt (eCall F_settled_from [(eVar 0)]) (gTp 2 (gsCons (gNm 1) (gsCons (gNm 2) gsNil))))
    (sSeq (sSet 3 (eLc (eRng2 (eK (.int 1)) (eVar 1)) (.nm 4) tYesD (eCall F_first_at [(eVar 0), (eVar 4)]) [4]))
    (sRt (eCall F_shortened [(eVar 3), (eLc (eRng2 (eVar 1) (eBin gAdd (eVar 1) (eVar 2))) (.nm 4) tYesD (eCall F_first_at [(eVar 0), (eVar 4)]) [4])]))))
def F_later_depth : Fn := fnP 2 5
    (sSeq (sSt (eCall F_settled_from [(eLst [(eVar 0), (eVar 1)])]) (gTp 2 (gsCons (gNm 2) (gsCons (gNm 3) gsNil))))
    (sSeq (sFor (eRng2 (eK (.int 1)) (eBin gAdd (eVar 2) (eVar 3))) (gNm 4)
    (sIf (eTr (eCall F_is_later [(eCall F_minute_in [(eVar 0), (eVar 4)]), (eCall F_minute_in [(eVar 1), (eVar 4)])]))
    (sRt (eVar 4))
    sNx))
    (sRt (eK .non))))
def F_leads_by : Fn := fnP 2 12
    (sSeq (sSt (eCall F_settled_from [(eLst [(eVar 0), (eVar 1)])]) (gTp 2 (gsCons (gNm 2) (gsCons (gNm 3) gsNil))))
    (sSeq (sSet 4 (eLst []))
    (sSeq (sFor (eRng2 (eK (.int 1)) (eBin gAdd (eVar 2) (eVar 3))) (gNm 5)
    (sSeq (sPar 6 7 (eCall F_minute_in [(eVar 0), (eVar 5)]) (eCall F_minute_in [(eVar 1), (eVar 5)]))
    (sSet 4 (eBin gAdd (eVar 4) (eIf (eAndT (eTb (eBin gNotN (eVar 6) (eK .non))) (eTb (eBin gNotN (eVar 7) (eK .non)))) (eLst [(eBin gSub (eVar 7) (eVar 6))]) (eLst []))))))
    (sSeq (sIf (eTb (eBin gEq (eVar 4) (eLst [])))
    (sRt (eK .non))
    sNx)
    (sSeq (sPar 8 9 (eCall gMin [(eLc (eItS (eVar 4)) (.nm 11) tYesD (eCall gInt [(eVar 11)]) [11])]) (eCall gMax [(eLc (eItS (eVar 4)) (.nm 11) tYesD (eCall gInt [(eVar 11)]) [11])]))
    (sSeq (sSet 10 (eIf (eAndT (eTr (eCall F_is_endless [(eVar 0)])) (eTr (eCall F_is_endless [(eVar 1)]))) (eBin gSub (eCall F_rise_in [(eVar 1), (eVar 3)]) (eCall F_rise_in [(eVar 0), (eVar 3)])) (eK (.int 0))))
    (sRt (eTup [(eIf (eTb (eBin gLt (eVar 10) (eK (.int 0)))) (eK .non) (eVar 8)), (eIf (eTb (eBin gGt (eVar 10) (eK (.int 0)))) (eK .non) (eVar 9))]))))))))
def F_parting_depth : Fn := fnP 2 5
    (sSeq (sSt (eCall F_settled_from [(eLst [(eVar 0), (eVar 1)])]) (gTp 2 (gsCons (gNm 2) (gsCons (gNm 3) gsNil))))
    (sSeq (sFor (eRng2 (eK (.int 1)) (eBin gAdd (eVar 2) (eVar 3))) (gNm 4)
    (sIf (eTb (eBin gNe (eCall F_minute_in [(eVar 0), (eVar 4)]) (eCall F_minute_in [(eVar 1), (eVar 4)])))
    (sRt (eVar 4))
    sNx))
    (sRt (eK .non))))
def F_are_snails : Fn := fnP 1 1
    (sRt (eCall F_are_good_snails [(eVar 0)]))
def F_height_of : Fn := fnP 2 9
    (sSeq (sSt (eVar 0) (gTp 3 (gsCons (gNm 2) (gsCons (gNm 3) (gsCons (gNm 4) gsNil)))))
    (sSeq (sIf (eTb (eBin gLe (eVar 1) (eVar 2)))
    (sRt (eVar 3))
    sNx)
    (sSeq (sPar 5 6 (eBin gDiv (eBin gSub (eVar 1) (eVar 2)) (eCall gLen [(eVar 4)])) (eBin gMod (eBin gSub (eVar 1) (eVar 2)) (eCall gLen [(eVar 4)])))
    (sSeq (sSet 7 (eCall F_settled [(eVar 3), (eVar 4)]))
    (sSeq (sIf (eTb (eBin gLt (eVar 5) (eCall gLen [(eVar 7)])))
    (sRt (eCall F_behind [(eBin gIdx (eVar 7) (eVar 5)), (eSl (eVar 4) eNo (ePart (eVar 6)))]))
    sNx)
    (sSeq (sSet 8 (eBin gAdd (eBin gIdx (eVar 7) (eNeg (eK (.int 1)))) (eBin gMul (eBin gAdd (eBin gSub (eVar 5) (eCall gLen [(eVar 7)])) (eK (.int 1))) (eCall F_gain_of [(eBin gIdx (eVar 7) (eNeg (eK (.int 1)))), (eVar 4)]))))
    (sRt (eCall F_behind [(eVar 8), (eSl (eVar 4) eNo (ePart (eVar 6)))]))))))))
def F_calendar_of : Fn := fnP 1 12
    (sSeq (sSt (eVar 0) (gTp 3 (gsCons (gNm 1) (gsCons (gNm 2) (gsCons (gNm 3) gsNil)))))
    (sSeq (sSet 4 (eCall F_settled [(eVar 2), (eVar 3)]))
    (sSeq (sSet 5 (eCall F_gain_of [(eBin gIdx (eVar 4) (eNeg (eK (.int 1)))), (eVar 3)]))
    (sSeq (sIf (eTb (eBin gEq (eVar 5) (eK (.int 0))))
    (sRt (eTup [(eCall gTuple [(eCall F_records_of [(eVar 0), (eCall gLen [(eVar 4)])])]), (eTup [(eK .non)]), (eK (.int 0))]))
    sNx)
    (sSeq (sSet 6 (eCall gLen [(eVar 4)]))
    (sSeq (sWh 4096 (eTb (eBin gNe (eBin gSub (eCall gLen [(eCall F_records_of [(eVar 0), (eBin gAdd (eVar 6) (eK (.int 1)))])]) (eCall gLen [(eCall F_records_of [(eVar 0), (eVar 6)])])) (eVar 5)))
    (sSet 6 (eBin gAdd (eVar 6) (eK (.int 1)))))
    (sSeq (sPar 7 8 (eCall F_records_of [(eVar 0), (eVar 6)]) (eCall F_records_of [(eVar 0), (eBin gAdd (eVar 6) (eK (.int 1)))]))
    (sSeq (sPar 9 10 (eSl (eVar 8) (ePart (eCall gLen [(eVar 7)])) eNo) (eCall gLen [(eVar 3)]))
    (sSeq (sSet 11 (eCall F_least_turn [(eVar 9), (eVar 10)]))
    (sSeq (sPar 9 10 (eSl (eVar 9) eNo (ePart (eVar 11))) (eBin gDiv (eBin gMul (eVar 10) (eVar 11)) (eVar 5)))
    (sSeq (sWh 4096 (eAndT (eTb (eBin gNe (eVar 7) (eLst []))) (eTb (eBin gEq (eBin gAdd (eBin gIdx (eVar 7) (eNeg (eK (.int 1)))) (eVar 10)) (eBin gIdx (eVar 9) (eNeg (eK (.int 1)))))))
    (sPar 7 9 (eSl (eVar 7) eNo (ePart (eNeg (eK (.int 1))))) (eBin gAdd (eLst [(eBin gIdx (eVar 7) (eNeg (eK (.int 1))))]) (eSl (eVar 9) eNo (ePart (eNeg (eK (.int 1))))))))
    (sRt (eTup [(eCall gTuple [(eVar 7)]), (eCall gTuple [(eVar 9)]), (eVar 10)])))))))))))))
def F_need_snails : Fn := fnP 1 1
    (sIf (eNotT (eTr (eCall F_are_good_snails [(eVar 0)])))
    (sRaise "InvalidSnails")
    sNx)
def F_need_two : Fn := fnP 2 2
    (sSeq (sEx (eCall F_need_snail [(eVar 0)]))
    (sEx (eCall F_need_snail [(eVar 1)])))
def F_settled_minute : Fn := fnP 1 4
    (sSeq (sSt (eVar 0) (gTp 3 (gsCons (gNm 1) (gsCons (gNm 2) (gsCons (gNm 3) gsNil)))))
    (sRt (eBin gAdd (eVar 1) (eBin gMul (eBin gSub (eCall gLen [(eCall F_settled [(eVar 2), (eVar 3)])]) (eK (.int 1))) (eCall gLen [(eVar 3)])))))
def F_gain_in : Fn := fnP 2 5
    (sSeq (sSt (eVar 0) (gTp 3 (gsCons (gNm 2) (gsCons (gNm 3) (gsCons (gNm 4) gsNil)))))
    (sRt (eBin gMul (eCall F_gain_of [(eBin gIdx (eCall F_settled [(eVar 3), (eVar 4)]) (eNeg (eK (.int 1)))), (eVar 4)]) (eBin gDiv (eVar 1) (eCall gLen [(eVar 4)])))))
def F_top_of : Fn := fnP 1 8
    (sSeq (sSt (eVar 0) (gTp 3 (gsCons (gNm 1) (gsCons (gNm 2) (gsCons (gNm 3) gsNil)))))
    (sSeq (sSet 4 (eCall F_settled [(eVar 2), (eVar 3)]))
    (sSeq (sIf (eTb (eBin gGt (eCall F_gain_of [(eBin gIdx (eVar 4) (eNeg (eK (.int 1)))), (eVar 3)]) (eK (.int 0))))
    (sRt (eK .non))
    sNx)
    (sSeq (sSet 5 (eVar 2))
    (sSeq (sFor (eRng1 (eCall gLen [(eVar 4)])) (gNm 6)
    (sFor (eItS (eVar 3)) (gNm 7)
    (sSeq (sSet 2 (eCall F_stepped [(eVar 2), (eVar 7)]))
    (sSet 5 (eIf (eTb (eBin gGt (eVar 2) (eVar 5))) (eVar 2) (eVar 5))))))
    (sRt (eVar 5)))))))
def F_with_start : Fn := fnP 2 2
    (sSeq (sEx (eCall F_need_snail [(eVar 0)]))
    (sSeq (sIf (eNotT (eTr (eCall F_is_number [(eVar 1), (eK (.int 0)), (eK (.int 20))])))
    (sRaise "InvalidNumber")
    sNx)
    (sRt (eCall F_started [(eVar 0), (eVar 1)]))))
def F_good_snail : Fn := fnP 1 1
    (sSeq (sEx (eCall F_need_snail [(eVar 0)]))
    (sRt (eVar 0)))
def F_height_at : Fn := fnP 2 2
    (sSeq (sEx (eCall F_need_snail [(eVar 0)]))
    (sSeq (sEx (eCall F_need_number [(eVar 1), (eK (.int 0))]))
    (sRt (eCall F_height_of [(eVar 0), (eVar 1)]))))
def F_out_at : Fn := fnP 2 2
    (sSeq (sEx (eCall F_need_snail [(eVar 0)]))
    (sSeq (sEx (eCall F_need_number [(eVar 1), (eK (.int 1))]))
    (sRt (eCall F_minute_in [(eCall F_calendar_of [(eVar 0)]), (eVar 1)]))))
def F_calendar : Fn := fnP 1 1
    (sSeq (sEx (eCall F_need_snail [(eVar 0)]))
    (sRt (eCall F_calendar_of [(eVar 0)])))
def F_all_calendars : Fn := fnP 1 2
    (sRt (eLc (eItS (eVar 0)) (.nm 1) tYesD (eCall F_calendar_of [(eVar 1)]) [1]))
def F_leads : Fn := fnP 2 2
    (sSeq (sEx (eCall F_need_two [(eVar 0), (eVar 1)]))
    (sRt (eCall F_leads_by [(eCall F_calendar_of [(eVar 0)]), (eCall F_calendar_of [(eVar 1)])])))
def F_never_later : Fn := fnP 2 2
    (sSeq (sEx (eCall F_need_two [(eVar 0), (eVar 1)]))
    (sRt (eBin gIsN (eCall F_later_depth [(eCall F_calendar_of [(eVar 0)]), (eCall F_calendar_of [(eVar 1)])]) (eK .non))))
def F_first_later : Fn := fnP 2 2
    (sSeq (sEx (eCall F_need_two [(eVar 0), (eVar 1)]))
    (sRt (eCall F_later_depth [(eCall F_calendar_of [(eVar 0)]), (eCall F_calendar_of [(eVar 1)])])))
def F_far_at : Fn := fnP 3 3
    (sRt (eBin gSub (eCall F_height_of [(eVar 0), (eVar 2)]) (eCall F_height_of [(eVar 1), (eVar 2)])))
def F_highest : Fn := fnP 1 1
    (sSeq (sEx (eCall F_need_snail [(eVar 0)]))
    (sRt (eCall F_top_of [(eVar 0)])))
def F_are_alike : Fn := fnP 2 2
    (sRt (eBin gEq (eCall F_calendar_of [(eVar 0)]) (eCall F_calendar_of [(eVar 1)])))
def F_parting : Fn := fnP 2 2
    (sSeq (sEx (eCall F_need_two [(eVar 0), (eVar 1)]))
    (sRt (eCall F_parting_depth [(eCall F_calendar_of [(eVar 0)]), (eCall F_calendar_of [(eVar 1)])])))
def F_latest_start : Fn := fnP 2 5
    (sSeq (sEx (eCall F_need_two [(eVar 0), (eVar 1)]))
    (sSeq (sSet 2 (eCall F_calendar_of [(eVar 1)]))
    (sSeq (sSet 3 (eLc (eRng1 (eK (.int 21))) (.nm 4) (eTb (eBin gIsN (eCall F_later_depth [(eCall F_calendar_of [(eCall F_started [(eVar 0), (eVar 4)])]), (eVar 2)]) (eK .non))) (eVar 4) [4]))
    (sRt (eIf (eTb (eBin gNe (eVar 3) (eLst []))) (eBin gIdx (eVar 3) (eNeg (eK (.int 1)))) (eK .non))))))
def F_depths_told : Fn := fnP 2 5
    (sSeq (sEx (eCall F_need_snails [(eVar 0)]))
    (sSeq (sEx (eCall F_need_seen [(eVar 0), (eVar 1)]))
    (sSeq (sSet 2 (eTup [(eK (.int 1)), (eK .non)]))
    (sSeq (sFor (eItS (eVar 1)) (gTp 2 (gsCons (gNm 3) (gsCons (gNm 4) gsNil)))
    (sSet 2 (eCall F_both [(eVar 2), (eCall F_depths_at [(eCall F_calendar_of [(eBin gIdx (eVar 0) (eVar 3))]), (eVar 4)])])))
    (sRt (eVar 2))))))
def F_is_seen : Fn := fnP 3 5
    (sSeq (sEx (eCall F_need_snails [(eVar 0)]))
    (sSeq (sEx (eCall F_need_number [(eVar 1), (eK (.int 1))]))
    (sSeq (sEx (eCall F_need_seen [(eVar 0), (eVar 2)]))
    (sRt (eCall gAll [(eLc (eItS (eVar 2)) (.tp [3, 4]) tYesD (eBin gEq (eCall F_minute_in [(eCall F_calendar_of [(eBin gIdx (eVar 0) (eVar 3))]), (eVar 1)]) (eVar 4)) [3, 4])])))))
def F_out_in : Fn := fnP 3 5
    (sSeq (sSet 3 (eCall F_minute_in [(eCall F_calendar_of [(eBin gAdd (eTup [(eK (.int 0))]) (eSl (eVar 1) (ePart (eK (.int 1))) eNo))]), (eVar 0)]))
    (sSeq (sSet 4 (eIf (eTb (eBin gIsN (eVar 3) (eK .non))) (eK .non) (eBin gAdd (eBin gIdx (eVar 1) (eK (.int 0))) (eVar 3))))
    (sRt (eIf (eAndT (eTb (eBin gNotN (eVar 4) (eK .non))) (eTb (eBin gLe (eVar 4) (eVar 2)))) (eVar 4) (eK .non)))))
def F_winners : Fn := fnP 2 2
    (sSeq (sEx (eCall F_need_snails [(eVar 0)]))
    (sSeq (sEx (eCall F_need_number [(eVar 1), (eK (.int 1))]))
    (sRt (eCall F_first_at [(eCall F_all_calendars [(eVar 0)]), (eVar 1)]))))
def F_winner_calendar : Fn := fnP 1 1
    (sSeq (sEx (eCall F_need_snails [(eVar 0)]))
    (sRt (eCall F_winners_by [(eCall F_all_calendars [(eVar 0)])])))
def F_how : Fn := fnP 2 6
    (sSeq (sEx (eCall F_need_snails [(eVar 0)]))
    (sSeq (sEx (eCall F_need_index [(eVar 0), (eVar 1)]))
    (sSeq (sSt (eCall F_winners_by [(eCall F_all_calendars [(eVar 0)])]) (gTp 2 (gsCons (gNm 2) (gsCons (gNm 3) gsNil))))
    (sSeq (sSet 4 (eLc (eItS (eBin gAdd (eVar 2) (eVar 3))) (.nm 5) tYesD (eBin gIn (eVar 1) (eVar 5)) [5]))
    (sSeq (sIf (eTb (eBin gNotIn (eK (.bl true)) (eVar 4)))
    (sRt (eK (.str (Str.ofString "never"))))
    sNx)
    (sRt (eIf (eTb (eBin gIn (eK (.bl false)) (eVar 4))) (eK (.str (Str.ofString "sometimes"))) (eK (.str (Str.ofString "always"))))))))))
def F_first_depth : Fn := fnP 2 7
    (sSeq (sEx (eCall F_need_snails [(eVar 0)]))
    (sSeq (sEx (eCall F_need_index [(eVar 0), (eVar 1)]))
    (sSeq (sSt (eCall F_winners_by [(eCall F_all_calendars [(eVar 0)])]) (gTp 2 (gsCons (gNm 2) (gsCons (gNm 3) gsNil))))
    (sSeq (sSet 4 (eLc (eEn (eBin gAdd (eVar 2) (eVar 3))) (.tp [5, 6]) (eTb (eBin gIn (eVar 1) (eVar 6))) (eBin gAdd (eVar 5) (eK (.int 1))) [5, 6]))
    (sRt (eIf (eTb (eBin gNe (eVar 4) (eLst []))) (eBin gIdx (eVar 4) (eK (.int 0))) (eK .non)))))))
def F_words_by : Fn := fnP 2 11
    (sSeq (sPar 2 3 (eCall gLen [(eBin gIdx (eVar 0) (eK (.int 2)))]) (eCall gLen [(eBin gIdx (eVar 1) (eK (.int 2)))]))
    (sSeq (sSet 4 (eBin gDiv (eBin gMul (eVar 2) (eVar 3)) (eCall F_divisor [(eVar 2), (eVar 3)])))
    (sSeq (sSet 5 (eCall gMax [(eCall gInt [(eCall F_settled_minute [(eVar 0)])]), (eCall gInt [(eCall F_settled_minute [(eVar 1)])])]))
    (sSeq (sSet 6 (eBin gSub (eCall F_gain_in [(eVar 0), (eVar 4)]) (eCall F_gain_in [(eVar 1), (eVar 4)])))
    (sSeq (sIf (eTb (eBin gNe (eVar 6) (eK (.int 0))))
    (sSeq (sSet 7 (eLc (eRng2 (eVar 5) (eBin gAdd (eVar 5) (eVar 4))) (.nm 9) tYesD (eCall F_far_at [(eVar 0), (eVar 1), (eVar 9)]) [9]))
    (sSeq (sSet 7 (eLc (eItS (eVar 7)) (.nm 10) tYesD (eIf (eTb (eBin gGt (eVar 6) (eK (.int 0)))) (eVar 10) (eNeg (eVar 10))) [10]))
    (sSet 5 (eBin gAdd (eVar 5) (eBin gMul (eVar 4) (eCall gMax [(eBin gAdd (eLst [(eK (.int 0))]) (eLc (eItS (eVar 7)) (.nm 10) tYesD (eBin gAdd (eCall gInt [(eBin gDiv (eNeg (eVar 10)) (eCall gAbs [(eVar 6)]))]) (eK (.int 1))) [10]))]))))))
    sNx)
    (sSeq (sSet 8 (eLc (eRng1 (eVar 5)) (.nm 9) tYesD (eCall F_word_of [(eCall F_far_at [(eVar 0), (eVar 1), (eVar 9)])]) [9]))
    (sRt (eCall F_shortened [(eVar 8), (eLc (eRng2 (eVar 5) (eBin gAdd (eVar 5) (eVar 4))) (.nm 9) tYesD (eCall F_word_of [(eCall F_far_at [(eVar 0), (eVar 1), (eVar 9)])]) [9])]))))))))
def F_alike : Fn := fnP 2 2
    (sSeq (sEx (eCall F_need_two [(eVar 0), (eVar 1)]))
    (sRt (eCall F_are_alike [(eVar 0), (eVar 1)])))
def F_idle_steps : Fn := fnP 1 4
    (sSeq (sEx (eCall F_need_snail [(eVar 0)]))
    (sSeq (sSet 1 (eBin gIdx (eVar 0) (eK (.int 2))))
    (sSeq (sSet 2 (eIf (eTb (eBin gGt (eCall gLen [(eVar 1)]) (eK (.int 1)))) (eListRg1 (eCall gLen [(eVar 1)])) (eLst [])))
    (sRt (eLc (eItS (eVar 2)) (.nm 3) (eTr (eCall F_are_alike [(eVar 0), (eCall F_with_round [(eVar 0), (eCall F_without [(eVar 1), (eVar 3)])])])) (eVar 3) [3])))))
def F_exchangeable : Fn := fnP 1 4
    (sSeq (sEx (eCall F_need_snail [(eVar 0)]))
    (sSeq (sSet 1 (eBin gIdx (eVar 0) (eK (.int 2))))
    (sSeq (sSet 2 (eListRg1 (eBin gSub (eCall gLen [(eVar 1)]) (eK (.int 1)))))
    (sRt (eLc (eItS (eVar 2)) (.nm 3) (eTr (eCall F_are_alike [(eVar 0), (eCall F_with_round [(eVar 0), (eCall F_exchanged [(eVar 1), (eVar 3)])])])) (eVar 3) [3])))))
def F_order_calendar : Fn := fnP 2 2
    (sSeq (sEx (eCall F_need_two [(eVar 0), (eVar 1)]))
    (sRt (eCall F_words_by [(eVar 0), (eVar 1)])))
def F_first_over : Fn := fnP 2 5
    (sSeq (sEx (eCall F_need_two [(eVar 0), (eVar 1)]))
    (sSeq (sSt (eCall F_words_by [(eVar 0), (eVar 1)]) (gTp 2 (gsCons (gNm 2) (gsCons (gNm 3) gsNil))))
    (sSeq (sSet 4 (eCall gList [(eBin gAdd (eVar 2) (eVar 3))]))
    (sRt (eIf (eTb (eBin gIn (eK (.str (Str.ofString "over"))) (eVar 4))) (eMeth "list" gIndexM (eVar 4) [(eK (.str (Str.ofString "over")))]) (eK .non))))))
end DL
/-! what the laws' own draws give -/
namespace DL
open PySem L2
def SrcAt (n : Nat) (S : Sto) : Prop := ∃ a b : Int, S[n]? = some (.lst [.int a, .int b]) ∧ 0 ≤ b ∧ b < 2147483648
/-- the source n has drawn, all else is as it was -/
structure Upd (n : Nat) (S S' : Sto) : Prop where
  len : S'.length = S.length
  oth : ∀ m, m ≠ n → S'[m]? = S[m]?
  src : SrcAt n S'
theorem Upd.refl {n : Nat} {S : Sto} (h : SrcAt n S) : Upd n S S := ⟨rfl, fun _ _ => rfl, h⟩
theorem Upd.trans {n : Nat} {S S1 S2 : Sto} (a : Upd n S S1) (b : Upd n S1 S2) : Upd n S S2 := ⟨b.len.trans a.len, fun m h => (b.oth m h).trans (a.oth m h), b.src⟩
theorem SrcAt.lt {n : Nat} {S : Sto} (h : SrcAt n S) : n < S.length := by
  obtain ⟨a, b, e, _⟩ := h
  exact (List.getElem?_eq_some_iff.mp e).1
theorem atI0 {α : Type} (x : α) (r : List α) : atI (x :: r) 0 = some x := atI_nat (j := 0) rfl
theorem atI1 {α : Type} (x y : α) (r : List α) : atI (x :: y :: r) 1 = some y := atI_nat (j := 1) rfl
theorem upd_set {n : Nat} {S : Sto} {a b : Int} (h : n < S.length) (h0 : 0 ≤ b) (h1 : b < 2147483648) : Upd n S (S.set n (.lst [.int a, .int b])) :=
  ⟨by simp, fun m hm => by rw [List.getElem?_set_ne (fun z => hm z.symm)], a, b, by rw [List.getElem?_set_self h], h0, h1⟩
theorem log2_lt {m : Int} {k : Nat} (h : m.natAbs < 2 ^ k) (hk : 0 < k) : m.natAbs.log2 < k := by
  by_cases z : m.natAbs = 0
  · rw [z]; simpa using hk
  · exact (Nat.log2_lt z).mpr h
theorem draw_spec {n : Nat} {S : Sto} {m : Int} (h : SrcAt n S) (hm : 0 < m) (hl : m.natAbs.log2 < 9000) :
    ∃ d S', F__law_draw [.obj n, .int m] S = .ok (.int d) S' ∧ 0 ≤ d ∧ d < m ∧ Upd n S S' := by
  have hn := h.lt
  obtain ⟨a, b, e, hb0, hb1⟩ := h
  have i0 : gIdx (.obj n) (.int 0) S = .ok (.int a) S := gIdx_obj _ e (atI0 _ _)
  have i1 : gIdx (.obj n) (.int 1) S = .ok (.int b) S := gIdx_obj _ e (atI1 _ _ _)
  by_cases ha : 0 < a
  · refine ⟨a % m, S.set n (.lst [.int (a / m), .int b]), ?_, Int.emod_nonneg _ (by omega), Int.emod_lt_of_pos _ hm, upd_set hn hb0 hb1⟩
    simp [F__law_draw, fnP_ap, i0, ha, gMod_int, gDiv_int, hm, hl, e, ixN, popR_le]
  · have m1 : (b * 48271).natAbs.log2 < 1000 := log2_lt (by omega) (by decide)
    have x0 := Int.emod_nonneg (b * 48271) (show (2147483647 : Int) ≠ 0 by decide)
    have x1 := Int.emod_lt_of_pos (b * 48271) (show (0 : Int) < 2147483647 by decide)
    generalize hx : b * 48271 % 2147483647 = x at x0 x1
    let S' := S.set n (.lst [.int a, .int x])
    have e' : S'[n]? = some (.lst [.int a, .int x]) := List.getElem?_set_self hn
    have j1 : gIdx (.obj n) (.int 1) S' = .ok (.int x) S' := gIdx_obj _ e' (atI1 _ _ _)
    refine ⟨(x * x % 2147483629 / 64) % m, S', ?_, Int.emod_nonneg _ (by omega), Int.emod_lt_of_pos _ hm, upd_set hn x0 (by omega)⟩
    have k1 : gMul (.int b) (.int 48271) S = .ok (.int (b * 48271)) S := gMul_int _ (by
      have : b.natAbs.log2 < 1000 := log2_lt (by omega) (by decide)
      have : (48271 : Int).natAbs.log2 < 1000 := by decide
      omega)
    have k2 : gMul (.int x) (.int x) S' = .ok (.int (x * x)) S' := gMul_int _ (by
      have : x.natAbs.log2 < 1000 := log2_lt (by omega) (by decide)
      omega)
    have k3 : ∀ z, gDiv (.int z) (.int 64) S' = .ok (.int (z / 64)) S' := fun z => gDiv_int _ (by decide) (by decide)
    have k4 : ∀ z, gMod (.int z) (.int 2147483629) S' = .ok (.int (z % 2147483629)) S' := fun z => gMod_int _ (by decide)
    have k5 : ∀ z, gMod (.int z) (.int m) S' = .ok (.int (z % m)) S' := fun z => gMod_int _ hm
    have k6 : gMod (.int (b * 48271)) (.int 2147483647) S = .ok (.int x) S := by rw [gMod_int _ (by decide), hx]
    have hS' : S.set n (.lst [.int a, .int x]) = S' := rfl
    have hlen : S'.length = S.length := by simp [S']
    simp [F__law_draw, fnP_ap, i0, i1, ha, k1, k6, e, ixN, hS', j1, k2, k4, k3, k5, popR_le, hlen]

theorem of_spec {n : Nat} {S : Sto} {items : List D} (h : SrcAt n S) (h0 : items ≠ []) (hl : items.length < 1000) :
    ∃ x S', F__law_of [.obj n, .lst items] S = .ok x S' ∧ x ∈ items ∧ Upd n S S' := by
  have hp : 0 < items.length := by cases items with
    | nil => exact absurd rfl h0
    | cons _ _ => simp
  obtain ⟨d, S', e, d0, d1, u⟩ := draw_spec (m := (items.length : Int)) h (by omega) (by
    have : ((items.length : Int)).natAbs.log2 < 10 := log2_lt (by
      have : (2 : Nat) ^ 10 = 1024 := by decide
      omega) (by decide)
    omega)
  obtain ⟨j, rfl⟩ : ∃ j : Nat, d = (j : Int) := ⟨d.toNat, by omega⟩
  have hj : j < items.length := by omega
  refine ⟨items[j], S', ?_, List.getElem_mem hj, u⟩
  have k := gIdx_lst S' (xs := items) (i := (j : Int)) (d := items[j]) (atI_nat (List.getElem?_eq_getElem hj))
  simp [F__law_of, fnP_ap, e, k, popR_le, u.len]
/-- a round -/
structure RoundOk (st : List Int) : Prop where
  pos : 1 ≤ st.length
  le : st.length ≤ 4
  bd : ∀ x ∈ st, -3 ≤ x ∧ x ≤ 3
def roundD (st : List Int) : D := .tup (st.map D.int)
theorem round_spec {n : Nat} {S : Sto} (h : SrcAt n S) : ∃ st S', F__law_round [.obj n] S = .ok (roundD st) S' ∧ RoundOk st ∧ Upd n S S' := by
  obtain ⟨d, S1, e1, d0, d1, u1⟩ := draw_spec (m := 3) h (by decide) (by decide)
  by_cases hd : d = 0
  · subst hd
    obtain ⟨x, S2, e2, hx, u2⟩ := of_spec (n := n) (S := S1) (items := [roundD [1], roundD [3, -2], roundD [2, -1], roundD [3, -1, -1], roundD [1, 0], roundD [2, 1, -2], roundD [3, 3, -3, 0], roundD [-1, 2]]) u1.src (by simp) (by simp)
    have hx2 : ∃ st, x = roundD st ∧ RoundOk st := by
      simp only [List.mem_cons, List.not_mem_nil, or_false] at hx
      rcases hx with rfl | rfl | rfl | rfl | rfl | rfl | rfl | rfl <;> exact ⟨_, rfl, by simp, by simp, by simp⟩
    obtain ⟨st, rfl, hst⟩ := hx2
    refine ⟨st, S2, ?_, hst, u1.trans u2⟩
    simp only [roundD, List.map_cons, List.map_nil] at e2
    simp [F__law_round, fnP_ap, e1, e2, popR_le, u2.len, u1.len, roundD]
  · obtain ⟨m, S2, e2, m0, m1, u2⟩ := draw_spec (m := 4) u1.src (by decide) (by decide)
    obtain ⟨k, rfl⟩ : ∃ k : Nat, m = (k : Int) := ⟨m.toNat, by omega⟩
    have key := forR_inv (g := gNm 3) (b := sSet 2 (eBin gAdd (eVar 2) (eTup [(eCall F__law_of [(eVar 0), (eLst [(eNeg (eK (.int 3))), (eNeg (eK (.int 2))), (eNeg (eK (.int 1))), (eK (.int 0)), (eK (.int 1)), (eK (.int 2)), (eK (.int 3)), (eK (.int 3)), (eK (.int 2)), (eK (.int 1))])])])))
      (fun r _ ρ S' => ∃ (st : List Int) (y z : Option D), st.length + r = 1 + k ∧ (∀ x ∈ st, -3 ≤ x ∧ x ≤ 3) ∧ ρ = [some (.obj n), y, some (roundD st), z] ∧ Upd n S2 S')
      (1 + k) 0 [some (.obj n), some (.lst [roundD [1], roundD [3, -2], roundD [2, -1], roundD [3, -1, -1], roundD [1, 0], roundD [2, 1, -2], roundD [3, 3, -3, 0], roundD [-1, 2]]), some (roundD []), none] S2
      ⟨[], _, _, by simp, by simp, rfl, Upd.refl u2.src⟩ (by
        rintro r lo ρ S' ⟨st, y, z, h1, h2, rfl, u⟩
        obtain ⟨x, S3, e3, hx, u3⟩ := of_spec (n := n) (S := S') (items := [.int (-3), .int (-2), .int (-1), .int 0, .int 1, .int 2, .int 3, .int 3, .int 2, .int 1]) u.src (by simp) (by simp)
        have hx2 : ∃ i : Int, x = .int i ∧ -3 ≤ i ∧ i ≤ 3 := by
          simp only [List.mem_cons, List.not_mem_nil, or_false] at hx
          rcases hx with rfl | rfl | rfl | rfl | rfl | rfl | rfl | rfl | rfl | rfl <;> exact ⟨_, rfl, by decide, by decide⟩
        obtain ⟨i, rfl, hi⟩ := hx2
        refine ⟨_, _, _, _, rfl, .inl ?_, st ++ [i], y, some (.int lo), by simp; omega, ?_, rfl, u.trans u3⟩
        · have hlen : (st.map D.int).length + [D.int i].length ≤ 16777216 := by simp; omega
          simp [e3, roundD, gAdd_tup _ hlen]
        · intro x hx
          rcases List.mem_append.mp hx with hx | hx
          · exact h2 x hx
          · rw [List.mem_singleton] at hx; rw [hx]; exact hi)
    obtain ⟨ρ', S', hi, e3, st, y, z, h1, h2, rfl, u3⟩ := key
    have hlen : st.length = 1 + k := by omega
    refine ⟨st, S', ?_, ⟨by omega, by omega, h2⟩, (u1.trans u2).trans u3⟩
    have hsm : smallI (1 + (k : Int)) = true := smallI_mk (by omega) (by omega)
    have ht : (1 + (k : Int)).toNat = 1 + k := by omega
    simp only [roundD, List.map_cons, List.map_nil] at e3
    simp [F__law_round, fnP_ap, e1, e2, hd, hsm, ht, roundD]
    rw [sFor_rng (lo := 0) (n := 1 + k) (S1 := S2) (by simp [e2, hsm, ht]), e3]
    simp [popR_le, u3.len, u2.len, u1.len]
/-- a snail -/
structure Sn where
  start : Int
  height : Int
  steps : List Int
structure Sn.Ok (s : Sn) : Prop where
  s0 : 0 ≤ s.start
  s1 : s.start ≤ 20
  h0 : 0 ≤ s.height
  h1 : s.height ≤ 5
  rd : RoundOk s.steps
def Sn.d (s : Sn) : D := .tup [.int s.start, .int s.height, roundD s.steps]
theorem snail_spec {n : Nat} {S : Sto} (h : SrcAt n S) : ∃ (s : Sn) (S' : Sto), F__law_snail [.obj n] S = .ok s.d S' ∧ s.Ok ∧ Upd n S S' := by
  obtain ⟨d, S1, e1, d0, d1, u1⟩ := draw_spec (m := 21) h (by decide) (by decide)
  obtain ⟨x, S2, e2, hx, u2⟩ := of_spec (n := n) (S := S1) (items := [.int 0, .int 0, .int 1, .int 3, .int d]) u1.src (by simp) (by simp)
  obtain ⟨d', S3, e3, d0', d1', u3⟩ := draw_spec (m := 6) u2.src (by decide) (by decide)
  obtain ⟨y, S4, e4, hy, u4⟩ := of_spec (n := n) (S := S3) (items := [.int 0, .int 0, .int 0, .int 1, .int d']) u3.src (by simp) (by simp)
  obtain ⟨st, S5, e5, hst, u5⟩ := round_spec u4.src
  have hx2 : ∃ i : Int, x = .int i ∧ 0 ≤ i ∧ i ≤ 20 := by
    simp only [List.mem_cons, List.not_mem_nil, or_false] at hx
    rcases hx with rfl | rfl | rfl | rfl | rfl <;> exact ⟨_, rfl, by omega, by omega⟩
  have hy2 : ∃ i : Int, y = .int i ∧ 0 ≤ i ∧ i ≤ 5 := by
    simp only [List.mem_cons, List.not_mem_nil, or_false] at hy
    rcases hy with rfl | rfl | rfl | rfl | rfl <;> exact ⟨_, rfl, by omega, by omega⟩
  obtain ⟨i, rfl, hi⟩ := hx2
  obtain ⟨j, rfl, hj⟩ := hy2
  refine ⟨⟨i, j, st⟩, S5, ?_, ⟨hi.1, hi.2, hj.1, hj.2, hst⟩, (((u1.trans u2).trans u3).trans u4).trans u5⟩
  simp [F__law_snail, fnP_ap, e1, e2, e3, e4, e5, popR_le, u5.len, u4.len, u3.len, u2.len, u1.len, Sn.d]
theorem source_spec (ns : List Int) (k : Nat) (S : Sto) (hk : k ≤ 63) : ∃ a b : Int, F__law_source [.frz (ns.map D.int), .int k] S = .ok (.obj S.length) (S ++ [.lst [.int a, .int b]]) ∧ 0 ≤ b ∧ b < 2147483648 := by
  have hp : gPow (.int 10) (.int 18) S = .ok (.int 1000000000000000000) S := by simp [gPow]
  have fin : ∀ cell : Int, 0 ≤ cell → ∃ a b : Int, (sSeq (sIf (eTb (eBin gLt (eVar 2) (eBin gPow (eK (.int 10)) (eK (.int 18)))))
    (sRt (eNewL [(eK (.int 0)), (eBin gAdd (eK (.int 1)) (eBin gMod (eCall gInt [(eBin gAdd (eBin gMul (eVar 2) (eK (.int 7919))) (eBin gMul (eK (.int 104729)) (eVar 1)))]) (eK (.int 2147483646))))]))
    sNx)
    (sRt (eNewL [(eVar 2), (eBin gAdd (eK (.int 1)) (eBin gMod (eCall gInt [(eBin gAdd (eVar 2) (eVar 1))]) (eK (.int 2147483646))))]))) [some (.frz (ns.map D.int)), some (.int k), some (.int cell)] S = .rt (.obj S.length) (S ++ [.lst [.int a, .int b]]) ∧ 0 ≤ b ∧ b < 2147483648 := by
    intro cell hc
    have kM : ∀ z, gMod (.int z) (.int 2147483646) S = .ok (.int (z % 2147483646)) S := fun z => gMod_int _ (by decide)
    by_cases hlt : cell < 1000000000000000000
    · have k1 : gMul (.int cell) (.int 7919) S = .ok (.int (cell * 7919)) S := gMul_int _ (by
        have : cell.natAbs.log2 < 60 := log2_lt (by
          have : (2 : Nat) ^ 60 = 1152921504606846976 := by decide
          omega) (by decide)
        have : (7919 : Int).natAbs.log2 < 1000 := by decide
        omega)
      have k2 : gMul (.int 104729) (.int k) S = .ok (.int (104729 * (k : Int))) S := gMul_int _ (by
        have : ((k : Int)).natAbs.log2 < 10 := log2_lt (by
          have : (2 : Nat) ^ 10 = 1024 := by decide
          omega) (by decide)
        have : (104729 : Int).natAbs.log2 < 1000 := by decide
        omega)
      refine ⟨0, 1 + (cell * 7919 + 104729 * (k : Int)) % 2147483646, ?_, ?_, ?_⟩
      · simp [hp, hlt, k1, k2, kM]
      · have := Int.emod_nonneg (cell * 7919 + 104729 * (k : Int)) (show (2147483646 : Int) ≠ 0 by decide); omega
      · have := Int.emod_lt_of_pos (cell * 7919 + 104729 * (k : Int)) (show (0 : Int) < 2147483646 by decide); omega
    · refine ⟨cell, 1 + (cell + (k : Int)) % 2147483646, ?_, ?_, ?_⟩
      · simp [hp, hlt, kM]
      · have := Int.emod_nonneg (cell + (k : Int)) (show (2147483646 : Int) ≠ 0 by decide); omega
      · have := Int.emod_lt_of_pos (cell + (k : Int)) (show (0 : Int) < 2147483646 by decide); omega
  by_cases hlen : (k : Int) < (ns.length : Int)
  · have hk2 : k < ns.length := by omega
    have ki : gIdx (.frz (ns.map D.int)) (.int k) S = .ok (.int ns[k]) S := gIdx_frz _ (atI_nat (by simp [List.getElem?_eq_getElem hk2]))
    obtain ⟨a, b, e, hb⟩ := fin (if ns[k] < 0 then -ns[k] else ns[k]) (by split <;> omega)
    refine ⟨a, b, ?_, hb⟩
    simp only [sSeq_ap] at e
    simp only [F__law_source, fnQ_ap, sSeq_ap]
    simp [hlen, ki]
    simp at e
    rw [e]
    rfl
  · obtain ⟨a, b, e, hb⟩ := fin 0 (by decide)
    refine ⟨a, b, ?_, hb⟩
    simp only [sSeq_ap] at e
    simp only [F__law_source, fnQ_ap, sSeq_ap]
    simp [hlen]
    simp at e
    rw [e]
    rfl
end DL
/-! which values are numbers, rounds, snails -/
namespace DL
open PySem L2
mutual
def tg : D → Bool
  | .tup xs => tgs xs
  | .lst xs => tgs xs
  | .obj _ => false
  | .ref _ => false
  | .frz _ => false
  | _ => true
def tgs : List D → Bool
  | [] => true
  | d :: ds => tg d && tgs ds
end
theorem tgs_mem : ∀ {xs : List D}, tgs xs = true → ∀ x ∈ xs, tg x = true
  | x :: xs, h, y, hy => by
    simp only [tgs, Bool.and_eq_true] at h
    rcases List.mem_cons.mp hy with rfl | hy
    · exact h.1
    · exact tgs_mem h.2 y hy
theorem tgs_of : ∀ {xs : List D}, (∀ x ∈ xs, tg x = true) → tgs xs = true
  | [], _ => rfl
  | x :: xs, h => by
    simp only [tgs, Bool.and_eq_true]
    exact ⟨h x List.mem_cons_self, tgs_of fun y hy => h y (List.mem_cons_of_mem _ hy)⟩
def isNum (v : D) (a b : Int) : Bool := match v with
  | .int i => decide (a ≤ i) && decide (i ≤ b)
  | _ => false
def isTup (v : D) (a b : Int) : Bool := match v with
  | .tup xs => decide (a ≤ (xs.length : Int)) && decide ((xs.length : Int) ≤ b)
  | _ => false
def isRd (v : D) : Bool := match v with
  | .tup xs => decide (1 ≤ (xs.length : Int)) && decide ((xs.length : Int) ≤ 4) && xs.all fun x => isNum x (-3) 3
  | _ => false
def isSn (v : D) : Bool := match v with
  | .tup [x, y, z] => isNum x 0 20 && isNum y 0 5 && isRd z
  | _ => false
def areSn (v : D) : Bool := match v with
  | .tup xs => decide (1 ≤ (xs.length : Int)) && decide ((xs.length : Int) ≤ 3) && xs.all isSn
  | _ => false
section
variable {S : Sto}
theorem is_number_eq {v : D} (h : tg v = true) (a b : Int) : F_is_number [v, .int a, .int b] S = .ok (.bl (isNum v a b)) S := by
  cases v with
  | int i =>
    by_cases h1 : a ≤ i <;> by_cases h2 : i ≤ b <;> simp [F_is_number, fnP_ap, isiN, isNum, h1, h2]
  | obj _ => cases h
  | ref _ => cases h
  | frz _ => cases h
  | _ => simp [F_is_number, fnP_ap, isiN, isNum]
theorem is_tuple_eq {v : D} (h : tg v = true) (a b : Int) : F_is_tuple [v, .int a, .int b] S = .ok (.bl (isTup v a b)) S := by
  cases v with
  | tup xs =>
    by_cases h1 : a ≤ (xs.length : Int) <;> by_cases h2 : (xs.length : Int) ≤ b <;> simp [F_is_tuple, fnP_ap, isiN, isTup, h1, h2]
  | obj _ => cases h
  | ref _ => cases h
  | frz _ => cases h
  | _ => simp [F_is_tuple, fnP_ap, isiN, isTup]
theorem blsOf_fun (p : D → Bool) (xs : List D) : blsOf (xs.map fun x => .bl (p x)) = some (xs.map p) := by
  have := blsOf_map (xs.map p)
  rwa [List.map_map] at this
theorem all_map_id {α : Type} (p : α → Bool) (xs : List α) : (xs.map p).all id = xs.all p := by
  induction xs with
  | nil => rfl
  | cons x xs ih => simp [ih]
theorem is_round_eq {v : D} (h : tg v = true) : F_is_round [v] S = .ok (.bl (isRd v)) S := by
  have ht := is_tuple_eq (S := S) h 1 4
  cases v with
  | tup xs =>
    by_cases h1 : 1 ≤ (xs.length : Int) ∧ (xs.length : Int) ≤ 4
    · have e : isTup (.tup xs) 1 4 = true := by simp [isTup]; omega
      rw [e] at ht
      have hm : ∀ x ∈ xs, tg x = true := tgs_mem (by simpa only [tg] using h)
      have hc : eLc (eItS (eVar 0)) (.nm 1) tYesD (eCall F_is_number [(eVar 1), (eNeg (eK (.int 3))), (eK (.int 3))]) [1] [some (.tup xs), none] S = .ok (.lst (xs.map fun x => .bl (isNum x (-3) 3))) S := by
        rw [eLc_tup (xs := xs) (S1 := S) (by simp) (by omega)]
        rw [lcL_map (φ := fun x => .bl (isNum x (-3) 3)) xs fun x hx => ⟨_, rfl, by simp [wipeR, is_number_eq (hm x hx)]⟩]
        rfl
      simp [F_is_round, fnP_ap, ht, hc, gAll_lst _ (blsOf_fun _ xs), all_map_id, isRd]
      intro _
      exact h1
    · have e : isTup (.tup xs) 1 4 = false := by
        simp only [isTup, Bool.and_eq_false_iff, decide_eq_false_iff_not]
        omega
      rw [e] at ht
      have e2 : isRd (.tup xs) = false := by
        simp only [isRd, Bool.and_eq_false_iff, decide_eq_false_iff_not]
        omega
      simp [F_is_round, fnP_ap, ht, e2]
  | obj _ => cases h
  | ref _ => cases h
  | frz _ => cases h
  | _ => simp [F_is_round, fnP_ap, ht, isTup, isRd]
theorem atI2 {α : Type} (x y z : α) (r : List α) : atI (x :: y :: z :: r) 2 = some z := atI_nat (j := 2) rfl
theorem is_good_snail_eq {v : D} (h : tg v = true) : F_is_good_snail [v] S = .ok (.bl (isSn v)) S := by
  have ht := is_tuple_eq (S := S) h 3 3
  by_cases h3 : ∃ x y z, v = .tup [x, y, z]
  · obtain ⟨x, y, z, rfl⟩ := h3
    have hm : ∀ w ∈ [x, y, z], tg w = true := tgs_mem (by simpa only [tg] using h)
    have n1 := is_number_eq (S := S) (hm x (by simp)) 0 20
    have n2 := is_number_eq (S := S) (hm y (by simp)) 0 5
    have n3 := is_round_eq (S := S) (hm z (by simp))
    have i0 : gIdx (.tup [x, y, z]) (.int 0) S = .ok x S := gIdx_tup _ (atI0 _ _)
    have i1 : gIdx (.tup [x, y, z]) (.int 1) S = .ok y S := gIdx_tup _ (atI1 _ _ _)
    have i2 : gIdx (.tup [x, y, z]) (.int 2) S = .ok z S := gIdx_tup _ (atI2 _ _ _ _)
    have e : isTup (.tup [x, y, z]) 3 3 = true := by simp [isTup]
    rw [e] at ht
    cases c1 : isNum x 0 20 <;> cases c2 : isNum y 0 5 <;> simp [F_is_good_snail, fnP_ap, ht, i0, i1, i2, n1, n2, n3, c1, c2, isSn]
  · have e : isTup v 3 3 = false := by
      cases v with
      | tup xs =>
        match xs, h3 with
        | [], _ => simp [isTup]
        | [_], _ => simp [isTup]
        | [_, _], _ => simp [isTup]
        | [x, y, z], h3 => exact absurd ⟨x, y, z, rfl⟩ h3
        | _ :: _ :: _ :: _ :: r, _ => simp [isTup]; omega
      | _ => rfl
    have e2 : isSn v = false := by
      cases v with
      | tup xs =>
        match xs, h3 with
        | [], _ => rfl
        | [_], _ => rfl
        | [_, _], _ => rfl
        | [x, y, z], h3 => exact absurd ⟨x, y, z, rfl⟩ h3
        | _ :: _ :: _ :: _ :: r, _ => rfl
      | _ => rfl
    rw [e] at ht
    simp [F_is_good_snail, fnP_ap, ht, e2]
theorem are_good_snails_eq {v : D} (h : tg v = true) : F_are_good_snails [v] S = .ok (.bl (areSn v)) S := by
  have ht := is_tuple_eq (S := S) h 1 3
  cases v with
  | tup xs =>
    by_cases h1 : 1 ≤ (xs.length : Int) ∧ (xs.length : Int) ≤ 3
    · have e : isTup (.tup xs) 1 3 = true := by simp [isTup]; omega
      rw [e] at ht
      have hm : ∀ x ∈ xs, tg x = true := tgs_mem (by simpa only [tg] using h)
      have hc : eLc (eItS (eVar 0)) (.nm 1) tYesD (eCall F_is_good_snail [(eVar 1)]) [1] [some (.tup xs), none] S = .ok (.lst (xs.map fun x => .bl (isSn x))) S := by
        rw [eLc_tup (xs := xs) (S1 := S) (by simp) (by omega)]
        rw [lcL_map (φ := fun x => .bl (isSn x)) xs fun x hx => ⟨_, rfl, by simp [wipeR, is_good_snail_eq (hm x hx)]⟩]
        rfl
      simp [F_are_good_snails, fnP_ap, ht, hc, gAll_lst _ (blsOf_fun _ xs), all_map_id, areSn]
      intro _
      exact h1
    · have e : isTup (.tup xs) 1 3 = false := by
        simp only [isTup, Bool.and_eq_false_iff, decide_eq_false_iff_not]
        omega
      rw [e] at ht
      have e2 : areSn (.tup xs) = false := by
        simp only [areSn, Bool.and_eq_false_iff, decide_eq_false_iff_not]
        omega
      simp [F_are_good_snails, fnP_ap, ht, e2]
  | obj _ => cases h
  | ref _ => cases h
  | frz _ => cases h
  | _ => simp [F_are_good_snails, fnP_ap, ht, isTup, areSn]
theorem is_snail_eq {v : D} (h : tg v = true) : F_is_snail [v] S = .ok (.bl (isSn v)) S := by simp [F_is_snail, fnP_ap, is_good_snail_eq h]
theorem are_snails_eq {v : D} (h : tg v = true) : F_are_snails [v] S = .ok (.bl (areSn v)) S := by simp [F_are_snails, fnP_ap, are_good_snails_eq h]
/-- what the draws make is a snail -/
theorem tgs_ints (l : List Int) : tgs (l.map D.int) = true := by
  induction l with
  | nil => rfl
  | cons x l ih => simpa [tgs, tg] using ih
theorem Sn.tg (s : Sn) : DL.tg s.d = true := by simp [Sn.d, DL.tg, tgs, roundD, tgs_ints]
theorem rd_of {st : List Int} (h : RoundOk st) : isRd (roundD st) = true := by
  have h1 := h.pos
  have h2 := h.le
  simp only [isRd, roundD, List.length_map, Bool.and_eq_true, decide_eq_true_eq, List.all_eq_true, List.mem_map]
  refine ⟨by omega, fun x hx => ?_⟩
  obtain ⟨i, hi, rfl⟩ := hx
  have := h.bd i hi
  simp [isNum]; omega
theorem Sn.is {s : Sn} (h : s.Ok) : isSn s.d = true := by
  have a := h.s0
  have b := h.s1
  have c := h.h0
  have d := h.h1
  simp only [isSn, Sn.d, rd_of h.rd, isNum, Bool.and_true, Bool.and_eq_true, decide_eq_true_eq]
  omega
theorem need_snail_eq {s : Sn} (h : s.Ok) : F_need_snail [s.d] S = .ok .non S := by
  simp [F_need_snail, fnP_ap, is_good_snail_eq s.tg, Sn.is h]
theorem need_number_eq {i a : Int} (h : a ≤ i) (h2 : i ≤ 1000000000000000000000000000000) : F_need_number [.int i, .int a] S = .ok .non S := by
  have e : isNum (.int i) a 1000000000000000000000000000000 = true := by simp [isNum, h, h2]
  simp [F_need_number, fnP_ap, is_number_eq (v := .int i) rfl, e]
end
end DL
/-! plain values: no references in them, of little width and depth -/
namespace DL
open PySem L2
def plB (w : Nat) : Nat → D → Bool
  | _, .non => true
  | _, .bl _ => true
  | _, .int _ => true
  | _, .str x => PyData.strOk x
  | 0, _ => false
  | n + 1, .tup xs => decide (xs.length ≤ w) && xs.all (plB w n)
  | n + 1, .lst xs => decide (xs.length ≤ w) && xs.all (plB w n)
  | _, _ => false
theorem plB_mono {w w' : Nat} (hw : w ≤ w') : ∀ {n m : Nat} {d : D}, n ≤ m → plB w n d = true → plB w' m d = true
  | n, m, .non, _, _ => by cases m <;> rfl
  | n, m, .bl _, _, _ => by cases m <;> rfl
  | n, m, .int _, _, _ => by cases m <;> rfl
  | n, m, .str x, _, h => by cases n <;> cases m <;> simpa [plB] using h
  | 0, _, .tup _, _, h => by simp [plB] at h
  | 0, _, .lst _, _, h => by simp [plB] at h
  | n + 1, m + 1, .tup xs, hl, h => by
    simp only [plB, Bool.and_eq_true, decide_eq_true_eq, List.all_eq_true] at h ⊢
    exact ⟨by omega, fun x hx => plB_mono hw (by omega) (h.2 x hx)⟩
  | n + 1, m + 1, .lst xs, hl, h => by
    simp only [plB, Bool.and_eq_true, decide_eq_true_eq, List.all_eq_true] at h ⊢
    exact ⟨by omega, fun x hx => plB_mono hw (by omega) (h.2 x hx)⟩
  | n, _, .obj _, _, h => by cases n <;> simp [plB] at h
  | n, _, .ref _, _, h => by cases n <;> simp [plB] at h
  | n, _, .frz _, _, h => by cases n <;> simp [plB] at h
theorem plB_py {w : Nat} : ∀ {n : Nat} {d : D}, plB w n d = true → ∃ p, toPy d = some p ∧ p.canLay0 = true ∧ p.depth ≤ n
  | n, .non, _ => ⟨.none, rfl, rfl, by simp [PyData.depth]⟩
  | n, .bl b, _ => ⟨.bool b, rfl, rfl, by simp [PyData.depth]⟩
  | n, .int i, _ => ⟨.int i, rfl, rfl, by simp [PyData.depth]⟩
  | n, .str x, h => ⟨.str x, rfl, by cases n <;> simpa [plB, PyData.canLay0] using h, by simp [PyData.depth]⟩
  | 0, .tup _, h => by simp [plB] at h
  | 0, .lst _, h => by simp [plB] at h
  | n + 1, .tup xs, h => by
    simp only [plB, Bool.and_eq_true, decide_eq_true_eq, List.all_eq_true] at h
    have : ∃ ps, toPys xs = some ps ∧ PyData.canLayAll0 ps = true ∧ PyData.depthAll ps ≤ n := by
      have hx := h.2
      clear h
      induction xs with
      | nil => exact ⟨[], rfl, rfl, by simp [PyData.depthAll]⟩
      | cons x xs ih =>
        obtain ⟨p, e1, e2, e3⟩ := plB_py (hx x List.mem_cons_self)
        obtain ⟨ps, f1, f2, f3⟩ := ih fun y hy => hx y (List.mem_cons_of_mem _ hy)
        refine ⟨p :: ps, by simp [toPys, e1, f1], by simp [PyData.canLayAll0, e2, f2], ?_⟩
        simp only [PyData.depthAll]
        omega
    obtain ⟨ps, e1, e2, e3⟩ := this
    exact ⟨.tuple ps, by simp [toPy, e1], by simpa [PyData.canLay0] using e2, by simp only [PyData.depth]; omega⟩
  | n + 1, .lst xs, h => by
    simp only [plB, Bool.and_eq_true, decide_eq_true_eq, List.all_eq_true] at h
    have : ∃ ps, toPys xs = some ps ∧ PyData.canLayAll0 ps = true ∧ PyData.depthAll ps ≤ n := by
      have hx := h.2
      clear h
      induction xs with
      | nil => exact ⟨[], rfl, rfl, by simp [PyData.depthAll]⟩
      | cons x xs ih =>
        obtain ⟨p, e1, e2, e3⟩ := plB_py (hx x List.mem_cons_self)
        obtain ⟨ps, f1, f2, f3⟩ := ih fun y hy => hx y (List.mem_cons_of_mem _ hy)
        refine ⟨p :: ps, by simp [toPys, e1, f1], by simp [PyData.canLayAll0, e2, f2], ?_⟩
        simp only [PyData.depthAll]
        omega
    obtain ⟨ps, e1, e2, e3⟩ := this
    exact ⟨.list ps, by simp [toPy, e1], by simpa [PyData.canLay0] using e2, by simp only [PyData.depth]; omega⟩
  | n, .obj _, h => by cases n <;> simp [plB] at h
  | n, .ref _, h => by cases n <;> simp [plB] at h
  | n, .frz _, h => by cases n <;> simp [plB] at h
theorem plB_tg {w : Nat} : ∀ {n : Nat} {d : D}, plB w n d = true → tg d = true
  | n, .non, _ => rfl
  | n, .bl b, _ => rfl
  | n, .int i, _ => rfl
  | n, .str x, h => rfl
  | 0, .tup _, h => by simp [plB] at h
  | 0, .lst _, h => by simp [plB] at h
  | n + 1, .tup xs, h => by
    simp only [plB, Bool.and_eq_true, decide_eq_true_eq, List.all_eq_true] at h
    simp only [tg]
    exact tgs_of fun x hx => plB_tg (h.2 x hx)
  | n + 1, .lst xs, h => by
    simp only [plB, Bool.and_eq_true, decide_eq_true_eq, List.all_eq_true] at h
    simp only [tg]
    exact tgs_of fun x hx => plB_tg (h.2 x hx)
  | n, .obj _, h => by cases n <;> simp [plB] at h
  | n, .ref _, h => by cases n <;> simp [plB] at h
  | n, .frz _, h => by cases n <;> simp [plB] at h
theorem plB_shaped {w n : Nat} {d : D} (h : plB w n d = true) (hn : n ≤ 64) (S : Sto) : ∃ p, toPy (view S d) = some p ∧ SeqAt.shaped p = true := by
  obtain ⟨p, e1, e2, e3⟩ := plB_py h
  refine ⟨p, ?_, by simp [SeqAt.shaped, e2]; omega⟩
  cases d with
  | obj _ => cases n <;> simp [plB] at h
  | _ => exact e1
theorem toPys_nil {xs : List D} {ps : List PyData} (h : toPys xs = some ps) : ps.isEmpty = xs.isEmpty := by
  cases xs with
  | nil => simp [toPys] at h; rw [h]; rfl
  | cons x xs =>
    simp only [toPys] at h
    split at h
    · cases h; rfl
    · cases h
theorem eqv_list_nil (ps : List PyData) : PyData.eqv (.list ps) (.list []) = ps.isEmpty := by
  cases ps <;> simp [PyData.eqv, PyData.eqvAll]
theorem eqv_tuple_nil (ps : List PyData) : PyData.eqv (.tuple ps) (.tuple []) = ps.isEmpty := by
  cases ps <;> simp [PyData.eqv, PyData.eqvAll]
/-- a == [] -/
theorem gEq_lst_nil {w n : Nat} {xs : List D} (h : plB w n (.lst xs) = true) (hn : n ≤ 64) (S : Sto) : gEqB false (.lst xs) (.lst []) S = .ok (.bl xs.isEmpty) S := by
  obtain ⟨p, e1, e2⟩ := plB_shaped h hn S
  have e3 : SeqAt.shaped (.list []) = true := by decide
  have e0 := e1
  simp only [view_lst_, toPy] at e1
  split at e1
  · next ps hp =>
    cases e1
    rw [view_lst_] at e0
    simp only [gEqB, view_lst_, e0, show toPy (.lst []) = some (.list []) from rfl, e2, e3, and_self, if_true, eqv_list_nil, toPys_nil hp]
    rfl
  · cases e1
/-- a == () -/
theorem gEq_tup_nil {w n : Nat} {xs : List D} (h : plB w n (.tup xs) = true) (hn : n ≤ 64) (S : Sto) : gEqB false (.tup xs) (.tup []) S = .ok (.bl xs.isEmpty) S := by
  obtain ⟨p, e1, e2⟩ := plB_shaped h hn S
  have e3 : SeqAt.shaped (.tuple []) = true := by decide
  have e0 := e1
  simp only [view_tup_, toPy] at e1
  split at e1
  · next ps hp =>
    cases e1
    rw [view_tup_] at e0
    simp only [gEqB, view_tup_, e0, show toPy (.tup []) = some (.tuple []) from rfl, e2, e3, and_self, if_true, eqv_tuple_nil, toPys_nil hp]
    rfl
  · cases e1
theorem plB_tup {w n : Nat} {xs : List D} (h : plB w (n + 1) (.tup xs) = true) : xs.length ≤ w ∧ ∀ x ∈ xs, plB w n x = true := by
  simpa only [plB, Bool.and_eq_true, decide_eq_true_eq, List.all_eq_true] using h
theorem plB_mk {w n : Nat} {xs : List D} (h : xs.length ≤ w) (h2 : ∀ x ∈ xs, plB w n x = true) : plB w (n + 1) (.tup xs) = true := by
  simpa only [plB, Bool.and_eq_true, decide_eq_true_eq, List.all_eq_true] using ⟨h, h2⟩
theorem plB_mkL {w n : Nat} {xs : List D} (h : xs.length ≤ w) (h2 : ∀ x ∈ xs, plB w n x = true) : plB w (n + 1) (.lst xs) = true := by
  simpa only [plB, Bool.and_eq_true, decide_eq_true_eq, List.all_eq_true] using ⟨h, h2⟩
theorem plB_tup0 {w n : Nat} {xs : List D} (h : plB w n (.tup xs) = true) : ∃ m, n = m + 1 := by
  cases n with
  | zero => simp [plB] at h
  | succ m => exact ⟨m, rfl⟩
/-! slices up to a place and from it on -/
theorem sIx_nat (n : Nat) (d : Nat) (k : Nat) (h : k ≤ n) : HT.sIx n d (some (k : Int)) = k := by
  rw [HT.sIx_nat]
  omega
theorem cutD_to {xs : List D} {k : Nat} (h : k ≤ xs.length) : cutD xs none (some (k : Int)) = xs.take k := by
  unfold cutD
  rw [sIx_nat _ _ _ h]
  simp [HT.sIx]
theorem cutD_from {xs : List D} {k : Nat} (h : k ≤ xs.length) : cutD xs (some (k : Int)) none = xs.drop k := by
  unfold cutD
  rw [sIx_nat _ _ _ h]
  simp only [HT.sIx]
  exact List.take_of_length_le (by simp)
theorem Sn.pl {s : Sn} (h : s.Ok) : plB 5 2 s.d = true := by
  have := h.rd.le
  refine plB_mk (by simp) fun x hx => ?_
  simp only [List.mem_cons, List.not_mem_nil, or_false] at hx
  rcases hx with rfl | rfl | rfl
  · rfl
  · rfl
  · refine plB_mk (by simp; omega) fun x hx => ?_
    simp only [List.mem_map] at hx
    obtain ⟨i, _, rfl⟩ := hx
    rfl
end DL
/-! plain values with no bools in them: equal as Python compares exactly if they are the same data -/
namespace DL
open PySem L2
def plN (w : Nat) : Nat → D → Bool
  | _, .non => true
  | _, .int _ => true
  | _, .str x => PyData.strOk x
  | 0, _ => false
  | n + 1, .tup xs => decide (xs.length ≤ w) && xs.all (plN w n)
  | n + 1, .lst xs => decide (xs.length ≤ w) && xs.all (plN w n)
  | _, _ => false
theorem plN_plB {w : Nat} : ∀ {n : Nat} {d : D}, plN w n d = true → plB w n d = true
  | n, .non, _ => by cases n <;> rfl
  | n, .int _, _ => by cases n <;> rfl
  | n, .str x, h => by cases n <;> simpa [plB, plN] using h
  | n, .bl _, h => by cases n <;> simp [plN] at h
  | 0, .tup _, h => by simp [plN] at h
  | 0, .lst _, h => by simp [plN] at h
  | n + 1, .tup xs, h => by
    simp only [plN, plB, Bool.and_eq_true, decide_eq_true_eq, List.all_eq_true] at h ⊢
    exact ⟨h.1, fun x hx => plN_plB (h.2 x hx)⟩
  | n + 1, .lst xs, h => by
    simp only [plN, plB, Bool.and_eq_true, decide_eq_true_eq, List.all_eq_true] at h ⊢
    exact ⟨h.1, fun x hx => plN_plB (h.2 x hx)⟩
  | n, .obj _, h => by cases n <;> simp [plN] at h
  | n, .ref _, h => by cases n <;> simp [plN] at h
  | n, .frz _, h => by cases n <;> simp [plN] at h
/-- as Python compares -/
def EqvN (n w : Nat) : Prop := ∀ (d : D), plN w n d = true → ∀ (m w' : Nat) (d' : D), plN w' m d' = true → ∀ p q, toPy d = some p → toPy d' = some q → (PyData.eqv p q = true ↔ d = d')
theorem eqvN_all {n w m w' : Nat} (ih : EqvN n w) : ∀ (xs ys : List D), (∀ x ∈ xs, plN w n x = true) → (∀ y ∈ ys, plN w' m y = true) → ∀ ps qs, toPys xs = some ps → toPys ys = some qs → (PyData.eqvAll ps qs = true ↔ xs = ys)
  | [], [], _, _, ps, qs, e1, e2 => by
    simp [toPys] at e1 e2; subst e1; subst e2; simp [PyData.eqvAll]
  | [], y :: ys, _, _, ps, qs, e1, e2 => by
    simp only [toPys] at e1 e2
    split at e2
    · cases e1; cases e2; simp [PyData.eqvAll]
    · cases e2
  | x :: xs, [], _, _, ps, qs, e1, e2 => by
    simp only [toPys] at e1 e2
    split at e1
    · cases e1; cases e2; simp [PyData.eqvAll]
    · cases e1
  | x :: xs, y :: ys, h1, h2, ps, qs, e1, e2 => by
    simp only [toPys] at e1 e2
    split at e1
    · next p ps1 a1 a2 =>
      split at e2
      · next q qs1 b1 b2 =>
        cases e1; cases e2
        have k1 := ih x (h1 x List.mem_cons_self) m w' y (h2 y List.mem_cons_self) p q a1 b1
        have k2 := eqvN_all ih xs ys (fun z hz => h1 z (List.mem_cons_of_mem _ hz)) (fun z hz => h2 z (List.mem_cons_of_mem _ hz)) ps1 qs1 a2 b2
        simp only [PyData.eqvAll, Bool.and_eq_true, k1, k2, List.cons.injEq]
      · cases e2
    · cases e1
theorem toPy_tup {xs : List D} {p : PyData} (h : toPy (.tup xs) = some p) : ∃ ps, toPys xs = some ps ∧ p = .tuple ps := by
  simp only [toPy] at h
  split at h
  · next ps hp => cases h; exact ⟨ps, hp, rfl⟩
  · cases h
theorem toPy_lst {xs : List D} {p : PyData} (h : toPy (.lst xs) = some p) : ∃ ps, toPys xs = some ps ∧ p = .list ps := by
  simp only [toPy] at h
  split at h
  · next ps hp => cases h; exact ⟨ps, hp, rfl⟩
  · cases h
theorem eqvN (w : Nat) : ∀ n, EqvN n w := by
  intro n
  induction n with
  | zero =>
    intro d hd m w' d' hd' p q e1 e2
    cases d with
    | non => cases d' with
      | tup ys => obtain ⟨_, _, rfl⟩ := toPy_tup e2; cases e1; simp [PyData.eqv]
      | lst ys => obtain ⟨_, _, rfl⟩ := toPy_lst e2; cases e1; simp [PyData.eqv]
      | bl _ => cases m <;> simp [plN] at hd'
      | _ => cases e1; cases e2 <;> simp [PyData.eqv]
    | int i => cases d' with
      | tup ys => obtain ⟨_, _, rfl⟩ := toPy_tup e2; cases e1; simp [PyData.eqv]
      | lst ys => obtain ⟨_, _, rfl⟩ := toPy_lst e2; cases e1; simp [PyData.eqv]
      | bl _ => cases m <;> simp [plN] at hd'
      | _ => cases e1; cases e2 <;> simp [PyData.eqv]
    | str x => cases d' with
      | tup ys => obtain ⟨_, _, rfl⟩ := toPy_tup e2; cases e1; simp [PyData.eqv]
      | lst ys => obtain ⟨_, _, rfl⟩ := toPy_lst e2; cases e1; simp [PyData.eqv]
      | bl _ => cases m <;> simp [plN] at hd'
      | _ => cases e1; cases e2 <;> simp [PyData.eqv]
    | _ => simp [plN] at hd
  | succ n ih =>
    intro d hd m w' d' hd' p q e1 e2
    cases d with
    | non => cases d' with
      | tup ys => obtain ⟨_, _, rfl⟩ := toPy_tup e2; cases e1; simp [PyData.eqv]
      | lst ys => obtain ⟨_, _, rfl⟩ := toPy_lst e2; cases e1; simp [PyData.eqv]
      | bl _ => cases m <;> simp [plN] at hd'
      | _ => cases e1; cases e2 <;> simp [PyData.eqv]
    | int i => cases d' with
      | tup ys => obtain ⟨_, _, rfl⟩ := toPy_tup e2; cases e1; simp [PyData.eqv]
      | lst ys => obtain ⟨_, _, rfl⟩ := toPy_lst e2; cases e1; simp [PyData.eqv]
      | bl _ => cases m <;> simp [plN] at hd'
      | _ => cases e1; cases e2 <;> simp [PyData.eqv]
    | str x => cases d' with
      | tup ys => obtain ⟨_, _, rfl⟩ := toPy_tup e2; cases e1; simp [PyData.eqv]
      | lst ys => obtain ⟨_, _, rfl⟩ := toPy_lst e2; cases e1; simp [PyData.eqv]
      | bl _ => cases m <;> simp [plN] at hd'
      | _ => cases e1; cases e2 <;> simp [PyData.eqv]
    | tup xs =>
      obtain ⟨ps, a1, rfl⟩ := toPy_tup e1
      cases d' with
      | tup ys =>
        obtain ⟨qs, a2, rfl⟩ := toPy_tup e2
        cases m with
        | zero => simp [plN] at hd'
        | succ m =>
          simp only [plN, Bool.and_eq_true, decide_eq_true_eq, List.all_eq_true] at hd hd'
          simp only [PyData.eqv, eqvN_all ih xs ys hd.2 hd'.2 ps qs a1 a2, D.tup.injEq]
      | lst ys => obtain ⟨_, _, rfl⟩ := toPy_lst e2; simp [PyData.eqv]
      | bl _ => cases m <;> simp [plN] at hd'
      | _ => cases e2 <;> simp [PyData.eqv]
    | lst xs =>
      obtain ⟨ps, a1, rfl⟩ := toPy_lst e1
      cases d' with
      | lst ys =>
        obtain ⟨qs, a2, rfl⟩ := toPy_lst e2
        cases m with
        | zero => simp [plN] at hd'
        | succ m =>
          simp only [plN, Bool.and_eq_true, decide_eq_true_eq, List.all_eq_true] at hd hd'
          simp only [PyData.eqv, eqvN_all ih xs ys hd.2 hd'.2 ps qs a1 a2, D.lst.injEq]
      | tup ys => obtain ⟨_, _, rfl⟩ := toPy_tup e2; simp [PyData.eqv]
      | bl _ => cases m <;> simp [plN] at hd'
      | _ => cases e2 <;> simp [PyData.eqv]
    | _ => simp [plN] at hd
theorem gEq_plN {w n w' m : Nat} {d d' : D} (h : plN w n d = true) (h' : plN w' m d' = true) (hn : n ≤ 64) (hm : m ≤ 64) (neg : Bool) (S : Sto) : ∃ b : Bool, gEqB neg d d' S = .ok (.bl (if neg then !b else b)) S ∧ (b = true ↔ d = d') := by
  obtain ⟨p, e1, e2⟩ := plB_shaped (plN_plB h) hn S
  obtain ⟨q, f1, f2⟩ := plB_shaped (plN_plB h') hm S
  refine ⟨PyData.eqv p q, by simp only [gEqB, e1, f1, e2, f2, and_self, if_true], ?_⟩
  have v1 : view S d = d := by cases d <;> first | rfl | (cases n <;> simp [plN] at h)
  have v2 : view S d' = d' := by cases d' <;> first | rfl | (cases m <;> simp [plN] at h')
  rw [v1] at e1
  rw [v2] at f1
  exact eqvN w n d h m w' d' h' p q e1 f1
/-- values of one kind, told by an injective function -/
theorem gEq_inj {α : Type} [DecidableEq α] {f : α → D} (hf : ∀ a b, f a = f b → a = b) {w n : Nat} {a b : α} (h : plN w n (f a) = true) (h' : plN w n (f b) = true) (hn : n ≤ 64) (neg : Bool) (S : Sto) : gEqB neg (f a) (f b) S = .ok (.bl (if neg then !decide (a = b) else decide (a = b))) S := by
  obtain ⟨c, e, i⟩ := gEq_plN h h' hn hn neg S
  have : c = decide (a = b) := by
    by_cases z : a = b
    · rw [decide_eq_true z]; exact i.mpr (by rw [z])
    · rw [decide_eq_false z]
      cases c with
      | false => rfl
      | true => exact absurd (hf a b (i.mp rfl)) z
  rw [e, this]
theorem plN_mono {w w' : Nat} (hw : w ≤ w') : ∀ {n m : Nat} {d : D}, n ≤ m → plN w n d = true → plN w' m d = true
  | n, m, .non, _, _ => by cases m <;> rfl
  | n, m, .bl _, _, h => by cases n <;> simp [plN] at h
  | n, m, .int _, _, _ => by cases m <;> rfl
  | n, m, .str x, _, h => by cases n <;> cases m <;> simpa [plN] using h
  | 0, _, .tup _, _, h => by simp [plN] at h
  | 0, _, .lst _, _, h => by simp [plN] at h
  | n + 1, m + 1, .tup xs, hl, h => by
    simp only [plN, Bool.and_eq_true, decide_eq_true_eq, List.all_eq_true] at h ⊢
    exact ⟨by omega, fun x hx => plN_mono hw (by omega) (h.2 x hx)⟩
  | n + 1, m + 1, .lst xs, hl, h => by
    simp only [plN, Bool.and_eq_true, decide_eq_true_eq, List.all_eq_true] at h ⊢
    exact ⟨by omega, fun x hx => plN_mono hw (by omega) (h.2 x hx)⟩
  | n, _, .obj _, _, h => by cases n <;> simp [plN] at h
  | n, _, .ref _, _, h => by cases n <;> simp [plN] at h
  | n, _, .frz _, _, h => by cases n <;> simp [plN] at h
theorem plN_tup {w n : Nat} {xs : List D} (h : xs.length ≤ w) (h2 : ∀ x ∈ xs, plN w n x = true) : plN w (n + 1) (.tup xs) = true := by
  simpa only [plN, Bool.and_eq_true, decide_eq_true_eq, List.all_eq_true] using ⟨h, h2⟩
theorem plN_lst {w n : Nat} {xs : List D} (h : xs.length ≤ w) (h2 : ∀ x ∈ xs, plN w n x = true) : plN w (n + 1) (.lst xs) = true := by
  simpa only [plN, Bool.and_eq_true, decide_eq_true_eq, List.all_eq_true] using ⟨h, h2⟩
theorem plN_int (w n : Nat) (i : Int) : plN w n (.int i) = true := by cases n <;> rfl
theorem plN_non (w n : Nat) : plN w n .non = true := by cases n <;> rfl
theorem plN_ints {w n : Nat} {l : List Int} (h : l.length ≤ w) : plN w (n + 1) (.tup (l.map D.int)) = true := plN_tup (by simpa using h) (fun x hx => by
  simp only [List.mem_map] at hx
  obtain ⟨i, _, rfl⟩ := hx
  exact plN_int _ _ _)
theorem plN_intsL {w n : Nat} {l : List Int} (h : l.length ≤ w) : plN w (n + 1) (.lst (l.map D.int)) = true := plN_lst (by simpa using h) (fun x hx => by
  simp only [List.mem_map] at hx
  obtain ⟨i, _, rfl⟩ := hx
  exact plN_int _ _ _)
theorem map_int_inj {a b : List Int} (h : a.map D.int = b.map D.int) : a = b := by
  have : ∀ (a b : List Int), a.map D.int = b.map D.int → a = b := by
    intro a
    induction a with
    | nil => intro b h; cases b with
      | nil => rfl
      | cons _ _ => simp at h
    | cons x a ih => intro b h; cases b with
      | nil => simp at h
      | cons y b => simp at h; rw [h.1, ih b h.2]
  exact this a b h
end DL
/-! many draws, and the loop over the cells -/
namespace DL
open PySem L2
/-- a comprehension each item of which draws -/
theorem lcL_draw {n : Nat} {c : Ct} {e : Ee} {ρ : Rho} {Pd : D → Prop} (h : ∀ x S, SrcAt n S → ∃ ρ1 y S', c.put x ρ = some ρ1 ∧ e ρ1 S = .ok y S' ∧ Pd y ∧ Upd n S S') : ∀ (xs : List D) (S : Sto), SrcAt n S → ∃ ys S', lcL c tYesD e ρ xs S = .ok ys S' ∧ ys.length = xs.length ∧ (∀ y ∈ ys, Pd y) ∧ Upd n S S'
  | [], S, hs => ⟨[], S, rfl, rfl, by simp, Upd.refl hs⟩
  | x :: xs, S, hs => by
    obtain ⟨ρ1, y, S1, h1, h2, h3, u1⟩ := h x S hs
    obtain ⟨ys, S2, h4, h5, h6, u2⟩ := lcL_draw h xs S1 u1.src
    refine ⟨y :: ys, S2, by simp [lcL, h1, h2, h4], by simp [h5], ?_, u1.trans u2⟩
    intro z hz
    rcases List.mem_cons.mp hz with rfl | hz
    · exact h3
    · exact h6 z hz
/-- snails out of their values -/
theorem sns_of : ∀ (ys : List D), (∀ y ∈ ys, ∃ s : Sn, y = s.d ∧ s.Ok) → ∃ ss : List Sn, ys = ss.map Sn.d ∧ ∀ s ∈ ss, s.Ok
  | [], _ => ⟨[], rfl, by simp⟩
  | y :: ys, h => by
    obtain ⟨s, e, hs⟩ := h y List.mem_cons_self
    obtain ⟨ss, e2, hss⟩ := sns_of ys fun z hz => h z (List.mem_cons_of_mem _ hz)
    refine ⟨s :: ss, by simp [e, e2], ?_⟩
    intro t ht
    rcases List.mem_cons.mp ht with rfl | ht
    · exact hs
    · exact hss t ht
/-- [_law_snail(source) for .. in range(..)] -/
theorem snails_spec {n i w : Nat} {f : Es} {ρ : Rho} {S S1 : Sto} {lo : Int} {m : Nat} (hs : SrcAt n S1) (hf : f ρ S = .ok (.rng lo m) S1) (hm : m ≤ 1000)
    (hv : ∀ d, ((wipeR ρ [w]).set w (some d))[i]? = some (some (.obj n))) :
    ∃ (ss : List Sn) (S' : Sto), eLc f (.nm w) tYesD (eCall F__law_snail [eVar i]) [w] ρ S = .ok (.lst (ss.map Sn.d)) S' ∧ ss.length = m ∧ (∀ s ∈ ss, s.Ok) ∧ Upd n S1 S' := by
  obtain ⟨ys, S', h1, h2, h3, u⟩ := lcL_draw (n := n) (c := .nm w) (e := eCall F__law_snail [eVar i]) (ρ := wipeR ρ [w]) (Pd := fun y => ∃ s : Sn, y = s.d ∧ s.Ok) (fun x S hS => by
    obtain ⟨s, S', e, hs, u⟩ := snail_spec hS
    have hi : eVar i ((wipeR ρ [w]).set w (some x)) S = .ok (.obj n) S := by simp [eVar, hv x]
    exact ⟨_, s.d, S', rfl, by simp [hi, e], ⟨s, rfl, hs⟩, u⟩) (rgN lo m) S1 hs
  obtain ⟨ss, rfl, hss⟩ := sns_of ys h3
  refine ⟨ss, S', ?_, by simpa [rgN_len] using h2, hss, u⟩
  rw [eLc_rng hf (by omega), h1]
  rfl
theorem Upd.at {n m : Nat} {S S' : Sto} (u : Upd n S S') (h : m ≠ n) : S'[m]? = S[m]? := u.oth m h
/-- the source just made -/
theorem src_new {S : Sto} {a b : Int} (h0 : 0 ≤ b) (h1 : b < 2147483648) : SrcAt S.length (S ++ [.lst [.int a, .int b]]) := ⟨a, b, by simp, h0, h1⟩
/-- for k in range(1 + min(len(script), c)) -/
theorem cells {ns : List Int} {c : Nat} (hc : c ≤ 60) : ∃ m : Nat, m ≤ 1 + c ∧ (1 + if (c : Int) < (ns.length : Int) then (c : Int) else (ns.length : Int)) = (m : Int) ∧ smallI (m : Int) = true := by
  by_cases h : (c : Int) < (ns.length : Int)
  · exact ⟨1 + c, by omega, by rw [if_pos h]; omega, smallI_mk (by omega) (by omega)⟩
  · exact ⟨1 + ns.length, by omega, by rw [if_neg h]; omega, smallI_mk (by omega) (by omega)⟩
/-- what a law gives back -/
theorem popR_top (b : Bool) (S : Sto) : ∃ S', popR 0 (.ok (.bl b) S) = .ok (.bl b) S' := by
  by_cases h : S.length ≤ 0
  · exact ⟨S, popR_le h⟩
  · refine ⟨[], ?_⟩
    simp only [popR, if_neg h]
    rfl
end DL
/-! heights, in plain words: no program here -/
namespace DL
def up (h x : Int) : Int := if h + x > 0 then h + x else 0
def beh (h : Int) (st : List Int) : Int := st.foldl up h
def low : List Int → Int
  | [] => 0
  | x :: xs => min 0 (x + low xs)
theorem low_le (st : List Int) : low st ≤ 0 := by cases st <;> simp only [low] <;> omega
theorem up_nn (h x : Int) : 0 ≤ up h x := by unfold up; split <;> omega
theorem beh_nil (h : Int) : beh h [] = h := rfl
theorem beh_cons (h x : Int) (xs : List Int) : beh h (x :: xs) = beh (up h x) xs := rfl
theorem beh_append (h : Int) (xs ys : List Int) : beh h (xs ++ ys) = beh (beh h xs) ys := by simp [beh]
theorem beh_nn : ∀ (st : List Int) (h : Int), 0 ≤ h → 0 ≤ beh h st
  | [], h, hh => hh
  | x :: xs, h, _ => beh_nn xs _ (up_nn h x)
/-- the height behind steps, in one formula -/
theorem beh_eq : ∀ (st : List Int) (h : Int), 0 ≤ h → beh h st = st.sum + max h (-(low st))
  | [], h, hh => by simp only [beh_nil, low, List.sum_nil]; omega
  | x :: xs, h, hh => by
    rw [beh_cons, beh_eq xs _ (up_nn h x)]
    have := low_le xs
    simp only [low, List.sum_cons, up]
    split <;> omega
theorem low_append (xs ys : List Int) : low (xs ++ ys) = min (low xs) (xs.sum + low ys) := by
  induction xs with
  | nil => have := low_le ys; simp [low]; omega
  | cons x xs ih =>
    simp only [List.cons_append, low, ih, List.sum_cons]
    omega
theorem low_take (st : List Int) (r : Nat) : low st ≤ low (st.take r) := by
  have := low_append (st.take r) (st.drop r)
  rw [List.take_append_drop] at this
  omega
theorem low_sum (st : List Int) : low st ≤ st.sum := by
  induction st with
  | nil => simp [low]
  | cons x xs ih => simp only [low, List.sum_cons]; omega
/-- the heights ahead of the rounds -/
def itb (st : List Int) (h : Int) : Nat → Int
  | 0 => h
  | q + 1 => beh (itb st h q) st
theorem itb_succ' (st : List Int) (h : Int) : ∀ q, itb st h (q + 1) = itb st (beh h st) q
  | 0 => rfl
  | q + 1 => by
    show beh (itb st h (q + 1)) st = beh (itb st (beh h st) q) st
    rw [itb_succ' st h q]
theorem itb_add (st : List Int) (h : Int) (a : Nat) : ∀ b, itb st h (a + b) = itb st (itb st h a) b
  | 0 => rfl
  | b + 1 => by
    show beh (itb st h (a + b)) st = beh (itb st (itb st h a) b) st
    rw [itb_add st h a b]
theorem itb_nn {st : List Int} {h : Int} (hh : 0 ≤ h) : ∀ q, 0 ≤ itb st h q
  | 0 => hh
  | q + 1 => beh_nn st _ (itb_nn hh q)
/-- the height t steps behind the start -/
def W (st : List Int) (h : Int) (t : Nat) : Int := beh (itb st h (t / st.length)) (st.take (t % st.length))
theorem W_nn {st : List Int} {h : Int} (hh : 0 ≤ h) (t : Nat) : 0 ≤ W st h t := beh_nn _ _ (itb_nn hh _)
theorem W_zero (st : List Int) (h : Int) : W st h 0 = h := by simp [W, itb, beh_nil]
theorem W_at {st : List Int} {h : Int} (hn : 0 < st.length) (q r : Nat) (hr : r < st.length) : W st h (q * st.length + r) = beh (itb st h q) (st.take r) := by
  unfold W
  have h1 : (q * st.length + r) / st.length = q := by
    rw [Nat.add_comm, Nat.add_mul_div_right _ _ hn, Nat.div_eq_of_lt hr]; omega
  have h2 : (q * st.length + r) % st.length = r := by
    rw [Nat.add_comm, Nat.add_mul_mod_self_right, Nat.mod_eq_of_lt hr]
  rw [h1, h2]
theorem W_at' {st : List Int} {h : Int} (hn : 0 < st.length) (q r : Nat) (hr : r ≤ st.length) : W st h (q * st.length + r) = beh (itb st h q) (st.take r) := by
  rcases Nat.lt_or_ge r st.length with hl | hl
  · exact W_at hn q r hl
  · have : r = st.length := by omega
    subst this
    have e := W_at (h := h) hn (q + 1) 0 hn
    rw [Nat.succ_mul] at e
    rw [show q * st.length + st.length = q * st.length + st.length + 0 by omega, e]
    simp [beh_nil, itb]
theorem W_round {st : List Int} {h : Int} (hn : 0 < st.length) (q : Nat) : W st h (q * st.length) = itb st h q := by
  have := W_at (h := h) hn q 0 hn
  simpa [beh_nil] using this
theorem beh_take_succ {st : List Int} {r : Nat} (hr : r < st.length) (h : Int) : beh h (st.take (r + 1)) = up (beh h (st.take r)) st[r] := by
  rw [List.take_succ_eq_append_getElem hr, beh_append]
  rfl
theorem W_succ {st : List Int} {h : Int} (hn : 0 < st.length) (t : Nat) : W st h (t + 1) = up (W st h t) (st[t % st.length]'(Nat.mod_lt _ hn)) := by
  have hr := Nat.mod_lt t hn
  have e : t = t / st.length * st.length + t % st.length := by rw [Nat.mul_comm]; exact (Nat.div_add_mod t st.length).symm
  have e1 : W st h t = beh (itb st h (t / st.length)) (st.take (t % st.length)) := rfl
  have e2 : W st h (t + 1) = beh (itb st h (t / st.length)) (st.take (t % st.length + 1)) := by
    rw [← W_at' (h := h) hn (t / st.length) (t % st.length + 1) (by omega)]
    congr 1
    omega
  rw [e1, e2, beh_take_succ hr]
/-! ### what goes on alike -/
def Stl (st : List Int) (h : Int) : Prop := (0 ≤ h + low st ∧ 0 ≤ st.sum) ∨ beh h st = h
instance (st : List Int) (h : Int) : Decidable (Stl st h) := by unfold Stl; exact inferInstance
def gn (st : List Int) (h : Int) : Int := beh h st - h
theorem Stl.gn_nn {st : List Int} {h : Int} (hh : 0 ≤ h) (s : Stl st h) : 0 ≤ gn st h := by
  rcases s with ⟨h1, h2⟩ | h1
  · unfold gn; rw [beh_eq _ _ hh]; omega
  · unfold gn; omega
theorem Stl.next {st : List Int} {h : Int} (hh : 0 ≤ h) (s : Stl st h) : Stl st (beh h st) ∧ gn st (beh h st) = gn st h := by
  rcases s with ⟨h1, h2⟩ | h1
  · have e := beh_eq st h hh
    have e1 : beh h st = h + st.sum := by omega
    have e2 := beh_eq st (h + st.sum) (by omega)
    rw [e1]
    refine ⟨.inl ⟨by omega, h2⟩, ?_⟩
    unfold gn
    omega
  · rw [h1]; exact ⟨.inr h1, rfl⟩
theorem Stl.itb {st : List Int} {h : Int} (hh : 0 ≤ h) (s : Stl st h) : ∀ q : Nat, itb st h q = h + q * gn st h ∧ Stl st (itb st h q) ∧ gn st (itb st h q) = gn st h
  | 0 => ⟨by simp [DL.itb], s, rfl⟩
  | q + 1 => by
    obtain ⟨e, s1, g1⟩ := Stl.itb hh s q
    have n := Stl.next (itb_nn (st := st) hh q) s1
    refine ⟨?_, n.1, n.2.trans g1⟩
    show beh (DL.itb st h q) st = _
    have : beh (DL.itb st h q) st = DL.itb st h q + gn st (DL.itb st h q) := by unfold gn; omega
    rw [this, g1, e]
    have : ((q + 1 : Nat) : Int) * gn st h = q * gn st h + gn st h := by
      rw [show ((q + 1 : Nat) : Int) = (q : Int) + 1 by omega, Int.add_mul]; omega
    omega
/-- within a round that goes on alike, all is as much higher as its beginning -/
theorem Stl.part {st : List Int} {h : Int} (hh : 0 ≤ h) (s : Stl st h) (q r : Nat) : beh (DL.itb st h q) (st.take r) = beh h (st.take r) + q * gn st h := by
  obtain ⟨e, _, _⟩ := Stl.itb hh s q
  rcases s with ⟨h1, h2⟩ | h1
  · have l := low_take st r
    have : beh h st = h + st.sum := by have := beh_eq st h hh; omega
    have g : gn st h = st.sum := by unfold gn; omega
    have gq : 0 ≤ (q : Int) * gn st h := by rw [g]; exact Int.mul_nonneg (by omega) h2
    rw [e, beh_eq _ _ (by omega), beh_eq _ _ hh]
    omega
  · have g : gn st h = 0 := by unfold gn; omega
    rw [e, g]; simp
/-- the first number of rounds behind which all goes on alike -/
structure Sets (st : List Int) (h : Int) (L : Nat) : Prop where
  s : Stl st (itb st h L)
  n : ∀ q, q < L → ¬ Stl st (itb st h q)
theorem sets_up {st : List Int} {h : Int} (hh : 0 ≤ h) (hs : 0 ≤ st.sum) : ∃ L, Sets st h L ∧ L ≤ 1 := by
  by_cases s : Stl st h
  · exact ⟨0, ⟨s, fun q hq => absurd hq (by omega)⟩, by omega⟩
  · refine ⟨1, ⟨.inl ⟨?_, hs⟩, ?_⟩, by omega⟩
    · show 0 ≤ beh h st + low st
      rw [beh_eq st h hh]; omega
    · intro q hq
      have : q = 0 := by omega
      subst this
      exact s
theorem sets_down {st : List Int} (hs : st.sum < 0) : ∀ (k : Nat) (h : Int), 0 ≤ h → h ≤ max 0 (st.sum - low st) + k → ∃ L, Sets st h L ∧ L ≤ k + 1 := by
  intro k
  induction k with
  | zero =>
    intro h hh hk
    by_cases s : Stl st h
    · exact ⟨0, ⟨s, fun q hq => absurd hq (by omega)⟩, by omega⟩
    · have l := low_sum st
      refine ⟨1, ⟨.inr ?_, ?_⟩, by omega⟩
      · show beh (beh h st) st = beh h st
        rw [beh_eq st _ (beh_nn _ _ hh), beh_eq st h hh]
        omega
      · intro q hq
        have : q = 0 := by omega
        subst this
        exact s
  | succ k ih =>
    intro h hh hk
    by_cases s : Stl st h
    · exact ⟨0, ⟨s, fun q hq => absurd hq (by omega)⟩, by omega⟩
    · have e := beh_eq st h hh
      have l := low_sum st
      obtain ⟨L, ⟨s1, s2⟩, hL⟩ := ih (beh h st) (beh_nn _ _ hh) (by omega)
      refine ⟨L + 1, ⟨?_, ?_⟩, by omega⟩
      · rw [itb_succ']; exact s1
      · intro q hq
        cases q with
        | zero => exact s
        | succ q => rw [itb_succ']; exact s2 q (by omega)
theorem sets_ex {st : List Int} {h : Int} (hh : 0 ≤ h) (h5 : h ≤ 5) : ∃ L, Sets st h L ∧ L ≤ 6 := by
  by_cases hs : 0 ≤ st.sum
  · obtain ⟨L, a, b⟩ := sets_up hh hs
    exact ⟨L, a, by omega⟩
  · obtain ⟨L, a, b⟩ := sets_down (st := st) (by omega) 5 h hh (by omega)
    exact ⟨L, a, by omega⟩
/-- heights from there on -/
theorem Sets.itb {st : List Int} {h : Int} {L : Nat} (hh : 0 ≤ h) (s : Sets st h L) (j : Nat) : DL.itb st h (L + j) = DL.itb st h L + j * gn st (DL.itb st h L) := by
  rw [itb_add]
  exact (Stl.itb (itb_nn hh L) s.s j).1
end DL
/-! sequences that rise alike with each turn; calendars -/
namespace DL
def rs (a : List Int) (r : Int) (i : Nat) : Int := a.getD (i % a.length) 0 + (i / a.length : Nat) * r
theorem rs_lt {a : List Int} {r : Int} {i : Nat} (h : i < a.length) : rs a r i = a[i] := by
  simp [rs, Nat.mod_eq_of_lt h, Nat.div_eq_of_lt h, h]
theorem rs_add {a : List Int} (h : 0 < a.length) (r : Int) (i : Nat) : rs a r (i + a.length) = rs a r i + r := by
  unfold rs
  rw [Nat.add_mod_right, Nat.add_div_right _ h]
  have : ((i / a.length + 1 : Nat) : Int) * r = (i / a.length : Nat) * r + r := by
    rw [show ((i / a.length + 1 : Nat) : Int) = ((i / a.length : Nat) : Int) + 1 by omega, Int.add_mul]; omega
  omega
theorem rs_add_mul {a : List Int} (h : 0 < a.length) (r : Int) (i q : Nat) : rs a r (i + q * a.length) = rs a r i + q * r := by
  induction q with
  | zero => simp
  | succ q ih =>
    rw [Nat.succ_mul, ← Nat.add_assoc, rs_add h, ih]
    have : ((q + 1 : Nat) : Int) * r = q * r + r := by
      rw [show ((q + 1 : Nat) : Int) = (q : Int) + 1 by omega, Int.add_mul]; omega
    omega
theorem rs_ext {a : List Int} {r : Int} {f : Nat → Int} (h : 0 < a.length) (h1 : ∀ i, i < a.length → f i = rs a r i) (h2 : ∀ i, f (i + a.length) = f i + r) (i : Nat) : f i = rs a r i := by
  induction i using Nat.strongRecOn with
  | ind i ih =>
    rcases Nat.lt_or_ge i a.length with hl | hl
    · exact h1 i hl
    · have e : i = (i - a.length) + a.length := by omega
      rw [e, h2, rs_add h, ih _ (by omega)]
/-- p places on, all is k more -/
def Per (a : List Int) (r : Int) (p : Nat) (k : Int) : Prop := ∀ i, rs a r (i + p) = rs a r i + k
theorem per_of {a : List Int} {r : Int} {p : Nat} {k : Int} (h : 0 < a.length) (h1 : ∀ j, j < a.length → rs a r (j + p) = rs a r j + k) : Per a r p k := by
  intro i
  induction i using Nat.strongRecOn with
  | ind i ih =>
    rcases Nat.lt_or_ge i a.length with hl | hl
    · exact h1 i hl
    · have e : i = (i - a.length) + a.length := by omega
      have e2 : i + p = (i - a.length + p) + a.length := by omega
      have := ih (i - a.length) (by omega)
      rw [e2, rs_add h, this]
      conv => rhs; rw [e]
      rw [rs_add h]
      omega
/-- the list that the program compares -/
def turned (a : List Int) (r : Int) (p : Nat) : List Int := a.drop p ++ (a.take p).map (· + r)
theorem turned_get {a : List Int} {r : Int} {p : Nat} (hp : p ≤ a.length) (j : Nat) (hj : j < a.length) : (turned a r p)[j]? = some (rs a r (j + p)) := by
  unfold turned
  have hpos : 0 < a.length := by omega
  rcases Nat.lt_or_ge (j + p) a.length with hl | hl
  · rw [List.getElem?_append_left (by simp; omega), List.getElem?_drop, Nat.add_comm p j, List.getElem?_eq_getElem hl, rs_lt hl]
  · rw [List.getElem?_append_right (by simp; omega)]
    simp only [List.length_drop, List.getElem?_map]
    have hx : j - (a.length - p) < p := by omega
    rw [List.getElem?_take_of_lt hx]
    have hy : j - (a.length - p) < a.length := by omega
    rw [List.getElem?_eq_getElem hy]
    have e : j + p = (j - (a.length - p)) + a.length := by omega
    rw [e, rs_add hpos, rs_lt hy]
    simp
theorem turned_len (a : List Int) (r : Int) {p : Nat} (hp : p ≤ a.length) : (turned a r p).length = a.length := by simp [turned]; omega
theorem turned_iff {a : List Int} {r : Int} {p : Nat} {k : Int} (h : 0 < a.length) (hp : p ≤ a.length) : turned a r p = a.map (· + k) ↔ Per a r p k := by
  constructor
  · intro e
    refine per_of h fun j hj => ?_
    have := turned_get (r := r) hp j hj
    rw [e, List.getElem?_map, List.getElem?_eq_getElem hj] at this
    simp only [Option.map_some, Option.some.injEq] at this
    rw [← this, rs_lt hj]
  · intro e
    refine List.ext_getElem? fun j => ?_
    rcases Nat.lt_or_ge j a.length with hj | hj
    · rw [turned_get hp j hj, e j, List.getElem?_map, List.getElem?_eq_getElem hj, rs_lt hj]; rfl
    · rw [List.getElem?_eq_none (by rw [turned_len _ _ hp]; exact hj), List.getElem?_eq_none (by simpa using hj)]
theorem rs_take {a : List Int} {r k : Int} {p : Nat} (hp : 1 ≤ p) (hp2 : p ≤ a.length) (h : Per a r p k) (i : Nat) : rs (a.take p) k i = rs a r i := by
  have hl : (a.take p).length = p := by simp; omega
  refine (rs_ext (a := a.take p) (r := k) (f := rs a r) (by omega) (fun i hi => ?_) (fun i => ?_) i).symm
  · rw [rs_lt (by omega), rs_lt hi]; simp
  · rw [hl]; exact h i
/-- a rotation backwards -/
theorem rs_back {a : List Int} {r x : Int} (h : 0 < a.length) (hx : x + r = a[a.length - 1]) (i : Nat) : rs (x :: a.dropLast) r (i + 1) = rs a r i := by
  have hl : (x :: a.dropLast).length = a.length := by simp; omega
  refine rs_ext (a := a) (r := r) (f := fun i => rs (x :: a.dropLast) r (i + 1)) h (fun i hi => ?_) (fun i => ?_) i
  · show rs (x :: a.dropLast) r (i + 1) = _
    rcases Nat.lt_or_ge (i + 1) a.length with hj | hj
    · rw [rs_lt (by omega), rs_lt hi]
      simp
    · have e : i + 1 = 0 + (x :: a.dropLast).length := by omega
      rw [e, rs_add (by omega), rs_lt (by simp), rs_lt hi]
      simp only [List.getElem_cons_zero]
      rw [hx]
      congr 1
      omega
  · show rs (x :: a.dropLast) r (i + a.length + 1) = rs (x :: a.dropLast) r (i + 1) + r
    rw [show i + a.length + 1 = (i + 1) + (x :: a.dropLast).length by omega, rs_add (by omega)]
theorem rs_back0 {a : List Int} {r x : Int} : rs (x :: a) r 0 = x := by rw [rs_lt (by simp)]; rfl
/-- as short as can be -/
def LeastP (a : List Int) (r : Int) : Prop := ∀ (p : Nat) (k : Int), 1 ≤ p → p < a.length → a.length % p = 0 → r * p = k * a.length → ¬ Per a r p k
theorem LeastP.back {a : List Int} {r x : Int} (h : 0 < a.length) (hx : x + r = a[a.length - 1]) (hl : LeastP a r) : LeastP (x :: a.dropLast) r := by
  have hle : (x :: a.dropLast).length = a.length := by simp; omega
  intro p k h1 h2 h3 h4 h5
  rw [hle] at h2 h3 h4
  refine hl p k h1 h2 h3 h4 fun i => ?_
  have := h5 (i + 1)
  rw [rs_back h hx, show i + 1 + p = i + p + 1 by omega, rs_back h hx] at this
  exact this
/-! ### the least turn -/
def ltOk (a : List Int) (r : Int) (p : Nat) : Bool := decide (a.length % p = 0) && decide (r * p % (a.length : Int) = 0) && decide (turned a r p = a.map (· + r * p / (a.length : Int)))
def ltFrom (a : List Int) (r : Int) : Nat → Nat → Nat
  | 0, _ => a.length
  | n + 1, p => if ltOk a r p then p else ltFrom a r n (p + 1)
def lturn (a : List Int) (r : Int) : Nat := ltFrom a r a.length 1
theorem ltFrom_spec {a : List Int} {r : Int} : ∀ (n p : Nat), p + n = a.length + 1 → 1 ≤ p → 0 < a.length →
    1 ≤ ltFrom a r n p ∧ ltFrom a r n p ≤ a.length ∧ p ≤ ltFrom a r n p + 1 ∧ (ltFrom a r n p < p ∧ ltFrom a r n p = a.length ∨ p ≤ ltFrom a r n p ∧ (ltOk a r (ltFrom a r n p) = true)) ∧ ∀ q, p ≤ q → q < ltFrom a r n p → ltOk a r q = false
  | 0, p, h, h1, h0 => by
    simp only [ltFrom]
    refine ⟨h0, Nat.le_refl _, by omega, .inl ⟨by omega, by trivial⟩, fun q hq hq2 => by omega⟩
  | n + 1, p, h, h1, h0 => by
    simp only [ltFrom]
    by_cases hk : ltOk a r p = true
    · rw [if_pos hk]
      exact ⟨h1, by omega, by omega, .inr ⟨Nat.le_refl _, hk⟩, fun q hq hq2 => by omega⟩
    · rw [if_neg hk]
      obtain ⟨a1, a2, a3, a4, a5⟩ := ltFrom_spec (a := a) (r := r) n (p + 1) (by omega) (by omega) h0
      refine ⟨a1, a2, by omega, ?_, ?_⟩
      · rcases a4 with ⟨b1, b2⟩ | ⟨b1, b2⟩
        · rcases Nat.lt_or_ge (ltFrom a r n (p + 1)) p with hl | hl
          · exact .inl ⟨hl, b2⟩
          · exfalso
            have : p = a.length := by omega
            have hk2 : ltOk a r a.length = true := by
              have : (r * (a.length : Int)) / (a.length : Int) = r := Int.mul_ediv_cancel _ (by omega)
              simp only [ltOk, Nat.mod_self, Int.mul_emod_left, decide_true, Bool.true_and, decide_eq_true_eq, this]
              simp [turned]
            rw [← this] at hk2
            exact hk hk2
        · exact .inr ⟨by omega, b2⟩
      · intro q hq hq2
        rcases Nat.lt_or_ge p q with hl | hl
        · exact a5 q (by omega) hq2
        · have : q = p := by omega
          rw [this]
          simpa using hk
theorem lturn_spec {a : List Int} {r : Int} (h0 : 0 < a.length) : 1 ≤ lturn a r ∧ lturn a r ≤ a.length ∧ ltOk a r (lturn a r) = true ∧ ∀ q, 1 ≤ q → q < lturn a r → ltOk a r q = false := by
  obtain ⟨a1, a2, a3, a4, a5⟩ := ltFrom_spec (a := a) (r := r) a.length 1 (by omega) (by omega) h0
  refine ⟨a1, a2, ?_, a5⟩
  rcases a4 with ⟨b1, b2⟩ | ⟨b1, b2⟩
  · exact absurd b1 (by show ¬ ltFrom a r a.length 1 < 1; omega)
  · exact b2
theorem ltOk_iff {a : List Int} {r : Int} {p : Nat} (h0 : 0 < a.length) (hp : p ≤ a.length) : ltOk a r p = true ↔ a.length % p = 0 ∧ r * p % (a.length : Int) = 0 ∧ Per a r p (r * p / (a.length : Int)) := by
  simp only [ltOk, Bool.and_eq_true, decide_eq_true_eq, turned_iff h0 hp, and_assoc]
/-- what the program makes of a turn and its rise -/
theorem lturn_take {a : List Int} {r : Int} (h0 : 0 < a.length) : (∀ i, rs (a.take (lturn a r)) (r * lturn a r / (a.length : Int)) i = rs a r i) ∧ LeastP (a.take (lturn a r)) (r * lturn a r / (a.length : Int)) ∧ (a.take (lturn a r)).length = lturn a r := by
  obtain ⟨a1, a2, a3, a4⟩ := lturn_spec (r := r) h0
  obtain ⟨b1, b2, b3⟩ := (ltOk_iff h0 a2).mp a3
  have hl : (a.take (lturn a r)).length = lturn a r := by simp; omega
  have heq := rs_take a1 a2 b3
  refine ⟨heq, ?_, hl⟩
  intro p k h1 h2 h3 h4 h5
  rw [hl] at h2 h3 h4
  have hf := a4 p h1 h2
  have hm : (a.length : Int) ≠ 0 := by omega
  have hP : ((lturn a r : Nat) : Int) ≠ 0 := by omega
  have hr : r * (lturn a r : Int) / (a.length : Int) * (a.length : Int) = r * (lturn a r : Int) := Int.ediv_mul_cancel (Int.dvd_of_emod_eq_zero b2)
  -- k m = r p
  have key : k * (a.length : Int) = r * p := by
    refine Int.eq_of_mul_eq_mul_right hP ?_
    calc k * (a.length : Int) * (lturn a r : Int) = (k * (lturn a r : Int)) * (a.length : Int) := by rw [Int.mul_assoc, Int.mul_comm (a.length : Int), ← Int.mul_assoc]
      _ = (r * (lturn a r : Int) / (a.length : Int) * p) * (a.length : Int) := by rw [h4]
      _ = (r * (lturn a r : Int) / (a.length : Int) * (a.length : Int)) * p := by rw [Int.mul_assoc, Int.mul_comm (p : Int), ← Int.mul_assoc]
      _ = r * (lturn a r : Int) * p := by rw [hr]
      _ = r * p * (lturn a r : Int) := by rw [Int.mul_assoc, Int.mul_comm (lturn a r : Int), ← Int.mul_assoc]
  have hok : ltOk a r p = true := by
    refine (ltOk_iff h0 (by omega)).mpr ⟨?_, ?_, ?_⟩
    · exact Nat.mod_eq_zero_of_dvd (Nat.dvd_trans (Nat.dvd_of_mod_eq_zero h3) (Nat.dvd_of_mod_eq_zero b1))
    · rw [← key]; exact Int.mul_emod_left _ _
    · rw [← key, Int.mul_ediv_cancel _ hm]
      intro i
      have := h5 i
      rwa [heq, heq] at this
  rw [hok] at hf
  cases hf
/-! ### calendars: again = [] is never -/
structure Cal where
  early : List Int
  again : List Int
  rise : Int
deriving DecidableEq
/-- the minute with depth i + 1 -/
def Cal.at (c : Cal) (i : Nat) : Option Int := if i < c.early.length then some (c.early.getD i 0) else if c.again.isEmpty then none else some (rs c.again c.rise (i - c.early.length))
/-- early, backwards, taken into the turn as far as can be -/
def backR (r : Int) : List Int → List Int → List Int × List Int
  | [], a => ([], a)
  | x :: e, a => if x + r = a.getD (a.length - 1) 0 then backR r e (x :: a.dropLast) else (x :: e, a)
theorem backR_spec {r : Int} : ∀ (e a : List Int), 0 < a.length → LeastP a r → ∃ e' a', backR r e a = (e', a') ∧ a'.length = a.length ∧ LeastP a' r ∧ (∀ i, (Cal.mk e'.reverse a' r).at i = (Cal.mk e.reverse a r).at i) ∧ (∀ x l, e' = x :: l → x + r ≠ a'.getD (a'.length - 1) 0) ∧ e'.length ≤ e.length
  | [], a, h, hl => ⟨[], a, rfl, rfl, hl, fun _ => rfl, (fun _ _ h => by cases h), Nat.le_refl _⟩
  | x :: e, a, h, hl => by
    unfold backR
    by_cases hx : x + r = a.getD (a.length - 1) 0
    · rw [if_pos hx]
      have hlast : a.getD (a.length - 1) 0 = a[a.length - 1] := by simp [List.getD, List.getElem?_eq_getElem (show a.length - 1 < a.length by omega)]
      rw [hlast] at hx
      have hle : (x :: a.dropLast).length = a.length := by simp; omega
      obtain ⟨e', a', h1, h2, h3, h4, h5, h6⟩ := backR_spec e (x :: a.dropLast) (by omega) (hl.back h hx)
      refine ⟨e', a', h1, by omega, h3, fun i => ?_, h5, by simp; omega⟩
      rw [h4 i]
      have ha : a.isEmpty = false := by cases a with
        | nil => simp at h
        | cons _ _ => rfl
      unfold Cal.at
      simp only [List.length_reverse, List.length_cons, List.isEmpty_cons, ha, Bool.false_eq_true, if_false, List.reverse_cons, List.length_append, List.length_nil]
      rcases Nat.lt_trichotomy i e.length with hi | hi | hi
      · rw [if_pos hi, if_pos (by omega)]
        simp [List.getD, List.getElem?_append_left (show i < e.reverse.length by simpa using hi)]
      · subst hi
        rw [if_neg (by omega), if_pos (by omega), Nat.sub_self, rs_back0]
        simp [List.getD]
      · rw [if_neg (by omega), if_neg (by omega), show i - e.length = (i - (e.length + 1)) + 1 by omega, rs_back h hx]
    · rw [if_neg hx]
      refine ⟨x :: e, a, rfl, rfl, hl, fun _ => rfl, ?_, Nat.le_refl _⟩
      intro y l h2
      cases h2
      exact hx
end DL
/-! when snails are out -/
namespace DL
def mx (st : List Int) (h : Int) : Nat → Int
  | 0 => h
  | t + 1 => max (mx st h t) (W st h (t + 1))
theorem W_le_mx {st : List Int} {h : Int} : ∀ (t u : Nat), u ≤ t → W st h u ≤ mx st h t
  | 0, u, hu => by
    have : u = 0 := by omega
    subst this
    rw [W_zero]; exact Int.le_refl _
  | t + 1, u, hu => by
    simp only [mx]
    rcases Nat.lt_or_ge t u with hl | hl
    · have : u = t + 1 := by omega
      subst this
      omega
    · have := W_le_mx (st := st) (h := h) t u hl
      omega
theorem mx_is {st : List Int} {h : Int} : ∀ t, ∃ u, u ≤ t ∧ mx st h t = W st h u
  | 0 => ⟨0, Nat.le_refl _, (W_zero st h).symm⟩
  | t + 1 => by
    obtain ⟨u, hu, e⟩ := mx_is (st := st) (h := h) t
    simp only [mx]
    rcases Int.le_total (mx st h t) (W st h (t + 1)) with hl | hl
    · exact ⟨t + 1, Nat.le_refl _, by omega⟩
    · exact ⟨u, by omega, by omega⟩
theorem mx_nn {st : List Int} {h : Int} (hh : 0 ≤ h) (t : Nat) : 0 ≤ mx st h t := by
  have := W_le_mx (st := st) (h := h) t 0 (by omega)
  rw [W_zero] at this
  omega
/-- the first time at which a height is reached -/
def IsT (st : List Int) (h d : Int) (T : Nat) : Prop := d ≤ W st h T ∧ ∀ u, u < T → W st h u < d
theorem IsT.uniq {st : List Int} {h d : Int} {T U : Nat} (a : IsT st h d T) (b : IsT st h d U) : T = U := by
  rcases Nat.lt_trichotomy T U with hl | hl | hl
  · have := b.2 T hl; have := a.1; omega
  · exact hl
  · have := a.2 U hl; have := b.1; omega
def mn (a : Int) (T : Nat) : Int := if T = 0 then 0 else a + T
def IsOut (a : Int) (st : List Int) (h d : Int) : Option Int → Prop
  | some m => ∃ T, IsT st h d T ∧ m = mn a T
  | none => ∀ T, W st h T < d
theorem IsOut.uniq {a : Int} {st : List Int} {h d : Int} {x y : Option Int} (p : IsOut a st h d x) (q : IsOut a st h d y) : x = y := by
  cases x with
  | none =>
    cases y with
    | none => rfl
    | some m =>
      obtain ⟨T, ht, _⟩ := q
      have := p T; have := ht.1; omega
  | some m =>
    obtain ⟨T, ht, e⟩ := p
    cases y with
    | none => have := q T; have := ht.1; omega
    | some m' =>
      obtain ⟨U, hu, e'⟩ := q
      rw [e, e', ht.uniq hu]
/-- the minutes at which the heights 1, 2 .. are first reached within t steps -/
def rcs (a : Int) (st : List Int) (h : Int) : Nat → List Int
  | 0 => List.replicate h.toNat 0
  | t + 1 => rcs a st h t ++ List.replicate (W st h (t + 1) - (rcs a st h t).length).toNat (a + ((t + 1 : Nat) : Int))
theorem rcs_len {a : Int} {st : List Int} {h : Int} (hh : 0 ≤ h) : ∀ t, ((rcs a st h t).length : Int) = mx st h t
  | 0 => by simp [rcs, mx]; omega
  | t + 1 => by
    have ih := rcs_len (a := a) (st := st) hh t
    simp only [rcs, mx, List.length_append, List.length_replicate]
    omega
theorem rcs_get {a : Int} {st : List Int} {h : Int} (hh : 0 ≤ h) : ∀ (t i : Nat), i < (rcs a st h t).length → ∃ T, T ≤ t ∧ IsT st h ((i : Int) + 1) T ∧ (rcs a st h t)[i]? = some (mn a T)
  | 0, i, hi => by
    simp only [rcs, List.length_replicate] at hi
    refine ⟨0, Nat.le_refl _, ⟨by rw [W_zero]; omega, fun u hu => by omega⟩, ?_⟩
    simp only [rcs]
    rw [List.getElem?_replicate, if_pos hi]
    rfl
  | t + 1, i, hi => by
    have hl := rcs_len (a := a) (st := st) hh t
    rcases Nat.lt_or_ge i (rcs a st h t).length with hc | hc
    · obtain ⟨T, h1, h2, h3⟩ := rcs_get hh t i hc
      refine ⟨T, by omega, h2, ?_⟩
      simp only [rcs]
      rw [List.getElem?_append_left hc, h3]
    · simp only [rcs, List.length_append, List.length_replicate] at hi
      refine ⟨t + 1, Nat.le_refl _, ⟨by omega, fun u hu => ?_⟩, ?_⟩
      · have := W_le_mx (st := st) (h := h) t u (by omega)
        omega
      · simp only [rcs]
        rw [List.getElem?_append_right hc, List.getElem?_replicate, if_pos (by omega)]
        simp [mn]
theorem rcs_mono {a : Int} {st : List Int} {h : Int} (t : Nat) : ∀ k, ∃ l, rcs a st h (t + k) = rcs a st h t ++ l
  | 0 => ⟨[], by simp⟩
  | k + 1 => by
    obtain ⟨l, e⟩ := rcs_mono (a := a) (st := st) (h := h) t k
    refine ⟨l ++ List.replicate (W st h (t + k + 1) - (rcs a st h (t + k)).length).toNat (a + ((t + k + 1 : Nat) : Int)), ?_⟩
    show rcs a st h (t + k + 1) = _
    simp only [rcs]
    rw [← List.append_assoc, ← e]
theorem mx_le {st : List Int} {h : Int} (hn : 0 < st.length) (hb : ∀ x ∈ st, x ≤ 3) (hh : 0 ≤ h) : ∀ t : Nat, mx st h t ≤ h + 3 * t ∧ W st h t ≤ h + 3 * t
  | 0 => by simp [mx, W_zero]
  | t + 1 => by
    obtain ⟨h1, h2⟩ := mx_le hn hb hh t
    have h3 : W st h (t + 1) ≤ h + 3 * ((t + 1 : Nat) : Int) := by
      rw [W_succ hn]
      have := hb _ (List.getElem_mem (Nat.mod_lt t hn))
      have := W_nn (st := st) hh t
      unfold up
      split <;> omega
    refine ⟨?_, h3⟩
    simp only [mx]
    omega
/-! ### a snail that gains no more -/
section
variable {st : List Int} {h : Int} {L : Nat}
theorem W_div (hn : 0 < st.length) (t : Nat) : t = t / st.length * st.length + t % st.length := by rw [Nat.mul_comm]; exact (Nat.div_add_mod t st.length).symm
theorem W_late (hn : 0 < st.length) (hh : 0 ≤ h) (s : Sets st h L) (j r : Nat) (hr : r < st.length) : W st h ((L + j) * st.length + r) = W st h (L * st.length + r) + j * gn st (itb st h L) := by
  rw [W_at hn _ _ hr, W_at hn _ _ hr, itb_add]
  exact Stl.part (itb_nn hh L) s.s j r
theorem never_more (hn : 0 < st.length) (hh : 0 ≤ h) (s : Sets st h L) (hg : gn st (itb st h L) = 0) (t : Nat) : W st h t ≤ mx st h ((L + 1) * st.length) := by
  have hr := Nat.mod_lt t hn
  rcases Nat.lt_or_ge t ((L + 1) * st.length) with hl | hl
  · exact W_le_mx _ _ (by omega)
  · have hq : L + 1 ≤ t / st.length := (Nat.le_div_iff_mul_le hn).mpr hl
    have e := W_late hn hh s (t / st.length - L) (t % st.length) hr
    rw [show L + (t / st.length - L) = t / st.length by omega, ← W_div hn t, hg, Int.mul_zero, Int.add_zero] at e
    rw [e]
    refine W_le_mx _ _ ?_
    rw [Nat.succ_mul]; omega
/-! ### a snail that gains -/
theorem gain_sum (hh : 0 ≤ h) (s : Sets st h L) (hg : 0 < gn st (itb st h L)) : st.sum = gn st (itb st h L) := by
  rcases s.s with ⟨h1, h2⟩ | h1
  · have := beh_eq st (itb st h L) (itb_nn hh L)
    unfold gn; omega
  · unfold gn at hg; omega
theorem W_more (hn : 0 < st.length) (hh : 0 ≤ h) (s : Sets st h L) (t : Nat) (ht : L * st.length ≤ t) : W st h (t + st.length) = W st h t + gn st (itb st h L) := by
  have hr := Nat.mod_lt t hn
  have hq : L ≤ t / st.length := (Nat.le_div_iff_mul_le hn).mpr ht
  have e := W_late hn hh s (t / st.length - L) (t % st.length) hr
  have e2 := W_late hn hh s (t / st.length - L + 1) (t % st.length) hr
  rw [show L + (t / st.length - L) = t / st.length by omega, ← W_div hn t] at e
  have hx : (L + (t / st.length - L + 1)) * st.length + t % st.length = t + st.length := by
    rw [show L + (t / st.length - L + 1) = t / st.length + 1 by omega, Nat.succ_mul]
    have := W_div hn t
    omega
  rw [hx] at e2
  rw [e2, e]
  have : ((t / st.length - L + 1 : Nat) : Int) * gn st (itb st h L) = (t / st.length - L : Nat) * gn st (itb st h L) + gn st (itb st h L) := by
    rw [show ((t / st.length - L + 1 : Nat) : Int) = ((t / st.length - L : Nat) : Int) + 1 by omega, Int.add_mul]; omega
  omega
theorem beh_mono {x y : Int} (hx : 0 ≤ x) (hxy : x ≤ y) (st : List Int) : beh x st ≤ beh y st := by
  rw [beh_eq _ _ hx, beh_eq _ _ (by omega)]
  omega
theorem W_up (hn : 0 < st.length) (hh : 0 ≤ h) (hs : 0 ≤ st.sum) (t : Nat) : W st h t ≤ W st h (t + st.length) := by
  unfold W
  rw [Nat.add_mod_right, Nat.add_div_right _ hn]
  refine beh_mono (itb_nn hh _) ?_ _
  show itb st h (t / st.length) ≤ beh (itb st h (t / st.length)) st
  rw [beh_eq _ _ (itb_nn hh _)]
  omega
theorem W_ups (hn : 0 < st.length) (hh : 0 ≤ h) (hs : 0 ≤ st.sum) (t : Nat) : ∀ k : Nat, W st h t ≤ W st h (t + k * st.length)
  | 0 => by simp
  | k + 1 => by
    have := W_ups hn hh hs t k
    have := W_up (h := h) hn hh hs (t + k * st.length)
    rw [Nat.succ_mul, ← Nat.add_assoc]
    omega
theorem W_late_le (hn : 0 < st.length) (hh : 0 ≤ h) (hs : 0 ≤ st.sum) (L : Nat) {t u : Nat} (ht : (L + 1) * st.length ≤ t) (hu : u ≤ t) : ∃ v, L * st.length ≤ v ∧ v ≤ t ∧ W st h u ≤ W st h v := by
  rcases Nat.lt_or_ge u (L * st.length) with hl | hl
  · have hr := Nat.mod_lt u hn
    have hq : u / st.length < L := (Nat.div_lt_iff_lt_mul hn).mpr hl
    refine ⟨L * st.length + u % st.length, by omega, by rw [Nat.succ_mul] at ht; omega, ?_⟩
    have := W_ups hn hh hs u (L - u / st.length)
    have e : u + (L - u / st.length) * st.length = L * st.length + u % st.length := by
      rw [Nat.mul_comm, Nat.mul_sub, Nat.mul_comm st.length L, Nat.mul_comm st.length (u / st.length)]
      have := W_div hn u
      have : u / st.length * st.length ≤ L * st.length := Nat.mul_le_mul_right _ (by omega)
      omega
    rwa [e] at this
  · exact ⟨u, hl, hu, Int.le_refl _⟩
theorem mx_more (hn : 0 < st.length) (hh : 0 ≤ h) (s : Sets st h L) (hg : 0 < gn st (itb st h L)) (t : Nat) (ht : (L + 1) * st.length ≤ t) : mx st h (t + st.length) = mx st h t + gn st (itb st h L) := by
  have hs : 0 ≤ st.sum := by rw [gain_sum hh s hg]; omega
  apply Int.le_antisymm
  · obtain ⟨u, hu, e⟩ := mx_is (st := st) (h := h) (t + st.length)
    rw [e]
    rcases Nat.lt_or_ge u ((L + 1) * st.length) with hl | hl
    · have := W_le_mx (st := st) (h := h) t u (by omega)
      omega
    · rw [Nat.succ_mul] at hl
      have := W_more hn hh s (u - st.length) (by omega)
      rw [show u - st.length + st.length = u by omega] at this
      have := W_le_mx (st := st) (h := h) t (u - st.length) (by omega)
      omega
  · obtain ⟨u, hu, e⟩ := mx_is (st := st) (h := h) t
    obtain ⟨v, h1, h2, h3⟩ := W_late_le (h := h) hn hh hs L ht hu
    have := W_more hn hh s v h1
    have := W_le_mx (st := st) (h := h) (t + st.length) (v + st.length) (by omega)
    omega
theorem IsT_more (hn : 0 < st.length) (hh : 0 ≤ h) (s : Sets st h L) (hg : 0 < gn st (itb st h L)) {d : Int} {T : Nat} (hd : mx st h ((L + 1) * st.length) < d) (ht : IsT st h d T) : IsT st h (d + gn st (itb st h L)) (T + st.length) := by
  have hT : (L + 1) * st.length < T := by
    rcases Nat.lt_or_ge ((L + 1) * st.length) T with hl | hl
    · exact hl
    · have := W_le_mx (st := st) (h := h) _ _ hl
      have := ht.1
      omega
  have hm : (L + 1) * st.length = L * st.length + st.length := Nat.succ_mul L st.length
  refine ⟨?_, fun u hu => ?_⟩
  · rw [W_more hn hh s T (by omega)]
    have := ht.1
    omega
  · rcases Nat.lt_or_ge u ((L + 1) * st.length) with hl | hl
    · have := W_le_mx (st := st) (h := h) ((L + 1) * st.length) u (by omega)
      omega
    · have := W_more hn hh s (u - st.length) (by omega)
      rw [show u - st.length + st.length = u by omega] at this
      have := ht.2 (u - st.length) (by omega)
      omega
end
/-! ### the calendar -/
/-- how many rounds go by till all goes on alike -/
def LF (st : List Int) : Nat → Int → Nat
  | 0, _ => 0
  | k + 1, h => if Stl st h then 0 else LF st k (beh h st) + 1
def LL (st : List Int) (h : Int) : Nat := LF st 10 h
theorem LF_is {st : List Int} : ∀ (k L : Nat) (h : Int), Sets st h L → L < k → LF st k h = L
  | 0, L, h, _, hl => by omega
  | k + 1, L, h, s, hl => by
    simp only [LF]
    by_cases hs : Stl st h
    · rw [if_pos hs]
      rcases Nat.eq_zero_or_pos L with h0 | h0
      · exact h0.symm
      · exact absurd hs (s.n 0 h0)
    · rw [if_neg hs]
      cases L with
      | zero => exact absurd s.s hs
      | succ L =>
        rw [LF_is k L (beh h st) ⟨by rw [← itb_succ']; exact s.s, fun q hq => by rw [← itb_succ']; exact s.n (q + 1) (by omega)⟩ (by omega)]
theorem LL_sets {st : List Int} {h : Int} (hh : 0 ≤ h) (h5 : h ≤ 5) : Sets st h (LL st h) ∧ LL st h ≤ 6 := by
  obtain ⟨L, s, hL⟩ := sets_ex (st := st) hh h5
  have : LL st h = L := LF_is 10 L h s (by omega)
  rw [this]
  exact ⟨s, hL⟩
def calOf (a h : Int) (st : List Int) : Cal :=
  if gn st (itb st h (LL st h)) = 0 then ⟨rcs a st h ((LL st h + 1) * st.length), [], 0⟩
  else
    let e := rcs a st h ((LL st h + 1) * st.length)
    let l := (rcs a st h ((LL st h + 2) * st.length)).drop e.length
    let p := lturn l st.length
    let r := (st.length : Int) * p / gn st (itb st h (LL st h))
    let b := backR r e.reverse (l.take p)
    ⟨b.1.reverse, b.2, r⟩
/-- what a calendar is -/
structure CalOk (a h : Int) (st : List Int) (c : Cal) : Prop where
  out : ∀ i : Nat, IsOut a st h ((i : Int) + 1) (c.at i)
  non : c.again = [] → c.rise = 0
  rise : c.again ≠ [] → 0 < c.rise
  least : c.again ≠ [] → LeastP c.again c.rise
  last : c.again ≠ [] → ∀ x, c.early.getLast? = some x → x + c.rise ≠ c.again.getD (c.again.length - 1) 0
  lenE : c.early.length ≤ 100
  lenA : c.again.length ≤ 12
  riseB : c.rise ≤ 4
  entE : ∀ x ∈ c.early, 0 ≤ x ∧ x ≤ 60
  entA : ∀ x ∈ c.again, 0 ≤ x ∧ x ≤ 60
theorem rcs_ent {a : Int} {st : List Int} {h : Int} (ha : 0 ≤ a) : ∀ (t : Nat), ∀ x ∈ rcs a st h t, 0 ≤ x ∧ x ≤ a + t
  | 0, x, hx => by
    simp only [rcs, List.mem_replicate] at hx
    omega
  | t + 1, x, hx => by
    simp only [rcs, List.mem_append, List.mem_replicate] at hx
    rcases hx with hx | hx
    · have := rcs_ent ha t x hx
      omega
    · omega
theorem backR_mem {r : Int} {p : Int → Prop} : ∀ (e a : List Int), (∀ x ∈ e, p x) → (∀ x ∈ a, p x) → (∀ x ∈ (backR r e a).1, p x) ∧ (∀ x ∈ (backR r e a).2, p x)
  | [], a, he, ha => ⟨he, ha⟩
  | x :: e, a, he, ha => by
    unfold backR
    split
    · refine backR_mem e (x :: a.dropLast) (fun y hy => he y (List.mem_cons_of_mem _ hy)) (fun y hy => ?_)
      rcases List.mem_cons.mp hy with rfl | hy
      · exact he _ List.mem_cons_self
      · exact ha y (List.dropLast_subset a hy)
    · exact ⟨he, ha⟩
theorem calOf_ok {a h : Int} {st : List Int} (ha0 : 0 ≤ a) (ha20 : a ≤ 20) (hn : 0 < st.length) (hn4 : st.length ≤ 4) (hb : ∀ x ∈ st, -3 ≤ x ∧ x ≤ 3) (hh : 0 ≤ h) (h5 : h ≤ 5) : CalOk a h st (calOf a h st) := by
  obtain ⟨s, hL⟩ := LL_sets (st := st) hh h5
  have hb3 : ∀ x ∈ st, x ≤ 3 := fun x hx => (hb x hx).2
  have hle : ((rcs a st h ((LL st h + 1) * st.length)).length : Int) ≤ 100 := by
    rw [rcs_len hh]
    have := (mx_le (h := h) hn hb3 hh ((LL st h + 1) * st.length)).1
    have : (LL st h + 1) * st.length ≤ 7 * 4 := Nat.mul_le_mul (by omega) hn4
    omega
  have hEnt : ∀ x ∈ rcs a st h ((LL st h + 1) * st.length), 0 ≤ x ∧ x ≤ 60 := fun x hx => by
    have := rcs_ent ha0 _ x hx
    have : (LL st h + 1) * st.length ≤ 7 * 4 := Nat.mul_le_mul (by omega) hn4
    omega
  have hEnt2 : ∀ x ∈ rcs a st h ((LL st h + 2) * st.length), 0 ≤ x ∧ x ≤ 60 := fun x hx => by
    have := rcs_ent ha0 _ x hx
    have : (LL st h + 2) * st.length ≤ 8 * 4 := Nat.mul_le_mul (by omega) hn4
    omega
  unfold calOf
  by_cases hg : gn st (itb st h (LL st h)) = 0
  · rw [if_pos hg]
    refine ⟨fun i => ?_, fun _ => rfl, fun h => absurd rfl h, fun h => absurd rfl h, fun h => absurd rfl h, by show (rcs a st h _).length ≤ 100; omega, by simp, by simp, fun x hx => hEnt x hx, by simp⟩
    unfold Cal.at
    by_cases hi : i < (rcs a st h ((LL st h + 1) * st.length)).length
    · rw [if_pos hi]
      obtain ⟨T, _, h2, h3⟩ := rcs_get hh _ i hi
      simp only [List.getD, h3, Option.getD_some]
      exact ⟨T, h2, rfl⟩
    · rw [if_neg hi]
      simp only [List.isEmpty_nil, if_true]
      intro T
      have := never_more hn hh s hg T
      have := rcs_len (a := a) (st := st) hh ((LL st h + 1) * st.length)
      omega
  · rw [if_neg hg]
    have hgp : 0 < gn st (itb st h (LL st h)) := by
      have := Stl.gn_nn (itb_nn hh _) s.s
      omega
    have hlen1 := rcs_len (a := a) (st := st) hh ((LL st h + 1) * st.length)
    have hlen2 := rcs_len (a := a) (st := st) hh ((LL st h + 2) * st.length)
    have hmx := mx_more hn hh s hgp ((LL st h + 1) * st.length) (Nat.le_refl _)
    have e2 : (LL st h + 1) * st.length + st.length = (LL st h + 2) * st.length := by
      rw [Nat.succ_mul, Nat.succ_mul, Nat.succ_mul]
    rw [e2] at hmx
    obtain ⟨l, hl⟩ := rcs_mono (a := a) (st := st) (h := h) ((LL st h + 1) * st.length) st.length
    rw [e2] at hl
    have hdrop : (rcs a st h ((LL st h + 2) * st.length)).drop (rcs a st h ((LL st h + 1) * st.length)).length = l := by rw [hl]; simp
    dsimp only
    rw [hdrop]
    have hll : (l.length : Int) = gn st (itb st h (LL st h)) := by
      have : (rcs a st h ((LL st h + 2) * st.length)).length = (rcs a st h ((LL st h + 1) * st.length)).length + l.length := by rw [hl]; simp
      omega
    have hlp : 0 < l.length := by omega
    have hg12 : gn st (itb st h (LL st h)) ≤ 12 := by
      rw [← gain_sum hh s hgp]
      have : ∀ (l : List Int), (∀ x ∈ l, x ≤ 3) → l.sum ≤ 3 * l.length := by
        intro l
        induction l with
        | nil => simp
        | cons x xs ih =>
          intro hx
          have := hx x (by simp)
          have := ih fun y hy => hx y (List.mem_cons_of_mem _ hy)
          simp only [List.sum_cons, List.length_cons]
          omega
      have := this st hb3
      omega
    rw [← hll] at hg12 ⊢
    obtain ⟨t1, t2, t3⟩ := lturn_take (a := l) (r := (st.length : Int)) hlp
    obtain ⟨p1, p2, p3, _⟩ := lturn_spec (a := l) (r := (st.length : Int)) hlp
    obtain ⟨q1, q2, q3⟩ := (ltOk_iff hlp p2).mp p3
    generalize hp : lturn l (st.length : Int) = p at t1 t2 t3 p1 p2 p3 q1 q2 q3 ⊢
    generalize hr : (st.length : Int) * (p : Int) / (l.length : Int) = r at t1 t2 q3 ⊢
    have hrp : 0 < r := by
      have h1 : r * (l.length : Int) = (st.length : Int) * (p : Int) := by rw [← hr]; exact Int.ediv_mul_cancel (Int.dvd_of_emod_eq_zero q2)
      have h2 : 0 < (st.length : Int) * (p : Int) := Int.mul_pos (by omega) (by omega)
      rcases Int.lt_or_le 0 r with h3 | h3
      · exact h3
      · have : r * (l.length : Int) ≤ 0 := Int.mul_nonpos_of_nonpos_of_nonneg h3 (by omega)
        omega
    obtain ⟨e', a', b1, b2, b3, b4, b5, b6⟩ := backR_spec (r := r) (rcs a st h ((LL st h + 1) * st.length)).reverse (l.take p) (by omega) t2
    simp only [b1]
    have hane : a' ≠ [] := by
      intro h0
      rw [h0] at b2
      simp at b2
      omega
    refine ⟨fun i => ?_, fun h => absurd h hane, fun _ => hrp, fun _ => b3, fun _ x hx => ?_, ?_, ?_, ?_, fun x hx => ?_, fun x hx => ?_⟩
    · rw [b4 i, List.reverse_reverse]
      unfold Cal.at
      have hae : (l.take p).isEmpty = false := by
        cases hx : l.take p with
        | nil => rw [hx] at t3; simp at t3; omega
        | cons _ _ => rfl
      simp only [hae, Bool.false_eq_true, if_false]
      by_cases hi : i < (rcs a st h ((LL st h + 1) * st.length)).length
      · rw [if_pos hi]
        obtain ⟨T, _, h2, h3⟩ := rcs_get hh _ i hi
        simp only [List.getD, h3, Option.getD_some]
        exact ⟨T, h2, rfl⟩
      · rw [if_neg hi, t1]
        -- the late ones
        have key : ∀ j : Nat, ∃ T, IsT st h (mx st h ((LL st h + 1) * st.length) + j + 1) T ∧ 0 < T ∧ rs l st.length j = a + T := by
          intro j
          induction j using Nat.strongRecOn with
          | ind j ih =>
            rcases Nat.lt_or_ge j l.length with hj | hj
            · have hx : (rcs a st h ((LL st h + 1) * st.length)).length + j < (rcs a st h ((LL st h + 2) * st.length)).length := by rw [hl]; simp; omega
              obtain ⟨T, _, h2, h3⟩ := rcs_get hh _ _ hx
              have hd : (((rcs a st h ((LL st h + 1) * st.length)).length + j : Nat) : Int) + 1 = mx st h ((LL st h + 1) * st.length) + j + 1 := by omega
              rw [hd] at h2
              have hT : 0 < T := by
                rcases Nat.eq_zero_or_pos T with h0 | h0
                · subst h0
                  have h1 := h2.1
                  have h4 := W_le_mx (st := st) (h := h) ((LL st h + 1) * st.length) 0 (Nat.zero_le _)
                  have h5 : mx st h ((LL st h + 1) * st.length) < mx st h ((LL st h + 1) * st.length) + (j : Int) + 1 := by omega
                  exact absurd (Int.lt_of_lt_of_le h5 (Int.le_trans h1 h4)) (Int.lt_irrefl _)
                · exact h0
              refine ⟨T, h2, hT, ?_⟩
              rw [hl, List.getElem?_append_right (by omega), Nat.add_sub_cancel_left, List.getElem?_eq_getElem hj] at h3
              rw [rs_lt hj]
              simp only [Option.some.injEq] at h3
              rw [h3]
              unfold mn
              rw [if_neg (by omega)]
            · obtain ⟨T, h1, h2, h3⟩ := ih (j - l.length) (by omega)
              have h4 := IsT_more hn hh s hgp (by omega) h1
              refine ⟨T + st.length, ?_, by omega, ?_⟩
              · have : mx st h ((LL st h + 1) * st.length) + ((j - l.length : Nat) : Int) + 1 + gn st (itb st h (LL st h)) = mx st h ((LL st h + 1) * st.length) + j + 1 := by omega
                rwa [this] at h4
              · have e : j = (j - l.length) + l.length := by omega
                rw [e, rs_add hlp, h3]
                omega
        obtain ⟨T, h1, h2, h3⟩ := key (i - (rcs a st h ((LL st h + 1) * st.length)).length)
        refine ⟨T, ?_, ?_⟩
        · have : mx st h ((LL st h + 1) * st.length) + ((i - (rcs a st h ((LL st h + 1) * st.length)).length : Nat) : Int) + 1 = (i : Int) + 1 := by omega
          rwa [this] at h1
        · rw [h3]; unfold mn; rw [if_neg (by omega)]
    · show x + r ≠ a'.getD (a'.length - 1) 0
      have hx' : e'.reverse.getLast? = some x := hx
      rw [List.getLast?_reverse] at hx'
      cases e' with
      | nil => simp at hx'
      | cons y l => 
        simp at hx'
        subst hx'
        exact b5 _ _ rfl
    · show e'.reverse.length ≤ 100
      simp only [List.length_reverse] at b6 ⊢
      omega
    · show a'.length ≤ 12
      omega
    · show r ≤ 4
      have h1 : r * (l.length : Int) = (st.length : Int) * (p : Int) := by rw [← hr]; exact Int.ediv_mul_cancel (Int.dvd_of_emod_eq_zero q2)
      refine Int.le_of_mul_le_mul_right (a := (l.length : Int)) ?_ (by omega)
      rw [h1]
      exact Int.le_trans (Int.mul_le_mul_of_nonneg_left (show (p : Int) ≤ (l.length : Int) by omega) (by omega)) (Int.mul_le_mul_of_nonneg_right (by omega) (by omega))
    · have hm := (backR_mem (r := r) (p := fun x => 0 ≤ x ∧ x ≤ 60) (rcs a st h ((LL st h + 1) * st.length)).reverse (l.take p) (fun y hy => hEnt y (List.mem_reverse.mp hy)) (fun y hy => hEnt2 y (by rw [hl]; exact List.mem_append_right _ (List.mem_of_mem_take hy)))).1
      rw [b1] at hm
      exact hm x (List.mem_reverse.mp hx)
    · have hm := (backR_mem (r := r) (p := fun x => 0 ≤ x ∧ x ≤ 60) (rcs a st h ((LL st h + 1) * st.length)).reverse (l.take p) (fun y hy => hEnt y (List.mem_reverse.mp hy)) (fun y hy => hEnt2 y (by rw [hl]; exact List.mem_append_right _ (List.mem_of_mem_take hy)))).2
      rw [b1] at hm
      exact hm x hx
end DL
/-! heights and calendars: what the program's defs compute -/
namespace DL
open PySem L2
/-! lists of ints -/
theorem plB_ints (l : List Int) : plB l.length 1 (.lst (l.map D.int)) = true := by
  refine plB_mkL (by simp) fun x hx => ?_
  simp only [List.mem_map] at hx
  obtain ⟨i, _, rfl⟩ := hx
  rfl
theorem plB_intsT (l : List Int) : plB l.length 1 (.tup (l.map D.int)) = true := by
  refine plB_mk (by simp) fun x hx => ?_
  simp only [List.mem_map] at hx
  obtain ⟨i, _, rfl⟩ := hx
  rfl
theorem toPys_ints (l : List Int) : toPys (l.map D.int) = some (l.map PyData.int) := by
  induction l with
  | nil => rfl
  | cons x l ih => simp [toPys, toPy, ih]
theorem eqvAll_ints : ∀ (a b : List Int), PyData.eqvAll (a.map PyData.int) (b.map PyData.int) = decide (a = b)
  | [], [] => by simp [PyData.eqvAll]
  | [], y :: b => by simp [PyData.eqvAll]
  | x :: a, [] => by simp [PyData.eqvAll]
  | x :: a, y :: b => by
    simp only [List.map_cons, PyData.eqvAll, PyData.eqv, eqvAll_ints a b]
    by_cases h : x = y <;> by_cases h2 : a = b <;> simp [h, h2]
theorem gEqB_ints (neg : Bool) (a b : List Int) (S : Sto) : gEqB neg (.lst (a.map D.int)) (.lst (b.map D.int)) S = .ok (.bl (if neg then !decide (a = b) else decide (a = b))) S := by
  obtain ⟨p, p1, p2⟩ := plB_shaped (plB_ints a) (by omega) S
  obtain ⟨q, q1, q2⟩ := plB_shaped (plB_ints b) (by omega) S
  have ea : p = .list (a.map .int) := by simpa [toPy, toPys_ints] using p1.symm
  have eb : q = .list (b.map .int) := by simpa [toPy, toPys_ints] using q1.symm
  simp only [gEqB, p1, q1, p2, q2, and_self, if_true]
  subst ea
  subst eb
  simp only [PyData.eqv, eqvAll_ints]
theorem gEqB_intsT (neg : Bool) (a b : List Int) (S : Sto) : gEqB neg (.tup (a.map D.int)) (.tup (b.map D.int)) S = .ok (.bl (if neg then !decide (a = b) else decide (a = b))) S := by
  obtain ⟨p, p1, p2⟩ := plB_shaped (plB_intsT a) (by omega) S
  obtain ⟨q, q1, q2⟩ := plB_shaped (plB_intsT b) (by omega) S
  have ea : p = .tuple (a.map .int) := by simpa [toPy, toPys_ints] using p1.symm
  have eb : q = .tuple (b.map .int) := by simpa [toPy, toPys_ints] using q1.symm
  simp only [gEqB, p1, q1, p2, q2, and_self, if_true]
  subst ea
  subst eb
  simp only [PyData.eqv, eqvAll_ints]
theorem atI_last {α : Type} {xs : List α} {x : α} (h : xs.getLast? = some x) : atI xs (-1) = some x := by
  cases xs with
  | nil => cases h
  | cons y l =>
    unfold atI
    rw [List.getLast?_eq_getElem?] at h
    simp only [List.length_cons] at h ⊢
    have e : ixN (l.length + 1) (-1) = some l.length := by
      unfold ixN
      simp
      omega
    rw [e]
    exact h
section
variable {S : Sto}
theorem stepped_eq (h x : Int) : F_stepped [.int h, .int x] S = .ok (.int (up h x)) S := by
  by_cases c : h + x > 0
  · have c' : 0 < h + x := c
    simp [F_stepped, fnP_ap, up, c']
  · have c' : ¬ 0 < h + x := c
    simp [F_stepped, fnP_ap, up, c']
theorem behind_loop (t : Option D) : ∀ (xs : List Int) (h : Int) (z : Option D), ∃ z', forL (gNm 2) (sSet 0 (eCall F_stepped [(eVar 0), (eVar 2)])) (xs.map D.int) [some (.int h), t, z] S = .nx [some (.int (beh h xs)), t, z'] S
  | [], h, z => ⟨z, rfl⟩
  | x :: xs, h, z => by
    obtain ⟨z', e⟩ := behind_loop t xs (up h x) (some (.int x))
    refine ⟨z', ?_⟩
    rw [beh_cons, ← e]
    simp [forL, stepped_eq]
theorem behind_eq (h : Int) (st : List Int) : F_behind [.int h, .tup (st.map D.int)] S = .ok (.int (beh h st)) S := by
  obtain ⟨z', e⟩ := behind_loop (S := S) (some (.tup (st.map D.int))) st h none
  simp only [F_behind, fnP_ap, sSeq_ap]
  simp only [List.map_cons, List.map_nil, List.cons_append, List.nil_append, List.replicate, Nat.reduceSub]
  rw [sFor_tup (xs := st.map D.int) (S1 := S) (by simp), e]
  simp
theorem lowest_loop (t : Option D) : ∀ (xs : List Int) (a f : Int) (z : Option D), f ≤ a → ∃ a' z', forL (gNm 3) (sSeq (sSet 1 (eBin gAdd (eVar 1) (eVar 3))) (sSet 2 (eIf (eTb (eBin gLt (eVar 1) (eVar 2))) (eVar 1) (eVar 2)))) (xs.map D.int) [t, some (.int a), some (.int f), z] S = .nx [t, some (.int a'), some (.int (min f (a + low xs))), z'] S
  | [], a, f, z, hf => ⟨a, z, by simp only [List.map_nil, forL, low]; rw [show min f (a + 0) = f by omega]⟩
  | x :: xs, a, f, z, hf => by
    have hl := low_le xs
    by_cases c : a + x < f
    · obtain ⟨a', z', e⟩ := lowest_loop t xs (a + x) (a + x) (some (.int x)) (by omega)
      refine ⟨a', z', ?_⟩
      have em : min f (a + low (x :: xs)) = min (a + x) (a + x + low xs) := by simp only [low]; omega
      rw [em, ← e]
      simp [forL, c]
    · obtain ⟨a', z', e⟩ := lowest_loop t xs (a + x) f (some (.int x)) (by omega)
      refine ⟨a', z', ?_⟩
      have em : min f (a + low (x :: xs)) = min f (a + x + low xs) := by simp only [low]; omega
      rw [em, ← e]
      simp [forL, c]
theorem lowest_sum_eq (st : List Int) : F_lowest_sum [.tup (st.map D.int)] S = .ok (.int (low st)) S := by
  obtain ⟨a', z', e⟩ := lowest_loop (S := S) (some (.tup (st.map D.int))) st 0 0 none (by omega)
  have hm : min 0 (0 + low st) = low st := by have := low_le st; omega
  rw [hm] at e
  simp only [F_lowest_sum, fnP_ap, sSeq_ap]
  simp
  rw [sFor_tup (xs := st.map D.int) (S1 := S) (by simp), e]
  simp
theorem is_settled_eq (h : Int) (st : List Int) : F_is_settled [.int h, .tup (st.map D.int)] S = .ok (.bl (decide (Stl st h))) S := by
  have e : decide (Stl st h) = ((decide (0 ≤ h + low st) && decide (0 ≤ st.sum)) || decide (beh h st = h)) := by
    unfold Stl
    by_cases a : 0 ≤ h + low st <;> by_cases b : 0 ≤ st.sum <;> by_cases c : beh h st = h <;> simp [a, b, c]
  rw [e]
  by_cases a : 0 ≤ h + low st <;> by_cases b : 0 ≤ st.sum <;> simp [F_is_settled, fnP_ap, behind_eq, lowest_sum_eq, a, b]
theorem gain_of_eq (h : Int) (st : List Int) : F_gain_of [.int h, .tup (st.map D.int)] S = .ok (.int (gn st h)) S := by
  simp [F_gain_of, fnP_ap, behind_eq, gn]
/-- the heights ahead of the rounds, as a list -/
def itL (st : List Int) (h : Int) (q : Nat) : List D := (List.range (q + 1)).map fun i => .int (itb st h i)
theorem itL_succ (st : List Int) (h : Int) (q : Nat) : itL st h (q + 1) = itL st h q ++ [.int (itb st h (q + 1))] := by
  unfold itL
  rw [List.range_succ (n := q + 1), List.map_append]
  rfl
theorem itL_len (st : List Int) (h : Int) (q : Nat) : (itL st h q).length = q + 1 := by simp [itL]
theorem itL_last (st : List Int) (h : Int) (q : Nat) : atI (itL st h q) (-1) = some (.int (itb st h q)) := by
  refine atI_last ?_
  cases q with
  | zero => rfl
  | succ q => rw [itL_succ]; simp
theorem itL_at {st : List Int} {h : Int} {q i : Nat} (hi : i ≤ q) : atI (itL st h q) (i : Int) = some (.int (itb st h i)) := by
  refine atI_nat ?_
  unfold itL
  rw [List.getElem?_map, List.getElem?_range (by omega)]
  rfl
theorem settled_loop {st : List Int} {h : Int} {L : Nat} (hL : L ≤ 1000) (s : Sets st h L) (t u : Option D) (hu : u = some (.tup (st.map D.int))) : ∀ (k q n : Nat), q + k = L → k < n →
    sWh n (eNotT (eTr (eCall F_is_settled [(eBin gIdx (eVar 2) (eNeg (eK (.int 1)))), (eVar 1)]))) (sSet 2 (eBin gAdd (eVar 2) (eLst [(eCall F_behind [(eBin gIdx (eVar 2) (eNeg (eK (.int 1)))), (eVar 1)])]))) [t, u, some (.lst (itL st h q))] S = .nx [t, u, some (.lst (itL st h L))] S
  | _, _, 0, _, hn => by omega
  | 0, q, n + 1, hq, _ => by
    have : q = L := by omega
    subst this
    subst hu
    have i1 := gIdx_lst S (itL_last st h q)
    simp [sWh, i1, is_settled_eq, s.s]
  | k + 1, q, n + 1, hq, hn => by
    subst hu
    have i1 := gIdx_lst S (itL_last st h q)
    have ns := s.n q (by omega)
    have ha := gAdd_lst S (xs := itL st h q) (ys := [.int (itb st h (q + 1))]) (by simp [itL_len]; omega)
    rw [← itL_succ] at ha
    have ih := settled_loop hL s t (some (.tup (st.map D.int))) rfl k (q + 1) n (by omega) (by omega)
    rw [← ih]
    have hb : beh (itb st h q) st = itb st h (q + 1) := rfl
    simp [sWh, i1, is_settled_eq, ns, behind_eq, hb, ha]
theorem settled_eq {st : List Int} {h : Int} {L : Nat} (hL : L ≤ 1000) (s : Sets st h L) : F_settled [.int h, .tup (st.map D.int)] S = .ok (.lst (itL st h L)) S := by
  have e := settled_loop (S := S) hL s (some (.int h)) (some (.tup (st.map D.int))) rfl L 0 4096 (by omega) (by omega)
  simp only [F_settled, fnP_ap, sSeq_ap]
  have i0 : itL st h 0 = [.int h] := rfl
  rw [i0] at e
  simp [e]
end
end DL
/-! heights and calendars: what the program's defs compute, more -/
namespace DL
open PySem L2
theorem sWh_false {n : Nat} {t : Et} {b : Sm} {ρ : Rho} {S S1 : Sto} (h : t ρ S = .ok false S1) : sWh (n + 1) t b ρ S = .nx ρ S1 := by simp [sWh, h]
theorem sWh_true {n : Nat} {t : Et} {b : Sm} {ρ : Rho} {S S1 : Sto} (h : t ρ S = .ok true S1) : sWh (n + 1) t b ρ S = (b ρ S1).turn (sWh n t b) := by simp [sWh, h]
theorem cutD_to' {xs : List D} {k : Nat} {i : Int} (hi : i = (k : Int)) (h : k ≤ xs.length) : cutD xs none (some i) = xs.take k := by rw [hi]; exact cutD_to h
theorem cutD_from' {xs : List D} {k : Nat} {i : Int} (hi : i = (k : Int)) (h : k ≤ xs.length) : cutD xs (some i) none = xs.drop k := by rw [hi]; exact cutD_from h
theorem cutD_init {xs : List D} : cutD xs none (some (-1)) = xs.dropLast := by
  unfold cutD
  have : HT.sIx xs.length xs.length (some (-1)) = xs.length - 1 := by
    show (if (-1 : Int) < 0 then ((-1 : Int) + (xs.length : Int)).toNat else min (-1 : Int).toNat xs.length) = xs.length - 1
    rw [if_pos (by omega)]; omega
  rw [this]
  simp [HT.sIx, List.dropLast_eq_take]
/-- the height of a snail at a minute -/
def Sn.H (s : Sn) (m : Int) : Int := W s.steps s.height (m - s.start).toNat
theorem Sn.Ok.n0 {s : Sn} (h : s.Ok) : 0 < s.steps.length := h.rd.pos
section
variable {S : Sto}
theorem height_of_eq {s : Sn} (h : s.Ok) {m : Int} (hm : 0 ≤ m) (hm2 : m ≤ 1000000000000000000000000000000) : F_height_of [s.d, .int m] S = .ok (.int (s.H m)) S := by
  obtain ⟨st, L6⟩ := LL_sets (st := s.steps) h.h0 h.h1
  have hn := h.n0
  have hn4 := h.rd.le
  by_cases c : m ≤ s.start
  · have e : s.H m = s.height := by unfold Sn.H; rw [show (m - s.start).toNat = 0 by omega, W_zero]
    simp [F_height_of, fnP_ap, Sn.d, roundD, c, e]
  · obtain ⟨t, ht⟩ : ∃ t : Nat, m - s.start = (t : Int) := ⟨(m - s.start).toNat, by omega⟩
    have eH : s.H m = beh (itb s.steps s.height (t / s.steps.length)) (s.steps.take (t % s.steps.length)) := by unfold Sn.H; rw [ht]; rfl
    have hd := settled_eq (S := S) (st := s.steps) (h := s.height) (by omega) st
    have ed : (t : Int) / (s.steps.length : Int) = ((t / s.steps.length : Nat) : Int) := by omega
    have em : (t : Int) % (s.steps.length : Int) = ((t % s.steps.length : Nat) : Int) := by omega
    have hr := Nat.mod_lt t hn
    have hlog : ((s.steps.length : Int)).natAbs.log2 < 9000 := by
      have : ((s.steps.length : Int)).natAbs.log2 < 3 := log2_lt (by
        have : (2 : Nat) ^ 3 = 8 := by decide
        omega) (by decide)
      omega
    have k1 : gDiv (.int (t : Int)) (.int (s.steps.length : Int)) S = .ok (.int ((t / s.steps.length : Nat) : Int)) S := by rw [gDiv_int _ (by omega) hlog, ed]
    have k2 : gMod (.int (t : Int)) (.int (s.steps.length : Int)) S = .ok (.int ((t % s.steps.length : Nat) : Int)) S := by rw [gMod_int _ (by omega), em]
    have k3 : cutD (s.steps.map D.int) none (some ((t : Int) % (s.steps.length : Int))) = (s.steps.take (t % s.steps.length)).map D.int := by
      rw [em, cutD_to (by simp; omega), List.map_take]
    rw [em] at k3
    have hqt : t / s.steps.length ≤ t := Nat.div_le_self _ _
    clear ed em
    generalize t / s.steps.length = q at *
    generalize t % s.steps.length = r at *
    by_cases cq : q < LL s.steps s.height + 1
    · have i1 := gIdx_lst S (itL_at (st := s.steps) (h := s.height) (q := LL s.steps s.height) (i := q) (by omega))
      have cq' : ((q : Nat) : Int) < ((LL s.steps s.height : Nat) : Int) + 1 := by omega
      rw [eH]
      simp only [Sn.d, roundD, F_height_of, fnP_ap]
      simp [c, ht, k1, k2, hd, itL_len, cq', k3, i1, behind_eq, -List.map_take]
    · have i1 := gIdx_lst S (itL_last s.steps s.height (LL s.steps s.height))
      have cq' : ¬ ((q : Nat) : Int) < ((LL s.steps s.height : Nat) : Int) + 1 := by omega
      have hit : itb s.steps s.height (q) = itb s.steps s.height (LL s.steps s.height) + (((q : Nat) : Int) - ((LL s.steps s.height : Nat) + 1) + 1) * gn s.steps (itb s.steps s.height (LL s.steps s.height)) := by
        have := Sets.itb h.h0 st (q - LL s.steps s.height)
        rw [show LL s.steps s.height + (q - LL s.steps s.height) = q by omega] at this
        rw [this]
        congr 2
        omega
      have hgb : (gn s.steps (itb s.steps s.height (LL s.steps s.height))).natAbs.log2 < 10 := by
        refine log2_lt ?_ (by decide)
        have e1 := st.s
        have e2 := Stl.gn_nn (itb_nn h.h0 _) e1
        have : gn s.steps (itb s.steps s.height (LL s.steps s.height)) ≤ 12 := by
          by_cases hg : 0 < gn s.steps (itb s.steps s.height (LL s.steps s.height))
          · rw [← gain_sum h.h0 st hg]
            have : ∀ (l : List Int), (∀ x ∈ l, x ≤ 3) → l.sum ≤ 3 * l.length := by
              intro l
              induction l with
              | nil => simp
              | cons x xs ih =>
                intro hx
                have := hx x (by simp)
                have := ih fun y hy => hx y (List.mem_cons_of_mem _ hy)
                simp only [List.sum_cons, List.length_cons]
                omega
            have := this s.steps fun x hx => (h.rd.bd x hx).2
            omega
          · omega
        have : (2 : Nat) ^ 10 = 1024 := by decide
        omega
      have hqb : (((q : Nat) : Int) - ((LL s.steps s.height : Nat) + 1) + 1).natAbs.log2 < 200 := by
        refine log2_lt ?_ (by decide)
        have h1 : t ≤ 1000000000000000000000000000000 := by have := h.s0; omega
        have : (1000000000000000000000000000000 : Nat) + 100 < 2 ^ 200 := by decide
        omega
      have km := gMul_int S (i := ((q : Nat) : Int) - ((LL s.steps s.height : Nat) + 1) + 1) (j := gn s.steps (itb s.steps s.height (LL s.steps s.height))) (by omega)
      rw [eH, hit]
      simp only [Sn.d, roundD, F_height_of, fnP_ap]
      simp [c, ht, k1, k2, hd, itL_len, cq', k3, i1, gain_of_eq, km, behind_eq, -List.map_take]
/-! the minutes of new heights -/
theorem flat_one (k : Nat) (x : Int) : (List.replicate k [D.int x]).flatten = (List.replicate k x).map D.int := by
  induction k with
  | zero => rfl
  | succ k ih => simp [List.replicate_succ, ih]
theorem gMul_one {x k : Int} (h : k ≤ 100000) (h0 : 0 ≤ k) : gMul (.lst [.int x]) (.int k) S = .ok (.lst ((List.replicate k.toNat x).map D.int)) S := by
  have hb : Nat.ble k.natAbs 9223372036854775807 = true := by
    rw [Nat.ble_eq]; omega
  simp only [gMul, view_lst_, view_int_]
  rw [if_pos ⟨hb, by simp; omega⟩, flat_one]
def recS : Sm := (sSeq (sPar 3 6 (eCall F_stepped [(eVar 3), (eVar 8)]) (eBin gAdd (eVar 6) (eK (.int 1))))
    (sSet 5 (eBin gAdd (eVar 5) (eBin gMul (eLst [(eVar 6)]) (eCall gMax [(eK (.int 0)), (eBin gSub (eVar 3) (eCall gLen [(eVar 5)]))])))))
theorem rec_in {a h : Int} {st : List Int} (hn : 0 < st.length) (hb : ∀ x ∈ st, x ≤ 3) (hh : 0 ≤ h) (h5 : h ≤ 5) (q : Nat) (hq : (q + 1) * st.length ≤ 1000) (v0 v1 v2 v4 v7 : Option D) : ∀ (k r : Nat) (z : Option D), r + k = st.length →
    ∃ z', forL (gNm 8) recS ((st.drop r).map D.int) [v0, v1, v2, some (.int (W st h (q * st.length + r))), v4, some (.lst ((rcs a st h (q * st.length + r)).map D.int)), some (.int (a + ((q * st.length + r : Nat) : Int))), v7, z] S
      = .nx [v0, v1, v2, some (.int (W st h ((q + 1) * st.length))), v4, some (.lst ((rcs a st h ((q + 1) * st.length)).map D.int)), some (.int (a + (((q + 1) * st.length : Nat) : Int))), v7, z'] S
  | 0, r, z, hr => by
    have : r = st.length := by omega
    subst this
    refine ⟨z, ?_⟩
    rw [Nat.succ_mul]
    simp [forL]
  | k + 1, r, z, hr => by
    have hrl : r < st.length := by omega
    obtain ⟨z', e⟩ := rec_in (a := a) hn hb hh h5 q hq v0 v1 v2 v4 v7 k (r + 1) (some (.int st[r])) (by omega)
    refine ⟨z', ?_⟩
    rw [← Nat.add_assoc] at e
    rw [← e, List.drop_eq_getElem_cons hrl]
    have hW : up (W st h (q * st.length + r)) st[r] = W st h (q * st.length + r + 1) := by
      rw [W_succ hn]
      have hm : (q * st.length + r) % st.length = r := by
        rw [Nat.add_comm, Nat.add_mul_mod_self_right, Nat.mod_eq_of_lt hrl]
      simp only [hm]
    have ht : q * st.length + r + 1 ≤ 1000 := by rw [Nat.succ_mul] at hq; omega
    have hW2 := (mx_le (h := h) hn hb hh (q * st.length + r + 1)).2
    have hlen := rcs_len (a := a) (st := st) hh (q * st.length + r)
    have hm2 := (mx_le (h := h) hn hb hh (q * st.length + r)).1
    have hW0 := W_nn (st := st) hh (q * st.length + r + 1)
    have hrc : rcs a st h (q * st.length + r + 1) = rcs a st h (q * st.length + r) ++ List.replicate (W st h (q * st.length + r + 1) - (rcs a st h (q * st.length + r)).length).toNat (a + ((q * st.length + r : Nat) : Int) + 1) := by
      simp only [rcs]
      congr 2
      omega
    have hk : ∃ k : Int, (if W st h (q * st.length + r + 1) - ((rcs a st h (q * st.length + r)).length : Int) > 0 then W st h (q * st.length + r + 1) - ((rcs a st h (q * st.length + r)).length : Int) else 0) = k ∧ 0 ≤ k ∧ k ≤ 100000 ∧ k.toNat = (W st h (q * st.length + r + 1) - (rcs a st h (q * st.length + r)).length).toNat := by
      refine ⟨_, rfl, ?_⟩
      split <;> refine ⟨by omega, by omega, by omega⟩
    obtain ⟨kk, hk1, hk2, hk3, hk4⟩ := hk
    have hmul := gMul_one (S := S) (x := a + ((q * st.length + r : Nat) : Int) + 1) hk3 hk2
    rw [hk4] at hmul
    have hadd := gAdd_lst S (xs := (rcs a st h (q * st.length + r)).map D.int) (ys := (List.replicate (W st h (q * st.length + r + 1) - (rcs a st h (q * st.length + r)).length).toNat (a + ((q * st.length + r : Nat) : Int) + 1)).map D.int) (by simp; omega)
    rw [← List.map_append, ← hrc] at hadd
    have hc : a + ((q * st.length + r + 1 : Nat) : Int) = a + ((q * st.length + r : Nat) : Int) + 1 := by omega
    rw [hc]
    generalize q * st.length + r = t at *
    generalize rcs a st h (t + 1) = R1 at *
    generalize hT : (t : Int) = tt at *
    simp only [List.map_cons, forL, gNm_ap, List.set, on_nx, F.seq_nx, recS, sSeq_ap, sPar_ap, eCall_ap, eArgs_cons, eArgs_nil, eVar3, eVar8, eVar6, eVar5, R.bind_ok, stepped_eq, F.ofR_ok, eBin_ap, eK_ap, gAdd_int, sSet_ap, eLst_ap, gLen_lst, List.length_map, gSub_int, hW, gMax_int, hk1, hmul, hadd, F.turn_nx]
end
end DL
/-! calendars: what the program's defs compute -/
namespace DL
open PySem L2
section
variable {S : Sto}
theorem rec_out {a h : Int} {st : List Int} (hn : 0 < st.length) (hb : ∀ x ∈ st, x ≤ 3) (hh : 0 ≤ h) (h5 : h ≤ 5) (R : Nat) (hR : R * st.length ≤ 1000) (v0 v1 v2 v4 : Option D) (h4 : v4 = some (.tup (st.map D.int))) : ∀ (k q : Nat) (z7 z8 : Option D), q + k = R →
    ∃ z7' z8', forR (gNm 7) (sFor (eItS (eVar 4)) (gNm 8) recS) k (q : Int) [v0, v1, v2, some (.int (W st h (q * st.length))), v4, some (.lst ((rcs a st h (q * st.length)).map D.int)), some (.int (a + ((q * st.length : Nat) : Int))), z7, z8] S
      = .nx [v0, v1, v2, some (.int (W st h (R * st.length))), v4, some (.lst ((rcs a st h (R * st.length)).map D.int)), some (.int (a + ((R * st.length : Nat) : Int))), z7', z8'] S
  | 0, q, z7, z8, hq => by
    have : q = R := by omega
    subst this
    exact ⟨z7, z8, rfl⟩
  | k + 1, q, z7, z8, hq => by
    subst h4
    have hq2 : (q + 1) * st.length ≤ 1000 := Nat.le_trans (Nat.mul_le_mul_right _ (by omega)) hR
    obtain ⟨z', e⟩ := rec_in (S := S) (a := a) hn hb hh h5 q hq2 v0 v1 v2 (some (.tup (st.map D.int))) (some (.int (q : Int))) st.length 0 z8 (by omega)
    obtain ⟨z7', z8', e2⟩ := rec_out (a := a) hn hb hh h5 R hR v0 v1 v2 (some (.tup (st.map D.int))) rfl k (q + 1) (some (.int (q : Int))) z' (by omega)
    refine ⟨z7', z8', ?_⟩
    rw [← e2]
    simp only [List.drop_zero, Nat.add_zero] at e
    simp only [forR, gNm_ap, List.set, on_nx, F.seq_nx]
    rw [sFor_tup (xs := st.map D.int) (S1 := S) (by simp), e]
    simp
theorem records_of_eq {s : Sn} (h : s.Ok) {R : Nat} (hR : R ≤ 100) : F_records_of [s.d, .int (R : Int)] S = .ok (.lst ((rcs s.start s.steps s.height (R * s.steps.length)).map D.int)) S := by
  have hn := h.n0
  have hn4 := h.rd.le
  have hRn : R * s.steps.length ≤ 1000 := Nat.le_trans (Nat.mul_le_mul hR hn4) (by omega)
  obtain ⟨z7, z8, e⟩ := rec_out (S := S) (a := s.start) hn (fun x hx => (h.rd.bd x hx).2) h.h0 h.h1 R hRn (some s.d) (some (.int (R : Int))) (some (.int s.start)) (some (.tup (s.steps.map D.int))) rfl R 0 none none (by omega)
  have hm : gMul (.lst [.int 0]) (.int s.height) S = .ok (.lst ((rcs s.start s.steps s.height 0).map D.int)) S := gMul_one (by have := h.h1; omega) h.h0
  have hsm : smallI (R : Int) = true := smallI_mk (by omega) (by omega)
  simp only [Nat.zero_mul, W_zero] at e
  have hz : s.start + ((0 : Nat) : Int) = s.start := by omega
  rw [hz] at e
  simp only [F_records_of, fnP_ap, sSeq_ap]
  simp only [Sn.d, roundD] at e ⊢
  simp [hm]
  rw [sFor_rng (lo := 0) (n := R) (S1 := S) (by simp [hsm])]
  have e' : forR (gNm 7) (sFor (eItS (eVar 4)) (gNm 8) recS) R 0 [some (.tup [.int s.start, .int s.height, .tup (s.steps.map D.int)]), some (.int (R : Int)), some (.int s.start), some (.int s.height), some (.tup (s.steps.map D.int)), some (.lst ((rcs s.start s.steps s.height 0).map D.int)), some (.int s.start), none, none] S = _ := e
  simp only [recS] at e'
  rw [e']
  simp
theorem lc_add {xs : List Int} {k : Int} {i : Nat} {src : Es} {ρ : Rho} {w : Nat} {rhs : Ee} (hs : src ρ S = .ok (.it (.lst (xs.map D.int))) S) (hl : xs.length ≤ 1000)
    (hr : ∀ x : Int, rhs ((wipeR ρ [w]).set w (some (.int x))) S = .ok (.int (x + k)) S) :
    eLc src (.nm w) tYesD rhs [w] ρ S = .ok (.lst ((xs.map (· + k)).map D.int)) S := by
  rw [eLc_lst hs (by simp; omega)]
  rw [lcL_map (φ := fun d => match d with | .int x => .int (x + k) | d => d) (xs.map D.int) (fun d hd => by
    simp only [List.mem_map] at hd
    obtain ⟨x, _, rfl⟩ := hd
    exact ⟨_, rfl, hr x⟩)]
  simp [List.map_map, Function.comp_def]
theorem turn_loop {l : List Int} {r : Int} (hl : l.length ≤ 120) (hp : 0 < l.length) (h0 : 0 ≤ r) (hr : r ≤ 100) : ∀ (k p : Nat) (z3 z4 z5 z6 : Option D), p + k = l.length + 1 → 1 ≤ p →
    ((forR (gNm 3) (sIf (eAndT (eTb (eBin gEq (eBin gMod (eVar 2) (eVar 3)) (eK (.int 0)))) (eTb (eBin gEq (eBin gMod (eBin gMul (eVar 1) (eVar 3)) (eVar 2)) (eK (.int 0)))))
    (sSeq (sSet 4 (eBin gDiv (eBin gMul (eVar 1) (eVar 3)) (eVar 2)))
    (sSeq (sSet 5 (eBin gAdd (eSl (eVar 0) (ePart (eVar 3)) eNo) (eLc (eItS (eSl (eVar 0) eNo (ePart (eVar 3)))) (.nm 6) tYesD (eBin gAdd (eVar 6) (eVar 1)) [6])))
    (sIf (eTb (eBin gEq (eVar 5) (eLc (eItS (eVar 0)) (.nm 6) tYesD (eBin gAdd (eVar 6) (eVar 4)) [6])))
    (sRt (eVar 3))
    sNx)))
    sNx) k (p : Int) [some (.lst (l.map D.int)), some (.int r), some (.int (l.length : Int)), z3, z4, z5, z6] S).seq (sRt (eVar 2))).fin = .ok (.int (ltFrom l r k p)) S
  | 0, p, z3, z4, z5, z6, hk, h1 => by simp [forR, ltFrom]
  | k + 1, p, z3, z4, z5, z6, hk, h1 => by
    have hpl : p ≤ l.length := by omega
    have q1 : gMod (.int (l.length : Int)) (.int (p : Int)) S = .ok (.int ((l.length : Int) % (p : Int))) S := gMod_int _ (by omega)
    have q2 : gMul (.int r) (.int (p : Int)) S = .ok (.int (r * p)) S := gMul_int _ (by
      have a : r.natAbs.log2 < 7 := log2_lt (by
        have : (2 : Nat) ^ 7 = 128 := by decide
        omega) (by decide)
      have b : ((p : Int)).natAbs.log2 < 7 := log2_lt (by
        have : (2 : Nat) ^ 7 = 128 := by decide
        omega) (by decide)
      omega)
    have q3 : gMod (.int (r * p)) (.int (l.length : Int)) S = .ok (.int (r * p % (l.length : Int))) S := gMod_int _ (by omega)
    have q4 : gDiv (.int (r * p)) (.int (l.length : Int)) S = .ok (.int (r * p / (l.length : Int))) S := gDiv_int _ (by omega) (by
      have b : ((l.length : Int)).natAbs.log2 < 7 := log2_lt (by
        have : (2 : Nat) ^ 7 = 128 := by decide
        omega) (by decide)
      omega)
    have c1 : cutD (l.map D.int) (some (p : Int)) none = (l.drop p).map D.int := by rw [cutD_from (by simp; omega), List.map_drop]
    have c2 : cutD (l.map D.int) none (some (p : Int)) = (l.take p).map D.int := by rw [cutD_to (by simp; omega), List.map_take]
    have hnat : ((l.length : Int) % (p : Int)) = 0 ↔ l.length % p = 0 := by
      have : ((l.length % p : Nat) : Int) = (l.length : Int) % (p : Int) := rfl
      omega
    have ih := fun z4 z5 z6 => turn_loop hl hp h0 hr k (p + 1) (some (.int (p : Int))) z4 z5 z6 (by omega) (by omega)
    have hpc : ((p + 1 : Nat) : Int) = (p : Int) + 1 := by omega
    rw [hpc] at ih
    by_cases b1 : l.length % p = 0
    · by_cases b2 : r * p % (l.length : Int) = 0
      · have c3 : eLc (eItS (eSl (eVar 0) eNo (ePart (eVar 3)))) (.nm 6) tYesD (eBin gAdd (eVar 6) (eVar 1)) [6] [some (.lst (l.map D.int)), some (.int r), some (.int (l.length : Int)), some (.int (p : Int)), some (.int (r * p / (l.length : Int))), z5, z6] S = .ok (.lst (((l.take p).map (· + r)).map D.int)) S :=
          lc_add (i := 0) (xs := l.take p) (by simp [c2, -List.map_take]) (by simp; omega) (fun x => by simp [wipeR])
        have c4 := gAdd_lst S (xs := (l.drop p).map D.int) (ys := ((l.take p).map (· + r)).map D.int) (by simp; omega)
        rw [← List.map_append] at c4
        have c5 : eLc (eItS (eVar 0)) (.nm 6) tYesD (eBin gAdd (eVar 6) (eVar 4)) [6] [some (.lst (l.map D.int)), some (.int r), some (.int (l.length : Int)), some (.int (p : Int)), some (.int (r * p / (l.length : Int))), some (.lst ((turned l r p).map D.int)), z6] S = .ok (.lst ((l.map (· + r * p / (l.length : Int))).map D.int)) S :=
          lc_add (i := 0) (xs := l) (by simp) (by omega) (fun x => by simp [wipeR])
        have c6 := gEqB_ints false (turned l r p) (l.map (· + r * p / (l.length : Int))) S
        have ec : l.drop p ++ (l.take p).map (· + r) = turned l r p := rfl
        rw [ec] at c4
        by_cases b3 : turned l r p = l.map (· + r * p / (l.length : Int))
        · have hok : ltOk l r p = true := by simp [ltOk, b1, b2, b3]
          simp only [b3, decide_true, Bool.false_eq_true, if_false] at c6
          simp only [b3] at c5 c4
          simp only [ltFrom, hok, if_true]
          simp only [forR, gNm_ap, List.set, on_nx, F.seq_nx, sIf_ap, eAndT_ap, eTb_ap, eBin_ap, eVar2, eVar3, eVar1, R.bind_ok, q1, eK_ap, gEq_int, hnat, b1, decide_true, q2, q3, b2, F.ofR_ok, sSeq_ap, sSet_ap, q4, eSl_ap, eVar0, eNo_ap, ePart_ap, view_int_, gCut_lst, c1, c3, c4, eVar5, c5, c6, sRt_ap, F.turn_rt, F.seq_rt, fin_rt]
        · have hok : ltOk l r p = false := by simp [ltOk, b1, b2, b3]
          simp only [b3, decide_false, Bool.false_eq_true, if_false] at c6
          simp only [ltFrom, hok, Bool.false_eq_true, if_false]
          rw [← ih (some (.int (r * p / (l.length : Int)))) (some (.lst ((turned l r p).map D.int))) z6]
          simp only [forR, gNm_ap, List.set, on_nx, F.seq_nx, sIf_ap, eAndT_ap, eTb_ap, eBin_ap, eVar2, eVar3, eVar1, R.bind_ok, q1, eK_ap, gEq_int, hnat, b1, decide_true, q2, q3, b2, F.ofR_ok, sSeq_ap, sSet_ap, q4, eSl_ap, eVar0, eNo_ap, ePart_ap, view_int_, gCut_lst, c1, c3, c4, eVar5, c5, c6, sRt_ap, sNx_ap, F.turn_nx]
      · have hok : ltOk l r p = false := by simp [ltOk, b1, b2]
        simp only [ltFrom, hok, Bool.false_eq_true, if_false]
        rw [← ih z4 z5 z6]
        simp only [forR, gNm_ap, List.set, on_nx, F.seq_nx, sIf_ap, eAndT_ap, eTb_ap, eBin_ap, eVar2, eVar3, eVar1, R.bind_ok, q1, eK_ap, gEq_int, hnat, b1, decide_true, q2, q3, b2, decide_false, F.ofR_ok, sNx_ap, F.turn_nx]
    · have hok : ltOk l r p = false := by simp [ltOk, b1]
      simp only [ltFrom, hok, Bool.false_eq_true, if_false]
      rw [← ih z4 z5 z6]
      simp only [forR, gNm_ap, List.set, on_nx, F.seq_nx, sIf_ap, eAndT_ap, eTb_ap, eBin_ap, eVar2, eVar3, eVar1, R.bind_ok, q1, eK_ap, gEq_int, hnat, b1, decide_false, F.ofR_ok, sNx_ap, F.turn_nx]
theorem least_turn_eq {l : List Int} {r : Int} (hl : l.length ≤ 120) (hp : 0 < l.length) (h0 : 0 ≤ r) (hr : r ≤ 100) : F_least_turn [.lst (l.map D.int), .int r] S = .ok (.int (lturn l r)) S := by
  have e := turn_loop (S := S) hl hp h0 hr l.length 1 none none none none (by omega) (by omega)
  have hs1 : smallI 1 = true := by decide
  have hs2 : smallI ((l.length : Int) + 1) = true := smallI_mk (by omega) (by omega)
  simp only [F_least_turn, fnP_ap, sSeq_ap]
  simp
  rw [sFor_rng (lo := 1) (n := l.length) (S1 := S) (by simp [hs1, hs2])]
  have e' := e
  rw [show ((1 : Nat) : Int) = 1 by rfl] at e'
  rw [e']
  simp [lturn]
end
end DL
/-! calendars and exits: what the program's defs compute -/
namespace DL
open PySem L2
def oD : Option Int → D
  | none => .non
  | some m => .int m
def agD (a : List Int) : List D := if a.isEmpty then [.non] else a.map D.int
def Cal.d (c : Cal) : D := .tup [.tup (c.early.map D.int), .tup (agD c.again), .int c.rise]
def Sn.cal (s : Sn) : Cal := calOf s.start s.height s.steps
theorem Sn.calOk {s : Sn} (h : s.Ok) : CalOk s.start s.height s.steps s.cal := calOf_ok h.s0 h.s1 h.n0 h.rd.le h.rd.bd h.h0 h.h1
section
variable {S : Sto}
theorem map_getLast {l : List Int} {x : Int} (h : l.getLast? = some x) : (l.map D.int).getLast? = some (.int x) := by
  rw [List.getLast?_map, h]; rfl
theorem back_loop {r : Int} (v0 v1 v2 v3 v4 v5 v6 v8 v11 : Option D) : ∀ (e a : List Int) (n : Nat), e.length < n → 0 < a.length → a.length ≤ 1000 →
    sWh n (eAndT (eTb (eBin gNe (eVar 7) (eLst []))) (eTb (eBin gEq (eBin gAdd (eBin gIdx (eVar 7) (eNeg (eK (.int 1)))) (eVar 10)) (eBin gIdx (eVar 9) (eNeg (eK (.int 1)))))))
    (sPar 7 9 (eSl (eVar 7) eNo (ePart (eNeg (eK (.int 1))))) (eBin gAdd (eLst [(eBin gIdx (eVar 7) (eNeg (eK (.int 1))))]) (eSl (eVar 9) eNo (ePart (eNeg (eK (.int 1)))))))
    [v0, v1, v2, v3, v4, v5, v6, some (.lst (e.reverse.map D.int)), v8, some (.lst (a.map D.int)), some (.int r), v11] S
    = .nx [v0, v1, v2, v3, v4, v5, v6, some (.lst ((backR r e a).1.reverse.map D.int)), v8, some (.lst ((backR r e a).2.map D.int)), some (.int r), v11] S
  | _, _, 0, hn, _, _ => by omega
  | [], a, n + 1, hn, ha, ha2 => by
    refine sWh_false ?_
    have := gEqB_ints true [] [] S
    simp at this
    simp [this]
  | x :: e, a, n + 1, hn, ha, ha2 => by
    have q1 := gEqB_ints true ((x :: e).reverse) [] S
    have q1' : gEqB true (.lst ((x :: e).reverse.map D.int)) (.lst []) S = .ok (.bl true) S := by
      have : (x :: e).reverse ≠ [] := by simp
      simpa [this] using q1
    have i1 := gIdx_lst S (atI_last (map_getLast (l := (x :: e).reverse) (x := x) (by simp)))
    obtain ⟨y, hy⟩ : ∃ y, a.getLast? = some y := by
      cases h : a.getLast? with
      | none => rw [List.getLast?_eq_none_iff] at h; rw [h] at ha; simp at ha
      | some y => exact ⟨y, rfl⟩
    have hyd : a.getD (a.length - 1) 0 = y := by
      rw [List.getLast?_eq_getElem?] at hy
      simp [List.getD, hy]
    have i2 := gIdx_lst S (atI_last (map_getLast hy))
    by_cases c : x + r = y
    · have hb : backR r (x :: e) a = backR r e (x :: a.dropLast) := by
        conv => lhs; unfold backR
        rw [if_pos (by rw [hyd]; exact c)]
      have ih := back_loop (r := r) v0 v1 v2 v3 v4 v5 v6 v8 v11 e (x :: a.dropLast) n (by simp at hn; omega) (by simp) (by simp; omega)
      rw [hb, ← ih]
      have c1 : cutD ((x :: e).reverse.map D.int) none (some (-1)) = e.reverse.map D.int := by rw [cutD_init]; simp
      have c2 : cutD (a.map D.int) none (some (-1)) = a.dropLast.map D.int := by rw [cutD_init, List.map_dropLast]
      have c3 := gAdd_lst S (xs := [.int x]) (ys := a.dropLast.map D.int) (by simp; omega)
      generalize hX : (x :: e).reverse.map D.int = X at *
      have step : (eAndT (eTb (eBin gNe (eVar 7) (eLst []))) (eTb (eBin gEq (eBin gAdd (eBin gIdx (eVar 7) (eNeg (eK (.int 1)))) (eVar 10)) (eBin gIdx (eVar 9) (eNeg (eK (.int 1))))))) [v0, v1, v2, v3, v4, v5, v6, some (.lst X), v8, some (.lst (a.map D.int)), some (.int r), v11] S = .ok true S := by
        simp [q1', i1, i2, c, eVar]
      rw [sWh_true step]
      simp [i1, c1, c2, c3, eVar, -List.map_dropLast]
    · have hb : backR r (x :: e) a = (x :: e, a) := by
        conv => lhs; unfold backR
        rw [if_neg (by rw [hyd]; exact c)]
      rw [hb]
      refine sWh_false ?_
      generalize hX : (x :: e).reverse.map D.int = X at *
      simp [q1', i1, i2, c, eVar]
theorem agD_ne {a : List Int} (h : 0 < a.length) : agD a = a.map D.int := by
  cases a with
  | nil => simp at h
  | cons _ _ => rfl
theorem rcs_drop {a : Int} {st : List Int} {h : Int} (L : Nat) : ∃ l, rcs a st h ((L + 2) * st.length) = rcs a st h ((L + 1) * st.length) ++ l := by
  have e2 : (L + 1) * st.length + st.length = (L + 2) * st.length := by
    rw [Nat.succ_mul, Nat.succ_mul, Nat.succ_mul]
  rw [← e2]
  exact rcs_mono _ _
theorem calendar_of_eq {s : Sn} (h : s.Ok) : F_calendar_of [s.d] S = .ok s.cal.d S := by
  obtain ⟨st, L6⟩ := LL_sets (st := s.steps) h.h0 h.h1
  have hn := h.n0
  have hn4 := h.rd.le
  have hd := settled_eq (S := S) (st := s.steps) (h := s.height) (by omega) st
  have i1 := gIdx_lst S (itL_last s.steps s.height (LL s.steps s.height))
  have hg0 := Stl.gn_nn (itb_nn (st := s.steps) h.h0 _) st.s
  have r1 := records_of_eq (S := S) h (R := LL s.steps s.height + 1) (by omega)
  have r2 := records_of_eq (S := S) h (R := LL s.steps s.height + 2) (by omega)
  have r1c : ((LL s.steps s.height + 1 : Nat) : Int) = (LL s.steps s.height : Int) + 1 := by omega
  have r2c : ((LL s.steps s.height + 2 : Nat) : Int) = (LL s.steps s.height : Int) + 1 + 1 := by omega
  rw [r1c] at r1
  rw [r2c] at r2
  obtain ⟨l, hl⟩ := rcs_drop (a := s.start) (st := s.steps) (h := s.height) (LL s.steps s.height)
  have hlen1 := rcs_len (a := s.start) (st := s.steps) h.h0 ((LL s.steps s.height + 1) * s.steps.length)
  have hlen2 := rcs_len (a := s.start) (st := s.steps) h.h0 ((LL s.steps s.height + 2) * s.steps.length)
  by_cases hg : gn s.steps (itb s.steps s.height (LL s.steps s.height)) = 0
  · have hc : s.cal = ⟨rcs s.start s.steps s.height ((LL s.steps s.height + 1) * s.steps.length), [], 0⟩ := by
      unfold Sn.cal calOf; rw [if_pos hg]
    rw [hc]
    simp only [F_calendar_of, fnP_ap]
    simp only [Sn.d, roundD] at r1 r2 ⊢
    simp [hd, i1, gain_of_eq, hg, itL_len, r1, Cal.d, agD]
  · have hgp : 0 < gn s.steps (itb s.steps s.height (LL s.steps s.height)) := by omega
    have e2 : (LL s.steps s.height + 1) * s.steps.length + s.steps.length = (LL s.steps s.height + 2) * s.steps.length := by
      rw [Nat.succ_mul, Nat.succ_mul, Nat.succ_mul]
    have hmx := mx_more hn h.h0 st hgp ((LL s.steps s.height + 1) * s.steps.length) (Nat.le_refl _)
    rw [e2] at hmx
    have hdrop : (rcs s.start s.steps s.height ((LL s.steps s.height + 2) * s.steps.length)).drop (rcs s.start s.steps s.height ((LL s.steps s.height + 1) * s.steps.length)).length = l := by rw [hl]; simp
    have hll : (l.length : Int) = gn s.steps (itb s.steps s.height (LL s.steps s.height)) := by
      have : (rcs s.start s.steps s.height ((LL s.steps s.height + 2) * s.steps.length)).length = (rcs s.start s.steps s.height ((LL s.steps s.height + 1) * s.steps.length)).length + l.length := by rw [hl]; simp
      omega
    have hc : s.cal = (let b := backR ((s.steps.length : Int) * (lturn l s.steps.length) / (l.length : Int)) (rcs s.start s.steps s.height ((LL s.steps s.height + 1) * s.steps.length)).reverse (l.take (lturn l s.steps.length)); ⟨b.1.reverse, b.2, (s.steps.length : Int) * (lturn l s.steps.length) / (l.length : Int)⟩) := by
      unfold Sn.cal calOf; rw [if_neg hg]; dsimp only; rw [hdrop, hll]
    have hmb := (mx_le (h := s.height) hn (fun x hx => (h.rd.bd x hx).2) h.h0 ((LL s.steps s.height + 2) * s.steps.length)).1
    have hnl : (LL s.steps s.height + 2) * s.steps.length ≤ 8 * 4 := Nat.mul_le_mul (by omega) hn4
    have h1a := h.h1
    have hl100 : l.length ≤ 120 := by
      have := mx_nn (st := s.steps) h.h0 ((LL s.steps s.height + 1) * s.steps.length)
      omega
    have hlp : 0 < l.length := by omega
    have hlne : l ≠ [] := List.length_pos_iff.mp hlp
    obtain ⟨p1, p2, p3, _⟩ := lturn_spec (a := l) (r := (s.steps.length : Int)) hlp
    have lt := least_turn_eq (S := S) (l := l) (r := (s.steps.length : Int)) hl100 hlp (by omega) (by omega)
    have hE : (rcs s.start s.steps s.height ((LL s.steps s.height + 1) * s.steps.length)).length ≤ 1000 := by
      have := mx_le (h := s.height) hn (fun x hx => (h.rd.bd x hx).2) h.h0 ((LL s.steps s.height + 1) * s.steps.length)
      have : (LL s.steps s.height + 1) * s.steps.length ≤ 7 * 4 := Nat.mul_le_mul (by omega) hn4
      omega
    have hE2 : (rcs s.start s.steps s.height ((LL s.steps s.height + 2) * s.steps.length)).length = (rcs s.start s.steps s.height ((LL s.steps s.height + 1) * s.steps.length)).length + l.length := by rw [hl]; simp
    rw [hc]
    rw [← hll] at hg hgp
    have hgn : ∀ S : Sto, F_gain_of [.int (itb s.steps s.height (LL s.steps s.height)), .tup (s.steps.map D.int)] S = .ok (.int (l.length : Int)) S := fun S => by rw [gain_of_eq, hll]
    generalize hp : lturn l (s.steps.length : Int) = p at *
    have mu : gMul (.int (s.steps.length : Int)) (.int (p : Int)) S = .ok (.int ((s.steps.length : Int) * p)) S := gMul_int _ (by
      have a : ((s.steps.length : Int)).natAbs.log2 < 7 := log2_lt (by
        have : (2 : Nat) ^ 7 = 128 := by decide
        omega) (by decide)
      have b : ((p : Int)).natAbs.log2 < 7 := log2_lt (by
        have : (2 : Nat) ^ 7 = 128 := by decide
        omega) (by decide)
      omega)
    have di : gDiv (.int ((s.steps.length : Int) * p)) (.int (l.length : Int)) S = .ok (.int ((s.steps.length : Int) * p / (l.length : Int))) S := gDiv_int _ hgp (by
      have b : ((l.length : Int)).natAbs.log2 < 7 := log2_lt (by
        have : (2 : Nat) ^ 7 = 128 := by decide
        omega) (by decide)
      omega)
    have cl : cutD ((rcs s.start s.steps s.height ((LL s.steps s.height + 2) * s.steps.length)).map D.int) (some ((rcs s.start s.steps s.height ((LL s.steps s.height + 1) * s.steps.length)).length : Int)) none = l.map D.int := by
      rw [cutD_from (by simp; omega), ← List.map_drop, hdrop]
    have ct : cutD (l.map D.int) none (some (p : Int)) = (l.take p).map D.int := by rw [cutD_to (by simp; omega), List.map_take]
    have hwl : ((rcs s.start s.steps s.height ((LL s.steps s.height + 2) * s.steps.length)).length : Int) - ((rcs s.start s.steps s.height ((LL s.steps s.height + 1) * s.steps.length)).length : Int) = (l.length : Int) := by omega
    have htl : (l.take p).length = p := by simp; omega
    generalize hr : (s.steps.length : Int) * (p : Int) / (l.length : Int) = r at *
    have bl := fun v0 v1 v2 v3 v4 v5 v6 v8 v11 => back_loop (S := S) (r := r) v0 v1 v2 v3 v4 v5 v6 v8 v11 (rcs s.start s.steps s.height ((LL s.steps s.height + 1) * s.steps.length)).reverse (l.take p) 4096 (by simp; omega) (by omega) (by omega)
    have hba : 0 < (backR r (rcs s.start s.steps s.height ((LL s.steps s.height + 1) * s.steps.length)).reverse (l.take p)).2.length := by
      have : ∀ (e a : List Int), 0 < a.length → 0 < (backR r e a).2.length := by
        intro e
        induction e with
        | nil => intro a ha; exact ha
        | cons x e ih =>
          intro a ha
          unfold backR
          split
          · exact ih _ (by simp)
          · exact ha
      exact this _ _ (by omega)
    have wl := fun (ρ : Rho) (h : (eTb (eBin gNe (eBin gSub (eCall gLen [(eCall F_records_of [(eVar 0), (eBin gAdd (eVar 6) (eK (.int 1)))])]) (eCall gLen [(eCall F_records_of [(eVar 0), (eVar 6)])])) (eVar 5))) ρ S = .ok false S) => sWh_false (n := 4095) (b := (sSet 6 (eBin gAdd (eVar 6) (eK (.int 1))))) h
    simp only [List.reverse_reverse] at bl
    generalize (backR r (rcs s.start s.steps s.height ((LL s.steps s.height + 1) * s.steps.length)).reverse (l.take p)) = B at *
    generalize rcs s.start s.steps s.height ((LL s.steps s.height + 1) * s.steps.length) = R1 at *
    generalize rcs s.start s.steps s.height ((LL s.steps s.height + 2) * s.steps.length) = R2 at *
    simp only [F_calendar_of, fnP_ap]
    simp only [Sn.d, roundD] at r1 r2 ⊢
    simp only [sSeq_ap]
    simp [hd, i1, hgn, hg, itL_len, hlne]
    rw [wl _ (by simp [eVar, r1, r2, hwl])]
    simp [eVar, r1, r2, cl, lt, ct, mu, di, -List.map_take]
    rw [bl]
    simp [eVar, Cal.d, agD_ne hba]
theorem oD_at (o : Option Int) : isNon (oD o) = o.isNone := by cases o <;> rfl
theorem minute_in_eq {c : Cal} (hlA : c.again.length ≤ 12) (hlE : c.early.length ≤ 100) (hr0 : 0 ≤ c.rise) (hr : c.rise ≤ 1000) {d : Int} (h1 : 1 ≤ d) (h2 : d ≤ 1000000000000000000000000000000) : F_minute_in [c.d, .int d] S = .ok (oD (c.at (d - 1).toNat)) S := by
  obtain ⟨i, rfl⟩ : ∃ i : Nat, d = (i : Int) + 1 := ⟨(d - 1).toNat, by omega⟩
  have hi : ((i : Int) + 1 - 1).toNat = i := by omega
  rw [hi]
  by_cases c1 : i < c.early.length
  · have e : c.at i = some (c.early.getD i 0) := by unfold Cal.at; rw [if_pos c1]
    have i1 : gIdx (.tup (c.early.map D.int)) (.int (i : Int)) S = .ok (.int (c.early.getD i 0)) S := gIdx_tup _ (atI_nat (by simp [List.getElem?_eq_getElem c1, List.getD]))
    have c1' : (i : Int) + 1 ≤ (c.early.length : Int) := by omega
    have hs : (i : Int) + 1 - 1 = (i : Int) := by omega
    rw [e]
    simp [F_minute_in, fnP_ap, Cal.d, c1', hs, i1, oD]
  · have c1' : ¬ (i : Int) + 1 ≤ (c.early.length : Int) := by omega
    obtain ⟨j, hj⟩ : ∃ j : Nat, (i : Int) + 1 - 1 - (c.early.length : Int) = (j : Int) := ⟨i - c.early.length, by omega⟩
    have hj2 : i - c.early.length = j := by omega
    have hj' : (i : Int) - (c.early.length : Int) = (j : Int) := by omega
    by_cases c2 : c.again = []
    · have e : c.at i = none := by unfold Cal.at; rw [if_neg c1, c2]; rfl
      have i1 : gIdx (.tup [.non]) (.int 0) S = .ok .non S := gIdx_tup _ (atI0 _ _)
      have m1 : gMod (.int (j : Int)) (.int 1) S = .ok (.int 0) S := by rw [gMod_int _ (by omega)]; simp
      rw [e]
      simp [F_minute_in, fnP_ap, Cal.d, c1', hj', c2, agD, m1, i1, oD, isNon]
    · have hp : 0 < c.again.length := List.length_pos_iff.mpr c2
      have e : c.at i = some (rs c.again c.rise j) := by
        unfold Cal.at
        rw [if_neg c1, hj2, if_neg (by simpa using c2)]
      have hmod := Nat.mod_lt j hp
      have i1 : gIdx (.tup (c.again.map D.int)) (.int ((j % c.again.length : Nat) : Int)) S = .ok (.int (c.again.getD (j % c.again.length) 0)) S := gIdx_tup _ (atI_nat (by simp [List.getElem?_eq_getElem hmod, List.getD]))
      have m1 : gMod (.int (j : Int)) (.int (c.again.length : Int)) S = .ok (.int ((j % c.again.length : Nat) : Int)) S := by rw [gMod_int _ (by omega)]; rfl
      have hl : ((c.again.length : Int)).natAbs.log2 < 9000 := by
        have b : ((c.again.length : Int)).natAbs.log2 < 7 := log2_lt (by
          have : (2 : Nat) ^ 7 = 128 := by decide
          omega) (by decide)
        omega
      have m2 : gDiv (.int (j : Int)) (.int (c.again.length : Int)) S = .ok (.int ((j / c.again.length : Nat) : Int)) S := by rw [gDiv_int _ (by omega) hl]; rfl
      have hjb : j / c.again.length ≤ j := Nat.div_le_self _ _
      have m3 : gMul (.int ((j / c.again.length : Nat) : Int)) (.int c.rise) S = .ok (.int (((j / c.again.length : Nat) : Int) * c.rise)) S := gMul_int _ (by
        have a : c.rise.natAbs.log2 < 10 := log2_lt (by
          have : (2 : Nat) ^ 10 = 1024 := by decide
          omega) (by decide)
        have b : (((j / c.again.length : Nat) : Int)).natAbs.log2 < 200 := log2_lt (by
          rw [Int.natAbs_natCast]
          have : (1000000000000000000000000000000 : Nat) + 100 < 2 ^ 200 := by decide
          omega) (by decide)
        omega)
      rw [e]
      unfold rs
      have hag : agD c.again = c.again.map D.int := agD_ne hp
      generalize j % c.again.length = q at *
      generalize j / c.again.length = q' at *
      simp [F_minute_in, fnP_ap, Cal.d, c1', hj', hag, m1, i1, m2, m3, oD, isNon]
theorem cal_at {s : Sn} (h : s.Ok) {d : Int} (h1 : 1 ≤ d) (h2 : d ≤ 1000000000000000000000000000000) : F_minute_in [s.cal.d, .int d] S = .ok (oD (s.cal.at (d - 1).toNat)) S := by
  have c := Sn.calOk h
  have r0 : 0 ≤ s.cal.rise := by
    by_cases e : s.cal.again = []
    · rw [c.non e]; exact Int.le_refl _
    · exact Int.le_of_lt (c.rise e)
  exact minute_in_eq c.lenA c.lenE r0 (by have := c.riseB; omega) h1 h2
/-- the minute at which a snail is out -/
def Sn.out (s : Sn) (d : Int) : Option Int := s.cal.at (d - 1).toNat
theorem Sn.isOut {s : Sn} (h : s.Ok) {d : Int} (h1 : 1 ≤ d) : IsOut s.start s.steps s.height d (s.out d) := by
  have := (Sn.calOk h).out (d - 1).toNat
  rwa [show (((d - 1).toNat : Nat) : Int) + 1 = d by omega] at this
theorem out_at_eq {s : Sn} (h : s.Ok) {d : Int} (h1 : 1 ≤ d) (h2 : d ≤ 1000000000000000000000000000000) : F_out_at [s.d, .int d] S = .ok (oD (s.out d)) S := by
  simp [F_out_at, fnP_ap, need_snail_eq h, need_number_eq h1 h2, calendar_of_eq h, cal_at h h1 h2, Sn.out]
theorem height_at_eq {s : Sn} (h : s.Ok) {m : Int} (h1 : 0 ≤ m) (h2 : m ≤ 1000000000000000000000000000000) : F_height_at [s.d, .int m] S = .ok (.int (s.H m)) S := by
  simp [F_height_at, fnP_ap, need_snail_eq h, need_number_eq h1 h2, height_of_eq h h1 h2]
theorem calendar_eq {s : Sn} (h : s.Ok) : F_calendar [s.d] S = .ok s.cal.d S := by
  simp [F_calendar, fnP_ap, need_snail_eq h, calendar_of_eq h]
end
end DL
/-! the laws' own minutes -/
namespace DL
open PySem L2
section
variable {S : Sto}
theorem up_eq (h x : Int) : F__law_up [.int h, .int x] S = .ok (.int (up h x)) S := by
  by_cases c : h + x > 0
  · have c' : 0 < h + x := c
    simp [F__law_up, fnP_ap, up, c']
  · have c' : ¬ 0 < h + x := c
    simp [F__law_up, fnP_ap, up, c']
theorem end_loop (t : Option D) : ∀ (xs : List Int) (h : Int) (z : Option D), ∃ z', forL (gNm 2) (sSet 0 (eCall F__law_up [(eVar 0), (eVar 2)])) (xs.map D.int) [some (.int h), t, z] S = .nx [some (.int (beh h xs)), t, z'] S
  | [], h, z => ⟨z, rfl⟩
  | x :: xs, h, z => by
    obtain ⟨z', e⟩ := end_loop t xs (up h x) (some (.int x))
    refine ⟨z', ?_⟩
    rw [beh_cons, ← e]
    simp [forL, up_eq]
theorem law_end_eq (h : Int) (st : List Int) : F__law_end [.int h, .tup (st.map D.int)] S = .ok (.int (beh h st)) S := by
  obtain ⟨z', e⟩ := end_loop (S := S) (some (.tup (st.map D.int))) st h none
  simp only [F__law_end, fnP_ap, sSeq_ap]
  simp only [List.map_cons, List.map_nil, List.cons_append, List.nil_append, List.replicate, Nat.reduceSub]
  rw [sFor_tup (xs := st.map D.int) (S1 := S) (by simp), e]
  simp
theorem gains_loop (v0 v1 : Option D) : ∀ (xs : List Int) (h : Int) (z : Option D), 0 ≤ h →
    (0 ≤ h + low xs → ∃ z', forL (gNm 3) (sSeq (sSet 2 (eBin gAdd (eVar 2) (eVar 3))) (sIf (eTb (eBin gLt (eVar 2) (eK (.int 0)))) (sRt (eK .non)) sNx)) (xs.map D.int) [v0, v1, some (.int h), z] S = .nx [v0, v1, some (.int (h + xs.sum)), z'] S) ∧
    (h + low xs < 0 → forL (gNm 3) (sSeq (sSet 2 (eBin gAdd (eVar 2) (eVar 3))) (sIf (eTb (eBin gLt (eVar 2) (eK (.int 0)))) (sRt (eK .non)) sNx)) (xs.map D.int) [v0, v1, some (.int h), z] S = .rt .non S)
  | [], h, z, hh => ⟨fun _ => ⟨z, by simp [forL]⟩, fun l => by simp only [low] at l; omega⟩
  | x :: xs, h, z, hh => by
    have hl := low_le xs
    by_cases c : h + x < 0
    · refine ⟨fun l => ?_, fun _ => by simp [forL, c]⟩
      simp only [low] at l; omega
    · obtain ⟨e1, e2⟩ := gains_loop v0 v1 xs (h + x) (some (.int x)) (by omega)
      refine ⟨fun l => ?_, fun l => ?_⟩
      · obtain ⟨z', e⟩ := e1 (by simp only [low] at l; omega)
        refine ⟨z', ?_⟩
        have hs : h + (x :: xs).sum = h + x + xs.sum := by simp only [List.sum_cons]; omega
        rw [hs, ← e]
        simp [forL, c]
      · rw [← e2 (by simp only [low] at l; omega)]
        simp [forL, c]
theorem gains_eq {h : Int} (hh : 0 ≤ h) (st : List Int) : F__law_gains [.int h, .tup (st.map D.int)] S = .ok (if 0 ≤ h + low st then .int st.sum else .non) S := by
  obtain ⟨e1, e2⟩ := gains_loop (S := S) (some (.int h)) (some (.tup (st.map D.int))) st h none hh
  simp only [F__law_gains, fnP_ap, sSeq_ap]
  simp only [List.map_cons, List.map_nil, List.cons_append, List.nil_append, List.replicate, Nat.reduceSub]
  simp
  by_cases c : 0 ≤ h + low st
  · obtain ⟨z', e⟩ := e1 c
    rw [sFor_tup (xs := st.map D.int) (S1 := S) (by simp), e]
    simp [c]
    omega
  · rw [sFor_tup (xs := st.map D.int) (S1 := S) (by simp), e2 (by omega)]
    simp [c]
/-! ### _law_out -/
def outS : Sm := (sSeq (sPar 3 2 (eCall F__law_up [(eVar 3), (eVar 9)]) (eBin gAdd (eVar 2) (eK (.int 1))))
    (sIf (eTb (eBin gGe (eVar 3) (eVar 1)))
    (sRt (eVar 2))
    sNx))
def outB : Sm := (sSeq (sPar 6 7 (eCall F__law_gains [(eVar 3), (eVar 4)]) (eVar 3))
    (sSeq (sIf (eAndT (eTb (eBin gNotN (eVar 6) (eK .non))) (eAndT (eTb (eBin gGt (eVar 6) (eK (.int 0)))) (eTb (eBin gGt (eBin gSub (eVar 1) (eVar 3)) (eK (.int 40))))))
    (sSeq (sSet 8 (eBin gDiv (eBin gSub (eBin gSub (eVar 1) (eVar 3)) (eK (.int 20))) (eVar 6)))
    (sSeq (sSet 3 (eBin gAdd (eVar 3) (eBin gMul (eVar 8) (eVar 6))))
    (sSet 2 (eBin gAdd (eVar 2) (eBin gMul (eVar 8) (eCall gLen [(eVar 4)]))))))
    sNx)
    (sSeq (sFor (eItS (eVar 4)) (gNm 9) outS)
    (sIf (eTb (eBin gEq (eVar 3) (eVar 7)))
    (sRt (eK .non))
    sNx))))
theorem out_in {a h d : Int} {st : List Int} (hn : 0 < st.length) (q : Nat) (v0 v4 v5 v6 v7 v8 : Option D) : ∀ (k r : Nat) (z : Option D), r + k = st.length → (∀ u, u ≤ q * st.length + r → W st h u < d) →
    (∃ T, IsT st h d T ∧ 0 < T ∧ forL (gNm 9) outS ((st.drop r).map D.int) [v0, some (.int d), some (.int (a + ((q * st.length + r : Nat) : Int))), some (.int (W st h (q * st.length + r))), v4, v5, v6, v7, v8, z] S = .rt (.int (a + T)) S)
    ∨ ((∀ u, u ≤ (q + 1) * st.length → W st h u < d) ∧ ∃ z', forL (gNm 9) outS ((st.drop r).map D.int) [v0, some (.int d), some (.int (a + ((q * st.length + r : Nat) : Int))), some (.int (W st h (q * st.length + r))), v4, v5, v6, v7, v8, z] S
      = .nx [v0, some (.int d), some (.int (a + (((q + 1) * st.length : Nat) : Int))), some (.int (W st h ((q + 1) * st.length))), v4, v5, v6, v7, v8, z'] S)
  | 0, r, z, hr, hu => by
    have : r = st.length := by omega
    subst this
    refine .inr ⟨fun u h => hu u (by rw [Nat.succ_mul] at h; exact h), z, ?_⟩
    rw [Nat.succ_mul]
    simp [forL]
  | k + 1, r, z, hr, hu => by
    have hrl : r < st.length := by omega
    have hW : up (W st h (q * st.length + r)) st[r] = W st h (q * st.length + r + 1) := by
      rw [W_succ hn]
      have hm : (q * st.length + r) % st.length = r := by
        rw [Nat.add_comm, Nat.add_mul_mod_self_right, Nat.mod_eq_of_lt hrl]
      simp only [hm]
    have hc : a + ((q * st.length + r + 1 : Nat) : Int) = a + ((q * st.length + r : Nat) : Int) + 1 := by omega
    rw [List.drop_eq_getElem_cons hrl]
    by_cases c : d ≤ W st h (q * st.length + r + 1)
    · refine .inl ⟨q * st.length + r + 1, ⟨c, fun u h => hu u (by omega)⟩, by omega, ?_⟩
      rw [hc]
      generalize q * st.length + r = t at *
      simp only [List.map_cons, forL, gNm_ap, List.set, on_nx, F.seq_nx, outS, sSeq_ap, sPar_ap, eCall_ap, eArgs_cons, eArgs_nil, eVar3, eVar9, eVar2, eVar1, R.bind_ok, up_eq, F.ofR_ok, eBin_ap, eK_ap, gAdd_int, hW, sIf_ap, eTb_ap, gI2_int, c, decide_true, sRt_ap, F.turn_rt]
    · have ih := out_in (a := a) hn q v0 v4 v5 v6 v7 v8 k (r + 1) (some (.int st[r])) (by omega) (fun u h => by
        rcases Nat.lt_or_ge u (q * st.length + r + 1) with hl | hl
        · exact hu u (by omega)
        · have : u = q * st.length + r + 1 := by omega
          rw [this]; omega)
      rw [← Nat.add_assoc, hc] at ih
      have step : forL (gNm 9) outS ((st[r] :: st.drop (r + 1)).map D.int) [v0, some (.int d), some (.int (a + ((q * st.length + r : Nat) : Int))), some (.int (W st h (q * st.length + r))), v4, v5, v6, v7, v8, z] S
          = forL (gNm 9) outS ((st.drop (r + 1)).map D.int) [v0, some (.int d), some (.int (a + ((q * st.length + r : Nat) : Int) + 1)), some (.int (W st h (q * st.length + r + 1))), v4, v5, v6, v7, v8, some (.int st[r])] S := by
        generalize q * st.length + r = t at *
        simp only [List.map_cons, forL, gNm_ap, List.set, on_nx, F.seq_nx, outS, sSeq_ap, sPar_ap, eCall_ap, eArgs_cons, eArgs_nil, eVar3, eVar9, eVar2, eVar1, R.bind_ok, up_eq, F.ofR_ok, eBin_ap, eK_ap, gAdd_int, hW, sIf_ap, eTb_ap, gI2_int, c, decide_false, sNx_ap, F.turn_nx]
      rw [step]
      exact ih
theorem beh_le : ∀ (l : List Int) (y : Int), 0 ≤ y → (∀ x ∈ l, x ≤ 3) → beh y l ≤ y + 3 * l.length
  | [], y, _, _ => by simp [beh_nil]
  | x :: l, y, hy, h => by
    have h1 := h x (by simp)
    have := beh_le l (up y x) (up_nn y x) fun z hz => h z (List.mem_cons_of_mem _ hz)
    rw [beh_cons]
    simp only [List.length_cons]
    unfold up at *
    split at this <;> split <;> omega
theorem sum_le3 : ∀ (l : List Int), (∀ x ∈ l, -3 ≤ x ∧ x ≤ 3) → -3 * (l.length : Int) ≤ l.sum ∧ l.sum ≤ 3 * l.length
  | [], _ => by simp
  | x :: l, h => by
    have h1 := h x (by simp)
    have := sum_le3 l fun z hz => h z (List.mem_cons_of_mem _ hz)
    simp only [List.sum_cons, List.length_cons]
    omega
/-- how many rounds one turn leaves out -/
def jumpO (st : List Int) (x d : Int) : Nat := if 0 ≤ x + low st ∧ 0 < st.sum ∧ 40 < d - x then ((d - x - 20) / st.sum).toNat else 0
theorem small_log {x : Int} {k : Nat} (h : x.natAbs < 2 ^ k) (hk : 0 < k) (hk2 : k ≤ 1000) : x.natAbs.log2 < 1000 := by
  have := log2_lt h hk
  omega
theorem jump_ok {h d : Int} {st : List Int} (hn : 0 < st.length) (hn4 : st.length ≤ 4) (hb : ∀ x ∈ st, -3 ≤ x ∧ x ≤ 3) (hh : 0 ≤ h) (q : Nat) (hu : ∀ u, u ≤ q * st.length → W st h u < d) :
    (∀ u, u ≤ (q + jumpO st (itb st h q) d) * st.length → W st h u < d) ∧ itb st h (q + jumpO st (itb st h q) d) = itb st h q + (jumpO st (itb st h q) d : Int) * st.sum := by
  unfold jumpO
  by_cases c : 0 ≤ itb st h q + low st ∧ 0 < st.sum ∧ 40 < d - itb st h q
  · rw [if_pos c]
    obtain ⟨c1, c2, c3⟩ := c
    have hx := itb_nn (st := st) hh q
    have hs : Stl st (itb st h q) := .inl ⟨c1, by omega⟩
    have hg : gn st (itb st h q) = st.sum := by
      have := beh_eq st (itb st h q) hx
      unfold gn; omega
    have hJ0 : 0 ≤ (d - itb st h q - 20) / st.sum := Int.ediv_nonneg (by omega) (by omega)
    have hJ : (d - itb st h q - 20) / st.sum * st.sum ≤ d - itb st h q - 20 := Int.ediv_mul_le _ (by omega)
    obtain ⟨J, hJe⟩ : ∃ J : Nat, (d - itb st h q - 20) / st.sum = (J : Int) := ⟨_, (Int.toNat_of_nonneg hJ0).symm⟩
    rw [hJe] at hJ ⊢
    rw [Int.toNat_natCast]
    have lin : ∀ j : Nat, itb st h (q + j) = itb st h q + (j : Int) * st.sum := fun j => by
      rw [itb_add, (Stl.itb hx hs j).1, hg]
    refine ⟨fun u hle => ?_, lin J⟩
    rcases Nat.le_total u (q * st.length) with hl | hl
    · exact hu u hl
    · have hq : q ≤ u / st.length := (Nat.le_div_iff_mul_le hn).mpr hl
      have hq2 : u / st.length ≤ q + J := by
        rcases Nat.lt_or_ge (q + J) (u / st.length) with hc | hc
        · have := (Nat.le_div_iff_mul_le hn).mp hc
          have : (q + J) * st.length < (q + J).succ * st.length := by rw [Nat.succ_mul]; omega
          omega
        · exact hc
      have hr := Nat.mod_lt u hn
      have hlin := lin (u / st.length - q)
      rw [show q + (u / st.length - q) = u / st.length by omega] at hlin
      have hjJ : ((u / st.length - q : Nat) : Int) * st.sum ≤ (J : Int) * st.sum := Int.mul_le_mul_of_nonneg_right (by omega) (by omega)
      have hW : W st h u = beh (itb st h (u / st.length)) (st.take (u % st.length)) := rfl
      have hbl := beh_le (st.take (u % st.length)) (itb st h (u / st.length)) (itb_nn hh _) fun z hz => (hb z (List.mem_of_mem_take hz)).2
      have hlen : (st.take (u % st.length)).length ≤ 3 := by simp; omega
      rw [hW]
      omega
  · rw [if_neg c]
    simp only [Nat.add_zero]
    exact ⟨hu, by simp⟩
theorem out_step {a h d : Int} {st : List Int} (hn : 0 < st.length) (hn4 : st.length ≤ 4) (hb : ∀ x ∈ st, -3 ≤ x ∧ x ≤ 3) (hh : 0 ≤ h) (hd0 : 0 ≤ d) (hd : d ≤ 1000000000000000000000000000000) (q : Nat) (v0 v5 v6 v7 v8 v9 : Option D) (hu : ∀ u, u ≤ q * st.length → W st h u < d) :
    (∃ o, IsOut a st h d o ∧ outB [v0, some (.int d), some (.int (a + ((q * st.length : Nat) : Int))), some (.int (itb st h q)), some (.tup (st.map D.int)), v5, v6, v7, v8, v9] S = .rt (oD o) S)
    ∨ ∃ v6' v7' v8' v9', (∀ u, u ≤ (q + jumpO st (itb st h q) d + 1) * st.length → W st h u < d) ∧ itb st h (q + jumpO st (itb st h q) d + 1) ≠ itb st h q ∧
      outB [v0, some (.int d), some (.int (a + ((q * st.length : Nat) : Int))), some (.int (itb st h q)), some (.tup (st.map D.int)), v5, v6, v7, v8, v9] S
      = .nx [v0, some (.int d), some (.int (a + (((q + jumpO st (itb st h q) d + 1) * st.length : Nat) : Int))), some (.int (itb st h (q + jumpO st (itb st h q) d + 1))), some (.tup (st.map D.int)), v5, v6', v7', v8', v9'] S := by
  obtain ⟨j1, j2⟩ := jump_ok (d := d) hn hn4 hb hh q hu
  have hx := itb_nn (st := st) hh q
  have hge := gains_eq (S := S) hx st
  have hsb := sum_le3 st hb
  -- the jump
  obtain ⟨v8', hpre⟩ : ∃ v8', (sSeq (sPar 6 7 (eCall F__law_gains [(eVar 3), (eVar 4)]) (eVar 3))
    (sIf (eAndT (eTb (eBin gNotN (eVar 6) (eK .non))) (eAndT (eTb (eBin gGt (eVar 6) (eK (.int 0)))) (eTb (eBin gGt (eBin gSub (eVar 1) (eVar 3)) (eK (.int 40))))))
    (sSeq (sSet 8 (eBin gDiv (eBin gSub (eBin gSub (eVar 1) (eVar 3)) (eK (.int 20))) (eVar 6)))
    (sSeq (sSet 3 (eBin gAdd (eVar 3) (eBin gMul (eVar 8) (eVar 6))))
    (sSet 2 (eBin gAdd (eVar 2) (eBin gMul (eVar 8) (eCall gLen [(eVar 4)]))))))
    sNx)) [v0, some (.int d), some (.int (a + ((q * st.length : Nat) : Int))), some (.int (itb st h q)), some (.tup (st.map D.int)), v5, v6, v7, v8, v9] S
    = .nx [v0, some (.int d), some (.int (a + (((q + jumpO st (itb st h q) d) * st.length : Nat) : Int))), some (.int (itb st h (q + jumpO st (itb st h q) d))), some (.tup (st.map D.int)), v5, some (if 0 ≤ itb st h q + low st then .int st.sum else .non), some (.int (itb st h q)), v8', v9] S := by
    rw [j2]
    unfold jumpO
    by_cases c1 : 0 ≤ itb st h q + low st
    · by_cases c2 : 0 < st.sum
      · by_cases c3 : 40 < d - itb st h q
        · rw [if_pos ⟨c1, c2, c3⟩]
          have hJ0 : 0 ≤ (d - itb st h q - 20) / st.sum := Int.ediv_nonneg (by omega) (by omega)
          obtain ⟨J, hJe⟩ : ∃ J : Nat, (d - itb st h q - 20) / st.sum = (J : Int) := ⟨_, (Int.toNat_of_nonneg hJ0).symm⟩
          have hJle : (d - itb st h q - 20) / st.sum ≤ d - itb st h q - 20 := Int.ediv_le_self _ (by omega)
          have hJl : ((J : Int)).natAbs.log2 < 1000 := small_log (k := 200) (by
            have : (1000000000000000000000000000000 : Nat) + 100 < 2 ^ 200 := by decide
            omega) (by decide) (by decide)
          have hsl : st.sum.natAbs.log2 < 1000 := small_log (k := 10) (by
            have : (2 : Nat) ^ 10 = 1024 := by decide
            omega) (by decide) (by decide)
          have hnl : ((st.length : Int)).natAbs.log2 < 1000 := small_log (k := 10) (by
            have : (2 : Nat) ^ 10 = 1024 := by decide
            omega) (by decide) (by decide)
          have k1 : gDiv (.int (d - itb st h q - 20)) (.int st.sum) S = .ok (.int (J : Int)) S := by rw [gDiv_int _ c2 (by omega), hJe]
          have k2 : gMul (.int (J : Int)) (.int st.sum) S = .ok (.int (J * st.sum)) S := gMul_int _ (by omega)
          have k3 : gMul (.int (J : Int)) (.int (st.length : Int)) S = .ok (.int (J * (st.length : Int))) S := gMul_int _ (by omega)
          have hm : a + (((q + J) * st.length : Nat) : Int) = a + ((q * st.length : Nat) : Int) + (J : Int) * (st.length : Int) := by
            rw [Nat.add_mul]; simp; omega
          refine ⟨some (.int (J : Int)), ?_⟩
          rw [hJe, Int.toNat_natCast, hm]
          generalize q * st.length = t at *
          simp [eVar, hge, c1, c2, c3, isNon, k1, k2, k3]
        · refine ⟨v8, ?_⟩
          rw [if_neg (fun h => c3 h.2.2)]
          simp [eVar, hge, c1, c2, c3, isNon]
      · refine ⟨v8, ?_⟩
        rw [if_neg (fun h => c2 h.2.1)]
        simp [eVar, hge, c1, c2, isNon]
    · refine ⟨v8, ?_⟩
      rw [if_neg (fun h => c1 h.1)]
      simp [eVar, hge, c1, isNon]
  generalize hQ : q + jumpO st (itb st h q) d = Q at *
  have hall : outB [v0, some (.int d), some (.int (a + ((q * st.length : Nat) : Int))), some (.int (itb st h q)), some (.tup (st.map D.int)), v5, v6, v7, v8, v9] S
      = (sSeq (sFor (eItS (eVar 4)) (gNm 9) outS) (sIf (eTb (eBin gEq (eVar 3) (eVar 7))) (sRt (eK .non)) sNx)) [v0, some (.int d), some (.int (a + ((Q * st.length : Nat) : Int))), some (.int (itb st h Q)), some (.tup (st.map D.int)), v5, some (if 0 ≤ itb st h q + low st then .int st.sum else .non), some (.int (itb st h q)), v8', v9] S := by
    have assoc : ∀ (f g k : Sm) (ρ : Rho) (S : Sto), sSeq f (sSeq g k) ρ S = sSeq (sSeq f g) k ρ S := by
      intro f g k ρ S
      simp only [sSeq_ap]
      cases f ρ S <;> rfl
    unfold outB
    rw [assoc, sSeq_ap, hpre]
    rfl
  rw [hall]
  have hin := out_in (S := S) (a := a) (d := d) hn Q v0 (some (.tup (st.map D.int))) v5 (some (if 0 ≤ itb st h q + low st then .int st.sum else .non)) (some (.int (itb st h q))) v8' st.length 0 v9 (by omega) (by simpa using j1)
  simp only [Nat.add_zero, List.drop_zero, W_round hn] at hin
  rcases hin with ⟨T, t1, t2, t3⟩ | ⟨t1, z', t2⟩
  · refine .inl ⟨some (a + T), ⟨T, t1, by unfold mn; rw [if_neg (by omega)]⟩, ?_⟩
    simp only [sSeq_ap]
    rw [sFor_tup (xs := st.map D.int) (S1 := S) (by simp [eVar]), t3]
    rfl
  · by_cases c : itb st h (Q + 1) = itb st h q
    · refine .inl ⟨none, ?_, ?_⟩
      · have hJ : jumpO st (itb st h q) d = 0 := by
          by_cases c0 : jumpO st (itb st h q) d = 0
          · exact c0
          · exfalso
            have hs : 0 < st.sum := by
              unfold jumpO at c0
              split at c0
              · next hc => exact hc.2.1
              · exact absurd rfl c0
            have h1 : itb st h (Q + 1) = beh (itb st h Q) st := rfl
            have h2 := beh_eq st (itb st h Q) (itb_nn hh Q)
            have h3 : 0 < ((jumpO st (itb st h q) d : Nat) : Int) * st.sum := Int.mul_pos (by omega) hs
            omega
        have hQq : Q = q := by omega
        subst hQq
        intro T
        rcases Nat.lt_or_ge ((Q + 1) * st.length) T with hl | hl
        · have hq : Q + 1 ≤ T / st.length := (Nat.le_div_iff_mul_le hn).mpr (by omega)
          have hr := Nat.mod_lt T hn
          have hs : Stl st (itb st h Q) := .inr c
          have hg : gn st (itb st h Q) = 0 := by
            have : beh (itb st h Q) st = itb st h Q := c
            unfold gn; omega
          have e : W st h T = beh (itb st h (T / st.length)) (st.take (T % st.length)) := rfl
          have e2 := Stl.part hx hs (T / st.length - Q) (T % st.length)
          rw [← itb_add, show Q + (T / st.length - Q) = T / st.length by omega, hg, Int.mul_zero, Int.add_zero, ← W_at hn Q _ hr] at e2
          rw [e, e2]
          exact t1 _ (by rw [Nat.succ_mul]; omega)
        · exact t1 T hl
      · simp only [sSeq_ap]
        rw [sFor_tup (xs := st.map D.int) (S1 := S) (by simp [eVar]), t2]
        simp [eVar, c, oD]
    · refine .inr ⟨some (if 0 ≤ itb st h q + low st then .int st.sum else .non), some (.int (itb st h q)), v8', z', t1, c, ?_⟩
      simp only [sSeq_ap]
      rw [sFor_tup (xs := st.map D.int) (S1 := S) (by simp [eVar]), t2]
      simp [eVar, c]
/-- how many turns are left at most -/
def muO (st : List Int) (d x : Int) : Nat :=
  if 0 < st.sum then (if 0 ≤ x + low st then (if 40 < d - x then 60 else (d - x).toNat) else 61)
  else if st.sum = 0 then (if 0 ≤ x + low st then 0 else 1)
  else if x = st.sum - low st then 0 else if x < st.sum - low st then 1 else (x - (st.sum - low st)).toNat + 1
theorem muO_less {h d : Int} {st : List Int} (hh : 0 ≤ h) (q : Nat) (hlt : itb st h q < d) (hne : itb st h (q + jumpO st (itb st h q) d + 1) ≠ itb st h q) (hj : itb st h (q + jumpO st (itb st h q) d) = itb st h q + (jumpO st (itb st h q) d : Int) * st.sum) :
    muO st d (itb st h (q + jumpO st (itb st h q) d + 1)) < muO st d (itb st h q) := by
  have e1 : itb st h (q + jumpO st (itb st h q) d + 1) = beh (itb st h (q + jumpO st (itb st h q) d)) st := rfl
  have e2 := beh_eq st _ (itb_nn (st := st) hh (q + jumpO st (itb st h q) d))
  have hl := low_le st
  have hls := low_sum st
  have hx := itb_nn (st := st) hh q
  rw [e1, e2, hj] at hne ⊢
  have hJ : ((jumpO st (itb st h q) d : Int) * st.sum = 0 ∧ ¬ (0 ≤ itb st h q + low st ∧ 0 < st.sum ∧ 40 < d - itb st h q)) ∨ (0 ≤ itb st h q + low st ∧ 0 < st.sum ∧ 40 < d - itb st h q ∧ d - itb st h q - 20 < (jumpO st (itb st h q) d : Int) * st.sum + st.sum ∧ (jumpO st (itb st h q) d : Int) * st.sum ≤ d - itb st h q - 20 ∧ 0 ≤ (jumpO st (itb st h q) d : Int) * st.sum) := by
    unfold jumpO
    by_cases c : 0 ≤ itb st h q + low st ∧ 0 < st.sum ∧ 40 < d - itb st h q
    · rw [if_pos c]
      have hJ0 : 0 ≤ (d - itb st h q - 20) / st.sum := Int.ediv_nonneg (by omega) (by omega)
      rw [Int.toNat_of_nonneg hJ0]
      have h1 : (d - itb st h q - 20) / st.sum * st.sum ≤ d - itb st h q - 20 := Int.ediv_mul_le _ (by omega)
      have h2 := Int.lt_ediv_add_one_mul_self (d - itb st h q - 20) c.2.1
      rw [Int.add_mul, Int.one_mul] at h2
      exact .inr ⟨c.1, c.2.1, c.2.2, h2, h1, Int.mul_nonneg hJ0 (by omega)⟩
    · rw [if_neg c]; exact .inl ⟨by simp, c⟩
  generalize (jumpO st (itb st h q) d : Int) * st.sum = t at *
  generalize itb st h q = x at *
  unfold muO
  clear e1 e2 hj
  rcases hJ with ⟨hJ, hc⟩ | ⟨c1, c2, c3, c4, c5, c6⟩
  · subst hJ
    by_cases a1 : 0 < st.sum
    · rw [if_pos a1, if_pos a1]
      by_cases a2 : 0 ≤ x + low st
      · rw [if_pos a2, if_pos (by omega), if_neg (by omega), if_neg (by omega)]
        omega
      · rw [if_neg a2, if_pos (by omega)]
        split <;> omega
    · rw [if_neg a1, if_neg a1]
      by_cases a2 : st.sum = 0
      · rw [if_pos a2, if_pos a2]
        by_cases a3 : 0 ≤ x + low st
        · exfalso; omega
        · rw [if_neg a3, if_pos (by omega)]
          omega
      · rw [if_neg a2, if_neg a2]
        by_cases a3 : x = st.sum - low st
        · exfalso; omega
        · rw [if_neg a3]
          by_cases a4 : x < st.sum - low st
          · rw [if_pos a4, if_pos (by omega)]
            omega
          · rw [if_neg a4]
            by_cases a5 : st.sum + max (x + 0) (-low st) = st.sum - low st
            · rw [if_pos a5]; omega
            · rw [if_neg a5, if_neg (by omega)]
              omega
  · rw [if_pos c2, if_pos c2, if_pos c1, if_pos c3, if_pos (by omega), if_neg (by omega)]
    omega
theorem out_run {a h d : Int} {st : List Int} (hn : 0 < st.length) (hn4 : st.length ≤ 4) (hb : ∀ x ∈ st, -3 ≤ x ∧ x ≤ 3) (hh : 0 ≤ h) (hd0 : 0 ≤ d) (hd : d ≤ 1000000000000000000000000000000) (v0 : Option D) : ∀ (N q : Nat) (lo : Int) (v5 v6 v7 v8 v9 : Option D), (∀ u, u ≤ q * st.length → W st h u < d) → muO st d (itb st h q) < N →
    ∃ o, IsOut a st h d o ∧ forR (gNm 5) outB N lo [v0, some (.int d), some (.int (a + ((q * st.length : Nat) : Int))), some (.int (itb st h q)), some (.tup (st.map D.int)), v5, v6, v7, v8, v9] S = .rt (oD o) S
  | 0, q, lo, v5, v6, v7, v8, v9, hu, hN => by omega
  | N + 1, q, lo, v5, v6, v7, v8, v9, hu, hN => by
    rcases out_step (S := S) (a := a) hn hn4 hb hh hd0 hd q v0 (some (.int lo)) v6 v7 v8 v9 hu with ⟨o, ho, e⟩ | ⟨v6', v7', v8', v9', hu', hne, e⟩
    · refine ⟨o, ho, ?_⟩
      simp only [forR, gNm_ap, List.set, on_nx, F.seq_nx, e, F.turn_rt]
    · have hlt : itb st h q < d := by
        have := hu (q * st.length) (Nat.le_refl _)
        rwa [W_round hn] at this
      obtain ⟨j1, j2⟩ := jump_ok (d := d) hn hn4 hb hh q hu
      have hmu := muO_less (st := st) hh q hlt hne j2
      obtain ⟨o, ho, e2⟩ := out_run hn hn4 hb hh hd0 hd v0 N (q + jumpO st (itb st h q) d + 1) (lo + 1) (some (.int lo)) v6' v7' v8' v9' hu' (by omega)
      refine ⟨o, ho, ?_⟩
      simp only [forR, gNm_ap, List.set, on_nx, F.seq_nx, e, F.turn_nx, e2]
theorem law_out_eq {s : Sn} (h : s.Ok) {d : Int} (h1 : 1 ≤ d) (h2 : d ≤ 1000000000000000000000000000000) : F__law_out [s.d, .int d] S = .ok (oD (s.out d)) S := by
  have key : ∃ o, IsOut s.start s.steps s.height d o ∧ F__law_out [s.d, .int d] S = .ok (oD o) S := by
    by_cases c : d ≤ s.height
    · refine ⟨some 0, ⟨0, ⟨by rw [W_zero]; exact c, fun u hu => by omega⟩, rfl⟩, ?_⟩
      simp [F__law_out, fnP_ap, Sn.d, roundD, c, oD]
    · have hmu : muO s.steps d s.height < 600 := by
        have a := h.h1
        have b := low_sum s.steps
        unfold muO
        split <;> split <;> (try split) <;> (try split) <;> omega
      obtain ⟨o, ho, e⟩ := out_run (S := S) (a := s.start) h.n0 h.rd.le h.rd.bd h.h0 (by omega) h2 (some s.d) 600 0 0 none none none none none (fun u hu => by
        have : u = 0 := by simpa using hu
        rw [this, W_zero]; omega) hmu
      refine ⟨o, ho, ?_⟩
      have hs : smallI 600 = true := by decide
      simp only [Nat.zero_mul] at e
      have hz : s.start + ((0 : Nat) : Int) = s.start := by omega
      rw [hz] at e
      have hi : itb s.steps s.height 0 = s.height := rfl
      rw [hi] at e
      simp only [F__law_out, fnP_ap, sSeq_ap]
      simp only [Sn.d, roundD] at e ⊢
      simp [c]
      rw [sFor_rng (lo := 0) (n := 600) (S1 := S) (by simp [hs])]
      simp only [outB, outS] at e
      rw [e]
      simp
  obtain ⟨o, ho, e⟩ := key
  rw [e, ho.uniq (Sn.isOut h h1)]
end
end DL
/-! the laws' own heights, and depths to try -/
namespace DL
open PySem L2
section
variable {S : Sto}
def heS : Sm := (sSeq (sIf (eTb (eBin gEq (eVar 2) (eVar 1)))
    (sRt (eVar 3))
    sNx)
    (sPar 3 2 (eCall F__law_up [(eVar 3), (eVar 8)]) (eBin gAdd (eVar 2) (eK (.int 1)))))
def heP : Sm := (sSeq (sSet 6 (eCall F__law_gains [(eVar 3), (eVar 4)]))
    (sSeq (sIf (eTb (eBin gIsN (eVar 6) (eK .non)))
    (sSet 6 (eIf (eTb (eBin gEq (eCall F__law_end [(eVar 3), (eVar 4)]) (eVar 3))) (eK (.int 0)) (eK .non)))
    sNx)
    (sSeq (sSet 7 (eBin gDiv (eBin gSub (eVar 1) (eVar 2)) (eCall gLen [(eVar 4)])))
    (sIf (eAndT (eTb (eBin gNotN (eVar 6) (eK .non))) (eAndT (eTb (eBin gGe (eVar 6) (eK (.int 0)))) (eTb (eBin gGt (eVar 7) (eK (.int 0))))))
    (sSeq (sSet 3 (eBin gAdd (eVar 3) (eBin gMul (eVar 7) (eVar 6))))
    (sSet 2 (eBin gAdd (eVar 2) (eBin gMul (eVar 7) (eCall gLen [(eVar 4)])))))
    sNx))))
def heB : Sm := (sSeq (sSet 6 (eCall F__law_gains [(eVar 3), (eVar 4)]))
    (sSeq (sIf (eTb (eBin gIsN (eVar 6) (eK .non)))
    (sSet 6 (eIf (eTb (eBin gEq (eCall F__law_end [(eVar 3), (eVar 4)]) (eVar 3))) (eK (.int 0)) (eK .non)))
    sNx)
    (sSeq (sSet 7 (eBin gDiv (eBin gSub (eVar 1) (eVar 2)) (eCall gLen [(eVar 4)])))
    (sSeq (sIf (eAndT (eTb (eBin gNotN (eVar 6) (eK .non))) (eAndT (eTb (eBin gGe (eVar 6) (eK (.int 0)))) (eTb (eBin gGt (eVar 7) (eK (.int 0))))))
    (sSeq (sSet 3 (eBin gAdd (eVar 3) (eBin gMul (eVar 7) (eVar 6))))
    (sSet 2 (eBin gAdd (eVar 2) (eBin gMul (eVar 7) (eCall gLen [(eVar 4)])))))
    sNx)
    (sFor (eItS (eVar 4)) (gNm 8) heS)))))
theorem sSeq_assoc (f g k : Sm) : sSeq f (sSeq g k) = sSeq (sSeq f g) k := by
  funext ρ S
  simp only [sSeq_ap]
  cases f ρ S <;> rfl
theorem heB_eq (ρ : Rho) (S : Sto) : heB ρ S = sSeq heP (sFor (eItS (eVar 4)) (gNm 8) heS) ρ S := by
  have : heB = sSeq heP (sFor (eItS (eVar 4)) (gNm 8) heS) := by
    unfold heB heP
    simp only [sSeq_assoc]
  rw [this]
theorem he_in {a h : Int} {st : List Int} (hn : 0 < st.length) (t Q : Nat) (v0 v4 v5 v6 v7 : Option D) : ∀ (k r : Nat) (z : Option D), r + k = st.length → Q * st.length + r ≤ t →
    (t < (Q + 1) * st.length → forL (gNm 8) heS ((st.drop r).map D.int) [v0, some (.int (a + (t : Int))), some (.int (a + ((Q * st.length + r : Nat) : Int))), some (.int (W st h (Q * st.length + r))), v4, v5, v6, v7, z] S = .rt (.int (W st h t)) S)
    ∧ ((Q + 1) * st.length ≤ t → ∃ z', forL (gNm 8) heS ((st.drop r).map D.int) [v0, some (.int (a + (t : Int))), some (.int (a + ((Q * st.length + r : Nat) : Int))), some (.int (W st h (Q * st.length + r))), v4, v5, v6, v7, z] S
      = .nx [v0, some (.int (a + (t : Int))), some (.int (a + (((Q + 1) * st.length : Nat) : Int))), some (.int (W st h ((Q + 1) * st.length))), v4, v5, v6, v7, z'] S)
  | 0, r, z, hr, hle => by
    have : r = st.length := by omega
    subst this
    rw [Nat.succ_mul]
    refine ⟨fun h => by omega, fun _ => ⟨z, ?_⟩⟩
    simp [forL]
  | k + 1, r, z, hr, hle => by
    have hrl : r < st.length := by omega
    have hW : up (W st h (Q * st.length + r)) st[r] = W st h (Q * st.length + r + 1) := by
      rw [W_succ hn]
      have hm : (Q * st.length + r) % st.length = r := by
        rw [Nat.add_comm, Nat.add_mul_mod_self_right, Nat.mod_eq_of_lt hrl]
      simp only [hm]
    have hc : a + ((Q * st.length + r + 1 : Nat) : Int) = a + ((Q * st.length + r : Nat) : Int) + 1 := by omega
    rw [List.drop_eq_getElem_cons hrl]
    by_cases c : Q * st.length + r = t
    · refine ⟨fun _ => ?_, fun h => by rw [Nat.succ_mul] at h; omega⟩
      rw [c]
      simp only [List.map_cons, forL, gNm_ap, List.set, on_nx, F.seq_nx, heS, sSeq_ap, sIf_ap, eTb_ap, eBin_ap, eVar2, eVar1, R.bind_ok, gEq_int, decide_true, F.ofR_ok, sRt_ap, eVar3, F.seq_rt, F.turn_rt]
    · obtain ⟨ih1, ih2⟩ := he_in (a := a) (h := h) hn t Q v0 v4 v5 v6 v7 k (r + 1) (some (.int st[r])) (by omega) (by omega)
      rw [← Nat.add_assoc, hc] at ih1 ih2
      have hne : ¬ a + ((Q * st.length + r : Nat) : Int) = a + (t : Int) := by omega
      have step : forL (gNm 8) heS ((st[r] :: st.drop (r + 1)).map D.int) [v0, some (.int (a + (t : Int))), some (.int (a + ((Q * st.length + r : Nat) : Int))), some (.int (W st h (Q * st.length + r))), v4, v5, v6, v7, z] S
          = forL (gNm 8) heS ((st.drop (r + 1)).map D.int) [v0, some (.int (a + (t : Int))), some (.int (a + ((Q * st.length + r : Nat) : Int) + 1)), some (.int (W st h (Q * st.length + r + 1))), v4, v5, v6, v7, some (.int st[r])] S := by
        generalize Q * st.length + r = u at *
        simp only [List.map_cons, forL, gNm_ap, List.set, on_nx, F.seq_nx, heS, sSeq_ap, sPar_ap, eCall_ap, eArgs_cons, eArgs_nil, eVar3, eVar8, eVar2, eVar1, R.bind_ok, up_eq, F.ofR_ok, eBin_ap, eK_ap, gAdd_int, hW, sIf_ap, eTb_ap, gEq_int, hne, decide_false, sNx_ap, F.turn_nx]
      rw [step]
      exact ⟨ih1, ih2⟩
theorem he_run {a h : Int} {st : List Int} {L : Nat} (hn : 0 < st.length) (hn4 : st.length ≤ 4) (hb : ∀ x ∈ st, -3 ≤ x ∧ x ≤ 3) (hh : 0 ≤ h) (s : Sets st h L) (t : Nat) (ht : t ≤ 1000000000000000000000000000000) (v0 : Option D) : ∀ (k q N : Nat) (lo : Int) (v5 v6 v7 v8 : Option D), q + k = L → k < N → q * st.length ≤ t →
    forR (gNm 5) heB N lo [v0, some (.int (a + (t : Int))), some (.int (a + ((q * st.length : Nat) : Int))), some (.int (itb st h q)), some (.tup (st.map D.int)), v5, v6, v7, v8] S = .rt (.int (W st h t)) S
  | _, _, 0, _, _, _, _, _, _, hk, _ => by omega
  | k, q, N + 1, lo, v5, v6, v7, v8, hq, hk, hle => by
    have hx := itb_nn (st := st) hh q
    have hge := gains_eq (S := S) hx st
    have hen := law_end_eq (S := S) (itb st h q) st
    have hsb := sum_le3 st hb
    have hdv : (a + (t : Int)) - (a + ((q * st.length : Nat) : Int)) = ((t - q * st.length : Nat) : Int) := by omega
    have hnl : ((st.length : Int)).natAbs.log2 < 1000 := small_log (k := 10) (by
      have : (2 : Nat) ^ 10 = 1024 := by decide
      omega) (by decide) (by decide)
    have kd : gDiv (.int ((t - q * st.length : Nat) : Int)) (.int (st.length : Int)) S = .ok (.int (((t - q * st.length) / st.length : Nat) : Int)) S := by
      rw [gDiv_int _ (by omega) (by omega)]; rfl
    have hjt : (t - q * st.length) / st.length ≤ t := Nat.le_trans (Nat.div_le_self _ _) (by omega)
    have hdm : (t - q * st.length) / st.length * st.length + (t - q * st.length) % st.length = t - q * st.length := by rw [Nat.mul_comm]; exact Nat.div_add_mod _ _
    have hml := Nat.mod_lt (t - q * st.length) hn
    generalize hj : (t - q * st.length) / st.length = j at *
    have hjl : ((j : Int)).natAbs.log2 < 1000 := small_log (k := 200) (by
      rw [Int.natAbs_natCast]
      have : (1000000000000000000000000000000 : Nat) + 100 < 2 ^ 200 := by decide
      omega) (by decide) (by decide)
    rw [← hdv] at kd
    generalize hA : a + ((q * st.length : Nat) : Int) = A at *
    generalize hT : a + (t : Int) = B at *
    by_cases hs : Stl st (itb st h q)
    · -- settled: the jump leads into the round of the minute
      have hgn := Stl.gn_nn hx hs
      have hg : ∃ g : Int, g = gn st (itb st h q) ∧ ((0 ≤ itb st h q + low st ∧ g = st.sum) ∨ (¬ 0 ≤ itb st h q + low st ∧ g = 0 ∧ beh (itb st h q) st = itb st h q)) := by
        have e := beh_eq st (itb st h q) hx
        have hl := low_le st
        refine ⟨_, rfl, ?_⟩
        by_cases c1 : 0 ≤ itb st h q + low st
        · exact .inl ⟨c1, by unfold gn; omega⟩
        · rcases hs with ⟨h1, _⟩ | h1
          · exact absurd h1 c1
          · exact .inr ⟨c1, by unfold gn; omega, h1⟩
      obtain ⟨g, hg1, hg2⟩ := hg
      have hgl : g.natAbs.log2 < 1000 := by
        refine small_log (k := 10) ?_ (by decide) (by decide)
        have : (2 : Nat) ^ 10 = 1024 := by decide
        rcases hg2 with ⟨_, h2⟩ | ⟨_, h2, _⟩ <;> omega
      have k2 : gMul (.int (j : Int)) (.int g) S = .ok (.int (j * g)) S := gMul_int _ (by omega)
      have k3 : gMul (.int (j : Int)) (.int (st.length : Int)) S = .ok (.int (j * (st.length : Int))) S := gMul_int _ (by omega)
      have hlin : itb st h (q + j) = itb st h q + (j : Int) * g := by rw [itb_add, (Stl.itb hx hs j).1, hg1]
      have hmv : a + (((q + j) * st.length : Nat) : Int) = A + (j : Int) * (st.length : Int) := by
        rw [← hA, Nat.add_mul]; simp; omega
      have hpre : heP [v0, some (.int B), some (.int A), some (.int (itb st h q)), some (.tup (st.map D.int)), some (.int lo), v6, v7, v8] S
          = .nx [v0, some (.int B), some (.int (a + (((q + j) * st.length : Nat) : Int))), some (.int (itb st h (q + j))), some (.tup (st.map D.int)), some (.int lo), some (.int g), some (.int (j : Int)), v8] S := by
        rw [hlin, hmv]
        have hg0 : 0 ≤ g := by omega
        by_cases cj : 0 < j
        · rcases hg2 with ⟨c1, h2⟩ | ⟨c1, h2, h3⟩
          · rw [← h2] at hge
            simp [heP, eVar, hge, c1, isNon, kd, hg0, cj, k2, k3]
          · subst h2
            simp [heP, eVar, hge, c1, isNon, hen, h3, kd, cj, k2, k3]
        · have hj0 : j = 0 := by omega
          subst hj0
          rcases hg2 with ⟨c1, h2⟩ | ⟨c1, h2, h3⟩
          · rw [← h2] at hge
            simp [heP, eVar, hge, c1, isNon, kd, hg0]
          · subst h2
            simp [heP, eVar, hge, c1, isNon, hen, h3, kd]
      have hin := (he_in (S := S) (a := a) (h := h) hn t (q + j) v0 (some (.tup (st.map D.int))) (some (.int lo)) (some (.int g)) (some (.int (j : Int))) st.length 0 v8 (by omega) (by rw [Nat.add_mul]; omega)).1 (by rw [Nat.succ_mul, Nat.add_mul]; omega)
      simp only [Nat.add_zero, List.drop_zero, W_round hn, hT] at hin
      simp only [forR, gNm_ap, List.set, on_nx, F.seq_nx, heB_eq]
      rw [sSeq_ap, hpre]
      simp only [F.seq_nx]
      rw [sFor_tup (xs := st.map D.int) (S1 := S) (by simp [eVar]), hin]
      rfl
    · -- one round on
      have hk1 : ∃ k', k = k' + 1 := by
        cases k with
        | zero =>
          have : q = L := by omega
          exact absurd (this ▸ s.s) hs
        | succ k' => exact ⟨k', rfl⟩
      obtain ⟨k', rfl⟩ := hk1
      obtain ⟨v6', hpre⟩ : ∃ v6', heP [v0, some (.int B), some (.int A), some (.int (itb st h q)), some (.tup (st.map D.int)), some (.int lo), v6, v7, v8] S
          = .nx [v0, some (.int B), some (.int A), some (.int (itb st h q)), some (.tup (st.map D.int)), some (.int lo), v6', some (.int (j : Int)), v8] S := by
        by_cases c1 : 0 ≤ itb st h q + low st
        · have c2 : ¬ 0 ≤ st.sum := fun c2 => hs (.inl ⟨c1, c2⟩)
          refine ⟨some (.int st.sum), ?_⟩
          simp [heP, eVar, hge, c1, c2, isNon, kd]
        · have c2 : ¬ beh (itb st h q) st = itb st h q := fun c2 => hs (.inr c2)
          refine ⟨some .non, ?_⟩
          simp [heP, eVar, hge, c1, c2, isNon, kd, hen]
      have hin := (he_in (S := S) (a := a) (h := h) hn t q v0 (some (.tup (st.map D.int))) (some (.int lo)) v6' (some (.int (j : Int))) st.length 0 v8 (by omega) (by omega))
      simp only [Nat.add_zero, List.drop_zero, W_round hn, hT, hA] at hin
      simp only [forR, gNm_ap, List.set, on_nx, F.seq_nx, heB_eq]
      rw [sSeq_ap, hpre]
      simp only [F.seq_nx]
      rw [sFor_tup (xs := st.map D.int) (S1 := S) (by simp [eVar])]
      rcases Nat.lt_or_ge t ((q + 1) * st.length) with hl | hl
      · rw [hin.1 hl]; rfl
      · obtain ⟨z', e⟩ := hin.2 hl
        have ih := he_run (a := a) hn hn4 hb hh s t ht v0 k' (q + 1) N (lo + 1) (some (.int lo)) v6' (some (.int (j : Int))) z' (by omega) (by omega) hl
        rw [hT] at ih
        rw [e]
        simp only [F.turn_nx, ih]
theorem law_height_eq {s : Sn} (h : s.Ok) {m : Int} (h1 : 0 ≤ m) (h2 : m ≤ 1000000000000000000000000000000) : F__law_height [s.d, .int m] S = .ok (.int (s.H m)) S := by
  by_cases c : m ≤ s.start
  · have e : s.H m = s.height := by unfold Sn.H; rw [show (m - s.start).toNat = 0 by omega, W_zero]
    simp [F__law_height, fnP_ap, Sn.d, roundD, c, e]
  · obtain ⟨t, ht⟩ : ∃ t : Nat, m = s.start + (t : Int) := ⟨(m - s.start).toNat, by omega⟩
    obtain ⟨st, L6⟩ := LL_sets (st := s.steps) h.h0 h.h1
    have e := he_run (S := S) (a := s.start) h.n0 h.rd.le h.rd.bd h.h0 st t (by have := h.s0; omega) (some s.d) (LL s.steps s.height) 0 600 0 none none none none (by omega) (by omega) (by omega)
    have eH : s.H m = W s.steps s.height t := by unfold Sn.H; congr 1; omega
    have hs : smallI 600 = true := by decide
    simp only [Nat.zero_mul] at e
    have hz : s.start + ((0 : Nat) : Int) = s.start := by omega
    have hi : itb s.steps s.height 0 = s.height := rfl
    rw [hz, hi, ← ht] at e
    rw [eH]
    simp only [F__law_height, fnP_ap, sSeq_ap]
    simp only [Sn.d, roundD] at e ⊢
    simp [c]
    rw [sFor_rng (lo := 0) (n := 600) (S1 := S) (by simp [hs])]
    simp only [heB, heS] at e
    rw [e]
    simp
end
end DL
/-! depths to try; stores with no references in them -/
namespace DL
open PySem L2
theorem oD_ne (neg : Bool) (a b : Option Int) (S : Sto) : gEqB neg (oD a) (oD b) S = .ok (.bl (if neg then !decide (a = b) else decide (a = b))) S := by
  cases a with
  | none =>
    cases b with
    | none => cases neg <;> simp [oD]
    | some y => cases neg <;> simp [oD]
  | some x =>
    cases b with
    | none => cases neg <;> simp [oD]
    | some y => cases neg <;> simp [oD]
theorem gNe_oD (a b : Option Int) (S : Sto) : gEqB true (oD a) (oD b) S = .ok (.bl (!decide (a = b))) S := by rw [oD_ne]; rfl
theorem gEq_oD (a b : Option Int) (S : Sto) : gEqB false (oD a) (oD b) S = .ok (.bl (decide (a = b))) S := by rw [oD_ne]; rfl
/-- no references in a store's objects -/
def Clean (S : Sto) : Prop := S.all (MO.lim 0) = true
mutual
theorem lim_mono (k : Nat) : ∀ d : D, D.lim 0 d = true → D.lim k d = true
  | .tup xs, h => lims_mono k xs (by simpa only [D.lim] using h)
  | .lst xs, h => lims_mono k xs (by simpa only [D.lim] using h)
  | .frz xs, h => lims_mono k xs (by simpa only [D.lim] using h)
  | .obj n, h => by simp [D.lim] at h
  | .non, _ => rfl
  | .bl _, _ => rfl
  | .int _, _ => rfl
  | .str _, _ => rfl
  | .ref _, _ => rfl
theorem lims_mono (k : Nat) : ∀ xs : List D, D.lims 0 xs = true → D.lims k xs = true
  | [], _ => rfl
  | x :: xs, h => by
    simp only [D.lims, Bool.and_eq_true] at h ⊢
    exact ⟨lim_mono k x h.1, lims_mono k xs h.2⟩
end
theorem mo_mono (k : Nat) (o : MO) (h : MO.lim 0 o = true) : MO.lim k o = true := by
  cases o with
  | lst xs => exact lims_mono k xs h
  | ins C fs =>
    simp only [MO.lim, List.all_eq_true] at h ⊢
    exact fun p hp => lim_mono k p.2 (h p hp)
  | dct fs =>
    simp only [MO.lim, List.all_eq_true] at h ⊢
    exact fun p hp => lim_mono k p.2 (h p hp)
  | dead => rfl
theorem Clean.at {S : Sto} (h : Clean S) (k : Nat) : S.all (MO.lim k) = true := by
  unfold Clean at h
  simp only [List.all_eq_true] at h ⊢
  exact fun o ho => mo_mono k o (h o ho)
theorem Clean.upd {n : Nat} {S S' : Sto} (h : Clean S) (u : Upd n S S') : Clean S' := by
  unfold Clean at *
  simp only [List.all_eq_true] at h ⊢
  intro o ho
  obtain ⟨i, hi, e⟩ := List.getElem_of_mem ho
  by_cases c : i = n
  · obtain ⟨a, b, e2, _⟩ := u.src
    rw [← c] at e2
    rw [List.getElem?_eq_getElem hi, e] at e2
    simp only [Option.some.injEq] at e2
    rw [e2]; rfl
  · have e2 := u.oth i c
    rw [List.getElem?_eq_getElem hi, e] at e2
    exact h o (List.mem_of_getElem? e2.symm)
theorem Clean.src {S : Sto} (h : Clean S) (a b : Int) : Clean (S ++ [.lst [.int a, .int b]]) := by
  unfold Clean at *
  simp only [List.all_append, h, Bool.true_and]
  rfl
theorem lims_ints (l : List Int) (k : Nat) : D.lims k (l.map D.int) = true := by
  induction l with
  | nil => rfl
  | cons x l ih => simp [D.lims, D.lim, ih]
/-- a def hands its own new list back -/
theorem popR_own {S : Sto} {l : List Int} (h : Clean S) : popR S.length (.ok (.obj S.length) (S ++ [.lst (l.map D.int)])) = .ok (.lst (l.map D.int)) S := by
  have hu : unown S.length (S ++ [.lst (l.map D.int)]) (.obj S.length) = .lst (l.map D.int) := by
    unfold unown
    simp
  unfold popR
  dsimp only
  rw [if_neg (by simp), hu]
  have ht : (S ++ [MO.lst (l.map D.int)]).take S.length = S := by simp
  rw [ht, h.at S.length]
  simp [D.lim, lims_ints]
/-- a draw that is a number -/
theorem drawn {n : Nat} {S : Sto} {m : Int} (h : SrcAt n S) (hm : 0 < m) (hl : m ≤ 1000000000) :
    ∃ (d : Nat) (S' : Sto), F__law_draw [.obj n, .int m] S = .ok (.int (d : Int)) S' ∧ (d : Int) < m ∧ Upd n S S' := by
  obtain ⟨d, S', e, h0, h1, u⟩ := draw_spec h hm (by
    have := small_log (x := m) (k := 40) (by
      have : (1000000000 : Nat) + 100 < 2 ^ 40 := by decide
      omega) (by decide) (by decide)
    omega)
  obtain ⟨k, rfl⟩ : ∃ k : Nat, d = (k : Int) := ⟨d.toNat, by omega⟩
  exact ⟨k, S', e, h1, u⟩
theorem rgD_ints (a b : Int) : ∃ l : List Int, rgD a b = l.map D.int ∧ (∀ x ∈ l, a ≤ x ∧ x < b) ∧ l.length = (b - a).toNat := by
  refine ⟨(List.range (b - a).toNat).map fun i => a + (i : Nat), by simp [rgD], ?_, by simp⟩
  intro x hx
  simp only [List.mem_map, List.mem_range] at hx
  obtain ⟨i, hi, rfl⟩ := hx
  omega
theorem ints_of : ∀ (ys : List D) (p : Int → Prop), (∀ y ∈ ys, ∃ x : Int, y = .int x ∧ p x) → ∃ l : List Int, ys = l.map D.int ∧ (∀ x ∈ l, p x) ∧ l.length = ys.length
  | [], _, _ => ⟨[], rfl, by simp, rfl⟩
  | y :: ys, p, h => by
    obtain ⟨x, e, hx⟩ := h y List.mem_cons_self
    obtain ⟨l, e2, hl, hlen⟩ := ints_of ys p fun z hz => h z (List.mem_cons_of_mem _ hz)
    refine ⟨x :: l, by simp [e, e2], ?_, by simp [hlen]⟩
    intro t ht
    rcases List.mem_cons.mp ht with rfl | ht
    · exact hx
    · exact hl t ht
theorem pow30 (S : Sto) : gPow (.int 10) (.int 30) S = .ok (.int 1000000000000000000000000000000) S := by simp [gPow]
theorem pow29 (S : Sto) : gPow (.int 10) (.int 29) S = .ok (.int 100000000000000000000000000000) S := by simp [gPow]
theorem pow9 (S : Sto) : gPow (.int 10) (.int 9) S = .ok (.int 1000000000) S := by simp [gPow]
theorem depths_spec {n : Nat} {S : Sto} {many : Nat} (h : SrcAt n S) (hm : many ≤ 1000) :
    ∃ (ds : List Int) (S' : Sto), F__law_depths [.obj n, .int (many : Int)] S = .ok (.lst (ds.map D.int)) S' ∧ (∀ d ∈ ds, 1 ≤ d ∧ d ≤ 1000000000000000000000000000000) ∧ ds.length = many + 9 ∧ Upd n S S' := by
  obtain ⟨d1, S1, e1, h1, u1⟩ := drawn (m := 999) h (by decide) (by decide)
  obtain ⟨d2, S2, e2, h2, u2⟩ := drawn (m := 1000000000) u1.src (by decide) (by decide)
  obtain ⟨ys, S3, e3, h3, h3p, u3⟩ := lcL_draw (n := n) (c := .nm 4) (e := (eBin gAdd (eBin gAdd (eVar 1) (eK (.int 1))) (eCall F__law_draw [(eVar 0), (eK (.int 2000))]))) (ρ := [some (.obj n), some (.int (many : Int)), some (.lst [.int 1000000000000000000000000000000, .int (1000000000000000000000000000000 - (d1 : Int)), .int (1000000000 + (d2 : Int))]), none, none]) (Pd := fun y => ∃ x : Int, y = .int x ∧ 1 ≤ x ∧ x ≤ 1000000000000000000000000000000) (fun x S hS => by
    obtain ⟨d, S', e, hd, u⟩ := drawn (m := 2000) hS (by decide) (by decide)
    exact ⟨_, .int ((many : Int) + 1 + d), S', rfl, by simp [e], ⟨_, rfl, by omega, by omega⟩, u⟩) (rgN 0 6) S2 u2.src
  obtain ⟨l, rfl, hl, hlen⟩ := ints_of ys _ h3p
  obtain ⟨l0, r1, r2, r3⟩ := rgD_ints 1 ((many : Int) + 1)
  have hc : eLc (eRng1 (eK (.int 6))) (.nm 4) tYesD (eBin gAdd (eBin gAdd (eVar 1) (eK (.int 1))) (eCall F__law_draw [(eVar 0), (eK (.int 2000))])) [4] [some (.obj n), some (.int (many : Int)), some (.lst [.int 1000000000000000000000000000000, .int (1000000000000000000000000000000 - (d1 : Int)), .int (1000000000 + (d2 : Int))]), none, none] S2 = .ok (.lst (l.map D.int)) S3 := by
    rw [eLc_rng (lo := 0) (n := 6) (S1 := S2) (by simp [smallI]) (by omega)]
    rw [show wipeR [some (D.obj n), some (.int (many : Int)), some (.lst [.int 1000000000000000000000000000000, .int (1000000000000000000000000000000 - (d1 : Int)), .int (1000000000 + (d2 : Int))]), none, none] [4] = [some (.obj n), some (.int (many : Int)), some (.lst [.int 1000000000000000000000000000000, .int (1000000000000000000000000000000 - (d1 : Int)), .int (1000000000 + (d2 : Int))]), none, none] from rfl, e3]
    rfl
  have hrg : rgOk 1 ((many : Int) + 1) = true := by
    unfold rgOk
    rw [smallI_mk (by omega) (by omega), smallI_mk (by omega) (by omega)]
    simp; omega
  have hl6 : l.length = 6 := by
    have : (l.map D.int).length = (rgN 0 6).length := h3
    simpa [rgN_len] using this
  have a1 := gAdd_lst S3 (xs := l0.map D.int) (ys := [.int 1000000000000000000000000000000, .int (1000000000000000000000000000000 - (d1 : Int)), .int (1000000000 + (d2 : Int))]) (by simp; omega)
  have a2 := gAdd_lst S3 (xs := l0.map D.int ++ [.int 1000000000000000000000000000000, .int (1000000000000000000000000000000 - (d1 : Int)), .int (1000000000 + (d2 : Int))]) (ys := l.map D.int) (by simp; omega)
  refine ⟨l0 ++ [1000000000000000000000000000000, 1000000000000000000000000000000 - (d1 : Int), 1000000000 + (d2 : Int)] ++ l, S3, ?_, ?_, by simp; omega, (u1.trans u2).trans u3⟩
  · simp [F__law_depths, fnP_ap, pow30, pow9, e1, e2, hc, hrg, r1, a1, a2, popR_le, u3.len, u2.len, u1.len]
  · intro d hd
    simp only [List.mem_append, List.mem_cons, List.not_mem_nil, or_false] at hd
    rcases hd with (hd | rfl | rfl | rfl) | hd
    · have := r2 d hd; omega
    · omega
    · omega
    · omega
    · exact hl d hd
/-! loops that test each item -/
theorem set_set_ (ρ : Rho) (i : Nat) (a b : Option D) : (ρ.set i a).set i b = ρ.set i b := by simp
theorem forL_test {i : Nat} {t : Et} {a : Sm} {S : Sto} : ∀ (xs : List D) (ρ : Rho), i < ρ.length → (∀ x ∈ xs, t (ρ.set i (some x)) S = .ok false S) → ∃ z, forL (gNm i) (sIf t a sNx) xs ρ S = .nx (ρ.set i z) S
  | [], ρ, hi, _ => ⟨ρ[i], by simp [forL]⟩
  | x :: xs, ρ, hi, h => by
    obtain ⟨z, e⟩ := forL_test (i := i) (t := t) (a := a) xs (ρ.set i (some x)) (by simpa using hi) (fun y hy => by
      rw [set_set_]; exact h y (List.mem_cons_of_mem _ hy))
    refine ⟨z, ?_⟩
    rw [set_set_] at e
    simp only [forL, gNm_ap, on_nx, F.seq_nx, sIf_ap, h x List.mem_cons_self, F.ofR_ok, sNx_ap, F.turn_nx, e]
theorem forR_test {i : Nat} {t : Et} {a : Sm} {S : Sto} : ∀ (n : Nat) (lo : Int) (ρ : Rho), i < ρ.length → (∀ j : Nat, j < n → t (ρ.set i (some (.int (lo + j)))) S = .ok false S) → ∃ z, forR (gNm i) (sIf t a sNx) n lo ρ S = .nx (ρ.set i z) S
  | 0, lo, ρ, hi, _ => ⟨ρ[i], by simp [forR]⟩
  | n + 1, lo, ρ, hi, h => by
    obtain ⟨z, e⟩ := forR_test (i := i) (t := t) (a := a) n (lo + 1) (ρ.set i (some (.int lo))) (by simpa using hi) (fun j hj => by
      rw [set_set_]
      have := h (j + 1) (by omega)
      rwa [show lo + ((j + 1 : Nat) : Int) = lo + 1 + (j : Int) by omega] at this)
    refine ⟨z, ?_⟩
    have h0 := h 0 (by omega)
    rw [show lo + ((0 : Nat) : Int) = lo by omega] at h0
    rw [set_set_] at e
    simp only [forR, gNm_ap, on_nx, F.seq_nx, sIf_ap, h0, F.ofR_ok, sNx_ap, F.turn_nx, e]
/-- draws in a comprehension: numbers -/
theorem draws_spec {n w : Nat} {f : Es} {ρ : Rho} {S S1 : Sto} {lo : Int} {m : Nat} {e : Ee} {p : Int → Prop} (hs : SrcAt n S1) (hf : f ρ S = .ok (.rng lo m) S1) (hm : m ≤ 1000)
    (he : ∀ d S, SrcAt n S → ∃ (x : Int) (S' : Sto), e ((wipeR ρ [w]).set w (some d)) S = .ok (.int x) S' ∧ p x ∧ Upd n S S') :
    ∃ (l : List Int) (S' : Sto), eLc f (.nm w) tYesD e [w] ρ S = .ok (.lst (l.map D.int)) S' ∧ l.length = m ∧ (∀ x ∈ l, p x) ∧ Upd n S1 S' := by
  obtain ⟨ys, S', h1, h2, h3, u⟩ := lcL_draw (n := n) (c := .nm w) (e := e) (ρ := wipeR ρ [w]) (Pd := fun y => ∃ x : Int, y = .int x ∧ p x) (fun x S hS => by
    obtain ⟨d, S', e1, e2, u⟩ := he x S hS
    exact ⟨_, .int d, S', rfl, e1, ⟨d, rfl, e2⟩, u⟩) (rgN lo m) S1 hs
  obtain ⟨l, rfl, hl, hlen⟩ := ints_of ys _ h3
  refine ⟨l, S', ?_, by simpa [rgN_len] using h2, hl, u⟩
  rw [eLc_rng hf (by omega), h1]
  rfl
def Sn.okB (s : Sn) : Bool := decide (0 ≤ s.start ∧ s.start ≤ 20 ∧ 0 ≤ s.height ∧ s.height ≤ 5 ∧ 1 ≤ s.steps.length ∧ s.steps.length ≤ 4 ∧ ∀ x ∈ s.steps, -3 ≤ x ∧ x ≤ 3)
theorem Sn.ok_of {s : Sn} (h : s.okB = true) : s.Ok := by
  have h := of_decide_eq_true h
  exact ⟨h.1, h.2.1, h.2.2.1, h.2.2.2.1, ⟨h.2.2.2.2.1, h.2.2.2.2.2.1, h.2.2.2.2.2.2⟩⟩
end DL
/-! calendars beside one another -/
namespace DL
open PySem L2
/-- for how many depths a turn of a calendar goes -/
def Cal.al (c : Cal) : Nat := if c.again.isEmpty then 1 else c.again.length
theorem agD_len (a : List Int) : (agD a).length = if a.isEmpty then 1 else a.length := by
  unfold agD
  split <;> simp
theorem Cal.al_len (c : Cal) : (agD c.again).length = c.al := agD_len c.again
theorem Cal.al_pos (c : Cal) : 0 < c.al := by
  unfold Cal.al
  split
  · omega
  · next h => exact List.length_pos_iff.mpr (by simpa using h)
theorem Cal.al_at {c : Cal} (h : c.again ≠ []) : c.al = c.again.length := by
  unfold Cal.al
  rw [if_neg (by simpa using h)]
/-- whether a calendar tells minutes for all depths -/
def Cal.endl (c : Cal) : Bool := !c.again.isEmpty
theorem Cal.endl_iff {c : Cal} : c.endl = true ↔ c.again ≠ [] := by
  unfold Cal.endl
  cases c.again <;> simp
/-- a turn on, all is as much later -/
theorem Cal.at_more {c : Cal} (i k : Nat) (hi : c.early.length ≤ i) : c.at (i + k * c.al) = (c.at i).map (· + (k : Int) * c.rise) := by
  have h1 : ¬ i + k * c.al < c.early.length := by have := Nat.zero_le (k * c.al); omega
  have h2 : ¬ i < c.early.length := by omega
  unfold Cal.at
  simp only [h1, h2, if_false]
  by_cases h : c.again = []
  · simp [h]
  · have hp : 0 < c.again.length := List.length_pos_iff.mpr h
    have he : c.again.isEmpty = false := by simpa using h
    rw [c.al_at h]
    simp only [he, Bool.false_eq_true, if_false, Option.map_some]
    rw [show i + k * c.again.length - c.early.length = (i - c.early.length) + k * c.again.length by omega, rs_add_mul hp]
theorem Cal.at_none {c : Cal} (h : c.again = []) {i : Nat} (hi : c.early.length ≤ i) : c.at i = none := by
  unfold Cal.at
  rw [if_neg (by omega)]
  simp [h]
theorem Cal.at_some {c : Cal} (h : c.again ≠ []) (i : Nat) : ∃ x, c.at i = some x := by
  unfold Cal.at
  have he : c.again.isEmpty = false := by simpa using h
  split
  · exact ⟨_, rfl⟩
  · simp [he]
theorem toPys_agD (a : List Int) : toPys (agD a) = some (if a.isEmpty then [.none] else a.map PyData.int) := by
  unfold agD
  cases a with
  | nil => rfl
  | cons x a => exact toPys_ints (x :: a)
theorem plB_ag (a : List Int) : plB (a.length + 1) 1 (.tup (agD a)) = true := by
  unfold agD
  refine plB_mk (by split <;> simp) fun x hx => ?_
  split at hx
  · simp only [List.mem_singleton] at hx
    rw [hx]; rfl
  · simp only [List.mem_map] at hx
    obtain ⟨i, _, rfl⟩ := hx
    rfl
theorem gEq_never (neg : Bool) (a : List Int) (S : Sto) : gEqB neg (.tup (agD a)) (.tup [.non]) S = .ok (.bl (if neg then !a.isEmpty else a.isEmpty)) S := by
  obtain ⟨p, p1, p2⟩ := plB_shaped (plB_ag a) (by omega) S
  have ea : p = .tuple (if a.isEmpty then [.none] else a.map PyData.int) := by simpa [toPy, toPys_agD] using p1.symm
  have hs : SeqAt.shaped (.tuple [.none]) = true := by decide
  have q1 : toPy (view S (.tup [.non])) = some (.tuple [.none]) := rfl
  simp only [gEqB, p1, q1, p2, hs, and_self, if_true]
  subst ea
  match a with
  | [] => cases neg <;> rfl
  | [x] => cases neg <;> rfl
  | x :: y :: l => cases neg <;> simp [PyData.eqv, PyData.eqvAll]
/-- all that is asked of a calendar -/
structure CalB (c : Cal) : Prop where
  lenE : c.early.length ≤ 100
  lenA : c.again.length ≤ 12
  r0 : 0 ≤ c.rise
  r4 : c.rise ≤ 4
  entE : ∀ x ∈ c.early, 0 ≤ x ∧ x ≤ 60
  entA : ∀ x ∈ c.again, 0 ≤ x ∧ x ≤ 60
theorem CalOk.b {a h : Int} {st : List Int} {c : Cal} (k : CalOk a h st c) : CalB c := by
  refine ⟨k.lenE, k.lenA, ?_, k.riseB, k.entE, k.entA⟩
  by_cases e : c.again = []
  · rw [k.non e]; exact Int.le_refl _
  · exact Int.le_of_lt (k.rise e)
theorem CalB.al {c : Cal} (h : CalB c) : c.al ≤ 12 := by
  have := h.lenA
  unfold Cal.al
  split <;> omega
theorem CalB.at {c : Cal} (h : CalB c) {i : Nat} {x : Int} (e : c.at i = some x) : 0 ≤ x ∧ x ≤ 60 + 4 * i := by
  unfold Cal.at at e
  split at e
  · next hi =>
    cases e
    have := h.entE (c.early.getD i 0) (by simp [List.getD, List.getElem?_eq_getElem hi])
    omega
  · split at e
    · cases e
    · next h1 h2 =>
      cases e
      have hp : 0 < c.again.length := List.length_pos_iff.mpr (by simpa using h2)
      unfold rs
      have hm := Nat.mod_lt (i - c.early.length) hp
      have h3 := h.entA (c.again.getD ((i - c.early.length) % c.again.length) 0) (by simp [List.getD, List.getElem?_eq_getElem hm])
      have h4 : (i - c.early.length) / c.again.length ≤ i := Nat.le_trans (Nat.div_le_self _ _) (by omega)
      have h5 : (((i - c.early.length) / c.again.length : Nat) : Int) * c.rise ≤ (i : Int) * 4 := Int.mul_le_mul (Int.ofNat_le.mpr h4) h.r4 h.r0 (by omega)
      have h6 : 0 ≤ (((i - c.early.length) / c.again.length : Nat) : Int) * c.rise := Int.mul_nonneg (Int.natCast_nonneg _) h.r0
      omega
section
variable {S : Sto}
theorem minute_eq {c : Cal} (h : CalB c) {d : Int} (h1 : 1 ≤ d) (h2 : d ≤ 1000000000000000000000000000000) : F_minute_in [c.d, .int d] S = .ok (oD (c.at (d - 1).toNat)) S :=
  minute_in_eq h.lenA h.lenE h.r0 (by have := h.r4; omega) h1 h2
theorem is_endless_eq (c : Cal) : F_is_endless [c.d] S = .ok (.bl c.endl) S := by
  have i1 : gIdx c.d (.int 1) S = .ok (.tup (agD c.again)) S := gIdx_tup _ (atI1 _ _ _)
  simp [F_is_endless, fnP_ap, i1, gEq_never, Cal.endl]
theorem div_loop : ∀ (b a n : Nat), b < n → ∃ g : Nat, g = Nat.gcd a b ∧ sWh n (eTb (eBin gNe (eVar 1) (eK (.int 0)))) (sPar 0 1 (eVar 1) (eBin gMod (eVar 0) (eVar 1))) [some (.int (a : Int)), some (.int (b : Int))] S = .nx [some (.int (g : Int)), some (.int 0)] S := by
  intro b
  induction b using Nat.strongRecOn with
  | ind b ih =>
    intro a n hn
    cases n with
    | zero => omega
    | succ n =>
      by_cases hb : b = 0
      · subst hb
        refine ⟨a, by simp, ?_⟩
        exact sWh_false (by simp)
      · obtain ⟨g, hg, e⟩ := ih (a % b) (Nat.mod_lt _ (by omega)) b n (by have := Nat.mod_lt a (show 0 < b by omega); omega)
        refine ⟨g, ?_, ?_⟩
        · rw [hg, Nat.gcd_comm a b, Nat.gcd_rec b a, Nat.gcd_comm]
        · have hb' : ¬ (b : Int) = 0 := by omega
          have hm : gMod (.int (a : Int)) (.int (b : Int)) S = .ok (.int ((a % b : Nat) : Int)) S := by rw [gMod_int _ (by omega)]; rfl
          rw [sWh_true (S1 := S) (by simp [hb]), ← e]
          generalize a % b = r at *
          simp [hm]
theorem divisor_eq {a b : Nat} (hb : b ≤ 4000) : F_divisor [.int (a : Int), .int (b : Int)] S = .ok (.int (Nat.gcd a b : Nat)) S := by
  obtain ⟨g, hg, e⟩ := div_loop (S := S) b a 4096 (by omega)
  simp only [F_divisor, fnP_ap, sSeq_ap]
  simp only [List.map_cons, List.map_nil, List.cons_append, List.nil_append, List.replicate, Nat.reduceSub]
  rw [e, hg]
  simp
/-- the common turn -/
def tn (cs : List Cal) : Nat := cs.foldl (fun f c => Nat.lcm f c.al) 1
theorem tn_loop : ∀ (cs : List Cal) (f : Nat) (z2 z3 z4 v0 : Option D), (∀ c ∈ cs, CalB c) → 0 < f → f * 12 ^ cs.length ≤ 1000000 →
    ∃ z2' z3' z4', forL (gTp 3 (gsCons (gNm 2) (gsCons (gNm 3) (gsCons (gNm 4) gsNil)))) (sSet 1 (eBin gDiv (eBin gMul (eVar 1) (eCall gLen [(eVar 3)])) (eCall F_divisor [(eVar 1), (eCall gLen [(eVar 3)])]))) (cs.map Cal.d) [v0, some (.int (f : Int)), z2, z3, z4] S
      = .nx [v0, some (.int ((cs.foldl (fun f c => Nat.lcm f c.al) f : Nat) : Int)), z2', z3', z4'] S
  | [], f, z2, z3, z4, v0, _, _, _ => ⟨z2, z3, z4, rfl⟩
  | c :: cs, f, z2, z3, z4, v0, hc, hf, hb => by
    have hal := (hc c List.mem_cons_self).al
    have hap := c.al_pos
    have hg : 0 < Nat.gcd f c.al := Nat.gcd_pos_of_pos_left _ hf
    have hlcm : 0 < Nat.lcm f c.al := Nat.lcm_pos hf hap
    have hle : Nat.lcm f c.al ≤ f * 12 := by
      have h1 : Nat.lcm f c.al ≤ f * c.al := Nat.div_le_self _ _
      have h2 : f * c.al ≤ f * 12 := Nat.mul_le_mul_left _ hal
      omega
    have hb2 : Nat.lcm f c.al * 12 ^ cs.length ≤ 1000000 := by
      have h1 : Nat.lcm f c.al * 12 ^ cs.length ≤ f * 12 * 12 ^ cs.length := Nat.mul_le_mul_right _ hle
      rw [List.length_cons, Nat.pow_succ] at hb
      have h2 : f * 12 * 12 ^ cs.length = f * (12 ^ cs.length * 12) := by rw [Nat.mul_assoc, Nat.mul_comm 12]
      omega
    have hfb : f ≤ 1000000 := by
      have : f * 1 ≤ f * 12 ^ (c :: cs).length := Nat.mul_le_mul_left _ (Nat.one_le_pow _ _ (by omega))
      omega
    obtain ⟨z2', z3', z4', e⟩ := tn_loop cs (Nat.lcm f c.al) (some (.tup (c.early.map D.int))) (some (.tup (agD c.again))) (some (.int c.rise)) v0 (fun x hx => hc x (List.mem_cons_of_mem _ hx)) hlcm hb2
    refine ⟨z2', z3', z4', ?_⟩
    have m1 : gMul (.int (f : Int)) (.int (c.al : Int)) S = .ok (.int ((f * c.al : Nat) : Int)) S := by
      rw [gMul_int _ (by
        have a : ((f : Int)).natAbs.log2 < 1000 := small_log (k := 30) (by
          have : (1000000 : Nat) + 100 < 2 ^ 30 := by decide
          omega) (by decide) (by decide)
        have b : ((c.al : Int)).natAbs.log2 < 1000 := small_log (k := 30) (by
          have : (1000000 : Nat) + 100 < 2 ^ 30 := by decide
          omega) (by decide) (by decide)
        omega)]
      rfl
    have hgl : (((Nat.gcd f c.al : Nat) : Int)).natAbs.log2 < 1000 := small_log (k := 30) (by
      have : Nat.gcd f c.al ≤ f := Nat.gcd_le_left _ hf
      have : (1000000 : Nat) + 100 < 2 ^ 30 := by decide
      omega) (by decide) (by decide)
    have m2 : gDiv (.int ((f * c.al : Nat) : Int)) (.int ((Nat.gcd f c.al : Nat) : Int)) S = .ok (.int ((Nat.lcm f c.al : Nat) : Int)) S := by
      rw [gDiv_int _ (by omega) (by omega)]; rfl
    have dv := divisor_eq (S := S) (a := f) (b := c.al) (by omega)
    simp only [List.foldl_cons]
    rw [← e]
    have hcd : c.d = .tup [.tup (c.early.map D.int), .tup (agD c.again), .int c.rise] := rfl
    generalize hfa : f * c.al = fa at *
    generalize Nat.lcm f c.al = L at *
    generalize Nat.gcd f c.al = G at *
    simp [forL, hcd, c.al_len, m1, dv, m2]
theorem common_turn_eq {cs : List Cal} (hc : ∀ c ∈ cs, CalB c) (hl : cs.length ≤ 3) : F_common_turn [.lst (cs.map Cal.d)] S = .ok (.int ((tn cs : Nat) : Int)) S := by
  obtain ⟨z2, z3, z4, e⟩ := tn_loop (S := S) cs 1 none none none (some (.lst (cs.map Cal.d))) hc (by omega) (by
    have : (12 : Nat) ^ cs.length ≤ 12 ^ 3 := Nat.pow_le_pow_right (by omega) hl
    omega)
  simp only [F_common_turn, fnP_ap, sSeq_ap]
  simp
  rw [sFor_lst (xs := cs.map Cal.d) (S1 := S) (by simp)]
  have e' : forL _ _ (cs.map Cal.d) [some (.lst (cs.map Cal.d)), some (.int 1), none, none, none] S = _ := e
  rw [e']
  simp [tn]
end
theorem tn_pos (cs : List Cal) : 0 < tn cs := by
  have : ∀ (cs : List Cal) (f : Nat), 0 < f → 0 < cs.foldl (fun f c => Nat.lcm f c.al) f := by
    intro cs
    induction cs with
    | nil => exact fun f h => h
    | cons c cs ih => exact fun f h => ih _ (Nat.lcm_pos h c.al_pos)
  exact this cs 1 (by omega)
theorem tn_dvd {cs : List Cal} : ∀ c ∈ cs, c.al ∣ tn cs := by
  have key : ∀ (cs : List Cal) (f : Nat), f ∣ cs.foldl (fun f c => Nat.lcm f c.al) f ∧ ∀ c ∈ cs, c.al ∣ cs.foldl (fun f c => Nat.lcm f c.al) f := by
    intro cs
    induction cs with
    | nil => exact fun f => ⟨Nat.dvd_refl _, by simp⟩
    | cons c cs ih =>
      intro f
      obtain ⟨h1, h2⟩ := ih (Nat.lcm f c.al)
      refine ⟨Nat.dvd_trans (Nat.dvd_lcm_left _ _) h1, fun x hx => ?_⟩
      rcases List.mem_cons.mp hx with rfl | hx
      · exact Nat.dvd_trans (Nat.dvd_lcm_right _ _) h1
      · exact h2 x hx
  exact (key cs 1).2
theorem tn_le {cs : List Cal} (hc : ∀ c ∈ cs, CalB c) : tn cs ≤ 12 ^ cs.length := by
  have key : ∀ (cs : List Cal) (f : Nat), (∀ c ∈ cs, CalB c) → cs.foldl (fun f c => Nat.lcm f c.al) f ≤ f * 12 ^ cs.length := by
    intro cs
    induction cs with
    | nil => intro f _; simp
    | cons c cs ih =>
      intro f hc
      have h1 := ih (Nat.lcm f c.al) fun x hx => hc x (List.mem_cons_of_mem _ hx)
      have h2 : Nat.lcm f c.al ≤ f * 12 := Nat.le_trans (Nat.div_le_self _ _) (Nat.mul_le_mul_left _ (hc c List.mem_cons_self).al)
      have h3 : Nat.lcm f c.al * 12 ^ cs.length ≤ f * 12 * 12 ^ cs.length := Nat.mul_le_mul_right _ h2
      simp only [List.foldl_cons, List.length_cons, Nat.pow_succ]
      rw [show f * (12 ^ cs.length * 12) = f * 12 * 12 ^ cs.length by rw [Nat.mul_assoc, Nat.mul_comm 12]]
      omega
  have := key cs 1 hc
  simpa [tn] using this
end DL
/-! from which depth on calendars lie to one another as they do for good -/
namespace DL
open PySem L2
def Cal.ri (c : Cal) (turn : Nat) : Int := c.rise * ((turn / c.al : Nat) : Int)
theorem Cal.at_turn {c : Cal} {turn : Nat} (hd : c.al ∣ turn) (i k : Nat) (hi : c.early.length ≤ i) : c.at (i + k * turn) = (c.at i).map (· + (k : Int) * c.ri turn) := by
  obtain ⟨m, rfl⟩ := hd
  have hp := c.al_pos
  have e1 : i + k * (c.al * m) = i + (k * m) * c.al := by rw [Nat.mul_assoc, Nat.mul_comm m]
  rw [e1, c.at_more i (k * m) hi]
  have e2 : c.ri (c.al * m) = c.rise * (m : Int) := by unfold Cal.ri; rw [Nat.mul_div_cancel_left _ hp]
  rw [e2]
  congr 1
  funext x
  rw [show ((k * m : Nat) : Int) = (k : Int) * (m : Int) from rfl, Int.mul_assoc, Int.mul_comm (m : Int)]
theorem Cal.ri_le {c : Cal} (h : CalB c) {turn : Nat} (ht : turn ≤ 2000) : 0 ≤ c.ri turn ∧ c.ri turn ≤ 8000 := by
  unfold Cal.ri
  have h1 : turn / c.al ≤ turn := Nat.div_le_self _ _
  have h2 : c.rise * ((turn / c.al : Nat) : Int) ≤ 4 * (2000 : Int) := Int.mul_le_mul h.r4 (Int.ofNat_le.mpr (Nat.le_trans h1 ht)) (Int.natCast_nonneg _) (by omega)
  exact ⟨Int.mul_nonneg h.r0 (Int.natCast_nonneg _), by omega⟩
section
variable {S : Sto}
theorem rise_in_eq {c : Cal} (h : CalB c) {turn : Nat} (ht : turn ≤ 2000) : F_rise_in [c.d, .int (turn : Int)] S = .ok (.int (c.ri turn)) S := by
  have i1 : gIdx c.d (.int 1) S = .ok (.tup (agD c.again)) S := gIdx_tup _ (atI1 _ _ _)
  have i2 : gIdx c.d (.int 2) S = .ok (.int c.rise) S := gIdx_tup _ (atI2 _ _ _ _)
  have hap := c.al_pos
  have hal := h.al
  have hl : ((c.al : Int)).natAbs.log2 < 1000 := small_log (k := 10) (by
    have : (2 : Nat) ^ 10 = 1024 := by decide
    omega) (by decide) (by decide)
  have m1 : gDiv (.int (turn : Int)) (.int (c.al : Int)) S = .ok (.int ((turn / c.al : Nat) : Int)) S := by
    rw [gDiv_int _ (by omega) (by omega)]; rfl
  have h1 : turn / c.al ≤ turn := Nat.div_le_self _ _
  have r0 := h.r0
  have r4 := h.r4
  have m2 : gMul (.int c.rise) (.int ((turn / c.al : Nat) : Int)) S = .ok (.int (c.ri turn)) S := gMul_int _ (by
    have a : c.rise.natAbs.log2 < 1000 := small_log (k := 10) (by
      have : (2 : Nat) ^ 10 = 1024 := by decide
      omega) (by decide) (by decide)
    have b : (((turn / c.al : Nat) : Int)).natAbs.log2 < 1000 := small_log (k := 20) (by
      rw [Int.natAbs_natCast]
      have : (2000 : Nat) < 2 ^ 20 := by decide
      omega) (by decide) (by decide)
    omega)
  generalize turn / c.al = q at *
  simp [F_rise_in, fnP_ap, i1, i2, c.al_len, m1, m2]
/-- far enough on, the one with the greater rise is later -/
def Far (c c' : Cal) (turn : Nat) (i b : Nat) : Prop := ∀ x y, c.at i = some x → c'.at i = some y →
  (0 < c.ri turn - c'.ri turn → 0 < x - y + (b : Int) * (c.ri turn - c'.ri turn)) ∧ (c.ri turn - c'.ri turn < 0 → 0 < y - x + (b : Int) * (c'.ri turn - c.ri turn))
theorem Far.mono {c c' : Cal} {turn i b b' : Nat} (h : Far c c' turn i b) (hb : b ≤ b') : Far c c' turn i b' := by
  intro x y hx hy
  obtain ⟨h1, h2⟩ := h x y hx hy
  refine ⟨fun hm => ?_, fun hm => ?_⟩
  · have := h1 hm
    have : (b : Int) * (c.ri turn - c'.ri turn) ≤ (b' : Int) * (c.ri turn - c'.ri turn) := Int.mul_le_mul_of_nonneg_right (by omega) (by omega)
    omega
  · have := h2 hm
    have : (b : Int) * (c'.ri turn - c.ri turn) ≤ (b' : Int) * (c'.ri turn - c.ri turn) := Int.mul_le_mul_of_nonneg_right (by omega) (by omega)
    omega
def blB : Sm := (sSeq (sSet 7 (eBin gSub (eCall F_minute_in [(eVar 0), (eVar 6)]) (eCall F_minute_in [(eVar 1), (eVar 6)])))
    (sSeq (sSet 7 (eIf (eTb (eBin gGt (eVar 4) (eK (.int 0)))) (eVar 7) (eNeg (eVar 7))))
    (sSet 5 (eCall gMax [(eVar 5), (eBin gAdd (eCall gInt [(eBin gDiv (eNeg (eVar 7)) (eCall gAbs [(eVar 4)]))]) (eK (.int 1)))]))))
theorem bl_loop {c c' : Cal} (h : CalB c) (h' : CalB c') (he : c.again ≠ []) (he' : c'.again ≠ []) {turn : Nat} (ht : turn ≤ 2000) (hm : c.ri turn - c'.ri turn ≠ 0) (v2 v3 : Option D) : ∀ (k i : Nat) (f : Nat) (z6 z7 : Option D), i + k ≤ 1900 → f ≤ 7700 →
    ∃ (b : Nat) (z6' z7' : Option D), forR (gNm 6) blB k ((i : Int) + 1) [some c.d, some c'.d, v2, v3, some (.int (c.ri turn - c'.ri turn)), some (.int (f : Int)), z6, z7] S
      = .nx [some c.d, some c'.d, v2, v3, some (.int (c.ri turn - c'.ri turn)), some (.int (b : Int)), z6', z7'] S ∧ f ≤ b ∧ b ≤ 7700 ∧ ∀ j, i ≤ j → j < i + k → Far c c' turn j b
  | 0, i, f, z6, z7, hi, hf => ⟨f, z6, z7, rfl, Nat.le_refl _, hf, fun j h1 h2 => by omega⟩
  | k + 1, i, f, z6, z7, hi, hf => by
    obtain ⟨x, hx⟩ := c.at_some he i
    obtain ⟨y, hy⟩ := c'.at_some he' i
    have bx := h.at hx
    have byy := h'.at hy
    have m1 := minute_eq (S := S) h (d := (i : Int) + 1) (by omega) (by omega)
    have m2 := minute_eq (S := S) h' (d := (i : Int) + 1) (by omega) (by omega)
    rw [show ((i : Int) + 1 - 1).toNat = i by omega] at m1 m2
    rw [hx] at m1
    rw [hy] at m2
    have r1 := Cal.ri_le h ht
    have r2 := Cal.ri_le h' ht
    generalize hM : c.ri turn - c'.ri turn = M at *
    -- the value of this depth
    obtain ⟨F, hF, hFb⟩ : ∃ F : Int, F = (if 0 < M then x - y else -(x - y)) ∧ -F ≤ 7660 := ⟨_, rfl, by split <;> omega⟩
    obtain ⟨A, hA, hA1⟩ : ∃ A : Int, A = (if M < 0 then -M else M) ∧ 1 ≤ A := ⟨_, rfl, by split <;> omega⟩
    have hA2 : A ≤ 8000 := by rw [hA]; split <;> omega
    have hq : -F / A ≤ 7660 := by
      rcases Int.le_total 0 (-F) with h0 | h0
      · exact Int.le_trans (Int.ediv_le_self _ h0) hFb
      · have : -F / A ≤ 0 := Int.ediv_nonpos_of_nonpos_of_neg h0 (by omega)
        omega
    have hlt := Int.lt_ediv_add_one_mul_self (-F) (show 0 < A by omega)
    generalize hQ : -F / A = Q at *
    obtain ⟨nf, hnf, hn1, hn2, hn3⟩ : ∃ nf : Nat, (if Q + 1 > (f : Int) then Q + 1 else (f : Int)) = (nf : Int) ∧ f ≤ nf ∧ nf ≤ 7700 ∧ Q + 1 ≤ (nf : Int) := by
      split
      · exact ⟨(Q + 1).toNat, by omega, by omega, by omega, by omega⟩
      · exact ⟨f, rfl, Nat.le_refl _, hf, by omega⟩
    obtain ⟨b, z6', z7', e, b1, b2, b3⟩ := bl_loop h h' he he' ht (hM.symm ▸ hm) v2 v3 k (i + 1) nf (some (.int ((i : Int) + 1))) (some (.int F)) (by omega) hn2
    rw [hM] at e
    refine ⟨b, z6', z7', ?_, by omega, b2, fun j j1 j2 => ?_⟩
    · have hc : (((i + 1 : Nat) : Int) + 1) = (i : Int) + 1 + 1 := by omega
      rw [hc] at e
      rw [← e, ← hnf]
      have dv : gDiv (.int (-F)) (.int A) S = .ok (.int Q) S := by
        rw [gDiv_int _ (by omega) (by
          have := small_log (x := A) (k := 20) (by
            have : (8000 : Nat) < 2 ^ 20 := by decide
            omega) (by decide) (by decide)
          omega), hQ]
      by_cases c1 : 0 < M
      · have hF' : F = x - y := by rw [hF, if_pos c1]
        have hA' : (if M < 0 then -M else M) = A := hA.symm
        subst hF'
        simp [forR, blB, m1, m2, oD, c1, hA', dv]
      · have hF' : F = y - x := by rw [hF, if_neg c1]; omega
        have hA' : (if M < 0 then -M else M) = A := hA.symm
        have hn : -(x - y) = y - x := by omega
        have hn2 : -(y - x) = x - y := by omega
        subst hF'
        rw [hn2] at dv
        simp [forR, blB, m1, m2, oD, c1, hA', dv, hn, hn2]
    · rcases Nat.lt_or_ge i j with hl | hl
      · exact b3 j hl (by omega)
      · have : j = i := by omega
        subst this
        refine Far.mono (b := nf) ?_ b1
        intro x' y' hx' hy'
        rw [hx] at hx'
        rw [hy] at hy'
        cases hx'
        cases hy'
        have h5 : (Q + 1) * A ≤ (nf : Int) * A := Int.mul_le_mul_of_nonneg_right hn3 (by omega)
        rw [hM]
        refine ⟨fun hm2 => ?_, fun hm2 => ?_⟩
        · rw [if_pos hm2] at hF
          rw [if_neg (by omega)] at hA
          subst hA
          omega
        · rw [if_neg (by omega)] at hF
          rw [if_pos hm2] at hA
          have : c'.ri turn - c.ri turn = A := by omega
          rw [this]
          omega
theorem blocks_until_eq {c c' : Cal} (h : CalB c) (h' : CalB c') (he : c.again ≠ []) (he' : c'.again ≠ []) {turn i : Nat} (ht' : turn ≤ 1728) (hi : i ≤ 100) :
    ∃ b : Nat, F_blocks_until [c.d, c'.d, .int ((i : Int) + 1), .int (turn : Int)] S = .ok (.int (b : Int)) S ∧ b ≤ 7700 ∧ (c.ri turn ≠ c'.ri turn → ∀ j, i ≤ j → j < i + turn → Far c c' turn j b) := by
  have ht : turn ≤ 2000 := by omega
  have r1 := rise_in_eq (S := S) h ht
  have r2 := rise_in_eq (S := S) h' ht
  by_cases hm : c.ri turn - c'.ri turn = 0
  · refine ⟨0, ?_, by omega, fun hne => absurd (by omega) hne⟩
    simp [F_blocks_until, fnP_ap, r1, r2, hm]
  · obtain ⟨b, z6, z7, e, b1, b2, b3⟩ := bl_loop (S := S) h h' he he' ht hm (some (.int ((i : Int) + 1))) (some (.int (turn : Int))) turn i 0 none none (by omega) (by omega)
    refine ⟨b, ?_, b2, fun _ => b3⟩
    have s1 : smallI ((i : Int) + 1) = true := smallI_mk (by omega) (by omega)
    have s2 : smallI ((i : Int) + 1 + (turn : Int)) = true := smallI_mk (by omega) (by omega)
    simp only [F_blocks_until, fnP_ap, sSeq_ap]
    simp [r1, r2, hm]
    rw [sFor_rng (lo := (i : Int) + 1) (n := turn) (S1 := S) (by simp [s1, s2]; omega)]
    have e' : forR (gNm 6) blB turn ((i : Int) + 1) [some c.d, some c'.d, some (.int ((i : Int) + 1)), some (.int (turn : Int)), some (.int (c.ri turn - c'.ri turn)), some (.int 0), none, none] S = _ := e
    simp only [blB] at e'
    rw [e']
    simp
end
/-! two fors over what stands still -/
theorem lcLoop_pure {s : Src} {xs : List D} {c : Ct} {e : Ee} {ρ : Rho} {S : Sto} {φ : D → D} (hs : ∀ S i, srcAt S i s = xs[i]?) (hl : ∀ S, srcLen S s = some xs.length) (h : ∀ x ∈ xs, ∃ ρ1, c.put x ρ = some ρ1 ∧ e ρ1 S = .ok (φ x) S) : lcLoop s c tYesD e xs.length 0 ρ S = .ok (xs.map φ) S := by
  rw [lcLoop_L hs hl _ 0 _ (by omega)]
  exact lcL_map xs h
theorem lc2_pure {xs ys : List D} {c c1 : Ct} {f1 : Es} {e : Ee} {ws1 : List Nat} {ρ : Rho} {S : Sto} {φ : D → D → D} (hy : ys.length ≤ 1000)
    (h : ∀ x ∈ xs, ∃ ρ1, c.put x ρ = some ρ1 ∧ f1 ρ1 S = .ok (.it (.lst ys)) S ∧ ∀ y ∈ ys, ∃ ρ2, c1.put y (wipeR ρ1 ws1) = some ρ2 ∧ e ρ2 S = .ok (φ x y) S) : ∀ (k i : Nat), i + k = xs.length →
    lc2Loop (.it (.lst xs)) c tYesD f1 c1 tYesD e ws1 k i ρ S = .ok ((xs.drop i).flatMap fun x => ys.map (φ x)) S
  | 0, i, hi => by
    rw [List.drop_eq_nil_of_le (by omega)]
    simp only [lc2Loop, srcLen, itsOf_lst]
    rw [if_pos (by omega)]
    rfl
  | k + 1, i, hi => by
    have hl : i < xs.length := by omega
    obtain ⟨ρ1, h1, h2, h3⟩ := h xs[i] (List.getElem_mem hl)
    have ih := lc2_pure (c := c) (c1 := c1) (f1 := f1) (e := e) (ws1 := ws1) (ρ := ρ) (φ := φ) hy h k (i + 1) (by omega)
    have hin := lcLoop_pure (s := .it (.lst ys)) (xs := ys) (c := c1) (e := e) (ρ := wipeR ρ1 ws1) (S := S) (φ := φ xs[i]) (fun S i => by simp [srcAt]) (fun S => by simp [srcLen]) h3
    rw [List.drop_eq_getElem_cons hl]
    simp only [lc2Loop, srcAt, itsOf_lst, List.getElem?_eq_getElem hl, h1, tYes_ap, R.calm_ok, R.bind_ok, h2, srcLen, hy, if_true, hin, ih, List.flatMap_cons]
theorem eLc2_lst {f f1 : Es} {c c1 : Ct} {e : Ee} {ws ws1 : List Nat} {ρ : Rho} {S : Sto} {xs ys : List D} {φ : D → D → D} (hf : f ρ S = .ok (.it (.lst xs)) S) (hx : xs.length ≤ 1000) (hy : ys.length ≤ 1000)
    (h : ∀ x ∈ xs, ∃ ρ1, c.put x (wipeR ρ ws) = some ρ1 ∧ f1 ρ1 S = .ok (.it (.lst ys)) S ∧ ∀ y ∈ ys, ∃ ρ2, c1.put y (wipeR ρ1 ws1) = some ρ2 ∧ e ρ2 S = .ok (φ x y) S) :
    eLc2 f c tYesD f1 c1 tYesD e ws ws1 ρ S = .ok (.lst (xs.flatMap fun x => ys.map (φ x))) S := by
  simp only [eLc2, hf, R.bind_ok, srcLen, itsOf_lst, hx, if_true]
  rw [lc2_pure hy h _ 0 (by omega)]
  simp
/-! greatest of a list -/
theorem mxL_ge : ∀ (l : List Int) (a : Int), a ≤ maxL a l ∧ ∀ x ∈ l, x ≤ maxL a l
  | [], a => ⟨Int.le_refl _, by simp⟩
  | b :: r, a => by
    simp only [maxL]
    obtain ⟨h1, h2⟩ := mxL_ge r (if a < b then b else a)
    refine ⟨by split at h1 <;> split <;> omega, fun x hx => ?_⟩
    rcases List.mem_cons.mp hx with rfl | hx
    · split at h1 <;> split <;> omega
    · exact h2 x hx
theorem mxL_le {m : Int} : ∀ (l : List Int) (a : Int), a ≤ m → (∀ x ∈ l, x ≤ m) → maxL a l ≤ m
  | [], a, h, _ => h
  | b :: r, a, h, hl => by
    simp only [maxL]
    have := hl b List.mem_cons_self
    exact mxL_le r _ (by split <;> omega) fun x hx => hl x (List.mem_cons_of_mem _ hx)
end DL
/-! settled_from -/
namespace DL
open PySem L2
/-- from index s on, all lies as it does a turn later -/
structure SetF (cs : List Cal) (s turn : Nat) : Prop where
  pos : 0 < turn
  le : turn ≤ 1728
  len : ∀ c ∈ cs, c.early.length ≤ s
  dvd : ∀ c ∈ cs, c.al ∣ turn
  far : ∀ c ∈ cs, ∀ c' ∈ cs, ∀ i, s ≤ i → ∀ x y, c.at i = some x → c'.at i = some y → (c'.ri turn < c.ri turn → y < x) ∧ (c.ri turn < c'.ri turn → x < y)
  sb : s ≤ 16000000
theorem at_endl {c : Cal} {i : Nat} {x : Int} (hi : c.early.length ≤ i) (h : c.at i = some x) : c.again ≠ [] := by
  intro e
  rw [Cal.at_none e hi] at h
  cases h
theorem far_on {c c' : Cal} {turn m b i : Nat} (hp : 0 < turn) (hd : c.al ∣ turn) (hd' : c'.al ∣ turn) (hl : c.early.length ≤ m) (hl' : c'.early.length ≤ m) (hi : m + turn * b ≤ i)
    (hf : c.ri turn ≠ c'.ri turn → ∀ j, m ≤ j → j < m + turn → Far c c' turn j b) {x y : Int} (hx : c.at i = some x) (hy : c'.at i = some y) : (c'.ri turn < c.ri turn → y < x) ∧ (c.ri turn < c'.ri turn → x < y) := by
  have hmi : m ≤ i := Nat.le_trans (Nat.le_add_right _ _) hi
  have hmod := Nat.mod_lt (i - m) hp
  have hdm : i = (m + (i - m) % turn) + (i - m) / turn * turn := by
    have := Nat.div_add_mod (i - m) turn
    rw [Nat.mul_comm] at this
    omega
  have hbk : b ≤ (i - m) / turn := (Nat.le_div_iff_mul_le hp).mpr (by rw [Nat.mul_comm]; omega)
  have e1 := Cal.at_turn hd (m + (i - m) % turn) ((i - m) / turn) (by omega)
  have e2 := Cal.at_turn hd' (m + (i - m) % turn) ((i - m) / turn) (by omega)
  rw [← hdm, hx] at e1
  rw [← hdm, hy] at e2
  cases h1 : c.at (m + (i - m) % turn) with
  | none => rw [h1] at e1; cases e1
  | some x0 =>
    cases h2 : c'.at (m + (i - m) % turn) with
    | none => rw [h2] at e2; cases e2
    | some y0 =>
      rw [h1] at e1
      rw [h2] at e2
      simp only [Option.map_some, Option.some.injEq] at e1 e2
      have key : ∀ M : Int, 0 ≤ M → (b : Int) * M ≤ (((i - m) / turn : Nat) : Int) * M := fun M hM => Int.mul_le_mul_of_nonneg_right (Int.ofNat_le.mpr hbk) hM
      refine ⟨fun hM => ?_, fun hM => ?_⟩
      · have hF := (hf (by omega) (m + (i - m) % turn) (by omega) (by omega) x0 y0 h1 h2).1 (by omega)
        have k := key (c.ri turn - c'.ri turn) (by omega)
        rw [Int.mul_sub, Int.mul_sub] at k
        rw [Int.mul_sub] at hF
        omega
      · have hF := (hf (by omega) (m + (i - m) % turn) (by omega) (by omega) x0 y0 h1 h2).2 (by omega)
        have k := key (c'.ri turn - c.ri turn) (by omega)
        rw [Int.mul_sub, Int.mul_sub] at k
        rw [Int.mul_sub] at hF
        omega
def intD : D → Option Int
  | .int i => some i
  | _ => none
def Cal.ofD : D → Cal
  | .tup [.tup e, .tup a, .int r] => ⟨e.filterMap intD, a.filterMap intD, r⟩
  | _ => ⟨[], [], 0⟩
theorem ints_back (l : List Int) : (l.map D.int).filterMap intD = l := by
  induction l with
  | nil => rfl
  | cons x l ih => simp [intD, ih]
theorem Cal.ofD_d (c : Cal) : Cal.ofD c.d = c := by
  unfold Cal.d Cal.ofD
  simp only [ints_back]
  have : (agD c.again).filterMap intD = c.again := by
    unfold agD
    split
    · next h =>
      have : c.again = [] := by simpa using h
      rw [this]; rfl
    · exact ints_back _
  rw [this]
section
variable {S : Sto}
theorem settled_from_eq {cs : List Cal} (hc : ∀ c ∈ cs, CalB c) (hl1 : 1 ≤ cs.length) (hl3 : cs.length ≤ 3) :
    ∃ s : Nat, F_settled_from [.lst (cs.map Cal.d)] S = .ok (.tup [.int ((s : Int) + 1), .int ((tn cs : Nat) : Int)]) S ∧ SetF cs s (tn cs) := by
  have htn := tn_pos cs
  have htl : tn cs ≤ 1728 := Nat.le_trans (tn_le hc) (Nat.le_trans (Nat.pow_le_pow_right (by omega) hl3) (by decide))
  have ct := common_turn_eq (S := S) hc hl3
  -- the lengths of the early ones
  have hc1 : eLc (eItS (eVar 0)) (.nm 5) tYesD (eCall gLen [(eBin gIdx (eVar 5) (eK (.int 0)))]) [5] [some (.lst (cs.map Cal.d)), some (.int ((tn cs : Nat) : Int)), none, none, none, none, none, none, none] S = .ok (.lst ((cs.map fun c => (c.early.length : Int)).map D.int)) S := by
    rw [eLc_lst (xs := cs.map Cal.d) (S1 := S) (by simp) (by simp; omega)]
    rw [lcL_map (φ := fun d => match d with
      | .tup (.tup l :: _) => .int (l.length : Int)
      | d => d) (cs.map Cal.d) (fun x hx => by
      simp only [List.mem_map] at hx
      obtain ⟨c, _, rfl⟩ := hx
      have i0 : gIdx c.d (.int 0) S = .ok (.tup (c.early.map D.int)) S := gIdx_tup _ (atI0 _ _)
      exact ⟨_, rfl, by simp [wipeR, i0]; simp [Cal.d]⟩)]
    simp [List.map_map, Function.comp_def, Cal.d]
  obtain ⟨ml, hml, hml1, hml2⟩ : ∃ ml : Nat, gMax [.lst ((cs.map fun c => (c.early.length : Int)).map D.int)] S = .ok (.int (ml : Int)) S ∧ (∀ c ∈ cs, c.early.length ≤ ml) ∧ ml ≤ 100 := by
    cases cs with
    | nil => simp at hl1
    | cons c0 cr =>
      have h1 := mxL_ge (cr.map fun c => (c.early.length : Int)) (c0.early.length : Int)
      have h2 : maxL (c0.early.length : Int) (cr.map fun c => (c.early.length : Int)) ≤ 100 := mxL_le _ _ (by have := (hc c0 (by simp)).lenE; omega) (fun x hx => by
        simp only [List.mem_map] at hx
        obtain ⟨c, hcm, rfl⟩ := hx
        have := (hc c (List.mem_cons_of_mem _ hcm)).lenE
        omega)
      refine ⟨(maxL (c0.early.length : Int) (cr.map fun c => (c.early.length : Int))).toNat, ?_, fun c hcm => ?_, by omega⟩
      · have hi : intsOf (((c0 :: cr).map fun c => (c.early.length : Int)).map D.int) = some ((c0 :: cr).map fun c => (c.early.length : Int)) := intsOf_map _
        simp only [List.map_cons] at hi
        simp only [gMax, view_lst_, List.map_cons, hi]
        congr 2
        omega
      · rcases List.mem_cons.mp hcm with rfl | hcm
        · omega
        · have := h1.2 (c.early.length : Int) (List.mem_map.mpr ⟨c, hcm, rfl⟩)
          omega
  -- the endless ones
  obtain ⟨es, hes⟩ : ∃ es : List Cal, es = cs.filter Cal.endl := ⟨_, rfl⟩
  have hem : ∀ c ∈ es, c ∈ cs ∧ c.again ≠ [] := fun c hcm => by
    rw [hes] at hcm
    obtain ⟨a, b⟩ := List.mem_filter.mp hcm
    exact ⟨a, Cal.endl_iff.mp b⟩
  have hc2 : eLc (eItS (eVar 0)) (.nm 5) (eTr (eCall F_is_endless [(eVar 5)])) (eVar 5) [5] [some (.lst (cs.map Cal.d)), some (.int ((tn cs : Nat) : Int)), some (.int (1 + (ml : Int))), none, none, none, none, none, none] S = .ok (.lst (es.map Cal.d)) S := by
    rw [eLc_lst (xs := cs.map Cal.d) (S1 := S) (by simp) (by simp; omega)]
    have : ∀ l : List Cal, lcL (.nm 5) (eTr (eCall F_is_endless [(eVar 5)])) (eVar 5) (wipeR [some (.lst (cs.map Cal.d)), some (.int ((tn cs : Nat) : Int)), some (.int (1 + (ml : Int))), none, none, none, none, none, none] [5]) (l.map Cal.d) S = .ok ((l.filter Cal.endl).map Cal.d) S := by
      intro l
      induction l with
      | nil => rfl
      | cons c l ih =>
        simp only [List.map_cons, lcL, put_nm]
        cases he : c.endl with
        | true => simp [wipeR, is_endless_eq, he, List.filter_cons] at ih ⊢; simp [ih]
        | false => simp [wipeR, is_endless_eq, he, List.filter_cons] at ih ⊢; simp [ih]
    rw [this, hes]
    rfl
  -- the blocks
  have hb : ∃ bf : Cal → Cal → Nat, ∀ c ∈ es, ∀ c' ∈ es, F_blocks_until [c.d, c'.d, .int ((ml : Int) + 1), .int ((tn cs : Nat) : Int)] S = .ok (.int (bf c c' : Int)) S ∧ bf c c' ≤ 7700 ∧ (c.ri (tn cs) ≠ c'.ri (tn cs) → ∀ j, ml ≤ j → j < ml + tn cs → Far c c' (tn cs) j (bf c c')) := by
    have : ∀ c c' : Cal, ∃ b : Nat, c ∈ es → c' ∈ es → F_blocks_until [c.d, c'.d, .int ((ml : Int) + 1), .int ((tn cs : Nat) : Int)] S = .ok (.int (b : Int)) S ∧ b ≤ 7700 ∧ (c.ri (tn cs) ≠ c'.ri (tn cs) → ∀ j, ml ≤ j → j < ml + tn cs → Far c c' (tn cs) j b) := by
      intro c c'
      by_cases h1 : c ∈ es
      · by_cases h2 : c' ∈ es
        · obtain ⟨b, q1, q2, q3⟩ := blocks_until_eq (S := S) (hc c (hem c h1).1) (hc c' (hem c' h2).1) (hem c h1).2 (hem c' h2).2 htl hml2
          exact ⟨b, fun _ _ => ⟨q1, q2, q3⟩⟩
        · exact ⟨0, fun _ h => absurd h h2⟩
      · exact ⟨0, fun h _ => absurd h h1⟩
    exact ⟨fun c c' => Classical.choose (this c c'), fun c h1 c' h2 => Classical.choose_spec (this c c') h1 h2⟩
  obtain ⟨bf, hbf⟩ := hb
  have hel : es.length ≤ 3 := by rw [hes]; exact Nat.le_trans (List.length_filter_le _ _) hl3
  obtain ⟨bs, hbs⟩ : ∃ bs : List Int, bs = es.flatMap fun c => es.map fun c' => (bf c c' : Int) := ⟨_, rfl⟩
  have hc3 : eLc2 (eItS (eVar 3)) (.nm 6) tYesD (eItS (eVar 3)) (.nm 7) tYesD (eCall F_blocks_until [(eVar 6), (eVar 7), (eVar 2), (eVar 1)]) [6, 7] [7] [some (.lst (cs.map Cal.d)), some (.int ((tn cs : Nat) : Int)), some (.int (1 + (ml : Int))), some (.lst (es.map Cal.d)), none, none, none, none, none] S = .ok (.lst (bs.map D.int)) S := by
    rw [eLc2_lst (xs := es.map Cal.d) (ys := es.map Cal.d) (φ := fun d d' => .int (bf (Cal.ofD d) (Cal.ofD d'))) (by simp) (by simp; omega) (by simp; omega) (fun x hx => by
      simp only [List.mem_map] at hx
      obtain ⟨c, h1, rfl⟩ := hx
      refine ⟨_, rfl, by simp [wipeR], fun y hy => ?_⟩
      simp only [List.mem_map] at hy
      obtain ⟨c', h2, rfl⟩ := hy
      have hq := (hbf c h1 c' h2).1
      rw [Int.add_comm] at hq
      exact ⟨_, rfl, by simp [wipeR, hq, Cal.ofD_d]⟩)]
    rw [hbs]
    congr 2
    simp [List.flatMap_map, List.map_flatMap, List.map_map, Function.comp_def, Cal.ofD_d]
  have hbl : bs.length ≤ 9 := by
    rw [hbs]
    have : ∀ l : List Cal, (l.flatMap fun c => es.map fun c' => (bf c c' : Int)).length = l.length * es.length := by
      intro l
      induction l with
      | nil => simp
      | cons c l ih => simp [List.flatMap_cons, ih, Nat.succ_mul]; omega
    rw [this]
    exact Nat.mul_le_mul hel hel
  have hc4 : eLc (eItS (eVar 4)) (.nm 8) tYesD (eCall gInt [(eVar 8)]) [8] [some (.lst (cs.map Cal.d)), some (.int ((tn cs : Nat) : Int)), some (.int (1 + (ml : Int))), some (.lst (es.map Cal.d)), some (.lst (bs.map D.int)), none, none, none, none] S = .ok (.lst (bs.map D.int)) S := by
    rw [eLc_lst (xs := bs.map D.int) (S1 := S) (by simp) (by simp; omega)]
    rw [lcL_map (φ := id) (bs.map D.int) (fun x hx => by
      simp only [List.mem_map] at hx
      obtain ⟨i, _, rfl⟩ := hx
      exact ⟨_, rfl, by simp [wipeR]⟩)]
    simp
  have ha := gAdd_lst S (xs := [.int 0]) (ys := bs.map D.int) (by simp; omega)
  have hbb : ∀ x ∈ bs, 0 ≤ x ∧ x ≤ 7700 := fun x hx => by
    rw [hbs] at hx
    simp only [List.mem_flatMap, List.mem_map] at hx
    obtain ⟨c, h1, c', h2, rfl⟩ := hx
    have := (hbf c h1 c' h2).2.1
    omega
  obtain ⟨B, hB, hB1, hB2⟩ : ∃ B : Nat, gMax [.lst ([.int 0] ++ bs.map D.int)] S = .ok (.int (B : Int)) S ∧ (∀ x ∈ bs, x ≤ (B : Int)) ∧ B ≤ 7700 := by
    have h1 := mxL_ge bs 0
    have h2 : maxL 0 bs ≤ 7700 := mxL_le _ _ (by omega) fun x hx => (hbb x hx).2
    refine ⟨(maxL 0 bs).toNat, ?_, fun x hx => by have := h1.2 x hx; omega, by omega⟩
    have hi : intsOf ((0 :: bs).map D.int) = some (0 :: bs) := intsOf_map _
    simp only [List.map_cons] at hi
    simp only [gMax, view_lst_, List.cons_append, List.nil_append, hi]
    congr 2
    omega
  have hm : gMul (.int ((tn cs : Nat) : Int)) (.int (B : Int)) S = .ok (.int ((tn cs * B : Nat) : Int)) S := by
    rw [gMul_int _ (by
      have a : (((tn cs : Nat) : Int)).natAbs.log2 < 1000 := small_log (k := 20) (by
        rw [Int.natAbs_natCast]
        have : (1728 : Nat) < 2 ^ 20 := by decide
        omega) (by decide) (by decide)
      have b : ((B : Int)).natAbs.log2 < 1000 := small_log (k := 20) (by
        rw [Int.natAbs_natCast]
        have : (7700 : Nat) < 2 ^ 20 := by decide
        omega) (by decide) (by decide)
      omega)]
    rfl
  have hTB : tn cs * B ≤ 1728 * 7700 := Nat.mul_le_mul htl hB2
  refine ⟨ml + tn cs * B, ?_, ⟨htn, htl, fun c h => Nat.le_trans (hml1 c h) (Nat.le_add_right _ _), tn_dvd, ?_, by omega⟩⟩
  · have hst : 1 + (ml : Int) + ((tn cs * B : Nat) : Int) = ((ml + tn cs * B : Nat) : Int) + 1 := by omega
    rw [← hst]
    generalize tn cs * B = TB at *
    generalize tn cs = T at *
    generalize (cs.map fun c => (c.early.length : Int)).map D.int = X at hc1 hml
    simp only [List.cons_append, List.nil_append] at ha hB
    simp [F_settled_from, fnP_ap, ct, hc1, hml, hc2, hc3, hc4, ha, hB, hm]
  · intro c h1 c' h2 i hi x y hx hy
    have l1 := Nat.le_trans (hml1 c h1) (Nat.le_trans (Nat.le_add_right _ _) hi)
    have l2 := Nat.le_trans (hml1 c' h2) (Nat.le_trans (Nat.le_add_right _ _) hi)
    have m1 : c ∈ es := by rw [hes]; exact List.mem_filter.mpr ⟨h1, Cal.endl_iff.mpr (at_endl l1 hx)⟩
    have m2 : c' ∈ es := by rw [hes]; exact List.mem_filter.mpr ⟨h2, Cal.endl_iff.mpr (at_endl l2 hy)⟩
    have q := (hbf c m1 c' m2).2.2
    have hle : bf c c' ≤ B := by
      have := hB1 (bf c c' : Int) (by rw [hbs]; exact List.mem_flatMap.mpr ⟨c, m1, List.mem_map.mpr ⟨c', m2, rfl⟩⟩)
      omega
    exact far_on htn (tn_dvd c h1) (tn_dvd c' h2) (hml1 c h1) (hml1 c' h2) hi (fun hne j j1 j2 => (q hne j j1 j2).mono hle) hx hy
end
end DL
/-! later ones -/
namespace DL
open PySem L2
/-- whether it is later, none being never -/
def isLt (x y : Option Int) : Bool := match y with
  | none => false
  | some y => match x with
    | none => true
    | some x => decide (y < x)
/-- how two minutes lie does not change -/
theorem SetF.turn {cs : List Cal} {s T : Nat} (f : SetF cs s T) {c c' : Cal} (h : c ∈ cs) (h' : c' ∈ cs) {i : Nat} (hi : s ≤ i) : isLt (c.at (i + T)) (c'.at (i + T)) = isLt (c.at i) (c'.at i) := by
  have l1 := f.len c h
  have l2 := f.len c' h'
  have e1 := Cal.at_turn (f.dvd c h) i 1 (by omega)
  have e2 := Cal.at_turn (f.dvd c' h') i 1 (by omega)
  rw [Nat.one_mul] at e1 e2
  cases hx : c.at i with
  | none =>
    rw [hx] at e1
    rw [e1, e2]
    cases c'.at i <;> rfl
  | some x =>
    cases hy : c'.at i with
    | none => rw [hy] at e2; rw [e1, e2, hx]; rfl
    | some y =>
      rw [hx] at e1
      rw [hy] at e2
      rw [e1, e2]
      have f1 := f.far c h c' h' i hi x y hx hy
      have f2 := f.far c h c' h' (i + T) (by omega) _ _ e1 e2
      simp only [Option.map_some, isLt, decide_eq_decide]
      by_cases c1 : c.ri T = c'.ri T
      · rw [c1]; omega
      · rcases Int.lt_or_gt_of_ne c1 with hl | hl
        · have a := f1.2 hl
          have b := f2.2 hl
          simp only [Option.map_some] at b
          omega
        · have a := f1.1 hl
          have b := f2.1 hl
          omega
theorem SetF.turns {cs : List Cal} {s T : Nat} (f : SetF cs s T) {c c' : Cal} (h : c ∈ cs) (h' : c' ∈ cs) {i : Nat} (hi : s ≤ i) : ∀ k : Nat, isLt (c.at (i + k * T)) (c'.at (i + k * T)) = isLt (c.at i) (c'.at i)
  | 0 => by simp
  | k + 1 => by
    rw [Nat.succ_mul, ← Nat.add_assoc, f.turn h h' (by have := Nat.zero_le (k * T); omega), f.turns h h' hi k]
/-- each index lies as one ahead of s + T -/
theorem SetF.rep {cs : List Cal} {s T : Nat} (f : SetF cs s T) {c c' : Cal} (h : c ∈ cs) (h' : c' ∈ cs) (i : Nat) : ∃ j, j < s + T ∧ isLt (c.at j) (c'.at j) = isLt (c.at i) (c'.at i) := by
  rcases Nat.lt_or_ge i (s + T) with hl | hl
  · exact ⟨i, hl, rfl⟩
  · have hp := f.pos
    have hm := Nat.mod_lt (i - s) hp
    refine ⟨s + (i - s) % T, by omega, ?_⟩
    have e := f.turns h h' (i := s + (i - s) % T) (by omega) ((i - s) / T)
    have : s + (i - s) % T + (i - s) / T * T = i := by
      have := Nat.div_add_mod (i - s) T
      rw [Nat.mul_comm] at this
      omega
    rw [this] at e
    exact e.symm
section
variable {S : Sto}
theorem is_later_eq (x y : Option Int) : F_is_later [oD x, oD y] S = .ok (.bl (isLt x y)) S := by
  cases x <;> cases y <;> simp [F_is_later, fnP_ap, oD, isNon, isLt]
/-- the first index at which something holds -/
def fstP (p : Nat → Bool) : Nat → Nat → Option Nat
  | 0, _ => none
  | k + 1, i => if p i then some i else fstP p k (i + 1)
theorem fstP_some {p : Nat → Bool} : ∀ {k i j : Nat}, fstP p k i = some j → p j = true ∧ i ≤ j ∧ j < i + k ∧ ∀ m, i ≤ m → m < j → p m = false
  | 0, _, _, h => by cases h
  | k + 1, i, j, h => by
    simp only [fstP] at h
    by_cases c : p i = true
    · rw [if_pos c] at h
      cases h
      exact ⟨c, Nat.le_refl _, by omega, fun m h1 h2 => by omega⟩
    · rw [if_neg c] at h
      obtain ⟨h1, h2, h3, h4⟩ := fstP_some h
      refine ⟨h1, by omega, by omega, fun m m1 m2 => ?_⟩
      rcases Nat.lt_or_ge i m with hl | hl
      · exact h4 m hl m2
      · have : m = i := by omega
        rw [this]; simpa using c
theorem fstP_none {p : Nat → Bool} : ∀ {k i : Nat}, fstP p k i = none → ∀ m, i ≤ m → m < i + k → p m = false
  | 0, _, _, m, h1, h2 => by omega
  | k + 1, i, h, m, h1, h2 => by
    simp only [fstP] at h
    by_cases c : p i = true
    · rw [if_pos c] at h; cases h
    · rw [if_neg c] at h
      rcases Nat.lt_or_ge i m with hl | hl
      · exact fstP_none h m hl (by omega)
      · have : m = i := by omega
        rw [this]; simpa using c
/-- for depth in range: if p: return depth -/
theorem forR_fst {i : Nat} {t : Et} {ρ : Rho} {p : Nat → Bool} (hi : i < ρ.length) : ∀ (k m : Nat), (∀ j, m ≤ j → j < m + k → t (ρ.set i (some (.int ((j : Int) + 1)))) S = .ok (p j) S) →
    (∀ j, fstP p k m = some j → forR (gNm i) (sIf t (sRt (eVar i)) sNx) k ((m : Int) + 1) ρ S = .rt (.int ((j : Int) + 1)) S) ∧ (fstP p k m = none → ∃ z, forR (gNm i) (sIf t (sRt (eVar i)) sNx) k ((m : Int) + 1) ρ S = .nx (ρ.set i z) S)
  | 0, m, _ => ⟨(fun j h => by cases h), fun _ => ⟨ρ[i], by simp [forR]⟩⟩
  | k + 1, m, h => by
    have h0 := h m (Nat.le_refl _) (by omega)
    have hc : (((m + 1 : Nat) : Int) + 1) = (m : Int) + 1 + 1 := by omega
    simp only [fstP]
    cases hp : p m with
    | true =>
      rw [hp] at h0
      simp only [if_true]
      refine ⟨fun j hj => ?_, (fun h => by cases h)⟩
      cases hj
      have hv : eVar i (ρ.set i (some (.int ((m : Int) + 1)))) S = .ok (.int ((m : Int) + 1)) S := by simp [eVar, hi]
      simp only [forR, gNm_ap, on_nx, F.seq_nx, sIf_ap, h0, F.ofR_ok, sRt_ap, hv, F.turn_rt]
    | false =>
      rw [hp] at h0
      simp only [Bool.false_eq_true, if_false]
      have ih := forR_fst (t := t) (ρ := ρ.set i (some (.int ((m : Int) + 1)))) (p := p) (by simpa using hi) k (m + 1) (fun j j1 j2 => by
        rw [set_set_]; exact h j (by omega) (by omega))
      rw [hc] at ih
      refine ⟨fun j hj => ?_, fun hn => ?_⟩
      · have := ih.1 j hj
        simp only [forR, gNm_ap, on_nx, F.seq_nx, sIf_ap, h0, F.ofR_ok, sNx_ap, F.turn_nx, this]
      · obtain ⟨z, e⟩ := ih.2 hn
        refine ⟨z, ?_⟩
        rw [set_set_] at e
        simp only [forR, gNm_ap, on_nx, F.seq_nx, sIf_ap, h0, F.ofR_ok, sNx_ap, F.turn_nx, e]
/-- later_depth: the first depth with which the one is later, or none -/
theorem later_depth_eq {c c' : Cal} (h : CalB c) (h' : CalB c') : ∃ o : Option Nat, F_later_depth [c.d, c'.d] S = .ok (oD (o.map fun (j : Nat) => (j : Int) + 1)) S ∧
    (∀ j, o = some j → isLt (c.at j) (c'.at j) = true ∧ (∀ m, m < j → isLt (c.at m) (c'.at m) = false) ∧ j ≤ 16010000) ∧ (o = none → ∀ i, isLt (c.at i) (c'.at i) = false) := by
  obtain ⟨s, e, f⟩ := settled_from_eq (S := S) (cs := [c, c']) (by simp; exact ⟨h, h'⟩) (by simp) (by simp)
  have hT := f.le
  have hs := f.sb
  generalize hTT : tn [c, c'] = T at *
  have lp := forR_fst (S := S) (i := 4) (t := eTr (eCall F_is_later [(eCall F_minute_in [(eVar 0), (eVar 4)]), (eCall F_minute_in [(eVar 1), (eVar 4)])])) (ρ := [some c.d, some c'.d, some (.int ((s : Int) + 1)), some (.int (T : Int)), none]) (p := fun j => isLt (c.at j) (c'.at j)) (by simp) (s + T) 0 (fun j j1 j2 => by
    have m1 := minute_eq (S := S) h (d := (j : Int) + 1) (by omega) (by omega)
    have m2 := minute_eq (S := S) h' (d := (j : Int) + 1) (by omega) (by omega)
    rw [show ((j : Int) + 1 - 1).toNat = j by omega] at m1 m2
    simp [m1, m2, is_later_eq])
  refine ⟨fstP (fun j => isLt (c.at j) (c'.at j)) (s + T) 0, ?_, fun j hj => ?_, fun hn i => ?_⟩
  · have s1 : smallI 1 = true := by decide
    have s2 : smallI ((s : Int) + 1 + (T : Int)) = true := smallI_mk (by omega) (by omega)
    have e1 : F_settled_from [.lst [c.d, c'.d]] S = .ok (.tup [.int ((s : Int) + 1), .int (T : Int)]) S := e
    have hn : ((s : Int) + 1 + (T : Int) - 1).toNat = s + T := by omega
    simp only [F_later_depth, fnP_ap, sSeq_ap]
    simp [e1]
    rw [sFor_rng (lo := 1) (n := s + T) (S1 := S) (by simp [s1, s2]; omega)]
    cases hf : fstP (fun j => isLt (c.at j) (c'.at j)) (s + T) 0 with
    | some j =>
      have := lp.1 j hf
      have q : forR _ _ (s + T) 1 _ S = _ := this
      rw [q]
      simp [oD]
    | none =>
      obtain ⟨z, this⟩ := lp.2 hf
      have q : forR _ _ (s + T) 1 _ S = _ := this
      rw [q]
      simp [oD]
  · obtain ⟨a, b, c1, d⟩ := fstP_some hj
    exact ⟨a, fun m hm => d m (by omega) hm, by omega⟩
  · obtain ⟨j, hj, ej⟩ := f.rep (c := c) (c' := c') (by simp) (by simp) i
    rw [← ej]
    exact fstP_none hn j (by omega) (by omega)
end
end DL
/-! how far ahead -/
namespace DL
open PySem L2
/-- by how much the other is out later, with depth i + 1 -/
def fr (c c' : Cal) (i : Nat) : Option Int := match c.at i, c'.at i with
  | some x, some y => some (y - x)
  | _, _ => none
def frL (c c' : Cal) : Nat → Nat → List Int
  | 0, _ => []
  | k + 1, m => (fr c c' m).toList ++ frL c c' k (m + 1)
theorem frL_len (c c' : Cal) : ∀ k m, (frL c c' k m).length ≤ k
  | 0, _ => Nat.le_refl _
  | k + 1, m => by
    have := frL_len c c' k (m + 1)
    simp only [frL, List.length_append]
    cases fr c c' m <;> simp <;> omega
theorem frL_mem {c c' : Cal} {x : Int} : ∀ {k m}, x ∈ frL c c' k m ↔ ∃ j, m ≤ j ∧ j < m + k ∧ fr c c' j = some x
  | 0, m => by
    simp only [frL, List.not_mem_nil, false_iff]
    rintro ⟨j, h1, h2, _⟩
    omega
  | k + 1, m => by
    simp only [frL, List.mem_append, frL_mem (k := k) (m := m + 1), Option.mem_toList]
    constructor
    · rintro (h | ⟨j, h1, h2, h3⟩)
      · exact ⟨m, Nat.le_refl _, by omega, h⟩
      · exact ⟨j, by omega, by omega, h3⟩
    · rintro ⟨j, h1, h2, h3⟩
      rcases Nat.lt_or_ge m j with hl | hl
      · exact .inr ⟨j, by omega, by omega, h3⟩
      · have : j = m := by omega
        subst this
        exact .inl h3
/-- minutes told of a depth are told of all lesser ones -/
theorem Cal.at_down {c : Cal} {i j : Nat} {x : Int} (h : c.at i = some x) (hj : j ≤ i) : ∃ y, c.at j = some y := by
  unfold Cal.at at h ⊢
  by_cases h1 : i < c.early.length
  · rw [if_pos (by omega)]
    exact ⟨_, rfl⟩
  · rw [if_neg h1] at h
    split at h
    · cases h
    · next he =>
      split
      · exact ⟨_, rfl⟩
      · exact ⟨_, rfl⟩
theorem fr_down {c c' : Cal} {i j : Nat} {x : Int} (h : fr c c' i = some x) (hj : j ≤ i) : ∃ y, fr c c' j = some y := by
  unfold fr at h ⊢
  cases h1 : c.at i with
  | none => rw [h1] at h; cases h
  | some a =>
    cases h2 : c'.at i with
    | none => rw [h1, h2] at h; cases h
    | some b =>
      obtain ⟨y, e1⟩ := Cal.at_down h1 hj
      obtain ⟨z, e2⟩ := Cal.at_down h2 hj
      rw [e1, e2]
      exact ⟨_, rfl⟩
/-- a turn on -/
theorem fr_turn {c c' : Cal} {T : Nat} (hd : c.al ∣ T) (hd' : c'.al ∣ T) {i : Nat} (h1 : c.early.length ≤ i) (h2 : c'.early.length ≤ i) (k : Nat) : fr c c' (i + k * T) = (fr c c' i).map (· + (k : Int) * (c'.ri T - c.ri T)) := by
  unfold fr
  rw [Cal.at_turn hd i k h1, Cal.at_turn hd' i k h2]
  cases c.at i with
  | none => rfl
  | some x =>
    cases c'.at i with
    | none => rfl
    | some y =>
      simp only [Option.map_some]
      rw [Int.mul_sub]
      congr 1
      omega
theorem minL_ge : ∀ (l : List Int) (a : Int), minL a l ≤ a ∧ (∀ x ∈ l, minL a l ≤ x) ∧ (minL a l = a ∨ minL a l ∈ l)
  | [], a => ⟨Int.le_refl _, by simp, .inl rfl⟩
  | b :: r, a => by
    simp only [minL]
    obtain ⟨h1, h2, h3⟩ := minL_ge r (if b < a then b else a)
    refine ⟨by split at h1 <;> split <;> omega, fun x hx => ?_, ?_⟩
    · rcases List.mem_cons.mp hx with rfl | hx
      · split at h1 <;> split <;> omega
      · exact h2 x hx
    · rcases h3 with h3 | h3
      · split at h3
        · next hc => rw [if_pos hc]; exact .inr (by rw [h3]; exact List.mem_cons_self)
        · next hc => rw [if_neg hc]; exact .inl h3
      · exact .inr (List.mem_cons_of_mem _ h3)
theorem mxL_mem : ∀ (l : List Int) (a : Int), maxL a l = a ∨ maxL a l ∈ l
  | [], a => .inl rfl
  | b :: r, a => by
    simp only [maxL]
    rcases mxL_mem r (if a < b then b else a) with h3 | h3
    · split at h3
      · next hc => rw [if_pos hc]; exact .inr (by rw [h3]; exact List.mem_cons_self)
      · next hc => rw [if_neg hc]; exact .inl h3
    · exact .inr (List.mem_cons_of_mem _ h3)
section
variable {S : Sto}
def ldB : Sm := (sSeq (sPar 6 7 (eCall F_minute_in [(eVar 0), (eVar 5)]) (eCall F_minute_in [(eVar 1), (eVar 5)]))
    (sSet 4 (eBin gAdd (eVar 4) (eIf (eAndT (eTb (eBin gNotN (eVar 6) (eK .non))) (eTb (eBin gNotN (eVar 7) (eK .non)))) (eLst [(eBin gSub (eVar 7) (eVar 6))]) (eLst [])))))
theorem ld_loop {c c' : Cal} (h : CalB c) (h' : CalB c') (v2 v3 v8 v9 v10 v11 : Option D) : ∀ (k m : Nat) (L : List Int) (z5 z6 z7 : Option D), m + k ≤ 16010000 → L.length ≤ m →
    ∃ z5' z6' z7', forR (gNm 5) ldB k ((m : Int) + 1) [some c.d, some c'.d, v2, v3, some (.lst (L.map D.int)), z5, z6, z7, v8, v9, v10, v11] S = .nx [some c.d, some c'.d, v2, v3, some (.lst ((L ++ frL c c' k m).map D.int)), z5', z6', z7', v8, v9, v10, v11] S
  | 0, m, L, z5, z6, z7, _, _ => ⟨z5, z6, z7, by simp [forR, frL]⟩
  | k + 1, m, L, z5, z6, z7, hm, hL => by
    have m1 := minute_eq (S := S) h (d := (m : Int) + 1) (by omega) (by omega)
    have m2 := minute_eq (S := S) h' (d := (m : Int) + 1) (by omega) (by omega)
    rw [show ((m : Int) + 1 - 1).toNat = m by omega] at m1 m2
    have hc : (((m + 1 : Nat) : Int) + 1) = (m : Int) + 1 + 1 := by omega
    cases h1 : c.at m with
    | none =>
      obtain ⟨z5', z6', z7', e⟩ := ld_loop h h' v2 v3 v8 v9 v10 v11 k (m + 1) L (some (.int ((m : Int) + 1))) (some .non) (some (oD (c'.at m))) (by omega) (by omega)
      refine ⟨z5', z6', z7', ?_⟩
      have hf : frL c c' (k + 1) m = frL c c' k (m + 1) := by simp [frL, fr, h1]
      have ha := gAdd_lst S (xs := L.map D.int) (ys := []) (by simp; omega)
      rw [hf, ← e, hc]
      rw [h1] at m1
      simp [forR, ldB, eVar, m1, m2, oD, isNon, ha]
    | some x =>
      cases h2 : c'.at m with
      | none =>
        obtain ⟨z5', z6', z7', e⟩ := ld_loop h h' v2 v3 v8 v9 v10 v11 k (m + 1) L (some (.int ((m : Int) + 1))) (some (.int x)) (some .non) (by omega) (by omega)
        refine ⟨z5', z6', z7', ?_⟩
        have hf : frL c c' (k + 1) m = frL c c' k (m + 1) := by simp [frL, fr, h1, h2]
        have ha := gAdd_lst S (xs := L.map D.int) (ys := []) (by simp; omega)
        rw [hf, ← e, hc]
        rw [h1] at m1
        rw [h2] at m2
        simp [forR, ldB, eVar, m1, m2, oD, isNon, ha]
      | some y =>
        obtain ⟨z5', z6', z7', e⟩ := ld_loop h h' v2 v3 v8 v9 v10 v11 k (m + 1) (L ++ [y - x]) (some (.int ((m : Int) + 1))) (some (.int x)) (some (.int y)) (by omega) (by simp; omega)
        refine ⟨z5', z6', z7', ?_⟩
        have hf : L ++ frL c c' (k + 1) m = L ++ [y - x] ++ frL c c' k (m + 1) := by simp [frL, fr, h1, h2]
        have ha := gAdd_lst S (xs := L.map D.int) (ys := [.int (y - x)]) (by simp; omega)
        rw [hf, ← e, hc]
        rw [h1] at m1
        rw [h2] at m2
        simp [forR, ldB, eVar, m1, m2, oD, isNon, ha]
/-- how the fars go on, by the sign of more -/
structure Ends (c c' : Cal) (lo hi more : Int) : Prop where
  lo : 0 ≤ more → (∃ j, j < 300 ∧ fr c c' j = some lo) ∧ ∀ i x, fr c c' i = some x → lo ≤ x
  hi : more ≤ 0 → (∃ j, j < 300 ∧ fr c c' j = some hi) ∧ ∀ i x, fr c c' i = some x → x ≤ hi
def moreOf (c c' : Cal) (T : Nat) : Int := if c.endl && c'.endl then c'.ri T - c.ri T else 0
/-- each far has one like it ahead of m + T -/
theorem fr_back {c c' : Cal} {T m : Nat} (h : c.early.length ≤ m) (h' : c'.early.length ≤ m) (hp : 0 < T) (hd : c.al ∣ T) (hd' : c'.al ∣ T) {i : Nat} {x : Int} (hx : fr c c' i = some x) : ∃ j y, j < m + T ∧ fr c c' j = some y ∧ (0 ≤ moreOf c c' T → y ≤ x) ∧ (moreOf c c' T ≤ 0 → x ≤ y) := by
  rcases Nat.lt_or_ge i (m + T) with hl | hl
  · exact ⟨i, x, hl, hx, fun _ => Int.le_refl _, fun _ => Int.le_refl _⟩
  · have hm := Nat.mod_lt (i - m) hp
    have e := fr_turn hd hd' (i := m + (i - m) % T) (by omega) (by omega) ((i - m) / T)
    have hi : m + (i - m) % T + (i - m) / T * T = i := by
      have := Nat.div_add_mod (i - m) T
      rw [Nat.mul_comm] at this
      omega
    rw [hi, hx] at e
    cases hy : fr c c' (m + (i - m) % T) with
    | none => rw [hy] at e; cases e
    | some y =>
      rw [hy] at e
      simp only [Option.map_some, Option.some.injEq] at e
      -- both are endless
      have hends : c.endl = true ∧ c'.endl = true := by
        unfold fr at hx
        cases h1 : c.at i with
        | none => rw [h1] at hx; cases hx
        | some a =>
          cases h2 : c'.at i with
          | none => rw [h1, h2] at hx; cases hx
          | some b => exact ⟨Cal.endl_iff.mpr (at_endl (by omega) h1), Cal.endl_iff.mpr (at_endl (by omega) h2)⟩
      have hmo : moreOf c c' T = c'.ri T - c.ri T := by unfold moreOf; rw [hends.1, hends.2]; rfl
      refine ⟨m + (i - m) % T, y, by omega, hy, fun h0 => ?_, fun h0 => ?_⟩
      · rw [hmo] at h0
        have := Int.mul_nonneg (Int.natCast_nonneg ((i - m) / T)) h0
        omega
      · rw [hmo] at h0
        have := Int.mul_nonneg (Int.natCast_nonneg ((i - m) / T)) (show 0 ≤ -(c'.ri T - c.ri T) by omega)
        rw [Int.mul_neg] at this
        omega
theorem leads_by_eq {c c' : Cal} (h : CalB c) (h' : CalB c') : (fr c c' 0 = none ∧ F_leads_by [c.d, c'.d] S = .ok .non S) ∨
    ((∃ x, fr c c' 0 = some x) ∧ ∃ (lo hi : Int) (T : Nat), 0 < T ∧ c.al ∣ T ∧ c'.al ∣ T ∧ Ends c c' lo hi (moreOf c c' T) ∧ F_leads_by [c.d, c'.d] S = .ok (.tup [if moreOf c c' T < 0 then .non else .int lo, if 0 < moreOf c c' T then .non else .int hi]) S) := by
  obtain ⟨s, e, f⟩ := settled_from_eq (S := S) (cs := [c, c']) (by simp; exact ⟨h, h'⟩) (by simp) (by simp)
  have hT144 : tn [c, c'] ≤ 144 := by
    have := tn_le (cs := [c, c']) (by simp; exact ⟨h, h'⟩)
    simpa using this
  have hT := f.le
  have hs := f.sb
  have hp := f.pos
  have hd := f.dvd c (by simp)
  have hd' := f.dvd c' (by simp)
  have r1 := rise_in_eq (S := S) h (turn := tn [c, c']) (by omega)
  have r2 := rise_in_eq (S := S) h' (turn := tn [c, c']) (by omega)
  generalize tn [c, c'] = T at *
  have e1 : F_settled_from [.lst [c.d, c'.d]] S = .ok (.tup [.int ((s : Int) + 1), .int (T : Int)]) S := e
  have s1 : smallI 1 = true := by decide
  have s2 : smallI ((s : Int) + 1 + (T : Int)) = true := smallI_mk (by omega) (by omega)
  obtain ⟨z5, z6, z7, lp⟩ := ld_loop (S := S) h h' (some (.int ((s : Int) + 1))) (some (.int (T : Int))) none none none none (s + T) 0 [] none none none (by omega) (by simp)
  simp only [List.nil_append] at lp
  have lp' : forR (gNm 5) ldB (s + T) 1 [some c.d, some c'.d, some (.int ((s : Int) + 1)), some (.int (T : Int)), some (.lst []), none, none, none, none, none, none, none] S = _ := lp
  simp only [ldB] at lp'
  have hq := gEqB_ints false (frL c c' (s + T) 0) [] S
  simp only [List.map_nil] at hq
  have hll := frL_len c c' (s + T) 0
  have hmem : ∀ x, x ∈ frL c c' (s + T) 0 ↔ ∃ j, 0 ≤ j ∧ j < 0 + (s + T) ∧ fr c c' j = some x := fun x => frL_mem
  cases h0 : fr c c' 0 with
  | none =>
    have hn : frL c c' (s + T) 0 = [] := by
      cases hL : frL c c' (s + T) 0 with
      | nil => rfl
      | cons x l =>
        obtain ⟨j, _, _, hj⟩ := (hmem x).mp (by rw [hL]; simp)
        obtain ⟨y, hy⟩ := fr_down hj (Nat.zero_le _)
        rw [h0] at hy; cases hy
    refine .inl ⟨rfl, ?_⟩
    rw [hn] at lp' hq
    simp at hq
    simp only [F_leads_by, fnP_ap, sSeq_ap]
    simp [e1]
    rw [sFor_rng (lo := 1) (n := s + T) (S1 := S) (by simp [s1, s2]; omega), lp']
    simp [hq]
  | some x0 =>
    obtain ⟨a, L, hL⟩ : ∃ a L, frL c c' (s + T) 0 = a :: L := by
      cases hL : frL c c' (s + T) 0 with
      | nil =>
        have := (hmem x0).mpr ⟨0, Nat.le_refl _, by omega, h0⟩
        rw [hL] at this; cases this
      | cons a L => exact ⟨a, L, rfl⟩
    rw [hL] at lp' hq hll
    simp at hq
    have mn1 := minL_ge L a
    have mx1 := mxL_ge L a
    have mx2 := mxL_mem L a
    rw [hL] at hmem
    refine .inr ⟨⟨x0, rfl⟩, minL a L, maxL a L, T, hp, hd, hd', ⟨fun hm => ?_, fun hm => ?_⟩, ?_⟩
    · have least : ∀ i x, fr c c' i = some x → minL a L ≤ x := by
        intro i x hx
        obtain ⟨j, y, j1, j2, j3, _⟩ := fr_back (f.len c (by simp)) (f.len c' (by simp)) hp hd hd' hx
        have hy := (hmem y).mpr ⟨j, Nat.zero_le _, by omega, j2⟩
        have := j3 hm
        rcases List.mem_cons.mp hy with rfl | hy
        · omega
        · have := mn1.2.1 y hy; omega
      refine ⟨?_, least⟩
      have hin : minL a L ∈ a :: L := by
        rcases mn1.2.2 with q | q
        · rw [q]; exact List.mem_cons_self
        · exact List.mem_cons_of_mem _ q
      obtain ⟨j0, _, _, hj0⟩ := (hmem _).mp hin
      obtain ⟨j, y, j1, j2, j3, _⟩ := fr_back (m := 100) h.lenE h'.lenE hp hd hd' hj0
      have a1 := j3 hm
      have a2 := least j y j2
      exact ⟨j, by omega, by rw [j2]; congr 1; omega⟩
    · have most : ∀ i x, fr c c' i = some x → x ≤ maxL a L := by
        intro i x hx
        obtain ⟨j, y, j1, j2, _, j3⟩ := fr_back (f.len c (by simp)) (f.len c' (by simp)) hp hd hd' hx
        have hy := (hmem y).mpr ⟨j, Nat.zero_le _, by omega, j2⟩
        have := j3 hm
        rcases List.mem_cons.mp hy with rfl | hy
        · omega
        · have := mx1.2 y hy; omega
      refine ⟨?_, most⟩
      have hin : maxL a L ∈ a :: L := by
        rcases mx2 with q | q
        · rw [q]; exact List.mem_cons_self
        · exact List.mem_cons_of_mem _ q
      obtain ⟨j0, _, _, hj0⟩ := (hmem _).mp hin
      obtain ⟨j, y, j1, j2, _, j3⟩ := fr_back (m := 100) h.lenE h'.lenE hp hd hd' hj0
      have a1 := j3 hm
      have a2 := most j y j2
      exact ⟨j, by omega, by rw [j2]; congr 1; omega⟩
    · have hc : ∀ z8 z9 z10 : Option D, eLc (eItS (eVar 4)) (.nm 11) tYesD (eCall gInt [(eVar 11)]) [11] [some c.d, some c'.d, some (.int ((s : Int) + 1)), some (.int (T : Int)), some (.lst ((a :: L).map D.int)), z5, z6, z7, z8, z9, z10, none] S = .ok (.lst ((a :: L).map D.int)) S := fun z8 z9 z10 => by
        rw [eLc_lst (xs := (a :: L).map D.int) (S1 := S) (by simp [eVar]) (by simp at hll ⊢; omega)]
        rw [lcL_map (φ := id) ((a :: L).map D.int) (fun x hx => by
          simp only [List.mem_map] at hx
          obtain ⟨i, _, rfl⟩ := hx
          exact ⟨_, rfl, by simp [wipeR, eVar]⟩)]
        simp
      have hi : intsOf ((a :: L).map D.int) = some (a :: L) := intsOf_map _
      have g1 : gMin [.lst ((a :: L).map D.int)] S = .ok (.int (minL a L)) S := by simp only [gMin, view_lst_, hi]
      have g2 : gMax [.lst ((a :: L).map D.int)] S = .ok (.int (maxL a L)) S := by simp only [gMax, view_lst_, hi]
      have en1 := is_endless_eq (S := S) c
      have en2 := is_endless_eq (S := S) c'
      simp only [F_leads_by, fnP_ap, sSeq_ap]
      simp [e1]
      rw [sFor_rng (lo := 1) (n := s + T) (S1 := S) (by simp [s1, s2]; omega), lp']
      simp only [List.map_cons] at hc g1 g2
      unfold moreOf
      cases hE1 : c.endl <;> cases hE2 : c'.endl <;> rw [hE1] at en1 <;> rw [hE2] at en2 <;> simp [hq, hc, g1, g2, en1, en2, eVar, r1, r2]
      by_cases q1 : c'.ri T - c.ri T < 0 <;> by_cases q2 : c.ri T < c'.ri T <;> simp [q1, q2]
end
end DL
/-! two snails beside one another -/
namespace DL
open PySem L2
theorem Sn.calB {s : Sn} (h : s.Ok) : CalB s.cal := (Sn.calOk h).b
theorem Sn.out_at (s : Sn) (i : Nat) : s.out ((i : Int) + 1) = s.cal.at i := by
  unfold Sn.out
  congr 1
  omega
section
variable {S : Sto}
theorem need_two_eq {s s' : Sn} (h : s.Ok) (h' : s'.Ok) : F_need_two [s.d, s'.d] S = .ok .non S := by
  simp [F_need_two, fnP_ap, need_snail_eq h, need_snail_eq h']
theorem leads_eq {s s' : Sn} (h : s.Ok) (h' : s'.Ok) {d : D} (e : F_leads_by [s.cal.d, s'.cal.d] S = .ok d S) : F_leads [s.d, s'.d] S = .ok d S := by
  simp [F_leads, fnP_ap, need_two_eq h h', calendar_of_eq h, calendar_of_eq h', e]
/-- the first depth with which the one is later -/
theorem first_later_eq {s s' : Sn} (h : s.Ok) (h' : s'.Ok) : ∃ o : Option Nat, F_first_later [s.d, s'.d] S = .ok (oD (o.map fun (j : Nat) => (j : Int) + 1)) S ∧ F_never_later [s.d, s'.d] S = .ok (.bl o.isNone) S ∧
    (∀ j, o = some j → isLt (s.cal.at j) (s'.cal.at j) = true ∧ (∀ m, m < j → isLt (s.cal.at m) (s'.cal.at m) = false) ∧ j ≤ 16010000) ∧ (o = none → ∀ i, isLt (s.cal.at i) (s'.cal.at i) = false) := by
  obtain ⟨o, e, p1, p2⟩ := later_depth_eq (S := S) (Sn.calB h) (Sn.calB h')
  refine ⟨o, ?_, ?_, p1, p2⟩
  · simp [F_first_later, fnP_ap, need_two_eq h h', calendar_of_eq h, calendar_of_eq h', e]
  · have : isNon (oD (o.map fun (j : Nat) => (j : Int) + 1)) = o.isNone := by cases o <;> rfl
    simp [F_never_later, fnP_ap, need_two_eq h h', calendar_of_eq h, calendar_of_eq h', e, this]
end
/-- 27720 is a whole number of turns of each calendar -/
theorem CalB.dvd {c : Cal} (h : CalB c) : c.al ∣ 27720 := by
  have h1 := h.al
  have h2 := c.al_pos
  have : ∀ n : Nat, n ≤ 12 → 0 < n → 27720 % n = 0 := by decide
  exact Nat.dvd_of_mod_eq_zero (this _ h1 h2)
/-- rises over unlike turns -/
theorem ri_scale {c : Cal} {T U : Nat} (hT : c.al ∣ T) (hU : c.al ∣ U) : c.ri T * (U : Int) = c.ri U * (T : Int) := by
  obtain ⟨m, rfl⟩ := hT
  obtain ⟨k, rfl⟩ := hU
  have hp := c.al_pos
  unfold Cal.ri
  rw [Nat.mul_div_cancel_left _ hp, Nat.mul_div_cancel_left _ hp]
  simp only [Int.natCast_mul]
  rw [Int.mul_assoc, Int.mul_assoc]
  congr 1
  rw [Int.mul_comm (m : Int), Int.mul_comm (k : Int), Int.mul_assoc, Int.mul_assoc, Int.mul_comm (k : Int)]
end DL
/-! comprehensions over a list object, the store as it is -/
namespace DL
open PySem L2
theorem lcLoop_obj {s : Src} {xs : List D} {c : Ct} {t : Et} {e : Ee} {ρ : Rho} {S : Sto} {φ : D → D} {p : D → Bool} (hs : ∀ i, srcAt S i s = xs[i]?) (hl : srcLen S s = some xs.length)
    (h : ∀ x ∈ xs, ∃ ρ1, c.put x ρ = some ρ1 ∧ t ρ1 S = .ok (p x) S ∧ (p x = true → e ρ1 S = .ok (φ x) S)) : ∀ (k i : Nat), i + k = xs.length → lcLoop s c t e k i ρ S = .ok (((xs.drop i).filter p).map φ) S
  | 0, i, hi => by
    rw [List.drop_eq_nil_of_le (by omega)]
    simp only [lcLoop, hl]
    rw [if_pos (by omega)]
    rfl
  | k + 1, i, hi => by
    have hlt : i < xs.length := by omega
    obtain ⟨ρ1, h1, h2, h3⟩ := h xs[i] (List.getElem_mem hlt)
    have ih := lcLoop_obj (c := c) (t := t) (e := e) (ρ := ρ) (φ := φ) (p := p) hs hl h k (i + 1) (by omega)
    rw [List.drop_eq_getElem_cons hlt]
    simp only [lcLoop, hs, List.getElem?_eq_getElem hlt, h1, h2, R.calm_ok, R.bind_ok]
    cases hp : p xs[i] with
    | true => simp only [h3 hp, R.calm_ok, R.bind_ok, ih, List.filter_cons, hp, if_true, List.map_cons]
    | false => simp only [ih, List.filter_cons, hp, Bool.false_eq_true, if_false]
theorem eLc_obj {f : Es} {c : Ct} {t : Et} {e : Ee} {ws : List Nat} {ρ : Rho} {S : Sto} {n : Nat} {xs : List D} {φ : D → D} {p : D → Bool} (hf : f ρ S = .ok (.it (.obj n)) S) (hn : S[n]? = some (.lst xs)) (hx : xs.length ≤ 16777216)
    (h : ∀ x ∈ xs, ∃ ρ1, c.put x (wipeR ρ ws) = some ρ1 ∧ t ρ1 S = .ok (p x) S ∧ (p x = true → e ρ1 S = .ok (φ x) S)) : eLc f c t e ws ρ S = .ok (.lst ((xs.filter p).map φ)) S := by
  have hi : itsOf S (.obj n) = some xs := by simp [itsOf, view, hn]
  have hs : ∀ i, srcAt S i (.it (.obj n)) = xs[i]? := fun i => by simp [srcAt, hi]
  have hl : srcLen S (.it (.obj n)) = some xs.length := by simp [srcLen, hi]
  simp only [eLc, hf, R.bind_ok, hl, hx, if_true]
  rw [lcLoop_obj hs hl h _ 0 (by omega)]
  rfl
end DL
/-! depths to try, all small ones among them; an object of a def's own -/
namespace DL
open PySem L2
theorem rgD_all (a b : Int) : ∃ l : List Int, rgD a b = l.map D.int ∧ (∀ x ∈ l, a ≤ x ∧ x < b) ∧ l.length = (b - a).toNat ∧ ∀ x, a ≤ x → x < b → x ∈ l := by
  refine ⟨(List.range (b - a).toNat).map fun i => a + (i : Nat), by simp [rgD], ?_, by simp, ?_⟩
  · intro x hx
    simp only [List.mem_map, List.mem_range] at hx
    obtain ⟨i, hi, rfl⟩ := hx
    omega
  · intro x h1 h2
    simp only [List.mem_map, List.mem_range]
    exact ⟨(x - a).toNat, by omega, by omega⟩
theorem depths_spec2 {n : Nat} {S : Sto} {many : Nat} (h : SrcAt n S) (hm : many ≤ 1000) :
    ∃ (ds : List Int) (S' : Sto), F__law_depths [.obj n, .int (many : Int)] S = .ok (.lst (ds.map D.int)) S' ∧ (∀ d ∈ ds, 1 ≤ d ∧ d ≤ 1000000000000000000000000000000) ∧ ds.length = many + 9 ∧ (∀ d : Int, 1 ≤ d → d ≤ many → d ∈ ds) ∧ Upd n S S' := by
  obtain ⟨d1, S1, e1, h1, u1⟩ := drawn (m := 999) h (by decide) (by decide)
  obtain ⟨d2, S2, e2, h2, u2⟩ := drawn (m := 1000000000) u1.src (by decide) (by decide)
  obtain ⟨ys, S3, e3, h3, h3p, u3⟩ := lcL_draw (n := n) (c := .nm 4) (e := (eBin gAdd (eBin gAdd (eVar 1) (eK (.int 1))) (eCall F__law_draw [(eVar 0), (eK (.int 2000))]))) (ρ := [some (.obj n), some (.int (many : Int)), some (.lst [.int 1000000000000000000000000000000, .int (1000000000000000000000000000000 - (d1 : Int)), .int (1000000000 + (d2 : Int))]), none, none]) (Pd := fun y => ∃ x : Int, y = .int x ∧ 1 ≤ x ∧ x ≤ 1000000000000000000000000000000) (fun x S hS => by
    obtain ⟨d, S', e, hd, u⟩ := drawn (m := 2000) hS (by decide) (by decide)
    exact ⟨_, .int ((many : Int) + 1 + d), S', rfl, by simp [e], ⟨_, rfl, by omega, by omega⟩, u⟩) (rgN 0 6) S2 u2.src
  obtain ⟨l, rfl, hl, hlen⟩ := ints_of ys _ h3p
  obtain ⟨l0, r1, r2, r3, r4⟩ := rgD_all 1 ((many : Int) + 1)
  have hc : eLc (eRng1 (eK (.int 6))) (.nm 4) tYesD (eBin gAdd (eBin gAdd (eVar 1) (eK (.int 1))) (eCall F__law_draw [(eVar 0), (eK (.int 2000))])) [4] [some (.obj n), some (.int (many : Int)), some (.lst [.int 1000000000000000000000000000000, .int (1000000000000000000000000000000 - (d1 : Int)), .int (1000000000 + (d2 : Int))]), none, none] S2 = .ok (.lst (l.map D.int)) S3 := by
    rw [eLc_rng (lo := 0) (n := 6) (S1 := S2) (by simp [smallI]) (by omega)]
    rw [show wipeR [some (D.obj n), some (.int (many : Int)), some (.lst [.int 1000000000000000000000000000000, .int (1000000000000000000000000000000 - (d1 : Int)), .int (1000000000 + (d2 : Int))]), none, none] [4] = [some (.obj n), some (.int (many : Int)), some (.lst [.int 1000000000000000000000000000000, .int (1000000000000000000000000000000 - (d1 : Int)), .int (1000000000 + (d2 : Int))]), none, none] from rfl, e3]
    rfl
  have hrg : rgOk 1 ((many : Int) + 1) = true := by
    unfold rgOk
    rw [smallI_mk (by omega) (by omega), smallI_mk (by omega) (by omega)]
    simp; omega
  have hl6 : l.length = 6 := by
    have : (l.map D.int).length = (rgN 0 6).length := h3
    simpa [rgN_len] using this
  have a1 := gAdd_lst S3 (xs := l0.map D.int) (ys := [.int 1000000000000000000000000000000, .int (1000000000000000000000000000000 - (d1 : Int)), .int (1000000000 + (d2 : Int))]) (by simp; omega)
  have a2 := gAdd_lst S3 (xs := l0.map D.int ++ [.int 1000000000000000000000000000000, .int (1000000000000000000000000000000 - (d1 : Int)), .int (1000000000 + (d2 : Int))]) (ys := l.map D.int) (by simp; omega)
  refine ⟨l0 ++ [1000000000000000000000000000000, 1000000000000000000000000000000 - (d1 : Int), 1000000000 + (d2 : Int)] ++ l, S3, ?_, ?_, by simp; omega, fun d h1 h2 => ?_, (u1.trans u2).trans u3⟩
  · simp [F__law_depths, fnP_ap, pow30, pow9, e1, e2, hc, hrg, r1, a1, a2, popR_le, u3.len, u2.len, u1.len]
  · intro d hd
    simp only [List.mem_append, List.mem_cons, List.not_mem_nil, or_false] at hd
    rcases hd with (hd | rfl | rfl | rfl) | hd
    · have := r2 d hd; omega
    · omega
    · omega
    · omega
    · exact hl d hd
  · have := r4 d h1 (by omega)
    simp [this]
/-! a def's own object at its end -/
theorem popR_bl {k : Nat} {b : Bool} {S' : Sto} (h : k < S'.length) (hC : (S'.take k).all (MO.lim k) = true) : popR k (.ok (.bl b) S') = .ok (.bl b) (S'.take k) := by
  unfold popR
  dsimp only
  rw [if_neg (by omega)]
  have hu : unown k S' (.bl b) = .bl b := rfl
  rw [hu, hC]
  rfl
theorem Upd.drop {n : Nat} {S S1 : Sto} {o : MO} (hn : n < S.length) (u : Upd n (S ++ [o]) S1) : Upd n S (S1.take S.length) := by
  have hl : S1.length = S.length + 1 := by rw [u.len]; simp
  refine ⟨by rw [List.length_take]; omega, fun m hm => ?_, ?_⟩
  · by_cases hk : m < S.length
    · rw [List.getElem?_take_of_lt hk, u.oth m hm, List.getElem?_append_left hk]
    · rw [List.getElem?_eq_none (by rw [List.length_take]; omega), List.getElem?_eq_none (by omega)]
  · obtain ⟨a, b, e, h0, h1⟩ := u.src
    exact ⟨a, b, by rw [List.getElem?_take_of_lt hn]; exact e, h0, h1⟩
theorem src_add {n : Nat} {S : Sto} (hs : SrcAt n S) (o : MO) : SrcAt n (S ++ [o]) := by
  have hn := hs.lt
  obtain ⟨a, b, e, h0, h1⟩ := hs
  exact ⟨a, b, by rw [List.getElem?_append_left hn]; exact e, h0, h1⟩
theorem gNotIn_obj {F : Nat} {L : List Int} {S : Sto} (hF : S[F]? = some (.lst (L.map D.int))) (x : Int) : gInB true (.int x) (.obj F) S = .ok (.bl (!decide (x ∈ L))) S := by
  have h1 : (L.map D.int).all flatD = true := by simp [flatD]
  have h2 : (L.map D.int).any (fun y => eqF y (.int x)) = decide (x ∈ L) := by
    clear hF h1
    induction L with
    | nil => rfl
    | cons y L ih =>
      rw [List.map_cons, List.any_cons, ih]
      show (y == x || decide (x ∈ L)) = decide (x ∈ y :: L)
      by_cases c : y = x
      · subst c; simp
      · have c2 : x ≠ y := fun z => c z.symm
        simp [c, c2]
  simp [gInB, view_at S hF, flatD, h1, h2]
end DL
/-! a calendar is told by what it tells -/
namespace DL
open PySem L2
def Shf (f : Nat → Int) (p : Nat) : Prop := ∃ k : Int, ∀ i, f (i + p) = f i + k
theorem Shf.sub {f : Nat → Int} {p q : Nat} (h : Shf f p) (h' : Shf f (p + q)) : Shf f q := by
  obtain ⟨k, hk⟩ := h
  obtain ⟨l, hl⟩ := h'
  refine ⟨l - k, fun i => ?_⟩
  have e1 := hk (i + q)
  have e2 := hl i
  rw [show i + (p + q) = i + q + p by omega] at e2
  omega
theorem Shf.mul {f : Nat → Int} {p : Nat} {k : Int} (h : ∀ i, f (i + p) = f i + k) : ∀ m i : Nat, f (i + m * p) = f i + (m : Int) * k
  | 0, i => by simp
  | m + 1, i => by
    rw [show i + (m + 1) * p = (i + m * p) + p by rw [Nat.succ_mul]; omega, h, Shf.mul h m i]
    rw [show ((m + 1 : Nat) : Int) = (m : Int) + 1 from rfl, Int.add_mul]
    omega
theorem Shf.mod {f : Nat → Int} {p q : Nat} (h : Shf f p) (h' : Shf f q) : Shf f (q % p) := by
  obtain ⟨k, hk⟩ := h
  refine Shf.sub (p := q / p * p) ⟨_, Shf.mul hk (q / p)⟩ ?_
  rw [Nat.mul_comm, Nat.div_add_mod]
  exact h'
theorem Shf.gcd {f : Nat → Int} (a b : Nat) (h : Shf f a) (h' : Shf f b) : Shf f (Nat.gcd a b) := by
  induction a, b using Nat.gcd.induction with
  | H0 n => rw [Nat.gcd_zero_left]; exact h'
  | H1 m n hm ih =>
    rw [Nat.gcd_rec]
    exact ih (h.mod h') h
/-- the least turn of one of two that tell the same -/
theorem turn_le {a : List Int} {r : Int} {p : Nat} (ha : 0 < a.length) (hl : LeastP a r) (hp : 0 < p) (s : Nat) (h : Shf (fun i => rs a r (s + i)) p) : a.length ∣ p := by
  have hN : Shf (fun i => rs a r (s + i)) a.length := ⟨r, fun i => by
    show rs a r (s + (i + a.length)) = _
    rw [show s + (i + a.length) = s + i + a.length by omega, rs_add ha]⟩
  have hg := Shf.gcd a.length p hN h
  have hd := Nat.gcd_dvd_left a.length p
  have hg0 : 0 < Nat.gcd a.length p := Nat.gcd_pos_of_pos_left _ ha
  rcases Nat.lt_or_ge (Nat.gcd a.length p) a.length with hlt | hge
  · exfalso
    obtain ⟨k, hk⟩ := hg
    generalize hgg : Nat.gcd a.length p = g at *
    have hper : Per a r g k := by
      intro i
      have e1 := hk (i + s * a.length - s)
      simp only at e1
      have hsi : s ≤ i + s * a.length := by
        have : s * 1 ≤ s * a.length := Nat.mul_le_mul (Nat.le_refl _) ha
        omega
      rw [show s + (i + s * a.length - s + g) = i + g + s * a.length by omega, show s + (i + s * a.length - s) = i + s * a.length by omega, rs_add_mul ha, rs_add_mul ha] at e1
      omega
    obtain ⟨m, hm⟩ := hd
    have hrk : r * (g : Int) = k * (a.length : Int) := by
      have e1 := Shf.mul (f := fun i => rs a r (s + i)) hk m 0
      rw [show s + (0 + m * g) = s + a.length by rw [hm, Nat.mul_comm]; omega, rs_add ha] at e1
      have e2 : r = (m : Int) * k := by
        have : rs a r (s + 0) = rs a r s := rfl
        omega
      rw [hm, e2, Int.natCast_mul, Int.mul_comm (m : Int) k, Int.mul_assoc, Int.mul_comm (m : Int)]
    exact hl g k hg0 hlt (Nat.mod_eq_zero_of_dvd ⟨m, hm⟩) hrk hper
  · have : Nat.gcd a.length p = a.length := Nat.le_antisymm (Nat.le_of_dvd ha hd) hge
    rw [← this]
    exact Nat.gcd_dvd_right _ _
theorem Cal.at_lt {c : Cal} {i : Nat} (h : i < c.early.length) : c.at i = some (c.early.getD i 0) := by unfold Cal.at; rw [if_pos h]
theorem Cal.at_ge {c : Cal} (h : c.again ≠ []) {i : Nat} (hi : c.early.length ≤ i) : c.at i = some (rs c.again c.rise (i - c.early.length)) := by
  unfold Cal.at
  rw [if_neg (by omega)]
  have : c.again.isEmpty = false := by cases hh : c.again with
    | nil => exact absurd hh h
    | cons _ _ => rfl
  rw [this]; rfl
/-- two that tell the same: the turns are the same -/
theorem same_turn {c c' : Cal} (hA : c.again ≠ []) (hA' : c'.again ≠ []) (hl : LeastP c.again c.rise) (e : ∀ i, c.at i = c'.at i) : c.again.length ∣ c'.again.length := by
  have p1 : 0 < c.again.length := List.length_pos_iff.mpr hA
  have p2 : 0 < c'.again.length := List.length_pos_iff.mpr hA'
  obtain ⟨M, hM1, hM2⟩ : ∃ M, c.early.length ≤ M ∧ c'.early.length ≤ M := ⟨c.early.length + c'.early.length, by omega, by omega⟩
  refine turn_le p1 hl p2 (M - c.early.length) ⟨c'.rise, fun i => ?_⟩
  have e1 := e (M + i)
  have e2 := e (M + (i + c'.again.length))
  rw [Cal.at_ge hA (by omega), Cal.at_ge hA' (by omega)] at e1 e2
  simp only [Option.some.injEq] at e1 e2
  show rs c.again c.rise (M - c.early.length + (i + c'.again.length)) = rs c.again c.rise (M - c.early.length + i) + c'.rise
  rw [show M - c.early.length + (i + c'.again.length) = M + (i + c'.again.length) - c.early.length by omega, show M - c.early.length + i = M + i - c.early.length by omega, e1, e2,
    show M + (i + c'.again.length) - c'.early.length = M + i - c'.early.length + c'.again.length by omega, rs_add p2]
theorem early_le {c c' : Cal} (hA : c.again ≠ []) (hA' : c'.again ≠ []) (hn : c.again.length = c'.again.length) (hr : c.rise = c'.rise) (hL' : ∀ x, c'.early.getLast? = some x → x + c'.rise ≠ c'.again.getD (c'.again.length - 1) 0) (e : ∀ i, c.at i = c'.at i) : c'.early.length ≤ c.early.length := by
  have p1 : 0 < c.again.length := List.length_pos_iff.mpr hA
  have p2 : 0 < c'.again.length := List.length_pos_iff.mpr hA'
  rcases Nat.lt_or_ge c.early.length c'.early.length with hlt | hge
  · exfalso
    have hne : c'.early ≠ [] := by intro z; rw [z] at hlt; simp at hlt
    have hlast : c'.early.getLast? = some (c'.early.getD (c'.early.length - 1) 0) := by
      rw [List.getLast?_eq_getElem?, List.getD_eq_getElem?_getD, List.getElem?_eq_getElem (by omega)]
      rfl
    have hq := hL' _ hlast
    have e1 := e (c'.early.length - 1)
    have e2 := e (c'.early.length - 1 + c.again.length)
    rw [Cal.at_ge hA (by omega), Cal.at_lt (by omega)] at e1
    rw [Cal.at_ge hA (by omega), Cal.at_ge hA' (by omega)] at e2
    simp only [Option.some.injEq] at e1 e2
    rw [show c'.early.length - 1 + c.again.length - c.early.length = c'.early.length - 1 - c.early.length + c.again.length by omega, rs_add p1, e1] at e2
    rw [show c'.early.length - 1 + c.again.length - c'.early.length = c'.again.length - 1 by omega, rs_lt (by omega)] at e2
    apply hq
    rw [← hr, e2, List.getD_eq_getElem?_getD, List.getElem?_eq_getElem (by omega)]
    rfl
  · exact hge
theorem Cal.uniq {a h a' h' : Int} {st st' : List Int} {c c' : Cal} (k : CalOk a h st c) (k' : CalOk a' h' st' c') (e : ∀ i, c.at i = c'.at i) : c = c' := by
  have hAA : c.again = [] ↔ c'.again = [] := by
    constructor
    · intro z
      apply Classical.byContradiction
      intro z'
      obtain ⟨x, hx⟩ := Cal.at_some z' c.early.length
      rw [← e, Cal.at_none z (Nat.le_refl _)] at hx
      cases hx
    · intro z'
      apply Classical.byContradiction
      intro z
      obtain ⟨x, hx⟩ := Cal.at_some z c'.early.length
      rw [e, Cal.at_none z' (Nat.le_refl _)] at hx
      cases hx
  have key : c.early.length = c'.early.length ∧ c.again.length = c'.again.length ∧ c.rise = c'.rise := by
    by_cases z : c.again = []
    · have z' := hAA.mp z
      refine ⟨?_, by rw [z, z'], by rw [k.non z, k'.non z']⟩
      rcases Nat.lt_trichotomy c.early.length c'.early.length with q | q | q
      · have := e c.early.length
        rw [Cal.at_none z (Nat.le_refl _), Cal.at_lt q] at this
        cases this
      · exact q
      · have := e c'.early.length
        rw [Cal.at_none z' (Nat.le_refl _), Cal.at_lt q] at this
        cases this
    · have z' : c'.again ≠ [] := fun y => z (hAA.mpr y)
      have p1 : 0 < c.again.length := List.length_pos_iff.mpr z
      have p2 : 0 < c'.again.length := List.length_pos_iff.mpr z'
      have hn : c.again.length = c'.again.length := Nat.dvd_antisymm (same_turn z z' (k.least z) e) (same_turn z' z (k'.least z') (fun i => (e i).symm))
      have hr : c.rise = c'.rise := by
        have e1 := e (c.early.length + c'.early.length)
        have e2 := e (c.early.length + c'.early.length + c.again.length)
        rw [Cal.at_ge z (by omega), Cal.at_ge z' (by omega)] at e1 e2
        simp only [Option.some.injEq] at e1 e2
        rw [show c.early.length + c'.early.length + c.again.length - c.early.length = c.early.length + c'.early.length - c.early.length + c.again.length by omega, rs_add p1] at e2
        rw [show c.early.length + c'.early.length + c.again.length - c'.early.length = c.early.length + c'.early.length - c'.early.length + c'.again.length by omega, rs_add p2] at e2
        omega
      exact ⟨Nat.le_antisymm (early_le z' z hn.symm hr.symm (k.last z) (fun i => (e i).symm)) (early_le z z' hn hr (k'.last z') e), hn, hr⟩
  obtain ⟨k1, k2, k3⟩ := key
  have he : c.early = c'.early := by
    refine List.ext_getElem k1 fun i h1 h2 => ?_
    have := e i
    rw [Cal.at_lt h1, Cal.at_lt h2] at this
    simp only [Option.some.injEq, List.getD_eq_getElem?_getD, List.getElem?_eq_getElem h1, List.getElem?_eq_getElem h2, Option.getD_some] at this
    exact this
  have ha : c.again = c'.again := by
    refine List.ext_getElem k2 fun i h1 h2 => ?_
    have z : c.again ≠ [] := by intro z; rw [z] at h1; simp at h1
    have z' : c'.again ≠ [] := by intro z; rw [z] at h2; simp at h2
    have := e (c.early.length + i)
    rw [Cal.at_ge z (by omega), Cal.at_ge z' (by omega)] at this
    rw [show c.early.length + i - c.early.length = i by omega, show c.early.length + i - c'.early.length = i by omega, rs_lt h1, rs_lt h2] at this
    simpa using this
  cases c; cases c'
  simp_all
end DL
/-! snails that are alike -/
namespace DL
open PySem L2
theorem ne_lt (x y : Option Int) : decide (x ≠ y) = (isLt x y || isLt y x) := by
  cases x with
  | none => cases y <;> simp [isLt]
  | some x => cases y with
    | none => simp [isLt]
    | some y =>
      simp only [isLt, ne_eq, Option.some.injEq, Bool.decide_or, ← Bool.decide_or, decide_eq_decide]
      omega
/-- each index lies as one ahead of s + T, for all of them -/
theorem SetF.repN {cs : List Cal} {s T : Nat} (f : SetF cs s T) (i : Nat) : ∃ j, j < s + T ∧ ∀ c ∈ cs, ∀ c' ∈ cs, isLt (c.at j) (c'.at j) = isLt (c.at i) (c'.at i) := by
  rcases Nat.lt_or_ge i (s + T) with hl | hl
  · exact ⟨i, hl, fun _ _ _ _ => rfl⟩
  · have hp := f.pos
    have hm := Nat.mod_lt (i - s) hp
    refine ⟨s + (i - s) % T, by omega, fun c h c' h' => ?_⟩
    have e := f.turns h h' (i := s + (i - s) % T) (by omega) ((i - s) / T)
    have : s + (i - s) % T + (i - s) / T * T = i := by
      have := Nat.div_add_mod (i - s) T
      rw [Nat.mul_comm] at this
      omega
    rw [this] at e
    exact e.symm
section
variable {S : Sto}
theorem parting_depth_eq {c c' : Cal} (h : CalB c) (h' : CalB c') : ∃ o : Option Nat, F_parting_depth [c.d, c'.d] S = .ok (oD (o.map fun (j : Nat) => (j : Int) + 1)) S ∧
    (∀ j, o = some j → c.at j ≠ c'.at j ∧ (∀ m, m < j → c.at m = c'.at m) ∧ j ≤ 16010000) ∧ (o = none → ∀ i, c.at i = c'.at i) := by
  obtain ⟨s, e, f⟩ := settled_from_eq (S := S) (cs := [c, c']) (by simp; exact ⟨h, h'⟩) (by simp) (by simp)
  have hT := f.le
  have hs := f.sb
  generalize hTT : tn [c, c'] = T at *
  have lp := forR_fst (S := S) (i := 4) (t := eTb (eBin gNe (eCall F_minute_in [(eVar 0), (eVar 4)]) (eCall F_minute_in [(eVar 1), (eVar 4)]))) (ρ := [some c.d, some c'.d, some (.int ((s : Int) + 1)), some (.int (T : Int)), none]) (p := fun j => !decide (c.at j = c'.at j)) (by simp) (s + T) 0 (fun j j1 j2 => by
    have m1 := minute_eq (S := S) h (d := (j : Int) + 1) (by omega) (by omega)
    have m2 := minute_eq (S := S) h' (d := (j : Int) + 1) (by omega) (by omega)
    rw [show ((j : Int) + 1 - 1).toNat = j by omega] at m1 m2
    simp [m1, m2, gNe_oD])
  refine ⟨fstP (fun j => !decide (c.at j = c'.at j)) (s + T) 0, ?_, fun j hj => ?_, fun hn i => ?_⟩
  · have s1 : smallI 1 = true := by decide
    have s2 : smallI ((s : Int) + 1 + (T : Int)) = true := smallI_mk (by omega) (by omega)
    have e1 : F_settled_from [.lst [c.d, c'.d]] S = .ok (.tup [.int ((s : Int) + 1), .int (T : Int)]) S := e
    have hn : ((s : Int) + 1 + (T : Int) - 1).toNat = s + T := by omega
    simp only [F_parting_depth, fnP_ap, sSeq_ap]
    simp [e1]
    rw [sFor_rng (lo := 1) (n := s + T) (S1 := S) (by simp [s1, s2]; omega)]
    cases hf : fstP (fun j => !decide (c.at j = c'.at j)) (s + T) 0 with
    | some j =>
      have := lp.1 j hf
      have q : forR _ _ (s + T) 1 _ S = _ := this
      rw [q]
      simp [oD]
    | none =>
      obtain ⟨z, this⟩ := lp.2 hf
      have q : forR _ _ (s + T) 1 _ S = _ := this
      rw [q]
      simp [oD]
  · obtain ⟨a, b, c1, d⟩ := fstP_some hj
    refine ⟨by simpa using a, fun m hm => ?_, by omega⟩
    have := d m (by omega) hm
    simpa using this
  · obtain ⟨j, hj, ej⟩ := f.repN i
    have e0 := fstP_none hn j (by omega) (by omega)
    have e1 : decide (c.at j ≠ c'.at j) = decide (c.at i ≠ c'.at i) := by
      rw [ne_lt, ne_lt, ej c (by simp) c' (by simp), ej c' (by simp) c (by simp)]
    have : c.at j = c'.at j := by simpa using e0
    have h2 : decide (c.at i ≠ c'.at i) = false := by rw [← e1]; simp [this]
    simpa using h2
theorem agD_inj {a b : List Int} (h : agD a = agD b) : a = b := by
  unfold agD at h
  cases a with
  | nil => cases b with
    | nil => rfl
    | cons y b => simp at h
  | cons x a => cases b with
    | nil => simp at h
    | cons y b =>
      simp at h
      rw [h.1, map_int_inj h.2]
theorem Cal.d_inj (c c' : Cal) (h : c.d = c'.d) : c = c' := by
  unfold Cal.d at h
  simp only [D.tup.injEq, List.cons.injEq, D.int.injEq, and_true] at h
  obtain ⟨h1, h2, h3⟩ := h
  have e1 := map_int_inj h1
  have e2 := agD_inj h2
  cases c; cases c'; simp_all
theorem CalB.plN {c : Cal} (h : CalB c) : plN 100 2 c.d = true := by
  have h1 := h.lenE
  have h2 := h.lenA
  refine plN_tup (by simp) (fun x hx => ?_)
  simp only [List.mem_cons, List.not_mem_nil, or_false] at hx
  rcases hx with rfl | rfl | rfl
  · exact plN_ints h1
  · refine plN_tup ?_ (fun x hx => ?_)
    · rw [agD_len]; split <;> omega
    · unfold agD at hx
      split at hx
      · simp only [List.mem_singleton] at hx; subst hx; rfl
      · simp only [List.mem_map] at hx
        obtain ⟨i, _, rfl⟩ := hx
        exact plN_int _ _ _
  · exact plN_int _ _ _
theorem gEq_cal {c c' : Cal} (h : CalB c) (h' : CalB c') (neg : Bool) : gEqB neg c.d c'.d S = .ok (.bl (if neg then !decide (c = c') else decide (c = c'))) S := gEq_inj Cal.d_inj h.plN h'.plN (by omega) neg S
theorem are_alike_eq {s s' : Sn} (h : s.Ok) (h' : s'.Ok) : F_are_alike [s.d, s'.d] S = .ok (.bl (decide (s.cal = s'.cal))) S := by
  simp [F_are_alike, fnP_ap, calendar_of_eq h, calendar_of_eq h', gEq_cal (Sn.calB h) (Sn.calB h')]
theorem alike_eq {s s' : Sn} (h : s.Ok) (h' : s'.Ok) : F_alike [s.d, s'.d] S = .ok (.bl (decide (s.cal = s'.cal))) S := by
  simp [F_alike, fnP_ap, need_two_eq h h', are_alike_eq h h']
theorem cal_iff {s s' : Sn} (h : s.Ok) (h' : s'.Ok) : s.cal = s'.cal ↔ ∀ i, s.cal.at i = s'.cal.at i := ⟨fun e i => by rw [e], fun e => Cal.uniq (Sn.calOk h) (Sn.calOk h') e⟩
theorem parting_eq {s s' : Sn} (h : s.Ok) (h' : s'.Ok) : ∃ o : Option Nat, F_parting [s.d, s'.d] S = .ok (oD (o.map fun (j : Nat) => (j : Int) + 1)) S ∧
    (∀ j, o = some j → s.cal.at j ≠ s'.cal.at j ∧ (∀ m, m < j → s.cal.at m = s'.cal.at m) ∧ j ≤ 16010000) ∧ (o = none → ∀ i, s.cal.at i = s'.cal.at i) := by
  obtain ⟨o, e, p1, p2⟩ := parting_depth_eq (S := S) (Sn.calB h) (Sn.calB h')
  exact ⟨o, by simp [F_parting, fnP_ap, need_two_eq h h', calendar_of_eq h, calendar_of_eq h', e], p1, p2⟩
end
end DL
/-! values for written snails, by checks that the kernel reckons -/
namespace DL
open PySem L2
theorem gEqB_self {w n : Nat} {d : D} (neg : Bool) (h : plB w n d = true) (hn : n ≤ 64) (S : Sto) : gEqB neg d d S = .ok (.bl (!neg)) S := by
  obtain ⟨p, e1, e2⟩ := plB_shaped h hn S
  have hc : p.canLay0 = true := SeqAt.canLay_of_shaped e2
  have hr : PyData.eqv p p = true := SeqAt.eqv_refl p hc
  simp only [gEqB, e1, e2, and_self, if_true, hr]
  cases neg <;> rfl
theorem more_sign {c c' : Cal} {T U : Nat} (hp : 0 < T) (hq : 0 < U) (hT : c.al ∣ T) (hT' : c'.al ∣ T) (hU : c.al ∣ U) (hU' : c'.al ∣ U) : (moreOf c c' T < 0 ↔ moreOf c c' U < 0) ∧ (0 < moreOf c c' T ↔ 0 < moreOf c c' U) := by
  unfold moreOf
  cases c.endl <;> cases c'.endl <;> simp
  have e1 := ri_scale hT hU
  have e2 := ri_scale hT' hU'
  have k1 : (c'.ri T - c.ri T) * (U : Int) = (c'.ri U - c.ri U) * (T : Int) := by
    rw [Int.sub_mul, Int.sub_mul]
    omega
  have hT0 : (0 : Int) < (T : Int) := by omega
  have hU0 : (0 : Int) < (U : Int) := by omega
  have sg : ∀ (x y : Int) (t u : Int), 0 < t → 0 < u → x * u = y * t → (x < 0 → y < 0) ∧ (0 < x → 0 < y) := by
    intro x y t u ht hu e
    refine ⟨fun hx => ?_, fun hx => ?_⟩
    · rcases Int.lt_or_le y 0 with c | c
      · exact c
      · have a := Int.mul_nonneg c (Int.le_of_lt ht)
        have b := Int.mul_neg_of_neg_of_pos hx hu
        omega
    · rcases Int.lt_or_le 0 y with c | c
      · exact c
      · have a := Int.mul_nonpos_of_nonpos_of_nonneg c (Int.le_of_lt ht)
        have b := Int.mul_pos hx hu
        omega
  have a := sg _ _ _ _ hT0 hU0 k1
  have b := sg _ _ _ _ hU0 hT0 k1.symm
  refine ⟨⟨fun z => ?_, fun z => ?_⟩, ⟨fun z => ?_, fun z => ?_⟩⟩
  · have := a.1 (by omega); omega
  · have := b.1 (by omega); omega
  · have := a.2 (by omega); omega
  · have := b.2 (by omega); omega
def frAll (c c' : Cal) (p : Int → Bool) : Bool := (List.range 300).all fun j => match fr c c' j with
  | some x => p x
  | none => true
def frAny (c c' : Cal) (v : Int) : Bool := (List.range 300).any fun j => decide (fr c c' j = some v)
def ldChk (c c' : Cal) (a b : Option Int) : Bool := (fr c c' 0).isSome &&
  (match a with
  | none => decide (moreOf c c' 27720 < 0)
  | some lo => decide (0 ≤ moreOf c c' 27720) && frAll c c' (fun x => decide (lo ≤ x)) && frAny c c' lo) &&
  (match b with
  | none => decide (0 < moreOf c c' 27720)
  | some hi => decide (moreOf c c' 27720 ≤ 0) && frAll c c' (fun x => decide (x ≤ hi)) && frAny c c' hi)
theorem frAll_at {c c' : Cal} {p : Int → Bool} (h : frAll c c' p = true) {j : Nat} {x : Int} (hj : j < 300) (e : fr c c' j = some x) : p x = true := by
  unfold frAll at h
  have := List.all_eq_true.mp h j (List.mem_range.mpr hj)
  rw [e] at this
  exact this
theorem frAny_at {c c' : Cal} {v : Int} (h : frAny c c' v = true) : ∃ j, j < 300 ∧ fr c c' j = some v := by
  unfold frAny at h
  obtain ⟨j, hj, e⟩ := List.any_eq_true.mp h
  exact ⟨j, List.mem_range.mp hj, by simpa using e⟩
section
variable {S : Sto}
theorem leads_val {s s' : Sn} {c c' : Cal} (h : s.Ok) (h' : s'.Ok) (e : s.cal = c) (e' : s'.cal = c') (a b : Option Int) (chk : ldChk c c' a b = true) : F_leads [s.d, s'.d] S = .ok (.tup [oD a, oD b]) S := by
  subst e; subst e'
  have hb := Sn.calB h
  have hb' := Sn.calB h'
  unfold ldChk at chk
  simp only [Bool.and_eq_true] at chk
  obtain ⟨⟨k0, k1⟩, k2⟩ := chk
  rcases leads_by_eq (S := S) hb hb' with ⟨hn, el⟩ | ⟨⟨x, hx⟩, lo, hi, T, hp, hT, hT', E, el⟩
  · rw [hn] at k0; cases k0
  · rw [leads_eq h h' el]
    obtain ⟨m1, m2⟩ := more_sign hp (show 0 < 27720 by decide) hT hT' hb.dvd hb'.dvd
    have r1 : (if moreOf s.cal s'.cal T < 0 then D.non else .int lo) = oD a := by
      cases a with
      | none => rw [if_pos (m1.mpr (by simpa using k1))]; rfl
      | some l =>
        simp only [Bool.and_eq_true, decide_eq_true_eq] at k1
        have hn : ¬ moreOf s.cal s'.cal T < 0 := fun z => by have := m1.mp z; omega
        rw [if_neg hn]
        obtain ⟨⟨j, hj, ej⟩, hall⟩ := E.lo (by omega)
        obtain ⟨j2, hj2, ej2⟩ := frAny_at k1.2
        have q1 := frAll_at k1.1.2 hj ej
        have q2 := hall j2 l ej2
        simp only [decide_eq_true_eq] at q1
        show D.int lo = D.int l
        congr 1
        omega
    have r2 : (if 0 < moreOf s.cal s'.cal T then D.non else .int hi) = oD b := by
      cases b with
      | none => rw [if_pos (m2.mpr (by simpa using k2))]; rfl
      | some l =>
        simp only [Bool.and_eq_true, decide_eq_true_eq] at k2
        have hn : ¬ 0 < moreOf s.cal s'.cal T := fun z => by have := m2.mp z; omega
        rw [if_neg hn]
        obtain ⟨⟨j, hj, ej⟩, hall⟩ := E.hi (by omega)
        obtain ⟨j2, hj2, ej2⟩ := frAny_at k2.2
        have q1 := frAll_at k2.1.2 hj ej
        have q2 := hall j2 l ej2
        simp only [decide_eq_true_eq] at q1
        show D.int hi = D.int l
        congr 1
        omega
    rw [r1, r2]
theorem leads_none {s s' : Sn} {c c' : Cal} (h : s.Ok) (h' : s'.Ok) (e : s.cal = c) (e' : s'.cal = c') (chk : fr c c' 0 = none) : F_leads [s.d, s'.d] S = .ok .non S := by
  subst e; subst e'
  rcases leads_by_eq (S := S) (Sn.calB h) (Sn.calB h') with ⟨hn, el⟩ | ⟨⟨x, hx⟩, _⟩
  · exact leads_eq h h' el
  · rw [chk] at hx; cases hx
def flChk (c c' : Cal) (j : Nat) : Bool := isLt (c.at j) (c'.at j) && (List.range j).all fun m => !isLt (c.at m) (c'.at m)
theorem later_val {s s' : Sn} {c c' : Cal} (h : s.Ok) (h' : s'.Ok) (e : s.cal = c) (e' : s'.cal = c') (j : Nat) (chk : flChk c c' j = true) : F_first_later [s.d, s'.d] S = .ok (.int ((j : Int) + 1)) S ∧ F_never_later [s.d, s'.d] S = .ok (.bl false) S := by
  subst e; subst e'
  unfold flChk at chk
  simp only [Bool.and_eq_true] at chk
  obtain ⟨o, e1, e2, p1, p2⟩ := first_later_eq (S := S) h h'
  have ho : o = some j := by
    cases o with
    | none => have := p2 rfl j; rw [this] at chk; cases chk.1
    | some i =>
      obtain ⟨a1, a2, _⟩ := p1 i rfl
      rcases Nat.lt_trichotomy i j with c | c | c
      · have := List.all_eq_true.mp chk.2 i (List.mem_range.mpr c)
        rw [a1] at this; cases this
      · rw [c]
      · have := a2 j c; rw [this] at chk; cases chk.1
  subst ho
  exact ⟨e1, e2⟩
/-- never later, for good -/
def nlChk (c c' : Cal) : Bool := decide (c.ri 27720 ≤ c'.ri 27720) && (List.range (max c.early.length c'.early.length + Nat.lcm c.al c'.al)).all fun m => !isLt (c.at m) (c'.at m)
theorem nl_all {c c' : Cal} (h : CalB c) (h' : CalB c') (chk : nlChk c c' = true) (i : Nat) : isLt (c.at i) (c'.at i) = false := by
  unfold nlChk at chk
  simp only [Bool.and_eq_true, decide_eq_true_eq] at chk
  obtain ⟨k1, k2⟩ := chk
  have hall : ∀ m, m < max c.early.length c'.early.length + Nat.lcm c.al c'.al → isLt (c.at m) (c'.at m) = false := fun m hm => by
    have := List.all_eq_true.mp k2 m (List.mem_range.mpr hm)
    simpa using this
  have hp : 0 < Nat.lcm c.al c'.al := Nat.lcm_pos c.al_pos c'.al_pos
  have hd1 := Nat.dvd_lcm_left c.al c'.al
  have hd2 := Nat.dvd_lcm_right c.al c'.al
  generalize Nat.lcm c.al c'.al = T at *
  generalize hM : max c.early.length c'.early.length = M at *
  have hM1 : c.early.length ≤ M := by omega
  have hM2 : c'.early.length ≤ M := by omega
  rcases Nat.lt_or_ge i (M + T) with hl | hl
  · exact hall i hl
  · have hm := Nat.mod_lt (i - M) hp
    have e1 := Cal.at_turn hd1 (M + (i - M) % T) ((i - M) / T) (by omega)
    have e2 := Cal.at_turn hd2 (M + (i - M) % T) ((i - M) / T) (by omega)
    have hi : M + (i - M) % T + (i - M) / T * T = i := by
      have := Nat.div_add_mod (i - M) T
      rw [Nat.mul_comm] at this
      omega
    rw [hi] at e1 e2
    have h0 := hall (M + (i - M) % T) (by omega)
    have hr : c.ri T ≤ c'.ri T := by
      have a := ri_scale hd1 h.dvd
      have b := ri_scale hd2 h'.dvd
      have hT : (0 : Int) < (T : Int) := by omega
      have q := Int.mul_le_mul_of_nonneg_right k1 (Int.le_of_lt hT)
      rw [← a, ← b] at q
      exact Int.le_of_mul_le_mul_right q (by decide)
    rw [e1, e2]
    cases hx : c.at (M + (i - M) % T) with
    | none =>
      cases hy : c'.at (M + (i - M) % T) with
      | none => rfl
      | some y => rw [hx, hy] at h0; cases h0
    | some x =>
      cases hy : c'.at (M + (i - M) % T) with
      | none => rfl
      | some y =>
        rw [hx, hy] at h0
        simp only [isLt, decide_eq_false_iff_not, Option.map_some] at h0 ⊢
        have := Int.mul_le_mul_of_nonneg_left hr (Int.natCast_nonneg ((i - M) / T))
        omega
theorem never_val {s s' : Sn} {c c' : Cal} (h : s.Ok) (h' : s'.Ok) (e : s.cal = c) (e' : s'.cal = c') (chk : nlChk c c' = true) : F_first_later [s.d, s'.d] S = .ok .non S ∧ F_never_later [s.d, s'.d] S = .ok (.bl true) S := by
  subst e; subst e'
  obtain ⟨o, e1, e2, p1, p2⟩ := first_later_eq (S := S) h h'
  have ho : o = none := by
    cases o with
    | none => rfl
    | some i =>
      have := (p1 i rfl).1
      rw [nl_all (Sn.calB h) (Sn.calB h') chk] at this
      cases this
  subst ho
  exact ⟨e1, e2⟩
theorem parting_val {s s' : Sn} {c c' : Cal} (h : s.Ok) (h' : s'.Ok) (e : s.cal = c) (e' : s'.cal = c') (j : Nat) (chk : (decide (c.at j ≠ c'.at j) && (List.range j).all fun m => decide (c.at m = c'.at m)) = true) : F_parting [s.d, s'.d] S = .ok (.int ((j : Int) + 1)) S := by
  subst e; subst e'
  simp only [Bool.and_eq_true, decide_eq_true_eq] at chk
  obtain ⟨o, e1, p1, p2⟩ := parting_eq (S := S) h h'
  have ho : o = some j := by
    cases o with
    | none => exact absurd (p2 rfl j) chk.1
    | some i =>
      obtain ⟨a1, a2, _⟩ := p1 i rfl
      rcases Nat.lt_trichotomy i j with c | c | c
      · have := List.all_eq_true.mp chk.2 i (List.mem_range.mpr c)
        exact absurd (by simpa using this) a1
      · rw [c]
      · exact absurd (a2 j c) chk.1
  subst ho
  exact e1
end
end DL
/-! loops that gather numbers in a list object -/
namespace DL
open PySem L2
theorem cut_to (st : List Int) (k : Nat) (h : k ≤ st.length) : cutD (st.map D.int) none (some (k : Int)) = (st.take k).map D.int := by
  rw [cutD_to (by simpa using h), List.map_take]
theorem cut_from (st : List Int) (k : Nat) (h : k ≤ st.length) : cutD (st.map D.int) (some (k : Int)) none = (st.drop k).map D.int := by
  rw [cutD_from (by simpa using h), List.map_drop]
theorem set_same_ (S : Sto) (F : Nat) (o : MO) (h : S[F]? = some o) : S.set F o = S := by
  refine List.ext_getElem? fun i => ?_
  by_cases e : F = i
  · subst e
    rw [List.getElem?_set_self (List.getElem?_eq_some_iff.mp h).1, h]
  · rw [List.getElem?_set_ne e]
def collN (p : Nat → Bool) (m k : Nat) : List Int := ((List.range' m k).filter p).map fun (j : Nat) => (j : Int)
theorem forR_coll {i F : Nat} {b : Sm} {p : Nat → Bool} {R : Rho → Prop} {n : Nat} (h : ∀ ρ (j : Nat) S' xs, R ρ → j < n → S'[F]? = some (.lst xs) → xs.length < 1000 → ∃ ρ', R ρ' ∧ b (ρ.set i (some (.int (j : Int)))) S' = .nx ρ' (S'.set F (.lst (if p j then xs ++ [.int j] else xs)))) :
    ∀ (k m : Nat) ρ xs S, R ρ → m + k ≤ n → S[F]? = some (.lst xs) → xs.length + k ≤ 1000 → ∃ ρ', R ρ' ∧ forR (gNm i) b k (m : Int) ρ S = .nx ρ' (S.set F (.lst (xs ++ (collN p m k).map D.int)))
  | 0, m, ρ, xs, S, hR, _, hF, _ => ⟨ρ, hR, by simp only [forR, collN, List.range'_zero, List.filter_nil, List.map_nil, List.append_nil]; rw [set_same_ S F _ hF]⟩
  | k + 1, m, ρ, xs, S, hR, hm, hF, hl => by
    obtain ⟨ρ1, h1, e1⟩ := h ρ m S xs hR (by omega) hF (by omega)
    have hF1 : (S.set F (.lst (if p m then xs ++ [.int m] else xs)))[F]? = some (.lst (if p m then xs ++ [.int m] else xs)) := List.getElem?_set_self (List.getElem?_eq_some_iff.mp hF).1
    obtain ⟨ρ2, h2, e2⟩ := forR_coll h k (m + 1) ρ1 _ _ h1 (by omega) hF1 (by
      split
      · rw [List.length_append, List.length_singleton]; omega
      · omega)
    refine ⟨ρ2, h2, ?_⟩
    simp only [forR, gNm_ap, on_nx, DL.F.seq_nx, e1, DL.F.turn_nx]
    have hc : ((m : Int) + 1) = ((m + 1 : Nat) : Int) := rfl
    rw [hc, e2, List.set_set]
    congr 3
    unfold collN
    rw [List.range'_succ, List.filter_cons]
    cases p m <;> simp
theorem gEq_lst_obj {F : Nat} {L : List Int} {S : Sto} (hF : S[F]? = some (.lst (L.map D.int))) (A : List Int) : gEqB false (.lst (A.map D.int)) (.obj F) S = .ok (.bl (decide (A = L))) S := by
  have e := gEqB_ints false A L S
  simp only [Bool.false_eq_true, if_false] at e
  rw [← e]
  simp only [gEqB, view_at S hF, view_lst_]
/-- a comprehension over the numbers up to one -/
theorem rgN_range (n : Nat) : ∀ m : Nat, rgN (m : Int) n = (List.range' m n).map fun (i : Nat) => D.int (i : Int) := by
  induction n with
  | zero => intro m; rfl
  | succ n ih =>
    intro m
    have := ih (m + 1)
    simp only [rgN, List.range'_succ, List.map_cons]
    rw [← this]
    rfl
theorem rgD_range (n : Nat) : rgD 0 (n : Int) = (List.range' 0 n).map fun (i : Nat) => D.int (i : Int) := by
  unfold rgD
  rw [List.range_eq_range']
  simp
theorem lc_coll {c : Ct} {t : Et} {e : Ee} {ρ : Rho} {S : Sto} {p : Nat → Bool} {m k : Nat} (h : ∀ j : Nat, m ≤ j → j < m + k → ∃ ρ1, c.put (.int (j : Int)) ρ = some ρ1 ∧ t ρ1 S = .ok (p j) S ∧ e ρ1 S = .ok (.int (j : Int)) S) :
    lcL c t e ρ ((List.range' m k).map fun (i : Nat) => D.int (i : Int)) S = .ok ((collN p m k).map D.int) S := by
  have hp : ∃ φ : D → Bool, ∀ j : Nat, φ (.int (j : Int)) = p j := ⟨fun d => match d with
    | .int i => p i.toNat
    | _ => false, fun j => by simp⟩
  obtain ⟨φ, hφ⟩ := hp
  rw [lcL_filter (φ := id) (p := φ) _ (fun x hx => by
    simp only [List.mem_map, List.mem_range'_1] at hx
    obtain ⟨j, hj, rfl⟩ := hx
    obtain ⟨ρ1, h1, h2, h3⟩ := h j hj.1 hj.2
    exact ⟨ρ1, h1, by rw [hφ]; exact h2, fun _ => h3⟩)]
  congr 1
  unfold collN
  rw [List.filter_map, List.map_id, List.map_map]
  congr 1
  refine List.filter_congr fun j _ => ?_
  simp [hφ]
end DL
/-! calendars of items: as short as can be -/
namespace DL
open PySem L2
section
variable {α : Type} [Inhabited α]
/-- gone through again and again -/
def cyc (a : List α) (i : Nat) : α := a.getD (i % a.length) default
def itemAt (e a : List α) (i : Nat) : α := if i < e.length then e.getD i default else cyc a (i - e.length)
theorem cyc_lt {a : List α} {i : Nat} (h : i < a.length) : cyc a i = a.getD i default := by unfold cyc; rw [Nat.mod_eq_of_lt h]
theorem cyc_eq {a : List α} {x y : Nat} {z : Int} (h : (x : Int) = y + (a.length : Int) * z) : cyc a x = cyc a y := by
  unfold cyc
  have : ((x % a.length : Nat) : Int) = ((y % a.length : Nat) : Int) := by
    rw [Int.natCast_emod, Int.natCast_emod, h, Int.add_mul_emod_self_left]
  rw [Int.ofNat.inj this]
theorem cyc_add (a : List α) (i : Nat) : cyc a (i + a.length) = cyc a i := cyc_eq (z := 1) (by omega)
theorem cyc_mul (a : List α) (i q : Nat) : cyc a (i + q * a.length) = cyc a i := cyc_eq (z := (q : Int)) (by rw [Int.mul_comm]; simp)
def rot (p : Nat) (a : List α) : List α := a.drop p ++ a.take p
theorem rot_len {p : Nat} {a : List α} (h : p ≤ a.length) : (rot p a).length = a.length := by simp [rot]; omega
theorem rot_get {p : Nat} {a : List α} (h : p ≤ a.length) {j : Nat} (hj : j < a.length) : (rot p a).getD j default = cyc a (j + p) := by
  unfold rot
  by_cases c : j < a.length - p
  · rw [List.getD_eq_getElem?_getD, List.getElem?_append_left (by simp; omega), List.getElem?_drop, cyc_lt (by omega), List.getD_eq_getElem?_getD, Nat.add_comm]
  · rw [List.getD_eq_getElem?_getD, List.getElem?_append_right (by simp; omega)]
    have e : cyc a (j + p) = cyc a (j + p - a.length) := cyc_eq (z := 1) (by omega)
    rw [e, cyc_lt (by omega), List.getD_eq_getElem?_getD]
    simp only [List.length_drop]
    rw [List.getElem?_take_of_lt (by omega)]
    congr 2
    omega
theorem ext_getD {a b : List α} (hl : a.length = b.length) (h : ∀ j, j < a.length → a.getD j default = b.getD j default) : a = b := by
  refine List.ext_getElem hl fun i h1 h2 => ?_
  have := h i h1
  simpa [List.getD_eq_getElem?_getD, List.getElem?_eq_getElem h1, List.getElem?_eq_getElem h2] using this
def PerC (a : List α) (p : Nat) : Prop := ∀ i, cyc a (i + p) = cyc a i
theorem rot_iff {p : Nat} {a : List α} (h0 : 0 < a.length) (h : p ≤ a.length) : rot p a = a ↔ PerC a p := by
  constructor
  · intro e i
    have hm := Nat.mod_lt i h0
    have e1 := rot_get h hm
    rw [e] at e1
    have e2 : cyc a (i + p) = cyc a (i % a.length + p) := cyc_eq (z := ((i / a.length : Nat) : Int)) (by
      have := Nat.div_add_mod i a.length
      rw [← Int.natCast_mul]
      omega)
    rw [e2, ← e1]
    rfl
  · intro e
    refine ext_getD (rot_len h) fun j hj => ?_
    rw [rot_len h] at hj
    rw [rot_get h hj, e j, cyc_lt hj]
theorem rot_cyc {p : Nat} {a : List α} (h0 : 0 < a.length) (h : p ≤ a.length) (i : Nat) : cyc (rot p a) i = cyc a (i + p) := by
  have hm := Nat.mod_lt i h0
  unfold cyc
  rw [rot_len h]
  rw [rot_get h hm]
  exact cyc_eq (z := -((i / a.length : Nat) : Int)) (by
    have := Nat.div_add_mod i a.length
    rw [Int.mul_neg, ← Int.natCast_mul]
    omega)
theorem PerC.mul {a : List α} {p : Nat} (h : PerC a p) : ∀ m i : Nat, cyc a (i + m * p) = cyc a i
  | 0, i => by simp
  | m + 1, i => by rw [show i + (m + 1) * p = (i + m * p) + p by rw [Nat.succ_mul]; omega, h, PerC.mul h m i]
theorem take_cyc {a : List α} {p : Nat} (hp : 0 < p) (hl : p ≤ a.length) (h : PerC a p) (i : Nat) : cyc (a.take p) i = cyc a i := by
  have hm := Nat.mod_lt i hp
  have e1 : cyc (a.take p) i = cyc a (i % p) := by
    unfold cyc
    rw [show (a.take p).length = p by simp; omega, List.getD_eq_getElem?_getD, List.getElem?_take_of_lt hm, Nat.mod_eq_of_lt (Nat.lt_of_lt_of_le hm hl), List.getD_eq_getElem?_getD]
  have e2 := h.mul (i / p) (i % p)
  have : i % p + i / p * p = i := by
    have := Nat.div_add_mod i p
    rw [Nat.mul_comm] at this
    omega
  rw [this] at e2
  rw [e1, e2]
/-- no shorter turn -/
def LeastC (a : List α) : Prop := ∀ q, 1 ≤ q → q < a.length → a.length % q = 0 → ¬ PerC a q
theorem LeastC.take {a : List α} {p : Nat} (hp : 0 < p) (hl : p ≤ a.length) (hd : a.length % p = 0) (h : PerC a p) (hm : ∀ q, 1 ≤ q → q < p → a.length % q = 0 → ¬ PerC a q) : LeastC (a.take p) := by
  have hlen : (a.take p).length = p := by simp; omega
  intro q h1 h2 h3 h4
  rw [hlen] at h2 h3
  refine hm q h1 h2 ?_ (fun i => ?_)
  · exact Nat.mod_eq_zero_of_dvd (Nat.dvd_trans (Nat.dvd_of_mod_eq_zero h3) (Nat.dvd_of_mod_eq_zero hd))
  · rw [← take_cyc hp hl h, ← take_cyc hp hl h]
    exact h4 i
theorem LeastC.rot {a : List α} {p : Nat} (h0 : 0 < a.length) (hp : p ≤ a.length) (h : LeastC a) : LeastC (rot p a) := by
  intro q h1 h2 h3 h4
  rw [rot_len hp] at h2 h3
  refine h q h1 h2 h3 fun i => ?_
  have e := h4 (i + a.length - p)
  rw [rot_cyc h0 hp, rot_cyc h0 hp] at e
  rw [show i + a.length - p + q + p = i + q + a.length by omega, show i + a.length - p + p = i + a.length by omega, cyc_add, cyc_add] at e
  exact e
/-- what a calendar of items is -/
structure ShortC (e a : List α) : Prop where
  pos : 0 < a.length
  least : LeastC a
  last : ∀ x, e.getLast? = some x → x ≠ a.getD (a.length - 1) default
/-- the turn that the last items ahead of it are taken into -/
theorem short_of {e a : List α} {s : Nat} (h0 : 0 < a.length) (hl : LeastC a) (hs : s ≤ e.length)
    (h1 : ∀ t, t < s → e.getD (e.length - 1 - t) default = a.getD (((a.length : Int) - 1 - t) % a.length).toNat default)
    (h2 : s = e.length ∨ e.getD (e.length - 1 - s) default ≠ a.getD (((a.length : Int) - 1 - s) % a.length).toNat default) :
    ShortC (e.take (e.length - s)) (rot (a.length - s % a.length) a) ∧ ∀ i, itemAt (e.take (e.length - s)) (rot (a.length - s % a.length) a) i = itemAt e a i := by
  have hsm := Nat.mod_lt s h0
  have hp : a.length - s % a.length ≤ a.length := by omega
  have hdm := Nat.div_add_mod s a.length
  obtain ⟨m, hm1, hm2⟩ : ∃ m : Nat, s + 1 ≤ m ∧ (m : Int) = (a.length : Int) * ((s : Int) + 1) := ⟨a.length * (s + 1), Nat.le_mul_of_pos_left _ h0, by simp⟩
  obtain ⟨r, hr1, hr2⟩ : ∃ r : Nat, r + s % a.length = s ∧ (r : Int) = (a.length : Int) * ((s / a.length : Nat) : Int) := ⟨a.length * (s / a.length), hdm, by simp⟩
  have key : ∀ t : Nat, t ≤ s → a.getD (((a.length : Int) - 1 - t) % a.length).toNat default = cyc a (m - 1 - t) := by
    intro t ht
    have hb := Int.emod_lt_of_pos ((a.length : Int) - 1 - t) (show (0 : Int) < a.length by omega)
    have hb0 := Int.emod_nonneg ((a.length : Int) - 1 - t) (show (a.length : Int) ≠ 0 by omega)
    have hd := Int.mul_ediv_add_emod ((a.length : Int) - 1 - t) (a.length : Int)
    generalize hk : ((a.length : Int) - 1 - t) % (a.length : Int) = k at *
    rw [← cyc_lt (a := a) (by omega)]
    generalize hq : ((a.length : Int) - 1 - t) / (a.length : Int) = q at *
    refine cyc_eq (z := 1 - q - ((s : Int) + 1)) ?_
    have hz : (a.length : Int) * (1 - q - ((s : Int) + 1)) = a.length - (a.length : Int) * q - m := by rw [Int.mul_sub, Int.mul_sub, Int.mul_one, ← hm2]
    rw [hz]
    omega
  have hat : ∀ i, itemAt (e.take (e.length - s)) (rot (a.length - s % a.length) a) i = itemAt e a i := by
    intro i
    unfold itemAt
    have hl1 : (e.take (e.length - s)).length = e.length - s := by simp
    rw [hl1]
    by_cases c1 : i < e.length - s
    · rw [if_pos c1, if_pos (by omega)]
      rw [List.getD_eq_getElem?_getD, List.getElem?_take_of_lt c1, List.getD_eq_getElem?_getD]
    · rw [if_neg c1, rot_cyc h0 hp]
      by_cases c2 : i < e.length
      · rw [if_pos c2]
        have hk := h1 (e.length - 1 - i) (by omega)
        rw [show e.length - 1 - (e.length - 1 - i) = i by omega] at hk
        rw [hk, key (e.length - 1 - i) (by omega)]
        refine cyc_eq (z := 1 + ((s / a.length : Nat) : Int) - ((s : Int) + 1)) ?_
        have hz : (a.length : Int) * (1 + ((s / a.length : Nat) : Int) - ((s : Int) + 1)) = a.length + r - m := by rw [Int.mul_sub, Int.mul_add, Int.mul_one, ← hm2, ← hr2]
        rw [hz]
        omega
      · rw [if_neg c2]
        refine cyc_eq (z := 1 + ((s / a.length : Nat) : Int)) ?_
        rw [Int.mul_add, Int.mul_one, ← hr2]
        omega
  refine ⟨⟨by rw [rot_len hp]; exact h0, hl.rot h0 hp, fun x hx => ?_⟩, hat⟩
  rw [rot_len hp]
  rcases h2 with h2 | h2
  · rw [h2, Nat.sub_self] at hx; simp at hx
  · have hlt : s < e.length := by
      rcases Nat.lt_or_ge s e.length with c | c
      · exact c
      · have : e.length - s = 0 := by omega
        rw [this] at hx; simp at hx
    have hx2 : x = e.getD (e.length - 1 - s) default := by
      rw [List.getLast?_eq_getElem?] at hx
      have hl1 : (e.take (e.length - s)).length = e.length - s := by simp
      rw [hl1, List.getElem?_take_of_lt (by omega)] at hx
      rw [List.getD_eq_getElem?_getD, show e.length - 1 - s = e.length - s - 1 by omega, hx]
      rfl
    rw [hx2]
    intro z
    apply h2
    rw [z, rot_get hp (by omega), key s (Nat.le_refl _)]
    refine cyc_eq (z := 2 + ((s / a.length : Nat) : Int) - ((s : Int) + 1)) ?_
    have hz : (a.length : Int) * (2 + ((s / a.length : Nat) : Int) - ((s : Int) + 1)) = 2 * a.length + r - m := by rw [Int.mul_sub, Int.mul_add, ← hm2, ← hr2]; omega
    rw [hz]
    omega
end
end DL
/-! shortened: what it returns -/
namespace DL
open PySem L2
theorem map_inj {α β : Type} {f : α → β} (hf : ∀ a b, f a = f b → a = b) : ∀ (a b : List α), a.map f = b.map f → a = b
  | [], [], _ => rfl
  | [], _ :: _, h => by simp at h
  | _ :: _, [], h => by simp at h
  | x :: a, y :: b, h => by
    simp only [List.map_cons, List.cons.injEq] at h
    rw [hf _ _ h.1, map_inj hf a b h.2]
section
variable {S : Sto}
theorem gMin_ints {l : List Int} (h : l ≠ []) : ∃ m, m ∈ l ∧ (∀ x ∈ l, m ≤ x) ∧ gMin [.lst (l.map D.int)] S = .ok (.int m) S := by
  cases l with
  | nil => exact absurd rfl h
  | cons x r =>
    obtain ⟨h1, h2, h3⟩ := minL_ge r x
    refine ⟨minL x r, ?_, fun y hy => ?_, ?_⟩
    · rcases h3 with h3 | h3
      · rw [h3]; exact List.mem_cons_self
      · exact List.mem_cons_of_mem _ h3
    · rcases List.mem_cons.mp hy with rfl | hy
      · exact h1
      · exact h2 y hy
    · have hi : intsOf ((x :: r).map D.int) = some (x :: r) := intsOf_map _
      simp only [List.map_cons] at hi
      simp only [gMin, view_lst_, List.map_cons, hi]
theorem gMax_ints {l : List Int} (h : l ≠ []) : ∃ m, m ∈ l ∧ (∀ x ∈ l, x ≤ m) ∧ gMax [.lst (l.map D.int)] S = .ok (.int m) S := by
  cases l with
  | nil => exact absurd rfl h
  | cons x r =>
    have h1 := mxL_ge r x
    have h3 := mxL_mem r x
    refine ⟨maxL x r, ?_, fun y hy => ?_, ?_⟩
    · rcases h3 with h3 | h3
      · rw [h3]; exact List.mem_cons_self
      · exact List.mem_cons_of_mem _ h3
    · rcases List.mem_cons.mp hy with rfl | hy
      · exact h1.1
      · exact h1.2 y hy
    · have hi : intsOf ((x :: r).map D.int) = some (x :: r) := intsOf_map _
      simp only [List.map_cons] at hi
      simp only [gMax, view_lst_, List.map_cons, hi]
theorem atI_map {α : Type} [Inhabited α] (f : α → D) (l : List α) {j : Nat} (h : j < l.length) {i : Int} (hi : i = (j : Int)) : atI (l.map f) i = some (f (l.getD j default)) := by
  subst hi
  refine atI_nat ?_
  rw [List.getElem?_map, List.getElem?_eq_getElem h, List.getD_eq_getElem?_getD, List.getElem?_eq_getElem h]
  rfl
theorem plN_list {α : Type} {f : α → D} {w n : Nat} {l : List α} (hl : l.length ≤ w) (h : ∀ x ∈ l, plN w n (f x) = true) : plN w (n + 1) (.lst (l.map f)) = true := plN_lst (by simpa using hl) (fun x hx => by
  simp only [List.mem_map] at hx
  obtain ⟨i, hi, rfl⟩ := hx
  exact h i hi)
theorem plN_tupl {α : Type} {f : α → D} {w n : Nat} {l : List α} (hl : l.length ≤ w) (h : ∀ x ∈ l, plN w n (f x) = true) : plN w (n + 1) (.tup (l.map f)) = true := plN_tup (by simpa using hl) (fun x hx => by
  simp only [List.mem_map] at hx
  obtain ⟨i, hi, rfl⟩ := hx
  exact h i hi)
section
variable {α : Type} [DecidableEq α] [Inhabited α] {f : α → D}
def shP (e a : List α) (t : Nat) : Prop := e.getD (e.length - 1 - t) default = a.getD (((a.length : Int) - 1 - t) % a.length).toNat default
instance (e a : List α) (t : Nat) : Decidable (shP e a t) := inferInstanceAs (Decidable (_ = _))
def shT : Et := (eAndT (eTb (eBin gLt (eVar 4) (eCall gLen [(eVar 0)]))) (eTb (eBin gEq (eBin gIdx (eVar 0) (eBin gSub (eBin gSub (eCall gLen [(eVar 0)]) (eK (.int 1))) (eVar 4))) (eBin gIdx (eVar 1) (eBin gMod (eBin gSub (eBin gSub (eVar 3) (eK (.int 1))) (eVar 4)) (eVar 3))))))
theorem sh_loop (hf : ∀ a b, f a = f b → a = b) {w n : Nat} (hn64 : n ≤ 64) {e a : List α} (hp : ∀ x, x ∈ e ∨ x ∈ a → plN w n (f x) = true) (h0 : 0 < a.length) (v2 v5 v6 : Option D) : ∀ (k s n : Nat), s + k = e.length → k < n →
    ∃ s', s ≤ s' ∧ s' ≤ e.length ∧ (∀ t, s ≤ t → t < s' → shP e a t) ∧ (s' = e.length ∨ ¬ shP e a s') ∧
    sWh n shT (sSet 4 (eBin gAdd (eVar 4) (eK (.int 1)))) [some (.lst (e.map f)), some (.lst (a.map f)), v2, some (.int (a.length : Int)), some (.int (s : Int)), v5, v6] S = .nx [some (.lst (e.map f)), some (.lst (a.map f)), v2, some (.int (a.length : Int)), some (.int (s' : Int)), v5, v6] S
  | 0, s, n + 1, hk, _ => by
    refine ⟨s, Nat.le_refl _, by omega, fun t h1 h2 => by omega, .inl (by omega), ?_⟩
    have : ¬ (s : Int) < (e.length : Int) := by omega
    exact sWh_false (by simp [shT, this])
  | k + 1, s, n + 1, hk, hn => by
    have hlt : (s : Int) < (e.length : Int) := by omega
    have hb := Int.emod_lt_of_pos ((a.length : Int) - 1 - s) (show (0 : Int) < a.length by omega)
    have hb0 := Int.emod_nonneg ((a.length : Int) - 1 - s) (show (a.length : Int) ≠ 0 by omega)
    have i1 : gIdx (.lst (e.map f)) (.int ((e.length : Int) - 1 - s)) S = .ok (f (e.getD (e.length - 1 - s) default)) S := gIdx_lst _ (atI_map f e (j := e.length - 1 - s) (by omega) (by omega))
    have i2 : gIdx (.lst (a.map f)) (.int (((a.length : Int) - 1 - s) % a.length)) S = .ok (f (a.getD (((a.length : Int) - 1 - s) % a.length).toNat default)) S := gIdx_lst _ (atI_map f a (j := (((a.length : Int) - 1 - s) % a.length).toNat) (by omega) (by omega))
    have m1 : gMod (.int ((a.length : Int) - 1 - s)) (.int (a.length : Int)) S = .ok (.int (((a.length : Int) - 1 - s) % a.length)) S := gMod_int _ (by omega)
    have q1 : plN w _ (f (e.getD (e.length - 1 - s) default)) = true := hp _ (.inl (by
      rw [List.getD_eq_getElem?_getD, List.getElem?_eq_getElem (show e.length - 1 - s < e.length by omega)]
      exact List.getElem_mem _))
    have q2 : plN w _ (f (a.getD (((a.length : Int) - 1 - s) % a.length).toNat default)) = true := hp _ (.inr (by
      rw [List.getD_eq_getElem?_getD, List.getElem?_eq_getElem (show (((a.length : Int) - 1 - s) % a.length).toNat < a.length by omega)]
      exact List.getElem_mem _))
    have ge := gEq_inj hf q1 q2 hn64 false S
    simp only [Bool.false_eq_true, if_false] at ge
    have tt : shT [some (.lst (e.map f)), some (.lst (a.map f)), v2, some (.int (a.length : Int)), some (.int (s : Int)), v5, v6] S = .ok (decide (shP e a s)) S := by
      rw [show decide (shP e a s) = decide (e.getD (e.length - 1 - s) default = a.getD (((a.length : Int) - 1 - s) % a.length).toNat default) by congr]
      simp only [shT, eAndT_ap, eTb_ap, eBin_ap, eCall_ap, eArgs_cons, eArgs_nil, eVar0, eVar1, eVar3, eVar4, R.bind_ok, gLen_lst, List.length_map, gI2_int, decide_eq_true hlt, gSub_int, eK_ap, i1, m1, i2, ge]
    by_cases c : shP e a s
    · obtain ⟨s', g1, g2, g3, g4, g5⟩ := sh_loop hf hn64 hp h0 v2 v5 v6 k (s + 1) n (by omega) (by omega)
      refine ⟨s', by omega, g2, fun t h1 h2 => ?_, g4, ?_⟩
      · rcases Nat.lt_or_ge s t with c2 | c2
        · exact g3 t (by omega) h2
        · have : t = s := by omega
          subst this; exact c
      · rw [sWh_true (by rw [tt, decide_eq_true c])]
        rw [← g5]
        simp
    · refine ⟨s, Nat.le_refl _, by omega, fun t h1 h2 => by omega, .inr c, ?_⟩
      exact sWh_false (by rw [tt, decide_eq_false c])
theorem cutL_to (f : α → D) (l : List α) (k : Nat) (h : k ≤ l.length) : cutD (l.map f) none (some (k : Int)) = (l.take k).map f := by
  rw [cutD_to (by simpa using h), List.map_take]
theorem cutL_from (f : α → D) (l : List α) (k : Nat) (h : k ≤ l.length) : cutD (l.map f) (some (k : Int)) none = (l.drop k).map f := by
  rw [cutD_from (by simpa using h), List.map_drop]
theorem gRot (f : α → D) (l : List α) (k : Nat) (h : k ≤ l.length) (hl : l.length ≤ 16777216) : gAdd (.lst ((l.drop k).map f)) (.lst ((l.take k).map f)) S = .ok (.lst ((rot k l).map f)) S := by
  rw [gAdd_lst _ (by simp; omega), ← List.map_append]
  rfl
theorem rot_mem {k : Nat} {l : List α} {x : α} (h : x ∈ rot k l) : x ∈ l := by
  unfold rot at h
  rcases List.mem_append.mp h with h | h
  · exact List.mem_of_mem_drop h
  · exact List.mem_of_mem_take h
theorem shortened_eq (hf : ∀ a b, f a = f b → a = b) {w n : Nat} (hn64 : n < 64) {e a : List α} (hp : ∀ x, x ∈ e ∨ x ∈ a → plN w n (f x) = true) (h0 : 0 < a.length) (ha : a.length ≤ 4000) (he : e.length ≤ 16700000) :
    ∃ e' a' : List α, F_shortened [.lst (e.map f), .lst (a.map f)] S = .ok (.tup [.tup (e'.map f), .tup (a'.map f)]) S ∧ ShortC e' a' ∧ (∀ i, itemAt e' a' i = itemAt e a i) ∧ e'.length ≤ e.length ∧ a'.length ≤ a.length ∧ (∀ x ∈ e', x ∈ e) ∧ ∀ x ∈ a', x ∈ a := by
  let p : Nat → Bool := fun i => decide (a.length % i = 0) && decide (rot i a = a)
  have hself : p a.length = true := by
    have : rot a.length a = a := by simp [rot]
    simp [p, this]
  have hin : (a.length : Int) ∈ collN p 1 a.length := by
    unfold collN
    exact List.mem_map.mpr ⟨a.length, List.mem_filter.mpr ⟨List.mem_range'_1.mpr ⟨by omega, by omega⟩, hself⟩, rfl⟩
  have hne : collN p 1 a.length ≠ [] := fun z => by rw [z] at hin; cases hin
  obtain ⟨m, hm1, hm2, hm3⟩ := gMin_ints (S := S) hne
  obtain ⟨part, hpart, hmp⟩ : ∃ part : Nat, (1 ≤ part ∧ part < 1 + a.length ∧ p part = true) ∧ m = (part : Int) := by
    unfold collN at hm1
    obtain ⟨j, hj, rfl⟩ := List.mem_map.mp hm1
    obtain ⟨hj1, hj2⟩ := List.mem_filter.mp hj
    have := List.mem_range'_1.mp hj1
    exact ⟨j, ⟨this.1, this.2, hj2⟩, rfl⟩
  subst hmp
  obtain ⟨hp1, hp2, hp3⟩ := hpart
  simp only [p, Bool.and_eq_true, decide_eq_true_eq] at hp3
  have hper : PerC a part := (rot_iff h0 (by omega)).mp hp3.2
  have hleast : ∀ q, 1 ≤ q → q < part → a.length % q = 0 → ¬ PerC a q := by
    intro q h1 h2 h3 h4
    have hq : p q = true := by
      simp only [p, Bool.and_eq_true, decide_eq_true_eq]
      exact ⟨h3, (rot_iff h0 (by omega)).mpr h4⟩
    have := hm2 (q : Int) (by
      unfold collN
      exact List.mem_map.mpr ⟨q, List.mem_filter.mpr ⟨List.mem_range'_1.mpr ⟨by omega, by omega⟩, hq⟩, rfl⟩)
    omega
  have hlc := LeastC.take (by omega) (by omega) hp3.1 hper hleast
  have hl1 : (a.take part).length = part := by simp; omega
  have hpm : ∀ x, x ∈ e ∨ x ∈ a.take part → plN w n (f x) = true := fun x hx => hp x (hx.imp id List.mem_of_mem_take)
  obtain ⟨s, g1, g2, g3, g4, g5⟩ := sh_loop (S := S) hf (by omega) hpm (by omega) (some (.int (a.length : Int))) none none e.length 0 20000000 (by omega) (by omega)
  rw [hl1] at g5
  obtain ⟨so1, so2⟩ := short_of (e := e) (a := a.take part) (s := s) (by omega) hlc g2 (fun t ht => g3 t (Nat.zero_le _) ht) g4
  rw [hl1] at so1 so2
  have hsm := Nat.mod_lt s (show 0 < part by omega)
  have hcyc : ∀ i, itemAt e (a.take part) i = itemAt e a i := by
    intro i
    unfold itemAt
    split
    · rfl
    · exact take_cyc (by omega) (by omega) hper _
  refine ⟨e.take (e.length - s), rot (part - s % part) (a.take part), ?_, so1, fun i => (so2 i).trans (hcyc i), by simp, by rw [rot_len (by omega)]; simp; omega, fun x hx => List.mem_of_mem_take hx, fun x hx => List.mem_of_mem_take (rot_mem hx)⟩
  have m2 : gMod (.int (s : Int)) (.int (part : Int)) S = .ok (.int ((s % part : Nat) : Int)) S := by
    rw [gMod_int _ (by omega)]; rfl
  generalize hr : s % part = r at *
  -- the turn
  have hw : plN (max w 4000) (n + 1) (.lst (a.map f)) = true := plN_list (by omega) (fun x hx => plN_mono (Nat.le_max_left _ _) (Nat.le_refl _) (hp x (.inr hx)))
  have hinj : ∀ x y : List α, D.lst (x.map f) = D.lst (y.map f) → x = y := fun x y h => map_inj hf x y (by simpa using h)
  have hs1 : smallI 1 = true := by decide
  have hs2 : smallI ((a.length : Int) + 1) = true := smallI_mk (by omega) (by omega)
  have hcomp : eLc (eRng2 (eK (.int 1)) (eBin gAdd (eVar 2) (eK (.int 1)))) (.nm 6) (eAndT (eTb (eBin gEq (eBin gMod (eVar 2) (eVar 6)) (eK (.int 0)))) (eTb (eBin gEq (eBin gAdd (eSl (eVar 1) (ePart (eVar 6)) eNo) (eSl (eVar 1) eNo (ePart (eVar 6)))) (eVar 1)))) (eVar 6) [6] [some (.lst (e.map f)), some (.lst (a.map f)), some (.int (a.length : Int)), none, none, none, none] S = .ok (.lst ((collN p 1 a.length).map D.int)) S := by
    rw [eLc_rng (lo := 1) (n := a.length) (S1 := S) (by simp [hs1, hs2]) (by omega)]
    rw [show (1 : Int) = ((1 : Nat) : Int) from rfl, rgN_range, lc_coll (p := p) (fun j h1 h2 => ?_)]
    · rfl
    · refine ⟨_, rfl, ?_, by simp [wipeR]⟩
      have m1 : gMod (.int (a.length : Int)) (.int (j : Int)) S = .ok (.int ((a.length % j : Nat) : Int)) S := by
        rw [gMod_int _ (by omega)]; rfl
      have c1 := cutL_from f a j (by omega)
      have c2 := cutL_to f a j (by omega)
      have c3 := gRot (S := S) f a j (by omega) (by omega)
      have hw2 : plN (max w 4000) (n + 1) (.lst ((rot j a).map f)) = true := plN_list (by rw [rot_len (by omega)]; omega) (fun x hx => plN_mono (Nat.le_max_left _ _) (Nat.le_refl _) (hp x (.inr (rot_mem hx))))
      have ge := gEq_inj (f := fun l : List α => D.lst (l.map f)) hinj hw2 hw (by omega) false S
      simp only [Bool.false_eq_true, if_false] at ge
      have hz : (decide (((a.length % j : Nat) : Int) = 0)) = decide (a.length % j = 0) := by
        rw [decide_eq_decide]; omega
      by_cases c : a.length % j = 0
      · have hz' : (a.length : Int) % (j : Int) = 0 := by rw [← Int.natCast_emod]; omega
        simp [wipeR, m1, hz', c, c1, c2, c3, ge, p, -List.map_take, -List.map_drop, -List.map_append]
      · have hz' : ¬ (a.length : Int) % (j : Int) = 0 := by rw [← Int.natCast_emod]; omega
        simp [wipeR, m1, hz', c, p]
  have hlenI : ((e.length : Int) - (s : Int)) = ((e.length - s : Nat) : Int) := by omega
  have hplI : ((part : Int) - (r : Int)) = ((part - r : Nat) : Int) := by omega
  have d1 := cutL_to f a part (by omega)
  have d2 := cutL_to f e (e.length - s) (by omega)
  have d3 := cutL_from f (a.take part) (part - r) (by omega)
  have d4 := cutL_to f (a.take part) (part - r) (by omega)
  have d5 := gRot (S := S) f (a.take part) (part - r) (by omega) (by omega)
  rw [show F_shortened [.lst (e.map f), .lst (a.map f)] S = popR S.length _ from fnP_ap _ _ _ _ _]
  have st1 : (sSet 2 (eCall gLen [(eVar 1)])) ([D.lst (e.map f), D.lst (a.map f)].map some ++ List.replicate (7 - 2) none) S = .nx [some (.lst (e.map f)), some (.lst (a.map f)), some (.int (a.length : Int)), none, none, none, none] S := by simp
  simp only [sSeq_ap]
  rw [st1]
  simp only [DL.F.seq_nx, sSeq_ap, sSet_ap, eCall_ap, eArgs_cons, eArgs_nil, hcomp, R.bind_ok, hm3, DL.F.ofR_ok, List.set]
  simp only [sSt_ap, eTup_ap, eArgs_cons, eArgs_nil, eSl_ap, eVar1, eVar3, eNo_ap, ePart_ap, view_int_, R.bind_ok, gCut_lst, d1, eK_ap, DL.F.ofR_ok, gTp_ap, gsCons_ap, gNm_ap, gsNil_ap, List.length_cons, List.length_nil, Nat.reduceAdd, if_true, DL.F.seq_nx, on_nx, List.set, sSeq_ap]
  simp only [shT] at g5
  rw [show (0 : Int) = ((0 : Nat) : Int) from rfl, g5]
  simp [m2, hplI, hlenI, d2, d3, d4, d5, -List.map_take, -List.map_drop, -List.map_append]
end
end
end DL
/-! first ones -/
namespace DL
open PySem L2
section
variable {α : Type} [Inhabited α]
theorem shc_sub {f : Nat → α} {p q : Nat} (h : ∀ i, f (i + p) = f i) (h' : ∀ i, f (i + (p + q)) = f i) (i : Nat) : f (i + q) = f i := by
  have e1 := h (i + q)
  have e2 := h' i
  rw [show i + (p + q) = i + q + p by omega, e1] at e2
  exact e2
theorem shc_mul {f : Nat → α} {p : Nat} (h : ∀ i, f (i + p) = f i) : ∀ m i : Nat, f (i + m * p) = f i
  | 0, i => by simp
  | m + 1, i => by rw [show i + (m + 1) * p = (i + m * p) + p by rw [Nat.succ_mul]; omega, h, shc_mul h m i]
theorem shc_gcd {f : Nat → α} (a b : Nat) (h : ∀ i, f (i + a) = f i) (h' : ∀ i, f (i + b) = f i) : ∀ i, f (i + Nat.gcd a b) = f i := by
  induction a, b using Nat.gcd.induction with
  | H0 n => rw [Nat.gcd_zero_left]; exact h'
  | H1 m n hm ih =>
    rw [Nat.gcd_rec]
    refine ih ?_ h
    intro i
    refine shc_sub (p := n / m * m) (shc_mul h (n / m)) ?_ i
    rw [Nat.mul_comm, Nat.div_add_mod]
    exact h'
theorem itemAt_lt {e a : List α} {i : Nat} (h : i < e.length) : itemAt e a i = e.getD i default := if_pos h
theorem itemAt_ge {e a : List α} {i : Nat} (h : e.length ≤ i) : itemAt e a i = cyc a (i - e.length) := if_neg (by omega)
theorem turnC_dvd {e a e' a' : List α} (h : ShortC e a) (h' : ShortC e' a') (k : ∀ i, itemAt e a i = itemAt e' a' i) : a.length ∣ a'.length := by
  have p1 := h.pos
  have p2 := h'.pos
  let M := e.length + e'.length
  have f1 : ∀ i, itemAt e a (M + i) = cyc a (e'.length + i) := fun i => by rw [itemAt_ge (by omega)]; congr 1; omega
  have f2 : ∀ i, itemAt e a (M + i) = cyc a' (e.length + i) := fun i => by rw [k, itemAt_ge (by omega)]; congr 1; omega
  have q1 : ∀ i, itemAt e a (M + (i + a.length)) = itemAt e a (M + i) := fun i => by rw [f1, f1, ← Nat.add_assoc, cyc_add]
  have q2 : ∀ i, itemAt e a (M + (i + a'.length)) = itemAt e a (M + i) := fun i => by rw [f2, f2, ← Nat.add_assoc, cyc_add]
  have hg := shc_gcd (f := fun i => itemAt e a (M + i)) _ _ q1 q2
  have hd := Nat.gcd_dvd_left a.length a'.length
  have hd2 := Nat.gcd_dvd_right a.length a'.length
  have hg0 : 0 < Nat.gcd a.length a'.length := Nat.gcd_pos_of_pos_left _ p1
  generalize Nat.gcd a.length a'.length = g at *
  rcases Nat.lt_or_ge g a.length with hlt | hge
  · exfalso
    refine h.least g hg0 hlt (Nat.mod_eq_zero_of_dvd hd) fun i => ?_
    have e1 := hg (i + e'.length * a.length - e'.length)
    have hle : e'.length ≤ e'.length * a.length := Nat.le_mul_of_pos_right _ p1
    simp only [f1] at e1
    rw [show e'.length + (i + e'.length * a.length - e'.length + g) = i + g + e'.length * a.length by omega, show e'.length + (i + e'.length * a.length - e'.length) = i + e'.length * a.length by omega, cyc_mul, cyc_mul] at e1
    exact e1
  · have : g = a.length := Nat.le_antisymm (Nat.le_of_dvd p1 hd) hge
    rw [← this]
    exact hd2
theorem earlyC_le {e a e' a' : List α} (h : ShortC e a) (h' : ShortC e' a') (hl : a.length = a'.length) (k : ∀ i, itemAt e a i = itemAt e' a' i) : e'.length ≤ e.length := by
  have p1 := h.pos
  rcases Nat.lt_or_ge e.length e'.length with hlt | hge
  · exfalso
    have hlast : e'.getLast? = some (e'.getD (e'.length - 1) default) := by
      rw [List.getLast?_eq_getElem?, List.getD_eq_getElem?_getD, List.getElem?_eq_getElem (by omega)]
      rfl
    have hq := h'.last _ hlast
    have e1 := k (e'.length - 1)
    have e2 := k (e'.length - 1 + a.length)
    rw [itemAt_ge (by omega), itemAt_lt (by omega)] at e1
    rw [itemAt_ge (by omega), itemAt_ge (by omega)] at e2
    rw [show e'.length - 1 + a.length - e.length = e'.length - 1 - e.length + a.length by omega, cyc_add, e1] at e2
    rw [show e'.length - 1 + a.length - e'.length = a'.length - 1 by omega, cyc_lt (by omega)] at e2
    exact hq e2
  · exact hge
theorem ShortC.uniq {e a e' a' : List α} (h : ShortC e a) (h' : ShortC e' a') (k : ∀ i, itemAt e a i = itemAt e' a' i) : e = e' ∧ a = a' := by
  have k' := fun i => (k i).symm
  have hl : a.length = a'.length := Nat.dvd_antisymm (turnC_dvd h h' k) (turnC_dvd h' h k')
  have he : e.length = e'.length := Nat.le_antisymm (earlyC_le h' h hl.symm k') (earlyC_le h h' hl k)
  refine ⟨ext_getD he fun j hj => ?_, ext_getD hl fun j hj => ?_⟩
  · have := k j
    rw [itemAt_lt hj, itemAt_lt (by omega)] at this
    exact this
  · have := k (e.length + j)
    rw [itemAt_ge (by omega), itemAt_ge (by omega), show e.length + j - e.length = j by omega, show e.length + j - e'.length = j by omega, cyc_lt hj, cyc_lt (by omega)] at this
    exact this
end
/-- whether one is among the first ones -/
def isFst (ms : List (Option Int)) (j : Nat) : Bool := (ms.getD j none).isSome && (List.range ms.length).all fun i => !isLt (ms.getD j none) (ms.getD i none)
def firsts (ms : List (Option Int)) : List Int := collN (isFst ms) 0 ms.length
theorem firsts_congr {ms ms' : List (Option Int)} (hl : ms.length = ms'.length) (h1 : ∀ i, i < ms.length → (ms.getD i none).isSome = (ms'.getD i none).isSome) (h2 : ∀ i j, i < ms.length → j < ms.length → isLt (ms.getD i none) (ms.getD j none) = isLt (ms'.getD i none) (ms'.getD j none)) : firsts ms = firsts ms' := by
  unfold firsts collN
  rw [← hl]
  congr 1
  refine List.filter_congr fun j hj => ?_
  have hj' := (List.mem_range'_1.mp hj).2
  unfold isFst
  rw [h1 j (by omega), ← hl]
  congr 1
  rw [Bool.eq_iff_iff, List.all_eq_true, List.all_eq_true]
  constructor
  · intro h i hi
    have := List.mem_range.mp hi
    rw [← h2 j i (by omega) this]
    exact h i hi
  · intro h i hi
    have := List.mem_range.mp hi
    rw [h2 j i (by omega) this]
    exact h i hi
theorem firsts_len (ms : List (Option Int)) : (firsts ms).length ≤ ms.length := by
  unfold firsts collN
  rw [List.length_map]
  exact Nat.le_trans (List.length_filter_le _ _) (by simp)
theorem enumD_range (xs : List D) : enumD 0 xs = (List.range' 0 xs.length).map fun (i : Nat) => .tup [.int (i : Int), xs.getD i .non] := by
  refine List.ext_getElem? fun i => ?_
  rw [enumD_get, List.getElem?_map]
  by_cases h : i < xs.length
  · rw [List.getElem?_eq_getElem h, List.getElem?_range' (by omega)]
    simp [List.getElem?_eq_getElem h]
  · rw [List.getElem?_eq_none (by omega), List.getElem?_eq_none (by simp; omega)]
    rfl
theorem lc_en {c : Ct} {t : Et} {e : Ee} {ρ : Rho} {S : Sto} {p : Nat → Bool} {xs : List D} (h : ∀ j : Nat, j < xs.length → ∃ ρ1, c.put (.tup [.int (j : Int), xs.getD j .non]) ρ = some ρ1 ∧ t ρ1 S = .ok (p j) S ∧ (p j = true → e ρ1 S = .ok (.int (j : Int)) S)) :
    lcL c t e ρ (enumD 0 xs) S = .ok ((collN p 0 xs.length).map D.int) S := by
  obtain ⟨φ, hφ⟩ : ∃ φ : D → Bool, ∀ (j : Nat) x, φ (.tup [.int (j : Int), x]) = p j := ⟨fun d => match d with
    | .tup [.int i, _] => p i.toNat
    | _ => false, fun j x => by simp⟩
  obtain ⟨ψ, hψ⟩ : ∃ ψ : D → D, ∀ (j : Nat) x, ψ (.tup [.int (j : Int), x]) = .int (j : Int) := ⟨fun d => match d with
    | .tup [.int i, _] => .int i
    | _ => .non, fun j x => rfl⟩
  rw [enumD_range, lcL_filter (φ := ψ) (p := φ) _ (fun x hx => by
    simp only [List.mem_map, List.mem_range'_1] at hx
    obtain ⟨j, hj, rfl⟩ := hx
    obtain ⟨ρ1, h1, h2, h3⟩ := h j (by omega)
    exact ⟨ρ1, h1, by rw [hφ]; exact h2, fun hp => by rw [hψ]; exact h3 (by rw [← hφ j]; exact hp)⟩)]
  congr 1
  unfold collN
  rw [List.filter_map, List.map_map, List.map_map]
  have : (List.range' 0 xs.length).filter (φ ∘ fun (i : Nat) => D.tup [.int (i : Int), xs.getD i .non]) = (List.range' 0 xs.length).filter p := List.filter_congr fun j _ => by simp [hφ]
  rw [this]
  congr 1
  funext j
  simp [hψ]
def someI (ms : List (Option Int)) : List Int := ms.filterMap id
section
variable {S : Sto}
theorem some_lc {ms : List (Option Int)} {w : Nat} {f : Es} {ρ : Rho} (hw : w < ρ.length) (hm : ms.length ≤ 1000) (hf : f ρ S = .ok (.it (.lst (ms.map oD))) S) :
    eLc f (.nm w) (eTb (eBin gNotN (eVar w) (eK .non))) (eCall gInt [(eVar w)]) [w] ρ S = .ok (.lst ((someI ms).map D.int)) S := by
  rw [eLc_lst (xs := ms.map oD) (S1 := S) hf (by simp; omega)]
  have hl : (wipeR ρ [w]).length = ρ.length := by simp [wipeR]
  generalize wipeR ρ [w] = ρ1 at hl
  have : ∀ l : List (Option Int), lcL (.nm w) (eTb (eBin gNotN (eVar w) (eK .non))) (eCall gInt [(eVar w)]) ρ1 (l.map oD) S = .ok ((someI l).map D.int) S := by
    intro l
    induction l with
    | nil => rfl
    | cons o l ih =>
      have hv : ∀ d : D, eVar w (ρ1.set w (some d)) S = .ok d S := fun d => by
        simp [eVar, List.getElem?_set_self (show w < ρ1.length by omega)]
      cases o with
      | none => simp [lcL, hv, oD, isNon, ih, someI]
      | some x => simp [lcL, hv, oD, isNon, ih, someI]
  rw [this]
  rfl
theorem gEq_nil_ints (l : List Int) : gEqB false (.lst (l.map D.int)) (.lst []) S = .ok (.bl (decide (l = []))) S := by
  have e := gEqB_ints false l [] S
  simpa using e
theorem someI_mem {ms : List (Option Int)} {x : Int} : x ∈ someI ms ↔ ∃ j, j < ms.length ∧ ms.getD j none = some x := by
  unfold someI
  rw [List.mem_filterMap]
  constructor
  · rintro ⟨o, ho, rfl⟩
    obtain ⟨j, hj, e⟩ := List.getElem_of_mem ho
    exact ⟨j, hj, by rw [List.getD_eq_getElem?_getD, List.getElem?_eq_getElem hj]; exact e⟩
  · rintro ⟨j, hj, e⟩
    rw [List.getD_eq_getElem?_getD, List.getElem?_eq_getElem hj] at e
    exact ⟨ms[j], List.getElem_mem hj, e⟩
theorem isFst_min {ms : List (Option Int)} {m : Int} (h1 : m ∈ someI ms) (h2 : ∀ x ∈ someI ms, m ≤ x) (j : Nat) (hj : j < ms.length) : decide (ms.getD j none = some m) = isFst ms j := by
  unfold isFst
  cases hx : ms.getD j none with
  | none => simp
  | some x =>
    simp only [Option.isSome_some, Bool.true_and]
    rw [Bool.eq_iff_iff, decide_eq_true_eq, List.all_eq_true]
    have hxm := h2 x (someI_mem.mpr ⟨j, hj, hx⟩)
    constructor
    · intro e i hi
      have hi' := List.mem_range.mp hi
      have : x = m := by simpa using e
      subst this
      cases hy : ms.getD i none with
      | none => rfl
      | some y =>
        have := h2 y (someI_mem.mpr ⟨i, hi', hy⟩)
        simp only [isLt, Bool.not_eq_true', decide_eq_false_iff_not]
        omega
    · intro h
      obtain ⟨i, hi, e⟩ := someI_mem.mp h1
      have := h i (List.mem_range.mpr hi)
      rw [e] at this
      simp only [isLt, Bool.not_eq_true', decide_eq_false_iff_not] at this
      congr 1
      omega
theorem firsts_none {ms : List (Option Int)} (h : someI ms = []) : firsts ms = [] := by
  unfold firsts collN
  have : (List.range' 0 ms.length).filter (isFst ms) = [] := by
    rw [List.filter_eq_nil_iff]
    intro j hj
    have hj' := (List.mem_range'_1.mp hj).2
    cases hx : ms.getD j none with
    | none => unfold isFst; rw [hx]; simp
    | some x =>
      have := someI_mem.mpr ⟨j, by omega, hx⟩
      rw [h] at this
      cases this
  rw [this]; rfl
theorem getD_oD (ms : List (Option Int)) {j : Nat} (hj : j < ms.length) : (ms.map oD).getD j .non = oD (ms.getD j none) := by
  rw [List.getD_eq_getElem?_getD, List.getElem?_map, List.getElem?_eq_getElem hj, List.getD_eq_getElem?_getD, List.getElem?_eq_getElem hj]
  rfl
/-- the first ones, as a comprehension tells them -/
theorem first_lc {ms : List (Option Int)} {u w s : Nat} {f : Es} {ρ : Rho} (hu : u < ρ.length) (hw : w < ρ.length) (huw : u ≠ w) (hsu : s ≠ u) (hsw : s ≠ w) (hm : ms.length ≤ 1000) (hne : someI ms ≠ []) (hs : ρ[s]? = some (some (.lst ((someI ms).map D.int)))) (hf : f ρ S = .ok (.en (.lst (ms.map oD))) S) :
    eLc f (.tp [u, w]) (eTb (eBin gEq (eVar w) (eCall gMin [(eVar s)]))) (eVar u) [u, w] ρ S = .ok (.lst ((firsts ms).map D.int)) S := by
  obtain ⟨m, hm1, hm2, hm3⟩ := gMin_ints (S := S) hne
  rw [eLc_en (xs := ms.map oD) (S1 := S) hf (by simp; omega)]
  have hl : (wipeR ρ [u, w]).length = ρ.length := by simp [wipeR]
  have hs1 : (wipeR ρ [u, w])[s]? = some (some (.lst ((someI ms).map D.int))) := by
    simp only [wipeR, List.foldl]
    first
    | rw [List.getElem?_set_ne (fun z => hsu z.symm), List.getElem?_set_ne (fun z => hsw z.symm)]
    | rw [List.getElem?_set_ne (fun z => hsw z.symm), List.getElem?_set_ne (fun z => hsu z.symm)]
    exact hs
  generalize wipeR ρ [u, w] = ρ1 at hl hs1
  rw [lc_en (p := isFst ms) (xs := ms.map oD) (fun j hj => ?_)]
  · rw [List.length_map]; rfl
  · rw [List.length_map] at hj
    refine ⟨(ρ1.set u (some (.int (j : Int)))).set w (some (oD (ms.getD j none))), by rw [getD_oD ms hj]; rfl, ?_, fun _ => ?_⟩
    · have v1 : eVar w ((ρ1.set u (some (.int (j : Int)))).set w (some (oD (ms.getD j none)))) S = .ok (oD (ms.getD j none)) S := by
        simp only [eVar]; rw [List.getElem?_set_self (by rw [List.length_set]; omega)]
      have v2 : eVar s ((ρ1.set u (some (.int (j : Int)))).set w (some (oD (ms.getD j none)))) S = .ok (.lst ((someI ms).map D.int)) S := by
        simp only [eVar]; rw [List.getElem?_set_ne (fun z => hsw z.symm), List.getElem?_set_ne (fun z => hsu z.symm), hs1]
      have q := gEq_oD (ms.getD j none) (some m) S
      rw [show oD (some m) = D.int m from rfl] at q
      simp only [eTb_ap, eBin_ap, v1, R.bind_ok, eCall_ap, eArgs_cons, eArgs_nil, v2, hm3, q, isFst_min hm1 hm2 j hj]
    · simp only [eVar]; rw [List.getElem?_set_ne (fun z => huw z.symm), List.getElem?_set_self (by omega)]
theorem first_of_eq {ms : List (Option Int)} (hm : ms.length ≤ 1000) : F_first_of [.lst (ms.map oD)] S = .ok (.tup ((firsts ms).map D.int)) S := by
  have h1 := some_lc (S := S) (ms := ms) (w := 2) (f := eItS (eVar 0)) (ρ := [some (.lst (ms.map oD)), none, none, none]) (by simp) hm (by simp)
  by_cases hne : someI ms = []
  · have h2 := gEq_nil_ints (S := S) (someI ms)
    rw [decide_eq_true hne] at h2
    rw [firsts_none hne]
    simp [F_first_of, fnP_ap, h1, h2]
  · have h2 := gEq_nil_ints (S := S) (someI ms)
    rw [decide_eq_false hne] at h2
    have h3 := first_lc (S := S) (ms := ms) (u := 3) (w := 2) (s := 1) (f := eEn (eVar 0)) (ρ := [some (.lst (ms.map oD)), some (.lst ((someI ms).map D.int)), none, none]) (by simp) (by simp) (by omega) (by omega) (by omega) hm hne rfl (by simp [isL])
    simp [F_first_of, fnP_ap, h1, h2, h3]
end
end DL
/-! winners -/
namespace DL
open PySem L2
def lD (l : List Int) : D := .tup (l.map D.int)
theorem lD_inj (a b : List Int) (h : lD a = lD b) : a = b := map_int_inj (by simpa [lD] using h)
/-- the first ones with depth i + 1 -/
def fsts (cs : List Cal) (i : Nat) : List Int := firsts (cs.map fun c => c.at i)
theorem fsts_len (cs : List Cal) (i : Nat) : (fsts cs i).length ≤ cs.length := by
  have := firsts_len (cs.map fun c => c.at i)
  simpa [fsts] using this
theorem getD_at (cs : List Cal) (i : Nat) {k : Nat} (h : k < cs.length) : (cs.map fun c => c.at i).getD k none = (cs[k]).at i := by
  rw [List.getD_eq_getElem?_getD, List.getElem?_map, List.getElem?_eq_getElem h]
  rfl
theorem fsts_turn {cs : List Cal} {s T : Nat} (f : SetF cs s T) {i : Nat} (hi : s ≤ i) : fsts cs (i + T) = fsts cs i := by
  refine firsts_congr (by simp) (fun k hk => ?_) (fun k j hk hj => ?_)
  · rw [List.length_map] at hk
    rw [getD_at cs _ hk, getD_at cs _ hk]
    have hm := List.getElem_mem hk
    have e := Cal.at_turn (f.dvd _ hm) i 1 (Nat.le_trans (f.len _ hm) hi)
    rw [Nat.one_mul] at e
    rw [e, Option.isSome_map]
  · rw [List.length_map] at hk hj
    rw [getD_at cs _ hk, getD_at cs _ hk, getD_at cs _ hj, getD_at cs _ hj]
    exact f.turn (List.getElem_mem hk) (List.getElem_mem hj) hi
theorem fsts_turns {cs : List Cal} {s T : Nat} (f : SetF cs s T) {i : Nat} (hi : s ≤ i) : ∀ k, fsts cs (i + k * T) = fsts cs i
  | 0 => by simp
  | k + 1 => by rw [Nat.succ_mul, ← Nat.add_assoc, fsts_turn f (by have := Nat.zero_le (k * T); omega), fsts_turns f hi k]
/-- items that come again from an index on, told by a list ahead of it and a turn -/
theorem itemAt_of {α : Type} [Inhabited α] {g : Nat → α} {s T : Nat} (hT : 0 < T) (h : ∀ i, s ≤ i → ∀ k, g (i + k * T) = g i) (i : Nat) : itemAt ((List.range' 0 s).map g) ((List.range' s T).map g) i = g i := by
  have hl : ((List.range' 0 s).map g).length = s := by simp
  have hl2 : ((List.range' s T).map g).length = T := by simp
  by_cases c : i < s
  · rw [itemAt_lt (by omega), List.getD_eq_getElem?_getD, List.getElem?_map, List.getElem?_range' (by omega)]
    simp
  · rw [itemAt_ge (by omega), hl]
    unfold cyc
    rw [hl2]
    have hm := Nat.mod_lt (i - s) hT
    rw [List.getD_eq_getElem?_getD, List.getElem?_map, List.getElem?_range' (by omega)]
    have e := h (s + (i - s) % T) (by omega) ((i - s) / T)
    have : s + (i - s) % T + (i - s) / T * T = i := by
      have := Nat.div_add_mod (i - s) T
      rw [Nat.mul_comm] at this
      omega
    rw [this] at e
    simp [e]
section
variable {S : Sto}
theorem first_at_eq {cs : List Cal} (hc : ∀ c ∈ cs, CalB c) (hl : cs.length ≤ 3) {d : Int} (h1 : 1 ≤ d) (h2 : d ≤ 1000000000000000000000000000000) : F_first_at [.lst (cs.map Cal.d), .int d] S = .ok (lD (fsts cs (d - 1).toNat)) S := by
  have hlc : eLc (eItS (eVar 0)) (.nm 2) tYesD (eCall F_minute_in [(eVar 2), (eVar 1)]) [2] [some (.lst (cs.map Cal.d)), some (.int d), none] S = .ok (.lst ((cs.map fun c => c.at (d - 1).toNat).map oD)) S := by
    rw [eLc_lst (xs := cs.map Cal.d) (S1 := S) (by simp) (by simp; omega)]
    rw [lcL_map (φ := fun x => oD ((Cal.ofD x).at (d - 1).toNat)) (cs.map Cal.d) (fun x hx => by
      simp only [List.mem_map] at hx
      obtain ⟨c, h, rfl⟩ := hx
      have := minute_eq (S := S) (hc c h) h1 h2
      exact ⟨_, rfl, by simp [wipeR, this, Cal.ofD_d]⟩)]
    simp [List.map_map, Function.comp_def, Cal.ofD_d]
  have hf := first_of_eq (S := S) (ms := cs.map fun c => c.at (d - 1).toNat) (by simp; omega)
  simp only [F_first_at, fnP_ap, sRt_ap, eCall_ap, eArgs_cons, eArgs_nil]
  simp only [List.map_cons, List.map_nil, List.cons_append, List.nil_append, List.replicate, Nat.reduceSub, hlc, R.bind_ok, hf]
  simp [lD, fsts]
/-- depths from one to another one, each told by a function -/
theorem lc_depths {f : Es} {w : Nat} {e : Ee} {ρ : Rho} {g : Nat → List Int} {a k : Nat} (hk : k ≤ 16777216) (hf : f ρ S = .ok (.rng ((a : Int) + 1) k) S) (he : ∀ i, a ≤ i → i < a + k → e ((wipeR ρ [w]).set w (some (.int ((i : Int) + 1)))) S = .ok (lD (g i)) S) :
    eLc f (.nm w) tYesD e [w] ρ S = .ok (.lst (((List.range' a k).map g).map lD)) S := by
  rw [eLc_rng hf hk]
  rw [show (a : Int) + 1 = ((a + 1 : Nat) : Int) from rfl, rgN_range]
  rw [lcL_map (φ := fun x => match x with
    | .int i => lD (g (i.toNat - 1))
    | _ => .non) _ (fun x hx => by
    simp only [List.mem_map, List.mem_range'_1] at hx
    obtain ⟨j, hj, rfl⟩ := hx
    have := he (j - 1) (by omega) (by omega)
    rw [show ((j - 1 : Nat) : Int) + 1 = (j : Int) by omega] at this
    exact ⟨_, rfl, by simpa using this⟩)]
  simp only [R.calm_ok, R.bind_ok]
  congr 2
  rw [List.map_map, List.map_map]
  refine List.ext_getElem (by simp) fun i h1 h2 => ?_
  simp
  rw [show ((a : Int) + 1 + (i : Int)).toNat - 1 = a + i by omega]
theorem winners_by_eq {cs : List Cal} (hc : ∀ c ∈ cs, CalB c) (hl1 : 1 ≤ cs.length) (hl3 : cs.length ≤ 3) :
    ∃ e a : List (List Int), F_winners_by [.lst (cs.map Cal.d)] S = .ok (.tup [.tup (e.map lD), .tup (a.map lD)]) S ∧ ShortC e a ∧ (∀ i, itemAt e a i = fsts cs i) ∧ e.length ≤ 16000000 ∧ a.length ≤ 4000 ∧ ∀ x, x ∈ e ∨ x ∈ a → x.length ≤ 3 := by
  obtain ⟨s, e1, f⟩ := settled_from_eq (S := S) hc hl1 hl3
  have hT := f.le
  have hp := f.pos
  have hs := f.sb
  generalize tn cs = T at *
  have fa : ∀ i : Nat, i < 16002000 → F_first_at [.lst (cs.map Cal.d), .int ((i : Int) + 1)] S = .ok (lD (fsts cs i)) S := fun i hi => by
    have := first_at_eq (S := S) hc hl3 (d := (i : Int) + 1) (by omega) (by omega)
    rw [show ((i : Int) + 1 - 1).toNat = i by omega] at this
    exact this
  have sm : ∀ x : Int, 0 ≤ x → x ≤ 16002000 → smallI x = true := fun x h1 h2 => smallI_mk (by omega) (by omega)
  have c1 : eLc (eRng2 (eK (.int 1)) (eVar 1)) (.nm 4) tYesD (eCall F_first_at [(eVar 0), (eVar 4)]) [4] [some (.lst (cs.map Cal.d)), some (.int ((s : Int) + 1)), some (.int (T : Int)), none, none] S = .ok (.lst (((List.range' 0 s).map (fsts cs)).map lD)) S := by
    refine lc_depths (a := 0) (k := s) (by omega) ?_ (fun i _ hi => by simp [wipeR, fa i (by omega)])
    have a1 := sm 1 (by omega) (by omega)
    have a2 := sm ((s : Int) + 1) (by omega) (by omega)
    simp [a1, a2]
    try omega
  have c2 : ∀ v3 : D, eLc (eRng2 (eVar 1) (eBin gAdd (eVar 1) (eVar 2))) (.nm 4) tYesD (eCall F_first_at [(eVar 0), (eVar 4)]) [4] [some (.lst (cs.map Cal.d)), some (.int ((s : Int) + 1)), some (.int (T : Int)), some v3, none] S = .ok (.lst (((List.range' s T).map (fsts cs)).map lD)) S := by
    intro v3
    refine lc_depths (a := s) (k := T) (by omega) ?_ (fun i _ hi => by simp [wipeR, fa i (by omega)])
    have a1 := sm ((s : Int) + 1 + (T : Int)) (by omega) (by omega)
    have a2 := sm ((s : Int) + 1) (by omega) (by omega)
    simp [a1, a2]
    try omega
  have hlen : ∀ x, x ∈ (List.range' 0 s).map (fsts cs) ∨ x ∈ (List.range' s T).map (fsts cs) → x.length ≤ 3 := by
    intro x hx
    have : ∃ i, x = fsts cs i := by
      rcases hx with hx | hx <;> (obtain ⟨i, _, rfl⟩ := List.mem_map.mp hx; exact ⟨i, rfl⟩)
    obtain ⟨i, rfl⟩ := this
    exact Nat.le_trans (fsts_len cs i) hl3
  obtain ⟨e', a', e2, g1, g2, g3, g4, g5, g6⟩ := shortened_eq (S := S) (f := lD) lD_inj (w := 3) (n := 1) (by omega) (e := (List.range' 0 s).map (fsts cs)) (a := (List.range' s T).map (fsts cs)) (fun x hx => plN_ints (hlen x hx)) (by simp; omega) (by simp; omega) (by simp; omega)
  refine ⟨e', a', ?_, g1, fun i => (g2 i).trans (itemAt_of hp (fun i hi k => fsts_turns f hi k) i), by simp at g3; omega, by simp at g4; omega, fun x hx => hlen x (hx.imp (g5 x) (g6 x))⟩
  rw [show F_winners_by [.lst (cs.map Cal.d)] S = popR S.length _ from fnP_ap _ _ _ _ _]
  have st1 : (sSt (eCall F_settled_from [(eVar 0)]) (gTp 2 (gsCons (gNm 1) (gsCons (gNm 2) gsNil)))) ([D.lst (cs.map Cal.d)].map some ++ List.replicate (5 - 1) none) S = .nx [some (.lst (cs.map Cal.d)), some (.int ((s : Int) + 1)), some (.int (T : Int)), none, none] S := by simp [e1]
  simp only [sSeq_ap]
  rw [st1]
  simp only [DL.F.seq_nx, sSeq_ap, sSet_ap, c1, DL.F.ofR_ok, List.set, sRt_ap, eCall_ap, eArgs_cons, eArgs_nil, eVar3, R.bind_ok, c2, e2]
  simp
/-- snails -/
def ssD (ss : List Sn) : D := .tup (ss.map Sn.d)
structure SsOk (ss : List Sn) : Prop where
  ok : ∀ s ∈ ss, s.Ok
  l1 : 1 ≤ ss.length
  l3 : ss.length ≤ 3
theorem need_snails_eq {ss : List Sn} (h : SsOk ss) : F_need_snails [ssD ss] S = .ok .non S := by
  have htg : tg (ssD ss) = true := by
    simp only [ssD, tg]
    exact tgs_of fun x hx => by
      simp only [List.mem_map] at hx
      obtain ⟨s, _, rfl⟩ := hx
      exact s.tg
  have his : areSn (ssD ss) = true := by
    have h1 := h.l1
    have h3 := h.l3
    simp only [ssD, areSn, Bool.and_eq_true, decide_eq_true_eq, List.all_eq_true, List.length_map]
    refine ⟨⟨by omega, by omega⟩, fun x hx => ?_⟩
    simp only [List.mem_map] at hx
    obtain ⟨s, hs, rfl⟩ := hx
    exact Sn.is (h.ok s hs)
  simp [F_need_snails, fnP_ap, are_good_snails_eq htg, his]
def calsOf (ss : List Sn) : List Cal := ss.map Sn.cal
theorem calsOf_b {ss : List Sn} (h : SsOk ss) : ∀ c ∈ calsOf ss, CalB c := fun c hc => by
  obtain ⟨s, hs, rfl⟩ := List.mem_map.mp hc
  exact Sn.calB (h.ok s hs)
theorem all_calendars_eq {ss : List Sn} (h : SsOk ss) : F_all_calendars [ssD ss] S = .ok (.lst ((calsOf ss).map Cal.d)) S := by
  have h3 := h.l3
  have hlc : eLc (eItS (eVar 0)) (.nm 1) tYesD (eCall F_calendar_of [(eVar 1)]) [1] [some (ssD ss), none] S = .ok (.lst ((calsOf ss).map Cal.d)) S := by
    rw [eLc_tup (xs := ss.map Sn.d) (S1 := S) (by simp [ssD]) (by simp; omega)]
    have : ∀ l : List Sn, (∀ s ∈ l, s.Ok) → lcL (.nm 1) tYesD (eCall F_calendar_of [(eVar 1)]) (wipeR [some (ssD ss), none] [1]) (l.map Sn.d) S = .ok ((calsOf l).map Cal.d) S := by
      intro l
      induction l with
      | nil => intro _; rfl
      | cons s l ih =>
        intro hl
        have e := calendar_of_eq (S := S) (hl s List.mem_cons_self)
        have ih := ih fun x hx => hl x (List.mem_cons_of_mem _ hx)
        simp [wipeR] at ih
        simp [lcL, wipeR, e, ih, calsOf]
    rw [this ss h.ok]
    rfl
  simp only [F_all_calendars, fnP_ap, sRt_ap]
  simp only [List.map_cons, List.map_nil, List.cons_append, List.nil_append, List.replicate, Nat.reduceSub, hlc]
  simp
theorem winners_eq {ss : List Sn} (h : SsOk ss) {d : Int} (h1 : 1 ≤ d) (h2 : d ≤ 1000000000000000000000000000000) : F_winners [ssD ss, .int d] S = .ok (lD (fsts (calsOf ss) (d - 1).toNat)) S := by
  have h3 := h.l3
  have e := first_at_eq (S := S) (calsOf_b h) (by simpa [calsOf] using h3) h1 h2
  simp [F_winners, fnP_ap, need_snails_eq h, need_number_eq h1 h2, all_calendars_eq h, e]
/-- what the calendar of the first ones is -/
structure WinC (ss : List Sn) (e a : List (List Int)) : Prop where
  short : ShortC e a
  «at» : ∀ i, itemAt e a i = fsts (calsOf ss) i
  le : e.length ≤ 16000000
  la : a.length ≤ 4000
  l3 : ∀ x, x ∈ e ∨ x ∈ a → x.length ≤ 3
theorem WinC.uniq {ss : List Sn} {e a e' a' : List (List Int)} (w : WinC ss e a) (w' : WinC ss e' a') : e = e' ∧ a = a' := w.short.uniq w'.short fun i => (w.at i).trans (w'.at i).symm
theorem winC_ex {ss : List Sn} (h : SsOk ss) : ∃ e a, WinC ss e a ∧ ∀ S : Sto, F_winners_by [.lst ((calsOf ss).map Cal.d)] S = .ok (.tup [.tup (e.map lD), .tup (a.map lD)]) S := by
  have h1 := h.l1
  have h3 := h.l3
  obtain ⟨e, a, _, g1, g2, g3, g4, g5⟩ := winners_by_eq (S := []) (calsOf_b h) (by simpa [calsOf] using h1) (by simpa [calsOf] using h3)
  refine ⟨e, a, ⟨g1, g2, g3, g4, g5⟩, fun S => ?_⟩
  obtain ⟨e', a', k0, k1, k2, k3, k4, k5⟩ := winners_by_eq (S := S) (calsOf_b h) (by simpa [calsOf] using h1) (by simpa [calsOf] using h3)
  obtain ⟨rfl, rfl⟩ := WinC.uniq ⟨g1, g2, g3, g4, g5⟩ ⟨k1, k2, k3, k4, k5⟩
  exact k0
theorem winner_calendar_eq {ss : List Sn} (h : SsOk ss) {d : D} (e : F_winners_by [.lst ((calsOf ss).map Cal.d)] S = .ok d S) : F_winner_calendar [ssD ss] S = .ok d S := by
  simp [F_winner_calendar, fnP_ap, need_snails_eq h, all_calendars_eq h, e]
end
end DL
/-! how, first_depth; what the laws ask of calendars of items -/
namespace DL
open PySem L2
theorem gIn_lD (x : Int) (l : List Int) (S : Sto) : gInB false (.int x) (lD l) S = .ok (.bl (decide (x ∈ l))) S := by
  have h1 : (l.map D.int).all flatD = true := by simp [flatD]
  have h2 : (l.map D.int).any (fun y => eqF y (.int x)) = decide (x ∈ l) := by
    clear h1
    induction l with
    | nil => rfl
    | cons y l ih =>
      rw [List.map_cons, List.any_cons, ih]
      show (y == x || decide (x ∈ l)) = decide (x ∈ y :: l)
      by_cases c : y = x
      · subst c; simp
      · have c2 : x ≠ y := fun z => c z.symm
        simp [c, c2]
  unfold gInB lD
  simp only [view_tup_, show flatD (.int x) = true from rfl, h1, h2, Bool.and_self, if_true]
  rfl
theorem gInB_bl (neg : Bool) (b : Bool) (l : List Bool) (S : Sto) : gInB neg (.bl b) (.lst (l.map D.bl)) S = .ok (.bl (if neg then !decide (b ∈ l) else decide (b ∈ l))) S := by
  have h1 : (l.map D.bl).all flatD = true := by simp [flatD]
  have h2 : (l.map D.bl).any (fun y => eqF y (.bl b)) = decide (b ∈ l) := by
    clear h1
    induction l with
    | nil => rfl
    | cons y l ih =>
      rw [List.map_cons, List.any_cons, ih]
      show (y == b || decide (b ∈ l)) = decide (b ∈ y :: l)
      by_cases c : y = b
      · subst c; simp
      · have c2 : b ≠ y := fun z => c z.symm
        simp [c, c2]
  unfold gInB
  simp only [view_lst_, show flatD (.bl b) = true from rfl, h1, h2, Bool.and_self, if_true]
section
variable {S : Sto}
/-- truths -/
def inL (x : Int) (l : List (List Int)) : List Bool := l.map fun y => decide (x ∈ y)
theorem in_lc {x : Int} {l : List (List Int)} {i w : Nat} {f : Es} {ρ : Rho} (hw : w < ρ.length) (hiw : i ≠ w) (hi : ρ[i]? = some (some (.int x))) (hl : l.length ≤ 16700000) (hf : f ρ S = .ok (.it (.tup (l.map lD))) S) :
    eLc f (.nm w) tYesD (eBin gIn (eVar i) (eVar w)) [w] ρ S = .ok (.lst ((inL x l).map D.bl)) S := by
  rw [eLc_tup (xs := l.map lD) (S1 := S) hf (by simp; omega)]
  have hlw : (wipeR ρ [w]).length = ρ.length := by simp [wipeR]
  have hiw1 : (wipeR ρ [w])[i]? = some (some (.int x)) := by
    simp only [wipeR, List.foldl]
    rw [List.getElem?_set_ne (fun z => hiw z.symm)]
    exact hi
  generalize wipeR ρ [w] = ρ1 at hlw hiw1
  have : ∀ l : List (List Int), lcL (.nm w) tYesD (eBin gIn (eVar i) (eVar w)) ρ1 (l.map lD) S = .ok ((inL x l).map D.bl) S := by
    intro l
    induction l with
    | nil => rfl
    | cons y l ih =>
      have v1 : eVar i (ρ1.set w (some (lD y))) S = .ok (.int x) S := by simp only [eVar]; rw [List.getElem?_set_ne (fun z => hiw z.symm), hiw1]
      have v2 : eVar w (ρ1.set w (some (lD y))) S = .ok (lD y) S := by simp only [eVar]; rw [List.getElem?_set_self (by omega)]
      simp only [List.map_cons, lcL, put_nm, tYes_ap, R.calm_ok, R.bind_ok, eBin_ap, v1, v2, gIn_lD, ih, inL, List.map_cons]
  rw [this]
  rfl
theorem need_index_eq {ds : List D} {i : Int} (h0 : 0 ≤ i) (h1 : i < ds.length) : F_need_index [.tup ds, .int i] S = .ok .non S := by
  have ht := is_number_eq (S := S) (v := .int i) rfl 0 ((ds.length : Int) - 1)
  have : isNum (.int i) 0 ((ds.length : Int) - 1) = true := by simp [isNum]; omega
  rw [this] at ht
  simp [F_need_index, fnP_ap, ht]
def howW (l : List Bool) : D := if true ∈ l then (if false ∈ l then .str (Str.ofString "sometimes") else .str (Str.ofString "always")) else .str (Str.ofString "never")
theorem how_eq {ss : List Sn} (h : SsOk ss) {e a : List (List Int)} (w : WinC ss e a) (hw : ∀ S : Sto, F_winners_by [.lst ((calsOf ss).map Cal.d)] S = .ok (.tup [.tup (e.map lD), .tup (a.map lD)]) S) {i : Int} (h0 : 0 ≤ i) (h1 : i < ss.length) :
    F_how [ssD ss, .int i] S = .ok (howW (inL i (e ++ a))) S := by
  have hle := w.le
  have hla := w.la
  have ga := gAdd_tup S (xs := e.map lD) (ys := a.map lD) (by simp; omega)
  rw [← List.map_append] at ga
  have hlc := in_lc (S := S) (x := i) (l := e ++ a) (i := 1) (w := 5) (f := eItS (eBin gAdd (eVar 2) (eVar 3))) (ρ := [some (ssD ss), some (.int i), some (.tup (e.map lD)), some (.tup (a.map lD)), none, none]) (by simp) (by omega) rfl (by simp; omega) (by simp [ga, -List.map_append])
  have ni := need_index_eq (S := S) (ds := ss.map Sn.d) h0 (by simpa using h1)
  have q1 := gInB_bl true true (inL i (e ++ a)) S
  have q2 := gInB_bl false false (inL i (e ++ a)) S
  have hssD : ssD ss = .tup (ss.map Sn.d) := rfl
  unfold howW
  by_cases c : true ∈ inL i (e ++ a)
  · by_cases c2 : false ∈ inL i (e ++ a)
    · simp [c, c2] at q1 q2
      simp [F_how, fnP_ap, need_snails_eq h, ← hssD, ni, all_calendars_eq h, hw, hlc, q1, q2, c, c2]
      rw [show D.tup (ss.map Sn.d) = ssD ss from rfl] at ni
      simp [ni, hlc, q1, q2, all_calendars_eq h, hw]
    · simp [c, c2] at q1 q2
      rw [show D.tup (ss.map Sn.d) = ssD ss from rfl] at ni
      simp [F_how, fnP_ap, need_snails_eq h, ni, all_calendars_eq h, hw, hlc, q1, q2, c, c2]
  · simp [c] at q1 q2
    rw [show D.tup (ss.map Sn.d) = ssD ss from rfl] at ni
    simp [F_how, fnP_ap, need_snails_eq h, ni, all_calendars_eq h, hw, hlc, q1, q2, c]
end
end DL
/-! first_depth; what the laws ask of calendars of items -/
namespace DL
open PySem L2
theorem lc_en2 {c : Ct} {t : Et} {e : Ee} {ρ : Rho} {S : Sto} {p : Nat → Bool} {g : Nat → Int} {xs : List D} (h : ∀ j : Nat, j < xs.length → ∃ ρ1, c.put (.tup [.int (j : Int), xs.getD j .non]) ρ = some ρ1 ∧ t ρ1 S = .ok (p j) S ∧ (p j = true → e ρ1 S = .ok (.int (g j)) S)) :
    lcL c t e ρ (enumD 0 xs) S = .ok ((((List.range' 0 xs.length).filter p).map g).map D.int) S := by
  obtain ⟨φ, hφ⟩ : ∃ φ : D → Bool, ∀ (j : Nat) x, φ (.tup [.int (j : Int), x]) = p j := ⟨fun d => match d with
    | .tup [.int i, _] => p i.toNat
    | _ => false, fun j x => by simp⟩
  obtain ⟨ψ, hψ⟩ : ∃ ψ : D → D, ∀ (j : Nat) x, ψ (.tup [.int (j : Int), x]) = .int (g j) := ⟨fun d => match d with
    | .tup [.int i, _] => .int (g i.toNat)
    | _ => .non, fun j x => by simp⟩
  rw [enumD_range, lcL_filter (φ := ψ) (p := φ) _ (fun x hx => by
    simp only [List.mem_map, List.mem_range'_1] at hx
    obtain ⟨j, hj, rfl⟩ := hx
    obtain ⟨ρ1, h1, h2, h3⟩ := h j (by omega)
    exact ⟨ρ1, h1, by rw [hφ]; exact h2, fun hp => by rw [hψ]; exact h3 (by rw [← hφ j]; exact hp)⟩)]
  congr 1
  rw [List.filter_map, List.map_map, List.map_map]
  have : (List.range' 0 xs.length).filter (φ ∘ fun (i : Nat) => D.tup [.int (i : Int), xs.getD i .non]) = (List.range' 0 xs.length).filter p := List.filter_congr fun j _ => by simp [hφ]
  rw [this]
  congr 1
  funext j
  simp [hψ]
/-- the first place at which it holds -/
def fdI (p : Nat → Bool) (n : Nat) : Option Nat := (List.range' 0 n).find? p
theorem find_congr' {α : Type} {p q : α → Bool} : ∀ (l : List α), (∀ x ∈ l, p x = q x) → l.find? p = l.find? q
  | [], _ => rfl
  | x :: l, h => by
    rw [List.find?_cons, List.find?_cons, h x List.mem_cons_self, find_congr' l fun y hy => h y (List.mem_cons_of_mem _ hy)]
theorem findD_bl : ∀ (bs : List Bool) (k : Nat), findD (.bl true) k (bs.map D.bl) = (List.range' k bs.length).find? fun j => bs.getD (j - k) false
  | [], k => rfl
  | b :: bs, k => by
    simp only [List.map_cons, findD, List.length_cons, List.range'_succ, List.find?_cons, Nat.sub_self, List.getD_cons_zero]
    have e1 : eqF (.bl b) (.bl true) = b := by cases b <;> rfl
    rw [e1]
    cases b with
    | true => rfl
    | false =>
      simp only [Bool.false_eq_true, if_false]
      rw [findD_bl bs (k + 1)]
      refine find_congr' _ fun j hj => ?_
      have := List.mem_range'_1.mp hj
      rw [show j - k = (j - (k + 1)) + 1 by omega, List.getD_cons_succ]
theorem find_some {p : Nat → Bool} {n : Nat} : (fdI p n).isSome = (List.range' 0 n).any p := by
  unfold fdI
  induction (List.range' 0 n) with
  | nil => rfl
  | cons x l ih =>
    rw [List.find?_cons, List.any_cons]
    cases p x with
    | true => rfl
    | false => simpa using ih
section
variable {S : Sto}
def inP (x : Int) (l : List (List Int)) (j : Nat) : Bool := decide (x ∈ l.getD j [])
theorem getD_lD {l : List (List Int)} {j : Nat} (h : j < l.length) : (l.map lD).getD j .non = lD (l.getD j []) := by
  rw [List.getD_eq_getElem?_getD, List.getElem?_map, List.getElem?_eq_getElem h, List.getD_eq_getElem?_getD, List.getElem?_eq_getElem h]
  rfl
theorem first_depth_eq {ss : List Sn} (h : SsOk ss) {e a : List (List Int)} (w : WinC ss e a) (hw : ∀ S : Sto, F_winners_by [.lst ((calsOf ss).map Cal.d)] S = .ok (.tup [.tup (e.map lD), .tup (a.map lD)]) S) {i : Int} (h0 : 0 ≤ i) (h1 : i < ss.length) :
    F_first_depth [ssD ss, .int i] S = .ok (oD ((fdI (inP i (e ++ a)) (e ++ a).length).map fun (j : Nat) => (j : Int) + 1)) S := by
  have hle := w.le
  have hla := w.la
  have ga := gAdd_tup S (xs := e.map lD) (ys := a.map lD) (by simp; omega)
  rw [← List.map_append] at ga
  have ni := need_index_eq (S := S) (ds := ss.map Sn.d) h0 (by simpa using h1)
  rw [show D.tup (ss.map Sn.d) = ssD ss from rfl] at ni
  have hlc : eLc (eEn (eBin gAdd (eVar 2) (eVar 3))) (.tp [5, 6]) (eTb (eBin gIn (eVar 1) (eVar 6))) (eBin gAdd (eVar 5) (eK (.int 1))) [5, 6] [some (ssD ss), some (.int i), some (.tup (e.map lD)), some (.tup (a.map lD)), none, none, none] S = .ok (.lst ((((List.range' 0 (e ++ a).length).filter (inP i (e ++ a))).map fun (j : Nat) => (j : Int) + 1).map D.int)) S := by
    rw [eLc_enT (xs := (e ++ a).map lD) (S1 := S) (by simp [ga, -List.map_append]) (by simp; omega)]
    rw [lc_en2 (p := inP i (e ++ a)) (g := fun (j : Nat) => (j : Int) + 1) (xs := (e ++ a).map lD) (fun j hj => ?_)]
    · rw [List.length_map]; rfl
    · rw [List.length_map] at hj
      refine ⟨_, rfl, ?_, fun _ => by simp [wipeR]⟩
      rw [getD_lD hj]
      simp [wipeR, gIn_lD, inP]
  rw [show F_first_depth [ssD ss, .int i] S = popR S.length _ from fnP_ap _ _ _ _ _]
  have hpre : ∀ k : Sm, (sSeq (sEx (eCall F_need_snails [(eVar 0)])) (sSeq (sEx (eCall F_need_index [(eVar 0), (eVar 1)])) (sSeq (sSt (eCall F_winners_by [(eCall F_all_calendars [(eVar 0)])]) (gTp 2 (gsCons (gNm 2) (gsCons (gNm 3) gsNil)))) k))) ([ssD ss, .int i].map some ++ List.replicate (7 - 2) none) S = k [some (ssD ss), some (.int i), some (.tup (e.map lD)), some (.tup (a.map lD)), none, none, none] S := by
    intro k
    simp [need_snails_eq h, ni, all_calendars_eq h, hw]
  rw [hpre]
  simp only [sSeq_ap, sSet_ap, hlc, DL.F.ofR_ok, DL.F.seq_nx, List.set]
  generalize hL : (List.range' 0 (e ++ a).length).filter (inP i (e ++ a)) = L
  have hh : fdI (inP i (e ++ a)) (e ++ a).length = L.head? := by
    unfold fdI
    rw [← hL, List.head?_filter]
  rw [hh]
  have hq := gEqB_ints true (L.map fun (j : Nat) => (j : Int) + 1) [] S
  simp only [if_true, List.map_nil] at hq
  cases L with
  | nil => simp at hq; simp [hq, oD]
  | cons x L =>
    have i0 : gIdx (.lst (((x :: L).map fun (j : Nat) => (j : Int) + 1).map D.int)) (.int 0) S = .ok (.int ((x : Int) + 1)) S := gIdx_lst _ (atI0 _ _)
    simp only [List.map_cons] at hq i0
    simp at hq i0
    simp [hq, i0, oD]
section
variable {α : Type} [DecidableEq α] [Inhabited α] {f : α → D}
theorem law_short_eq (hf : ∀ a b, f a = f b → a = b) {w n : Nat} (hn64 : n < 64) {e a : List α} (hp : ∀ x, x ∈ e ∨ x ∈ a → plN w n (f x) = true) (hs : ShortC e a) (ha : a.length ≤ 4000) (he : e.length ≤ 16700000) :
    F__law_is_short [.tup (e.map f), .tup (a.map f)] S = .ok (.bl true) S := by
  have h0 := hs.pos
  have hane : a ≠ [] := by intro z; rw [z] at h0; simp at h0
  have hw : plN (max w 16700000) (n + 1) (.tup (a.map f)) = true := plN_tupl (by omega) (fun x hx => plN_mono (Nat.le_max_left _ _) (Nat.le_refl _) (hp x (.inr hx)))
  have hwe : plN (max w 16700000) (n + 1) (.tup (e.map f)) = true := plN_tupl (by omega) (fun x hx => plN_mono (Nat.le_max_left _ _) (Nat.le_refl _) (hp x (.inl hx)))
  have hnil : plN (max w 16700000) (n + 1) (.tup (([] : List α).map f)) = true := plN_tupl (by simp) (fun x hx => by cases hx)
  have hinj : ∀ x y : List α, D.tup (x.map f) = D.tup (y.map f) → x = y := fun x y h => map_inj hf x y (by simpa using h)
  have q1 := gEq_inj (f := fun l : List α => D.tup (l.map f)) hinj hw hnil (by omega) false S
  have q2 := gEq_inj (f := fun l : List α => D.tup (l.map f)) hinj hwe hnil (by omega) false S
  simp only [List.map_nil, Bool.false_eq_true, if_false, decide_eq_false hane] at q1 q2
  have hs1 : smallI 1 = true := by decide
  have hs2 : smallI (a.length : Int) = true := smallI_mk (by omega) (by omega)
  obtain ⟨z, lp⟩ := forR_test (S := S) (i := 2) (t := (eAndT (eTb (eBin gEq (eBin gMod (eCall gLen [(eVar 1)]) (eVar 2)) (eK (.int 0)))) (eTb (eBin gEq (eBin gAdd (eSl (eVar 1) (ePart (eVar 2)) eNo) (eSl (eVar 1) eNo (ePart (eVar 2)))) (eVar 1))))) (a := sRt (eK (.bl false))) (a.length - 1) 1 [some (.tup (e.map f)), some (.tup (a.map f)), none] (by simp) (fun j hj => by
    have m1 : gMod (.int (a.length : Int)) (.int (1 + (j : Int))) S = .ok (.int ((a.length : Int) % (1 + (j : Int)))) S := gMod_int _ (by omega)
    have hk : (1 + (j : Int)) = ((1 + j : Nat) : Int) := by omega
    have c1 := cutL_from f a (1 + j) (by omega)
    have c2 := cutL_to f a (1 + j) (by omega)
    rw [← hk] at c1 c2
    have c3 : gAdd (.tup ((a.drop (1 + j)).map f)) (.tup ((a.take (1 + j)).map f)) S = .ok (.tup ((rot (1 + j) a).map f)) S := by
      rw [gAdd_tup _ (by simp; omega), ← List.map_append]; rfl
    have hw2 : plN (max w 16700000) (n + 1) (.tup ((rot (1 + j) a).map f)) = true := plN_tupl (by rw [rot_len (by omega)]; omega) (fun x hx => plN_mono (Nat.le_max_left _ _) (Nat.le_refl _) (hp x (.inr (rot_mem hx))))
    have ge := gEq_inj (f := fun l : List α => D.tup (l.map f)) hinj hw2 hw (by omega) false S
    simp only [Bool.false_eq_true, if_false] at ge
    by_cases c : (a.length : Int) % (1 + (j : Int)) = 0
    · have hmod : a.length % (1 + j) = 0 := by
        rw [hk, ← Int.natCast_emod] at c
        omega
      have hne : rot (1 + j) a ≠ a := fun z => hs.least (1 + j) (by omega) (by omega) hmod ((rot_iff h0 (by omega)).mp z)
      rw [decide_eq_false hne] at ge
      simp [m1, c, c1, c2, c3, ge, -List.map_take, -List.map_drop, -List.map_append]
    · simp [m1, c])
  have hn1 : ((a.length : Int) - 1).toNat = a.length - 1 := by omega
  have hrg : (eRng2 (eK (.int 1)) (eCall gLen [(eVar 1)])) [some (.tup (e.map f)), some (.tup (a.map f)), none] S = .ok (.rng 1 (a.length - 1)) S := by
    simp [hs1, hs2, hn1]
  rw [show F__law_is_short [.tup (e.map f), .tup (a.map f)] S = popR S.length _ from fnP_ap _ _ _ _ _]
  have hpre : ∀ k : Sm, (sSeq (sIf (eOrT (eNotT (eTr (eIsi 4 (eVar 0)))) (eOrT (eNotT (eTr (eIsi 4 (eVar 1)))) (eTb (eBin gEq (eVar 1) (eTup []))))) (sRt (eK (.bl false))) sNx) k) ([D.tup (e.map f), D.tup (a.map f)].map some ++ List.replicate (3 - 2) none) S = k [some (.tup (e.map f)), some (.tup (a.map f)), none] S := by
    intro k
    simp [q1, isiN]
  rw [hpre]
  simp only [sSeq_ap]
  rw [sFor_rng hrg, lp]
  simp only [DL.F.seq_nx, List.set]
  have ia : gIdx (.tup (a.map f)) (.int (-1)) S = .ok (f (a.getD (a.length - 1) default)) S := gIdx_tup _ (atI_last (by
    rw [List.getLast?_map, List.getLast?_eq_getElem?, List.getElem?_eq_getElem (by omega), List.getD_eq_getElem?_getD, List.getElem?_eq_getElem (show a.length - 1 < a.length by omega)]
    rfl))
  by_cases c : e = []
  · rw [decide_eq_true c] at q2
    simp [q2]
  · rw [decide_eq_false c] at q2
    have he0 : 0 < e.length := List.length_pos_iff.mpr c
    have hlast : e.getLast? = some (e.getD (e.length - 1) default) := by
      rw [List.getLast?_eq_getElem?, List.getElem?_eq_getElem (by omega), List.getD_eq_getElem?_getD, List.getElem?_eq_getElem (show e.length - 1 < e.length by omega)]
      rfl
    have ie : gIdx (.tup (e.map f)) (.int (-1)) S = .ok (f (e.getD (e.length - 1) default)) S := gIdx_tup _ (atI_last (by rw [List.getLast?_map, hlast]; rfl))
    have m1 : plN w n (f (e.getD (e.length - 1) default)) = true := hp _ (.inl (List.mem_of_getLast? hlast))
    have m2 : plN w n (f (a.getD (a.length - 1) default)) = true := hp _ (.inr (by
      rw [List.getD_eq_getElem?_getD, List.getElem?_eq_getElem (show a.length - 1 < a.length by omega)]
      exact List.getElem_mem _))
    have ge := gEq_inj hf m1 m2 (by omega) true S
    rw [decide_eq_false (hs.last _ hlast)] at ge
    simp only [if_true, Bool.not_false] at ge
    simp [q2, ie, ia, ge, -List.getD_eq_getElem?_getD]
theorem law_item_eq {e a : List α} (h0 : 0 < a.length) {i : Nat} :
    F__law_item_at [.tup [.tup (e.map f), .tup (a.map f)], .int (i : Int)] S = .ok (f (itemAt e a i)) S := by
  by_cases c : i < e.length
  · have c' : (i : Int) < (e.length : Int) := by omega
    have i1 : gIdx (.tup (e.map f)) (.int (i : Int)) S = .ok (f (e.getD i default)) S := gIdx_tup _ (atI_map f e c rfl)
    rw [itemAt_lt c]
    simp [F__law_item_at, fnP_ap, c', i1, -List.getD_eq_getElem?_getD]
  · have c' : ¬ (i : Int) < (e.length : Int) := by omega
    have hm := Nat.mod_lt (i - e.length) h0
    have m1 : gMod (.int ((i : Int) - (e.length : Int))) (.int (a.length : Int)) S = .ok (.int (((i - e.length) % a.length : Nat) : Int)) S := by
      rw [gMod_int _ (by omega), Int.natCast_emod, show ((i - e.length : Nat) : Int) = (i : Int) - (e.length : Int) by omega]
    have i1 : gIdx (.tup (a.map f)) (.int (((i - e.length) % a.length : Nat) : Int)) S = .ok (f (cyc a (i - e.length))) S := gIdx_tup _ (atI_map f a hm rfl)
    rw [itemAt_ge (by omega)]
    generalize (i - e.length) % a.length = r at *
    simp [F__law_item_at, fnP_ap, c', m1, i1]
end
end
end DL
/-! calendars of first ones of written snails, by checks that the kernel reckons -/
namespace DL
open PySem L2
def farChk (c c' : Cal) (T i : Nat) : Bool := match c.at i, c'.at i with
  | some x, some y => (decide (c.ri T ≤ c'.ri T) || decide (y < x)) && (decide (c'.ri T ≤ c.ri T) || decide (x < y))
  | _, _ => true
def setChk (cs : List Cal) (s T : Nat) : Bool := decide (0 < T) && decide (T ≤ 1728) && decide (s ≤ 16000000) && (cs.all fun c => decide (c.early.length ≤ s) && decide (T % c.al = 0)) &&
  (cs.all fun c => cs.all fun c' => (List.range' s T).all fun i => farChk c c' T i)
theorem set_of_chk {cs : List Cal} {s T : Nat} (h : setChk cs s T = true) : SetF cs s T := by
  unfold setChk at h
  simp only [Bool.and_eq_true, decide_eq_true_eq] at h
  obtain ⟨⟨⟨⟨h1, h2⟩, h3⟩, h4⟩, h5⟩ := h
  have hlen : ∀ c ∈ cs, c.early.length ≤ s := fun c hc => by
    have := List.all_eq_true.mp h4 c hc
    simp only [Bool.and_eq_true, decide_eq_true_eq] at this
    exact this.1
  have hdvd : ∀ c ∈ cs, c.al ∣ T := fun c hc => by
    have := List.all_eq_true.mp h4 c hc
    simp only [Bool.and_eq_true, decide_eq_true_eq] at this
    exact Nat.dvd_of_mod_eq_zero this.2
  refine ⟨h1, h2, hlen, hdvd, ?_, h3⟩
  intro c hc c' hc' i hi x y hx hy
  have hm := Nat.mod_lt (i - s) h1
  have e1 := Cal.at_turn (hdvd c hc) (s + (i - s) % T) ((i - s) / T) (by have := hlen c hc; omega)
  have e2 := Cal.at_turn (hdvd c' hc') (s + (i - s) % T) ((i - s) / T) (by have := hlen c' hc'; omega)
  have hie : s + (i - s) % T + (i - s) / T * T = i := by
    have := Nat.div_add_mod (i - s) T
    rw [Nat.mul_comm] at this
    omega
  rw [hie, hx] at e1
  rw [hie, hy] at e2
  have hw := List.all_eq_true.mp (List.all_eq_true.mp (List.all_eq_true.mp h5 c hc) c' hc') (s + (i - s) % T) (List.mem_range'_1.mpr ⟨by omega, by omega⟩)
  unfold farChk at hw
  cases hx0 : c.at (s + (i - s) % T) with
  | none => rw [hx0] at e1; cases e1
  | some x0 =>
    cases hy0 : c'.at (s + (i - s) % T) with
    | none => rw [hy0] at e2; cases e2
    | some y0 =>
      rw [hx0] at e1
      rw [hy0] at e2
      rw [hx0, hy0] at hw
      simp only [Option.map_some, Option.some.injEq, Bool.and_eq_true, Bool.or_eq_true, decide_eq_true_eq] at e1 e2 hw
      refine ⟨fun hr => ?_, fun hr => ?_⟩
      · have := Int.mul_le_mul_of_nonneg_left (show c'.ri T ≤ c.ri T by omega) (Int.natCast_nonneg ((i - s) / T))
        have h0 : y0 < x0 := by omega
        omega
      · have := Int.mul_le_mul_of_nonneg_left (show c.ri T ≤ c'.ri T by omega) (Int.natCast_nonneg ((i - s) / T))
        have h0 : x0 < y0 := by omega
        omega
def shortChk {α : Type} [DecidableEq α] [Inhabited α] (e a : List α) : Bool := decide (0 < a.length) && ((List.range a.length).all fun q => decide (q = 0) || decide (a.length % q ≠ 0) || decide (rot q a ≠ a)) && decide (e.getLast? ≠ some (a.getD (a.length - 1) default))
theorem short_of_chk {α : Type} [DecidableEq α] [Inhabited α] {e a : List α} (h : shortChk e a = true) : ShortC e a := by
  unfold shortChk at h
  simp only [Bool.and_eq_true, decide_eq_true_eq] at h
  obtain ⟨⟨h1, h2⟩, h3⟩ := h
  refine ⟨h1, fun q q1 q2 q3 q4 => ?_, fun x hx z => h3 (by rw [hx, z])⟩
  have := List.all_eq_true.mp h2 q (List.mem_range.mpr q2)
  simp only [Bool.or_eq_true, decide_eq_true_eq] at this
  rcases this with (this | this) | this
  · omega
  · exact this q3
  · exact this ((rot_iff h1 (by omega)).mpr q4)
def winChk (cs : List Cal) (e a : List (List Int)) (s T : Nat) : Bool := setChk cs s T && shortChk e a && decide (e.length ≤ s) && decide (T % a.length = 0) && decide (a.length ≤ 4000) && ((List.range (s + T)).all fun i => decide (itemAt e a i = fsts cs i)) && ((e ++ a).all fun x => decide (x.length ≤ 3))
theorem win_of_chk {ss : List Sn} {cs : List Cal} (hc : calsOf ss = cs) {e a : List (List Int)} (s T : Nat) (h : winChk cs e a s T = true) : WinC ss e a := by
  subst hc
  unfold winChk at h
  simp only [Bool.and_eq_true, decide_eq_true_eq] at h
  obtain ⟨⟨⟨⟨⟨⟨h1, h2⟩, h3⟩, h4⟩, h5⟩, h6⟩, h7⟩ := h
  have f := set_of_chk h1
  have hs := short_of_chk h2
  have hp := f.pos
  have hb := f.sb
  refine ⟨hs, fun i => ?_, by omega, h5, fun x hx => ?_⟩
  · have hall : ∀ i, i < s + T → itemAt e a i = fsts (calsOf ss) i := fun i hi => by
      have := List.all_eq_true.mp h6 i (List.mem_range.mpr hi)
      simpa using this
    rcases Nat.lt_or_ge i (s + T) with hl | hl
    · exact hall i hl
    · have hm := Nat.mod_lt (i - s) hp
      have e1 := fsts_turns f (i := s + (i - s) % T) (by omega) ((i - s) / T)
      have hie : s + (i - s) % T + (i - s) / T * T = i := by
        have := Nat.div_add_mod (i - s) T
        rw [Nat.mul_comm] at this
        omega
      rw [hie] at e1
      rw [e1, ← hall _ (by omega), itemAt_ge (by omega), itemAt_ge (by omega)]
      obtain ⟨q, hq⟩ := Nat.dvd_of_mod_eq_zero h4
      refine cyc_eq (z := ((i - s) / T : Nat) * (q : Int)) ?_
      have : (a.length : Int) * (((i - s) / T : Nat) * (q : Int)) = (((i - s) / T * T : Nat) : Int) := by
        rw [Int.natCast_mul, hq, Int.natCast_mul, Int.mul_left_comm]
      rw [this]
      omega
  · have := List.all_eq_true.mp h7 x (List.mem_append.mpr hx)
    simpa using this
theorem win_val {ss : List Sn} (h : SsOk ss) {cs : List Cal} (hc : calsOf ss = cs) {e a : List (List Int)} (s T : Nat) (k : winChk cs e a s T = true) (S : Sto) : F_winners_by [.lst ((calsOf ss).map Cal.d)] S = .ok (.tup [.tup (e.map lD), .tup (a.map lD)]) S := by
  obtain ⟨e', a', w, hw⟩ := winC_ex h
  obtain ⟨rfl, rfl⟩ := w.uniq (win_of_chk hc s T k)
  exact hw S
end DL
/-! heights beside one another -/
namespace DL
open PySem L2
def Sn.L (s : Sn) : Nat := LL s.steps s.height
def Sn.gn (s : Sn) : Int := DL.gn s.steps (itb s.steps s.height s.L)
theorem Sn.sets {s : Sn} (h : s.Ok) : Sets s.steps s.height s.L := (LL_sets h.h0 h.h1).1
theorem Sn.L6 {s : Sn} (h : s.Ok) : s.L ≤ 6 := (LL_sets h.h0 h.h1).2
/-- the minute from which on rounds do the same -/
def Sn.sm (s : Sn) : Int := s.start + ((s.L * s.steps.length : Nat) : Int)
def Sn.gi (s : Sn) (T : Nat) : Int := s.gn * ((T / s.steps.length : Nat) : Int)
theorem Sn.sm_bd {s : Sn} (h : s.Ok) : 0 ≤ s.sm ∧ s.sm ≤ 44 := by
  have h1 := Sn.L6 h
  have h2 := h.rd.le
  have h3 := h.s0
  have h4 := h.s1
  have : s.L * s.steps.length ≤ 6 * 4 := Nat.mul_le_mul h1 h2
  unfold Sn.sm
  omega
theorem Sn.H_bd {s : Sn} (h : s.Ok) (m : Int) (hm : 0 ≤ m) : 0 ≤ s.H m ∧ s.H m ≤ 5 + 3 * m := by
  have h3 := h.s0
  have hb : ∀ x ∈ s.steps, x ≤ 3 := fun x hx => (h.rd.bd x hx).2
  have h1 := W_nn (st := s.steps) h.h0 (m - s.start).toNat
  have h2 := (mx_le (h := s.height) h.n0 hb h.h0 (m - s.start).toNat).2
  have h5 := h.h1
  unfold Sn.H
  omega
theorem Sn.gn_nn {s : Sn} (h : s.Ok) : 0 ≤ s.gn := Stl.gn_nn (itb_nn h.h0 _) (Sn.sets h).s
theorem Sn.H_more {s : Sn} (h : s.Ok) {m : Int} (hm : s.sm ≤ m) : ∀ k : Nat, s.H (m + ((k * s.steps.length : Nat) : Int)) = s.H m + (k : Int) * s.gn
  | 0 => by simp
  | k + 1 => by
    have ih := Sn.H_more h hm k
    have hs0 := h.s0
    have hw := W_more h.n0 h.h0 (Sn.sets h) ((m + ((k * s.steps.length : Nat) : Int)) - s.start).toNat (by unfold Sn.sm at hm; omega)
    have e1 : ((m + ((k * s.steps.length : Nat) : Int)) - s.start).toNat + s.steps.length = (m + (((k + 1) * s.steps.length : Nat) : Int) - s.start).toNat := by
      have : (k + 1) * s.steps.length = k * s.steps.length + s.steps.length := by rw [Nat.succ_mul]
      unfold Sn.sm at hm
      omega
    rw [e1] at hw
    have e2 : s.H (m + (((k + 1) * s.steps.length : Nat) : Int)) = s.H (m + ((k * s.steps.length : Nat) : Int)) + s.gn := hw
    rw [e2, ih]
    rw [show ((k + 1 : Nat) : Int) = (k : Int) + 1 from rfl, Int.add_mul]
    omega
theorem Sn.H_turn {s : Sn} (h : s.Ok) {m : Int} (hm : s.sm ≤ m) {T : Nat} (hT : s.steps.length ∣ T) (k : Nat) : s.H (m + ((k * T : Nat) : Int)) = s.H m + (k : Int) * s.gi T := by
  obtain ⟨q, rfl⟩ := hT
  have e := Sn.H_more h hm (k * q)
  rw [show k * (s.steps.length * q) = k * q * s.steps.length by rw [Nat.mul_comm s.steps.length, Nat.mul_assoc], e]
  unfold Sn.gi
  rw [Nat.mul_div_cancel_left _ h.n0, Int.natCast_mul, Int.mul_assoc, Int.mul_comm (q : Int)]
def farH (s s' : Sn) (m : Int) : Int := s.H m - s'.H m
theorem farH_turn {s s' : Sn} (h : s.Ok) (h' : s'.Ok) {m : Int} (hm : s.sm ≤ m) (hm' : s'.sm ≤ m) {T : Nat} (hT : s.steps.length ∣ T) (hT' : s'.steps.length ∣ T) (k : Nat) : farH s s' (m + ((k * T : Nat) : Int)) = farH s s' m + (k : Int) * (s.gi T - s'.gi T) := by
  unfold farH
  rw [Sn.H_turn h hm hT, Sn.H_turn h' hm' hT', Int.mul_sub]
  omega
def wordS (x : Int) : Str := if 0 < x then Str.ofString "over" else if x < 0 then Str.ofString "under" else Str.ofString "same"
/-- behind how many turns it is so for good -/
theorem word_for_good {s s' : Sn} (h : s.Ok) (h' : s'.Ok) {T : Nat} (hT0 : 0 < T) (hT : s.steps.length ∣ T) (hT' : s'.steps.length ∣ T) {m0 : Int} (hm : s.sm ≤ m0) (hm' : s'.sm ≤ m0) {b : Nat}
    (hb : s.gi T - s'.gi T ≠ 0 → ∀ m, m0 ≤ m → m < m0 + T → -(if 0 < s.gi T - s'.gi T then farH s s' m else -farH s s' m) < (b : Int) * (if 0 < s.gi T - s'.gi T then s.gi T - s'.gi T else -(s.gi T - s'.gi T))) {m : Int} (hmm : m0 + ((T * b : Nat) : Int) ≤ m) (k : Nat) :
    wordS (farH s s' (m + ((k * T : Nat) : Int))) = wordS (farH s s' m) := by
  have hTb := Nat.zero_le (T * b)
  have hkT := Nat.zero_le (k * T)
  by_cases h0 : s.gi T - s'.gi T = 0
  · rw [farH_turn h h' (by omega) (by omega) hT hT', h0, Int.mul_zero, Int.add_zero]
  · have key : ∀ x : Int, m0 + ((T * b : Nat) : Int) ≤ x → (0 < s.gi T - s'.gi T → 0 < farH s s' x) ∧ (s.gi T - s'.gi T < 0 → farH s s' x < 0) := by
      intro x hx
      obtain ⟨y, hy⟩ : ∃ y : Nat, x = m0 + (y : Int) := ⟨(x - m0).toNat, by omega⟩
      subst hy
      have hmod := Nat.mod_lt y hT0
      have hdm := Nat.div_add_mod y T
      have e := farH_turn h h' (m := m0 + ((y % T : Nat) : Int)) (by omega) (by omega) hT hT' (y / T)
      have hxe : m0 + ((y % T : Nat) : Int) + ((y / T * T : Nat) : Int) = m0 + (y : Int) := by
        rw [Nat.mul_comm] at hdm
        omega
      rw [hxe] at e
      have hbq : b ≤ y / T := by
        apply (Nat.le_div_iff_mul_le hT0).mpr
        rw [Nat.mul_comm]
        omega
      have hb0 := hb h0 (m0 + ((y % T : Nat) : Int)) (by omega) (by omega)
      refine ⟨fun hp => ?_, fun hp => ?_⟩
      · rw [if_pos hp, if_pos hp] at hb0
        have := Int.mul_le_mul_of_nonneg_right (Int.ofNat_le.mpr hbq) (Int.le_of_lt hp)
        omega
      · rw [if_neg (by omega), if_neg (by omega)] at hb0
        have := Int.mul_le_mul_of_nonneg_right (Int.ofNat_le.mpr hbq) (show 0 ≤ -(s.gi T - s'.gi T) by omega)
        simp only [Int.mul_neg] at this hb0
        omega
    have k1 := key m hmm
    have k2 := key (m + ((k * T : Nat) : Int)) (by omega)
    rcases Int.lt_or_gt_of_ne h0 with hl | hl
    · have a := k1.2 hl
      have c := k2.2 hl
      unfold wordS
      rw [if_neg (by omega), if_pos c, if_neg (by omega), if_pos a]
    · have a := k1.1 hl
      have c := k2.1 hl
      unfold wordS
      rw [if_pos c, if_pos a]
section
variable {S : Sto}
theorem settled_minute_eq {s : Sn} (h : s.Ok) : F_settled_minute [s.d] S = .ok (.int s.sm) S := by
  have hL := Sn.L6 h
  have hl4 := h.rd.le
  have e := settled_eq (S := S) (L := s.L) (by omega) (Sn.sets h)
  have hd : s.d = .tup [.int s.start, .int s.height, .tup (s.steps.map D.int)] := rfl
  have m1 : gMul (.int ((s.L : Int))) (.int (s.steps.length : Int)) S = .ok (.int ((s.L * s.steps.length : Nat) : Int)) S := by
    rw [gMul_int _ (by
      have a := small_log (x := (s.L : Int)) (k := 10) (by
        have : (2 : Nat) ^ 10 = 1024 := by decide
        omega) (by decide) (by decide)
      have b := small_log (x := (s.steps.length : Int)) (k := 10) (by
        have : (2 : Nat) ^ 10 = 1024 := by decide
        omega) (by decide) (by decide)
      omega)]
    simp
  rw [hd]
  have hsub : ((s.L : Int) + 1 - 1) = (s.L : Int) := by omega
  unfold Sn.sm
  generalize s.L * s.steps.length = q at *
  simp [F_settled_minute, fnP_ap, e, itL_len, hsub, m1]
theorem gain_in_eq {s : Sn} (h : s.Ok) {T : Nat} (hT : T ≤ 1000) : F_gain_in [s.d, .int (T : Int)] S = .ok (.int (s.gi T)) S := by
  have hL := Sn.L6 h
  have hl4 := h.rd.le
  have hl1 := h.rd.pos
  have e := settled_eq (S := S) (L := s.L) (by omega) (Sn.sets h)
  have hd : s.d = .tup [.int s.start, .int s.height, .tup (s.steps.map D.int)] := rfl
  have i1 : gIdx (.lst (itL s.steps s.height s.L)) (.int (-1)) S = .ok (.int (itb s.steps s.height s.L)) S := gIdx_lst _ (itL_last _ _ _)
  have g := gain_of_eq (S := S) (itb s.steps s.height s.L) s.steps
  have d1 : gDiv (.int (T : Int)) (.int (s.steps.length : Int)) S = .ok (.int ((T / s.steps.length : Nat) : Int)) S := by
    rw [gDiv_int _ (by omega) (by
      have a := small_log (x := (s.steps.length : Int)) (k := 10) (by
        have : (2 : Nat) ^ 10 = 1024 := by decide
        omega) (by decide) (by decide)
      omega)]
    simp
  have hq : T / s.steps.length ≤ T := Nat.div_le_self _ _
  have hgb : DL.gn s.steps (itb s.steps s.height s.L) ≤ 100 ∧ -100 ≤ DL.gn s.steps (itb s.steps s.height s.L) := by
    have h0 := Sn.gn_nn h
    have h1 := Sn.H_bd h (s.sm + 4) (by have := (Sn.sm_bd h).1; omega)
    have hm := Sn.H_more h (m := s.sm) (Int.le_refl _) 1
    have h2 := Sn.H_bd h s.sm (Sn.sm_bd h).1
    have h3 := Sn.H_bd h (s.sm + ((1 * s.steps.length : Nat) : Int)) (by have := (Sn.sm_bd h).1; omega)
    have hs := (Sn.sm_bd h).2
    have hgn : s.gn = DL.gn s.steps (itb s.steps s.height s.L) := rfl
    rw [← hgn]
    simp only [Int.natCast_one, Int.one_mul] at hm
    refine ⟨?_, by omega⟩
    have hb3 : beh (itb s.steps s.height s.L) s.steps ≤ itb s.steps s.height s.L + 3 * s.steps.length := beh_le _ _ (itb_nn h.h0 _) (fun x hx => (h.rd.bd x hx).2)
    rw [hgn]
    unfold DL.gn
    omega
  have hgi : s.gi T = DL.gn s.steps (itb s.steps s.height s.L) * ((T / s.steps.length : Nat) : Int) := rfl
  rw [hgi]
  generalize T / s.steps.length = q at *
  have m1 : gMul (.int (DL.gn s.steps (itb s.steps s.height s.L))) (.int (q : Int)) S = .ok (.int (DL.gn s.steps (itb s.steps s.height s.L) * (q : Int))) S := gMul_int _ (by
    have a := small_log (x := DL.gn s.steps (itb s.steps s.height s.L)) (k := 10) (by
      have : (2 : Nat) ^ 10 = 1024 := by decide
      omega) (by decide) (by decide)
    have b := small_log (x := (q : Int)) (k := 10) (by
      have : (2 : Nat) ^ 10 = 1024 := by decide
      omega) (by decide) (by decide)
    omega)
  rw [hd]
  simp [F_gain_in, fnP_ap, e, i1, g, d1, m1]
theorem far_at_eq {s s' : Sn} (h : s.Ok) (h' : s'.Ok) {m : Int} (h1 : 0 ≤ m) (h2 : m ≤ 1000000000000000000000000000000) : F_far_at [s.d, s'.d, .int m] S = .ok (.int (farH s s' m)) S := by
  simp [F_far_at, fnP_ap, height_of_eq h h1 h2, height_of_eq h' h1 h2, farH]
theorem word_of_eq (x : Int) : F_word_of [.int x] S = .ok (.str (wordS x)) S := by
  unfold wordS
  by_cases c : 0 < x
  · simp [F_word_of, fnP_ap, c]
  · by_cases c2 : x < 0
    · simp [F_word_of, fnP_ap, c, c2]
    · simp [F_word_of, fnP_ap, c, c2]
end
end DL
/-! who stands higher, minute by minute -/
namespace DL
open PySem L2
section
variable {S : Sto}
theorem lc_nat {f : Es} {w : Nat} {e : Ee} {ρ : Rho} {g : Nat → D} {a k : Nat} (hk : k ≤ 16777216) (hf : f ρ S = .ok (.rng (a : Int) k) S) (he : ∀ i, a ≤ i → i < a + k → e ((wipeR ρ [w]).set w (some (.int (i : Int)))) S = .ok (g i) S) :
    eLc f (.nm w) tYesD e [w] ρ S = .ok (.lst ((List.range' a k).map g)) S := by
  rw [eLc_rng hf hk, rgN_range]
  rw [lcL_map (φ := fun x => match x with
    | .int i => g i.toNat
    | _ => .non) _ (fun x hx => by
    simp only [List.mem_map, List.mem_range'_1] at hx
    obtain ⟨j, hj, rfl⟩ := hx
    have := he j (by omega) (by omega)
    exact ⟨_, rfl, by simpa using this⟩)]
  simp only [R.calm_ok, R.bind_ok]
  congr 2
  rw [List.map_map]
  refine List.map_congr_left fun j _ => ?_
  simp
theorem lc_ints {f : Es} {w : Nat} {e : Ee} {ρ : Rho} {g : Int → Int} {l : List Int} (hl : l.length ≤ 16777216) (hf : f ρ S = .ok (.it (.lst (l.map D.int))) S) (he : ∀ x ∈ l, e ((wipeR ρ [w]).set w (some (.int x))) S = .ok (.int (g x)) S) :
    eLc f (.nm w) tYesD e [w] ρ S = .ok (.lst ((l.map g).map D.int)) S := by
  rw [eLc_lst hf (by simpa using hl)]
  rw [lcL_map (φ := fun x => match x with
    | .int i => .int (g i)
    | _ => .non) _ (fun x hx => by
    simp only [List.mem_map] at hx
    obtain ⟨j, hj, rfl⟩ := hx
    exact ⟨_, rfl, by simpa using he j hj⟩)]
  simp only [R.calm_ok, R.bind_ok]
  congr 2
  rw [List.map_map, List.map_map]
  refine List.map_congr_left fun j _ => ?_
  simp
def isWord (x : Str) : Prop := x = Str.ofString "over" ∨ x = Str.ofString "under" ∨ x = Str.ofString "same"
theorem wordS_is (x : Int) : isWord (wordS x) := by
  unfold wordS isWord
  split
  · exact .inl rfl
  · split
    · exact .inr (.inl rfl)
    · exact .inr (.inr rfl)
theorem word_ok {x : Str} (h : isWord x) : plN 3 0 (.str x) = true := by
  have h1 : PyData.strOk (Str.ofString "over") = true := by decide +kernel
  have h2 : PyData.strOk (Str.ofString "under") = true := by decide +kernel
  have h3 : PyData.strOk (Str.ofString "same") = true := by decide +kernel
  rcases h with rfl | rfl | rfl
  · exact h1
  · exact h2
  · exact h3
theorem str_inj (a b : Str) (h : D.str a = D.str b) : a = b := by cases h; rfl
theorem words_by_eq {s s' : Sn} (h : s.Ok) (h' : s'.Ok) : ∃ e a : List Str, F_words_by [s.d, s'.d] S = .ok (.tup [.tup (e.map D.str), .tup (a.map D.str)]) S ∧ ShortC e a ∧ (∀ i : Nat, itemAt e a i = wordS (farH s s' (i : Int))) ∧ e.length ≤ 100000 ∧ a.length ≤ 4000 ∧ ∀ x, x ∈ e ∨ x ∈ a → isWord x := by
  have hN := h.n0
  have hN' := h'.n0
  have hN4 := h.rd.le
  have hN4' := h'.rd.le
  obtain ⟨T, hTe⟩ : ∃ T, T = Nat.lcm s.steps.length s'.steps.length := ⟨_, rfl⟩
  have hT0 : 0 < T := by rw [hTe]; exact Nat.lcm_pos hN hN'
  have hT1 : s.steps.length ∣ T := by rw [hTe]; exact Nat.dvd_lcm_left _ _
  have hT2 : s'.steps.length ∣ T := by rw [hTe]; exact Nat.dvd_lcm_right _ _
  have hT16 : T ≤ 16 := by
    have h1 : T ≤ s.steps.length * s'.steps.length := by
      rw [hTe]
      exact Nat.le_of_dvd (Nat.mul_pos hN hN') (Nat.lcm_dvd_mul _ _)
    have h2 : s.steps.length * s'.steps.length ≤ 4 * 4 := Nat.mul_le_mul hN4 hN4'
    omega
  obtain ⟨b1, b2⟩ := Sn.sm_bd h
  obtain ⟨b1', b2'⟩ := Sn.sm_bd h'
  obtain ⟨M, hM⟩ : ∃ M : Nat, (if s'.sm > s.sm then s'.sm else s.sm) = (M : Int) := ⟨(if s'.sm > s.sm then s'.sm else s.sm).toNat, by split <;> omega⟩
  have hM44 : M ≤ 44 := by split at hM <;> omega
  have hMs : s.sm ≤ (M : Int) ∧ s'.sm ≤ (M : Int) := by split at hM <;> omega
  -- the pieces
  have g2 : gLen [roundD s.steps] S = .ok (.int (s.steps.length : Int)) S := by simp [roundD]
  have g2' : gLen [roundD s'.steps] S = .ok (.int (s'.steps.length : Int)) S := by simp [roundD]
  have i2 : gIdx s.d (.int 2) S = .ok (roundD s.steps) S := gIdx_tup _ (atI2 _ _ _ _)
  have i2' : gIdx s'.d (.int 2) S = .ok (roundD s'.steps) S := gIdx_tup _ (atI2 _ _ _ _)
  have dv := divisor_eq (S := S) (a := s.steps.length) (b := s'.steps.length) (by omega)
  have lg : ∀ n : Nat, n ≤ 1000 → ((n : Int)).natAbs.log2 < 1000 := fun n hn => small_log (k := 10) (by
    have : (2 : Nat) ^ 10 = 1024 := by decide
    omega) (by decide) (by decide)
  have mm : gMul (.int (s.steps.length : Int)) (.int (s'.steps.length : Int)) S = .ok (.int ((s.steps.length * s'.steps.length : Nat) : Int)) S := by
    rw [gMul_int _ (by have := lg s.steps.length (by omega); have := lg s'.steps.length (by omega); omega)]
    simp
  have hg0 : 0 < Nat.gcd s.steps.length s'.steps.length := Nat.gcd_pos_of_pos_left _ hN
  have hg4 : Nat.gcd s.steps.length s'.steps.length ≤ 4 := Nat.le_trans (Nat.le_of_dvd hN (Nat.gcd_dvd_left _ _)) hN4
  have md : gDiv (.int ((s.steps.length * s'.steps.length : Nat) : Int)) (.int ((Nat.gcd s.steps.length s'.steps.length : Nat) : Int)) S = .ok (.int (T : Int)) S := by
    rw [gDiv_int _ (by omega) (by have := lg (Nat.gcd s.steps.length s'.steps.length) (by omega); omega), hTe]
    rfl
  generalize s.steps.length * s'.steps.length = P at *
  generalize Nat.gcd s.steps.length s'.steps.length = G at *
  have sm1 := settled_minute_eq (S := S) h
  have sm2 := settled_minute_eq (S := S) h'
  have gi1 := gain_in_eq (S := S) h (T := T) (by omega)
  have gi2 := gain_in_eq (S := S) h' (T := T) (by omega)
  have fa : ∀ i : Nat, i ≤ 100000 → F_far_at [s.d, s'.d, .int (i : Int)] S = .ok (.int (farH s s' (i : Int))) S := fun i hi => far_at_eq h h' (by omega) (by omega)
  have sI : ∀ x : Int, 0 ≤ x → x ≤ 100000 → smallI x = true := fun x h1 h2 => smallI_mk (by omega) (by omega)
  -- what is so behind the blocks, whatever their number
  have fin : ∀ (b : Nat) (v6 v7 : Option D), b ≤ 3000 → (s.gi T - s'.gi T ≠ 0 → ∀ m, (M : Int) ≤ m → m < M + T → -(if 0 < s.gi T - s'.gi T then farH s s' m else -farH s s' m) < (b : Int) * (if 0 < s.gi T - s'.gi T then s.gi T - s'.gi T else -(s.gi T - s'.gi T))) →
      ∃ e a : List Str, ((sSeq (sSet 8 (eLc (eRng1 (eVar 5)) (.nm 9) tYesD (eCall F_word_of [(eCall F_far_at [(eVar 0), (eVar 1), (eVar 9)])]) [9]))
        (sRt (eCall F_shortened [(eVar 8), (eLc (eRng2 (eVar 5) (eBin gAdd (eVar 5) (eVar 4))) (.nm 9) tYesD (eCall F_word_of [(eCall F_far_at [(eVar 0), (eVar 1), (eVar 9)])]) [9])]))) [some s.d, some s'.d, some (.int (s.steps.length : Int)), some (.int (s'.steps.length : Int)), some (.int (T : Int)), some (.int ((M + T * b : Nat) : Int)), v6, v7, none, none, none] S) = .rt (.tup [.tup (e.map D.str), .tup (a.map D.str)]) S ∧ ShortC e a ∧ (∀ i : Nat, itemAt e a i = wordS (farH s s' (i : Int))) ∧ e.length ≤ 100000 ∧ a.length ≤ 4000 ∧ ∀ x, x ∈ e ∨ x ∈ a → isWord x := by
    intro b v6 v7 hb3 hb
    have hTb : T * b ≤ 16 * 3000 := Nat.mul_le_mul hT16 hb3
    have hB : M + T * b ≤ 60000 := by omega
    have per : ∀ i, M + T * b ≤ i → ∀ k, wordS (farH s s' ((i + k * T : Nat) : Int)) = wordS (farH s s' (i : Int)) := by
      intro i hi k
      have := word_for_good h h' hT0 hT1 hT2 hMs.1 hMs.2 hb (m := (i : Int)) (by omega) k
      rw [show ((i + k * T : Nat) : Int) = (i : Int) + ((k * T : Nat) : Int) by omega]
      exact this
    generalize hBB : M + T * b = B at *
    have c1 : eLc (eRng1 (eVar 5)) (.nm 9) tYesD (eCall F_word_of [(eCall F_far_at [(eVar 0), (eVar 1), (eVar 9)])]) [9] [some s.d, some s'.d, some (.int (s.steps.length : Int)), some (.int (s'.steps.length : Int)), some (.int (T : Int)), some (.int (B : Int)), v6, v7, none, none, none] S = .ok (.lst ((List.range' 0 B).map fun (i : Nat) => D.str (wordS (farH s s' (i : Int))))) S := by
      refine lc_nat (a := 0) (by omega) ?_ (fun i _ hi => ?_)
      · have := sI (B : Int) (by omega) (by omega)
        simp [this]
      · simp [wipeR, fa i (by omega), word_of_eq]
    have c2 : ∀ v8 : D, eLc (eRng2 (eVar 5) (eBin gAdd (eVar 5) (eVar 4))) (.nm 9) tYesD (eCall F_word_of [(eCall F_far_at [(eVar 0), (eVar 1), (eVar 9)])]) [9] [some s.d, some s'.d, some (.int (s.steps.length : Int)), some (.int (s'.steps.length : Int)), some (.int (T : Int)), some (.int (B : Int)), v6, v7, some v8, none, none] S = .ok (.lst ((List.range' B T).map fun (i : Nat) => D.str (wordS (farH s s' (i : Int))))) S := by
      intro v8
      refine lc_nat (a := B) (by omega) ?_ (fun i _ hi => ?_)
      · have a1 := sI (B : Int) (by omega) (by omega)
        have a2 := sI ((B : Int) + (T : Int)) (by omega) (by omega)
        simp [a1, a2]
        try omega
      · simp [wipeR, fa i (by omega), word_of_eq]
    have hw : ∀ x, x ∈ (List.range' 0 B).map (fun (i : Nat) => wordS (farH s s' (i : Int))) ∨ x ∈ (List.range' B T).map (fun (i : Nat) => wordS (farH s s' (i : Int))) → isWord x := by
      intro x hx
      rcases hx with hx | hx <;> (obtain ⟨i, _, rfl⟩ := List.mem_map.mp hx; exact wordS_is _)
    obtain ⟨e', a', k1, k2, k3, k4, k5, k6, k7⟩ := shortened_eq (S := S) (f := D.str) str_inj (w := 3) (n := 0) (by omega) (e := (List.range' 0 B).map fun (i : Nat) => wordS (farH s s' (i : Int))) (a := (List.range' B T).map fun (i : Nat) => wordS (farH s s' (i : Int))) (fun x hx => word_ok (hw x hx)) (by simp; omega) (by simp; omega) (by simp; omega)
    refine ⟨e', a', ?_, k2, fun i => (k3 i).trans (itemAt_of (g := fun (i : Nat) => wordS (farH s s' (i : Int))) hT0 (fun i hi k => per i hi k) i), by simp at k4; omega, by simp at k5; omega, fun x hx => hw x (hx.imp (k6 x) (k7 x))⟩
    simp only [List.map_map, Function.comp_def] at k1
    simp only [sSeq_ap, sSet_ap, c1, DL.F.ofR_ok, DL.F.seq_nx, List.set, sRt_ap, eCall_ap, eArgs_cons, eArgs_nil, eVar8, R.bind_ok, c2, k1]
  have pre : ∀ k : Sm, (sSeq (sPar 2 3 (eCall gLen [(eBin gIdx (eVar 0) (eK (.int 2)))]) (eCall gLen [(eBin gIdx (eVar 1) (eK (.int 2)))]))
      (sSeq (sSet 4 (eBin gDiv (eBin gMul (eVar 2) (eVar 3)) (eCall F_divisor [(eVar 2), (eVar 3)])))
      (sSeq (sSet 5 (eCall gMax [(eCall gInt [(eCall F_settled_minute [(eVar 0)])]), (eCall gInt [(eCall F_settled_minute [(eVar 1)])])]))
      (sSeq (sSet 6 (eBin gSub (eCall F_gain_in [(eVar 0), (eVar 4)]) (eCall F_gain_in [(eVar 1), (eVar 4)]))) k)))) ([s.d, s'.d].map some ++ List.replicate (11 - 2) none) S
      = k [some s.d, some s'.d, some (.int (s.steps.length : Int)), some (.int (s'.steps.length : Int)), some (.int (T : Int)), some (.int (M : Int)), some (.int (s.gi T - s'.gi T)), none, none, none, none] S := by
    intro k
    have hM' : (if s.sm < s'.sm then s'.sm else s.sm) = (M : Int) := hM
    simp [g2, g2', i2, i2', mm, md, dv, sm1, sm2, gi1, gi2, hM']
  rw [show F_words_by [s.d, s'.d] S = popR S.length _ from fnP_ap _ _ _ _ _]
  rw [pre]
  have gbd : ∀ {r : Sn}, r.Ok → r.sm ≤ (M : Int) → r.steps.length ∣ T → 0 ≤ r.gi T ∧ r.gi T ≤ 200 := by
    intro r hr hrm hrT
    have e := Sn.H_turn hr hrm hrT 1
    have x1 := Sn.H_bd hr (M : Int) (by omega)
    have x2 := Sn.H_bd hr ((M : Int) + ((1 * T : Nat) : Int)) (by omega)
    have x3 : 0 ≤ r.gi T := Int.mul_nonneg (Sn.gn_nn hr) (Int.natCast_nonneg _)
    simp only [Int.natCast_one, Int.one_mul] at e
    omega
  have gb1 := gbd h hMs.1 hT1
  have gb2 := gbd h' hMs.2 hT2
  have fbd : ∀ m : Int, 0 ≤ m → m ≤ 60 → -190 ≤ farH s s' m ∧ farH s s' m ≤ 190 := by
    intro m m1 m2
    have x1 := Sn.H_bd h m m1
    have x2 := Sn.H_bd h' m m1
    unfold farH
    omega
  by_cases h0 : s.gi T - s'.gi T = 0
  · obtain ⟨e, a, k1, k2, k3, k4, k5, k6⟩ := fin 0 (some (.int (s.gi T - s'.gi T))) none (by omega) (fun z => absurd h0 z)
    refine ⟨e, a, ?_, k2, k3, k4, k5, k6⟩
    · rw [Nat.mul_zero, Nat.add_zero] at k1
      simp only [sSeq_ap] at k1 ⊢
      have ct : ∀ f : Sm, (sIf (eTb (eBin gNe (eVar 6) (eK (.int 0)))) f sNx) [some s.d, some s'.d, some (.int (s.steps.length : Int)), some (.int (s'.steps.length : Int)), some (.int (T : Int)), some (.int (M : Int)), some (.int (s.gi T - s'.gi T)), none, none, none, none] S = .nx [some s.d, some s'.d, some (.int (s.steps.length : Int)), some (.int (s'.steps.length : Int)), some (.int (T : Int)), some (.int (M : Int)), some (.int (s.gi T - s'.gi T)), none, none, none, none] S := by
        intro f
        rw [h0]
        simp
      rw [ct]
      simp only [DL.F.seq_nx, sSeq_ap]
      rw [k1]
      simp
  · generalize hmo : s.gi T - s'.gi T = mo at *
    obtain ⟨A, hA⟩ : ∃ A : Int, A = if mo < 0 then -mo else mo := ⟨_, rfl⟩
    have hA1 : 1 ≤ A ∧ A ≤ 200 := by rw [hA]; split <;> omega
    have hA2 : A = if 0 < mo then mo else -mo := by rw [hA]; split <;> split <;> omega
    let fl : Int → Int := fun x => if 0 < mo then x else -x
    let bl : Int → Int := fun x => -x / A + 1
    let F1 : List Int := (List.range' M T).map fun (i : Nat) => farH s s' (i : Int)
    have hF1b : ∀ x ∈ F1, -190 ≤ x ∧ x ≤ 190 := by
      intro x hx
      obtain ⟨i, hi, rfl⟩ := List.mem_map.mp hx
      have := List.mem_range'_1.mp hi
      exact fbd _ (by omega) (by omega)
    have c3 : eLc (eRng2 (eVar 5) (eBin gAdd (eVar 5) (eVar 4))) (.nm 9) tYesD (eCall F_far_at [(eVar 0), (eVar 1), (eVar 9)]) [9] [some s.d, some s'.d, some (.int (s.steps.length : Int)), some (.int (s'.steps.length : Int)), some (.int (T : Int)), some (.int (M : Int)), some (.int mo), none, none, none, none] S = .ok (.lst (F1.map D.int)) S := by
      rw [lc_nat (a := M) (k := T) (g := fun (i : Nat) => D.int (farH s s' (i : Int))) (by omega) ?_ (fun i _ hi => ?_)]
      · simp only [F1, List.map_map, Function.comp_def]
      · have a1 := sI (M : Int) (by omega) (by omega)
        have a2 := sI ((M : Int) + (T : Int)) (by omega) (by omega)
        simp [a1, a2]
        try omega
      · simp [wipeR, fa i (by omega)]
    have c4 : eLc (eItS (eVar 7)) (.nm 10) tYesD (eIf (eTb (eBin gGt (eVar 6) (eK (.int 0)))) (eVar 10) (eNeg (eVar 10))) [10] [some s.d, some s'.d, some (.int (s.steps.length : Int)), some (.int (s'.steps.length : Int)), some (.int (T : Int)), some (.int (M : Int)), some (.int mo), some (.lst (F1.map D.int)), none, none, none] S = .ok (.lst ((F1.map fl).map D.int)) S := by
      refine lc_ints (by simp [F1]; omega) (by simp) (fun x _ => ?_)
      by_cases c : 0 < mo
      · simp [wipeR, eVar, c, fl]
      · simp [wipeR, eVar, c, fl]
    have hfl : ∀ y ∈ F1.map fl, -190 ≤ y ∧ y ≤ 190 := by
      intro y hy
      obtain ⟨x, hx, rfl⟩ := List.mem_map.mp hy
      have := hF1b x hx
      simp only [fl]
      split <;> omega
    have c5 : eLc (eItS (eVar 7)) (.nm 10) tYesD (eBin gAdd (eCall gInt [(eBin gDiv (eNeg (eVar 10)) (eCall gAbs [(eVar 6)]))]) (eK (.int 1))) [10] [some s.d, some s'.d, some (.int (s.steps.length : Int)), some (.int (s'.steps.length : Int)), some (.int (T : Int)), some (.int (M : Int)), some (.int mo), some (.lst ((F1.map fl).map D.int)), none, none, none] S = .ok (.lst (((F1.map fl).map bl).map D.int)) S := by
      refine lc_ints (by simp [F1]; omega) (by simp) (fun x hx => ?_)
      have dd : gDiv (.int (-x)) (.int A) S = .ok (.int (-x / A)) S := gDiv_int _ (by omega) (by
        have := small_log (x := A) (k := 10) (by
          have : (2 : Nat) ^ 10 = 1024 := by decide
          omega) (by decide) (by decide)
        omega)
      rw [hA] at dd
      simp [wipeR, eVar, dd, bl, hA]
    have ga := gAdd_lst S (xs := [D.int 0]) (ys := ((F1.map fl).map bl).map D.int) (by simp [F1]; omega)
    obtain ⟨mb, q1, q2, q3⟩ := gMax_ints (S := S) (l := 0 :: (F1.map fl).map bl) (by simp)
    have hmb0 : 0 ≤ mb := q2 0 List.mem_cons_self
    have hmb1 : mb ≤ 200 := by
      rcases List.mem_cons.mp q1 with q1 | q1
      · omega
      · obtain ⟨y, hy, rfl⟩ := List.mem_map.mp q1
        have hyb := hfl y hy
        have : -y / A ≤ 190 := by
          apply Int.ediv_le_of_le_mul (by omega)
          have := Int.mul_le_mul_of_nonneg_left hA1.1 (show (0 : Int) ≤ 190 by decide)
          omega
        simp only [bl]
        omega
    obtain ⟨b, rfl⟩ : ∃ b : Nat, mb = (b : Int) := ⟨mb.toNat, by omega⟩
    have hb : mo ≠ 0 → ∀ m, (M : Int) ≤ m → m < M + T → -(if 0 < mo then farH s s' m else -farH s s' m) < (b : Int) * (if 0 < mo then mo else -mo) := by
      intro _ m m1 m2
      have hmem : bl (fl (farH s s' m)) ∈ (F1.map fl).map bl := List.mem_map_of_mem (List.mem_map_of_mem (List.mem_map.mpr ⟨m.toNat, List.mem_range'_1.mpr ⟨by omega, by omega⟩, by rw [show ((m.toNat : Nat) : Int) = m by omega]⟩))
      have hle := q2 _ (List.mem_cons_of_mem _ hmem)
      have h1 := Int.lt_ediv_add_one_mul_self (-(fl (farH s s' m))) (show (0 : Int) < A by omega)
      have h2 := Int.mul_le_mul_of_nonneg_right hle (show 0 ≤ A by omega)
      simp only [bl] at h2
      rw [← hA2]
      simp only [fl] at h1 h2 ⊢
      omega
    obtain ⟨e, a, k1, k2, k3, k4, k5, k6⟩ := fin b (some (.int mo)) (some (.lst ((F1.map fl).map D.int))) (by omega) hb
    refine ⟨e, a, ?_, k2, k3, k4, k5, k6⟩
    · have mT : gMul (.int (T : Int)) (.int (b : Int)) S = .ok (.int ((T * b : Nat) : Int)) S := by
        rw [gMul_int _ (by have := lg T (by omega); have := lg b (by omega); omega)]
        simp
      have hne : ¬ mo = 0 := h0
      have st1 : (sIf (eTb (eBin gNe (eVar 6) (eK (.int 0))))
          (sSeq (sSet 7 (eLc (eRng2 (eVar 5) (eBin gAdd (eVar 5) (eVar 4))) (.nm 9) tYesD (eCall F_far_at [(eVar 0), (eVar 1), (eVar 9)]) [9]))
          (sSeq (sSet 7 (eLc (eItS (eVar 7)) (.nm 10) tYesD (eIf (eTb (eBin gGt (eVar 6) (eK (.int 0)))) (eVar 10) (eNeg (eVar 10))) [10]))
          (sSet 5 (eBin gAdd (eVar 5) (eBin gMul (eVar 4) (eCall gMax [(eBin gAdd (eLst [(eK (.int 0))]) (eLc (eItS (eVar 7)) (.nm 10) tYesD (eBin gAdd (eCall gInt [(eBin gDiv (eNeg (eVar 10)) (eCall gAbs [(eVar 6)]))]) (eK (.int 1))) [10]))])))))) sNx) [some s.d, some s'.d, some (.int (s.steps.length : Int)), some (.int (s'.steps.length : Int)), some (.int (T : Int)), some (.int (M : Int)), some (.int mo), none, none, none, none] S
          = .nx [some s.d, some s'.d, some (.int (s.steps.length : Int)), some (.int (s'.steps.length : Int)), some (.int (T : Int)), some (.int ((M + T * b : Nat) : Int)), some (.int mo), some (.lst ((F1.map fl).map D.int)), none, none, none] S := by
        have t1 : (eTb (eBin gNe (eVar 6) (eK (.int 0)))) [some s.d, some s'.d, some (.int (s.steps.length : Int)), some (.int (s'.steps.length : Int)), some (.int (T : Int)), some (.int (M : Int)), some (.int mo), none, none, none, none] S = .ok true S := by simp [hne]
        simp only [sIf_ap, t1, DL.F.ofR_ok, sSeq_ap, sSet_ap, c3, DL.F.seq_nx, List.set, c4]
        simp only [eBin_ap, eVar5, eVar4, R.bind_ok, eCall_ap, eArgs_cons, eArgs_nil, eLst_ap, eK_ap, c5, ga]
        simp only [List.map_cons, List.singleton_append] at q3 ⊢
        rw [q3]
        simp only [R.bind_ok, mT, gAdd_int, DL.F.ofR_ok]
        rw [show ((M + T * b : Nat) : Int) = (M : Int) + ((T * b : Nat) : Int) from rfl]
      simp only [sSeq_ap] at k1 st1 ⊢
      rw [st1]
      simp only [DL.F.seq_nx, sSeq_ap]
      rw [k1]
      simp
end
end DL
/-! order_calendar, first_over, highest -/
namespace DL
open PySem L2
structure WordC (s s' : Sn) (e a : List Str) : Prop where
  short : ShortC e a
  «at» : ∀ i : Nat, itemAt e a i = wordS (farH s s' (i : Int))
  le : e.length ≤ 100000
  la : a.length ≤ 4000
  w : ∀ x, x ∈ e ∨ x ∈ a → isWord x
theorem WordC.uniq {s s' : Sn} {e a e' a' : List Str} (w : WordC s s' e a) (w' : WordC s s' e' a') : e = e' ∧ a = a' := w.short.uniq w'.short fun i => (w.at i).trans (w'.at i).symm
theorem wordC_ex {s s' : Sn} (h : s.Ok) (h' : s'.Ok) : ∃ e a, WordC s s' e a ∧ ∀ S : Sto, F_words_by [s.d, s'.d] S = .ok (.tup [.tup (e.map D.str), .tup (a.map D.str)]) S := by
  obtain ⟨e, a, _, g1, g2, g3, g4, g5⟩ := words_by_eq (S := []) h h'
  refine ⟨e, a, ⟨g1, g2, g3, g4, g5⟩, fun S => ?_⟩
  obtain ⟨e', a', k0, k1, k2, k3, k4, k5⟩ := words_by_eq (S := S) h h'
  obtain ⟨rfl, rfl⟩ := WordC.uniq ⟨g1, g2, g3, g4, g5⟩ ⟨k1, k2, k3, k4, k5⟩
  exact k0
/-- where over stands first -/
def overO (l : List Str) : Option Nat := findD (.str (Str.ofString "over")) 0 (l.map D.str)
theorem findD_some (x : D) : ∀ (l : List D) (k : Nat), (findD x k l).isSome = l.any fun y => eqF y x
  | [], _ => rfl
  | y :: l, k => by
    simp only [findD, List.any_cons]
    cases eqF y x with
    | true => rfl
    | false => simpa using findD_some x l (k + 1)
section
variable {S : Sto}
theorem gIn_over (l : List Str) : gInB false (.str (Str.ofString "over")) (.lst (l.map D.str)) S = .ok (.bl (overO l).isSome) S := by
  have h1 : (l.map D.str).all flatD = true := by simp [flatD]
  unfold gInB overO
  rw [findD_some]
  simp only [view_lst_, show flatD (.str (Str.ofString "over")) = true from rfl, h1, Bool.and_self, if_true]
  rfl
theorem index_over {l : List Str} {j : Nat} (h : overO l = some j) : gIndexM (.lst (l.map D.str)) [.str (Str.ofString "over")] S = .ok (.int (j : Int)) S := by
  have h1 : (l.map D.str).all flatD = true := by simp [flatD]
  unfold overO at h
  unfold gIndexM
  simp only [view_lst_, show flatD (.str (Str.ofString "over")) = true from rfl, h1, Bool.and_self, if_true, h]
/-- what the index is, or none -/
theorem over_if {w : Nat} {ρ : Rho} {l : List Str} (hw : ρ[w]? = some (some (.lst (l.map D.str)))) :
    (eIf (eTb (eBin gIn (eK (.str (Str.ofString "over"))) (eVar w))) (eMeth "list" gIndexM (eVar w) [(eK (.str (Str.ofString "over")))]) (eK .non)) ρ S = .ok (oD ((overO l).map fun (j : Nat) => (j : Int))) S := by
  have v : eVar w ρ S = .ok (.lst (l.map D.str)) S := by simp [eVar, hw]
  have g := gIn_over (S := S) l
  cases ho : overO l with
  | none =>
    rw [ho] at g
    simp only [Option.isSome_none] at g
    simp only [eIf_ap, eTb_ap, eBin_ap, eK_ap, R.bind_ok, v, g]
    rfl
  | some j =>
    rw [ho] at g
    simp only [Option.isSome_some] at g
    have hx := index_over (S := S) ho
    simp only [eIf_ap, eTb_ap, eBin_ap, eK_ap, R.bind_ok, v, g, eMeth, isT, eArgs_cons, eArgs_nil, hx, if_true]
    simp [oD, view_lst_, hx]
theorem order_calendar_eq {s s' : Sn} (h : s.Ok) (h' : s'.Ok) {d : D} (e : F_words_by [s.d, s'.d] S = .ok d S) : F_order_calendar [s.d, s'.d] S = .ok d S := by
  simp [F_order_calendar, fnP_ap, need_two_eq h h', e]
theorem first_over_eq {s s' : Sn} (h : s.Ok) (h' : s'.Ok) {e a : List Str} (w : WordC s s' e a) (hw : ∀ S : Sto, F_words_by [s.d, s'.d] S = .ok (.tup [.tup (e.map D.str), .tup (a.map D.str)]) S) : F_first_over [s.d, s'.d] S = .ok (oD ((overO (e ++ a)).map fun (j : Nat) => (j : Int))) S := by
  have hle := w.le
  have hla := w.la
  have ga := gAdd_tup S (xs := e.map D.str) (ys := a.map D.str) (by simp; omega)
  rw [← List.map_append] at ga
  have ov := over_if (S := S) (w := 4) (ρ := [some s.d, some s'.d, some (.tup (e.map D.str)), some (.tup (a.map D.str)), some (.lst ((e ++ a).map D.str))]) (l := e ++ a) rfl
  rw [show F_first_over [s.d, s'.d] S = popR S.length _ from fnP_ap _ _ _ _ _]
  have hpre : ∀ k : Sm, (sSeq (sEx (eCall F_need_two [(eVar 0), (eVar 1)])) (sSeq (sSt (eCall F_words_by [(eVar 0), (eVar 1)]) (gTp 2 (gsCons (gNm 2) (gsCons (gNm 3) gsNil)))) (sSeq (sSet 4 (eCall gList [(eBin gAdd (eVar 2) (eVar 3))])) k))) ([s.d, s'.d].map some ++ List.replicate (5 - 2) none) S = k [some s.d, some s'.d, some (.tup (e.map D.str)), some (.tup (a.map D.str)), some (.lst ((e ++ a).map D.str))] S := by
    intro k
    simp [need_two_eq h h', hw, ga, -List.map_append]
  rw [hpre]
  simp only [sRt_ap, ov, DL.F.ofR_ok, fin_rt, popR_same]
def topBd : Sm := (sSeq (sSet 2 (eCall F_stepped [(eVar 2), (eVar 7)]))
    (sSet 5 (eIf (eTb (eBin gGt (eVar 2) (eVar 5))) (eVar 2) (eVar 5))))
theorem top_in {h : Int} {st : List Int} (hn : 0 < st.length) (q : Nat) (v0 v1 v3 v4 v6 : Option D) : ∀ (k r : Nat) (z : Option D), r + k = st.length →
    ∃ z', forL (gNm 7) topBd ((st.drop r).map D.int) [v0, v1, some (.int (W st h (q * st.length + r))), v3, v4, some (.int (mx st h (q * st.length + r))), v6, z] S
      = .nx [v0, v1, some (.int (W st h ((q + 1) * st.length))), v3, v4, some (.int (mx st h ((q + 1) * st.length))), v6, z'] S
  | 0, r, z, hr => by
    have : r = st.length := by omega
    subst this
    refine ⟨z, ?_⟩
    rw [Nat.succ_mul]
    simp [forL]
  | k + 1, r, z, hr => by
    have hrl : r < st.length := by omega
    obtain ⟨z', e⟩ := top_in hn q v0 v1 v3 v4 v6 k (r + 1) (some (.int st[r])) (by omega)
    refine ⟨z', ?_⟩
    rw [← Nat.add_assoc] at e
    rw [← e, List.drop_eq_getElem_cons hrl]
    have hW : up (W st h (q * st.length + r)) st[r] = W st h (q * st.length + r + 1) := by
      rw [W_succ hn]
      have hm : (q * st.length + r) % st.length = r := by
        rw [Nat.add_comm, Nat.add_mul_mod_self_right, Nat.mod_eq_of_lt hrl]
      simp only [hm]
    have hmx : mx st h (q * st.length + r + 1) = if mx st h (q * st.length + r) < W st h (q * st.length + r + 1) then W st h (q * st.length + r + 1) else mx st h (q * st.length + r) := by
      simp only [mx]
      split <;> omega
    generalize q * st.length + r = t at *
    rw [hmx]
    generalize st[r] = x at *
    generalize st.drop (r + 1) = rest at *
    by_cases c : mx st h t < W st h (t + 1)
    · simp [forL, topBd, stepped_eq, hW, c]
    · simp [forL, topBd, stepped_eq, hW, c]
theorem top_out {h : Int} {st : List Int} (hn : 0 < st.length) (R : Nat) (v0 v1 v4 : Option D) : ∀ (k q : Nat) (z6 z7 : Option D), q + k = R →
    ∃ z6' z7', forR (gNm 6) (sFor (eItS (eVar 3)) (gNm 7) topBd) k (q : Int) [v0, v1, some (.int (W st h (q * st.length))), some (.tup (st.map D.int)), v4, some (.int (mx st h (q * st.length))), z6, z7] S
      = .nx [v0, v1, some (.int (W st h (R * st.length))), some (.tup (st.map D.int)), v4, some (.int (mx st h (R * st.length))), z6', z7'] S
  | 0, q, z6, z7, hq => by
    have : q = R := by omega
    subst this
    exact ⟨z6, z7, rfl⟩
  | k + 1, q, z6, z7, hq => by
    obtain ⟨z', e⟩ := top_in (S := S) hn q v0 v1 (some (.tup (st.map D.int))) v4 (some (.int (q : Int))) st.length 0 z7 (by omega)
    obtain ⟨z6', z7', e2⟩ := top_out hn R v0 v1 v4 k (q + 1) (some (.int (q : Int))) z' (by omega)
    refine ⟨z6', z7', ?_⟩
    rw [← e2]
    simp only [List.drop_zero, Nat.add_zero] at e
    simp only [forR, gNm_ap, List.set, on_nx, DL.F.seq_nx]
    rw [sFor_tup (xs := st.map D.int) (S1 := S) (by simp), e]
    simp
/-- the greatest height, or none -/
def Sn.top (s : Sn) : Option Int := if 0 < s.gn then none else some (mx s.steps s.height ((s.L + 1) * s.steps.length))
theorem top_of_eq {s : Sn} (h : s.Ok) : F_top_of [s.d] S = .ok (oD s.top) S := by
  have hn := h.n0
  have hL := Sn.L6 h
  have e := settled_eq (S := S) (L := s.L) (by omega) (Sn.sets h)
  have hd : s.d = .tup [.int s.start, .int s.height, .tup (s.steps.map D.int)] := rfl
  have i1 : gIdx (.lst (itL s.steps s.height s.L)) (.int (-1)) S = .ok (.int (itb s.steps s.height s.L)) S := gIdx_lst _ (itL_last _ _ _)
  have g := gain_of_eq (S := S) (itb s.steps s.height s.L) s.steps
  have hgn : DL.gn s.steps (itb s.steps s.height s.L) = s.gn := rfl
  rw [hgn] at g
  unfold Sn.top
  by_cases c : 0 < s.gn
  · rw [hd, if_pos c]
    simp [F_top_of, fnP_ap, e, i1, g, c, oD]
  · obtain ⟨z6, z7, lp⟩ := top_out (S := S) (h := s.height) hn (s.L + 1) (some (.tup [.int s.start, .int s.height, .tup (s.steps.map D.int)])) (some (.int s.start)) (some (.lst (itL s.steps s.height s.L))) (s.L + 1) 0 none none (by omega)
    simp only [Nat.zero_mul, W_zero, mx] at lp
    have hsm : smallI ((s.L : Int) + 1) = true := smallI_mk (by omega) (by omega)
    have htn : ((s.L : Int) + 1).toNat = s.L + 1 := by omega
    rw [hd, if_neg c]
    simp only [F_top_of, fnP_ap, sSeq_ap]
    simp [e, i1, g, c]
    rw [sFor_rng (lo := 0) (n := s.L + 1) (S1 := S) (by simp [itL_len, hsm, htn])]
    rw [show ((0 : Nat) : Int) = 0 from rfl] at lp
    simp only [topBd] at lp
    rw [lp]
    simp [oD]
theorem highest_eq {s : Sn} (h : s.Ok) : F_highest [s.d] S = .ok (oD s.top) S := by
  simp [F_highest, fnP_ap, need_snail_eq h, top_of_eq h]
end
theorem Sn.top_le {s : Sn} (h : s.Ok) {b : Int} (e : s.top = some b) : (∀ t, W s.steps s.height t ≤ b) ∧ (∃ t, t ≤ 28 ∧ W s.steps s.height t = b) ∧ b ≤ 100 := by
  unfold Sn.top at e
  split at e
  · cases e
  · next c =>
    simp only [Option.some.injEq] at e
    have hg : s.gn = 0 := by have := Sn.gn_nn h; omega
    have hb : ∀ x ∈ s.steps, x ≤ 3 := fun x hx => (h.rd.bd x hx).2
    have hL := Sn.L6 h
    have hN := h.rd.le
    have h28 : (s.L + 1) * s.steps.length ≤ 7 * 4 := Nat.mul_le_mul (by omega) hN
    refine ⟨fun t => ?_, ?_, ?_⟩
    · rw [← e]; exact never_more h.n0 h.h0 (Sn.sets h) hg t
    · obtain ⟨u, hu, e2⟩ := mx_is (st := s.steps) (h := s.height) ((s.L + 1) * s.steps.length)
      exact ⟨u, by omega, by rw [← e2]; exact e⟩
    · have := (mx_le (h := s.height) h.n0 hb h.h0 ((s.L + 1) * s.steps.length)).1
      have := h.h1
      omega
theorem Sn.top_none {s : Sn} (h : s.Ok) (e : s.top = none) (t : Nat) (ht : 100000 ≤ t) : 1000 < W s.steps s.height t := by
  unfold Sn.top at e
  split at e
  · next c =>
    have hN := h.rd.le
    have hn := h.n0
    have hL := Sn.L6 h
    have hLN : s.L * s.steps.length ≤ 6 * 4 := Nat.mul_le_mul hL hN
    have hdm := Nat.div_add_mod t s.steps.length
    have hm := Nat.mod_lt t hn
    have hq : 2000 + s.L ≤ t / s.steps.length := by
      apply (Nat.le_div_iff_mul_le hn).mpr
      have : (2000 + s.L) * s.steps.length ≤ (2000 + 6) * 4 := Nat.mul_le_mul (by omega) hN
      omega
    obtain ⟨j, hj⟩ : ∃ j, t / s.steps.length = s.L + j := ⟨t / s.steps.length - s.L, by omega⟩
    have el := W_late hn h.h0 (Sn.sets h) j (t % s.steps.length) hm
    rw [← hj, Nat.mul_comm (t / s.steps.length), hdm] at el
    have h0 := W_nn (st := s.steps) h.h0 (s.L * s.steps.length + t % s.steps.length)
    have hgn : (1 : Int) ≤ DL.gn s.steps (itb s.steps s.height s.L) := c
    have := Int.mul_le_mul_of_nonneg_left hgn (Int.natCast_nonneg j)
    have hj2 : 2000 ≤ j := by omega
    rw [el]
    have hj3 : (2000 : Int) ≤ (j : Int) := by omega
    omega
  · cases e
end DL
/-! who stands higher, of written snails -/
namespace DL
open PySem L2
def wordChk (s s' : Sn) (e a : List Str) (B T : Nat) : Bool := decide (0 < T) && decide (T % s.steps.length = 0) && decide (T % s'.steps.length = 0) && decide (s.sm ≤ (B : Int)) && decide (s'.sm ≤ (B : Int)) && decide (B ≤ 100000) &&
  (decide (s.gi T - s'.gi T = 0) || (List.range' B T).all fun m => if 0 < s.gi T - s'.gi T then decide (0 < farH s s' (m : Int)) else decide (farH s s' (m : Int) < 0)) &&
  shortChk e a && decide (e.length ≤ B) && decide (T % a.length = 0) && decide (a.length ≤ 4000) && ((List.range (B + T)).all fun i => decide (itemAt e a i = wordS (farH s s' (i : Int)))) && ((e ++ a).all fun x => decide (x = Str.ofString "over") || decide (x = Str.ofString "under") || decide (x = Str.ofString "same"))
theorem wordC_of_chk {s s' : Sn} (h : s.Ok) (h' : s'.Ok) {e a : List Str} (B T : Nat) (k : wordChk s s' e a B T = true) : WordC s s' e a := by
  unfold wordChk at k
  simp only [Bool.and_eq_true, decide_eq_true_eq] at k
  obtain ⟨⟨⟨⟨⟨⟨⟨⟨⟨⟨⟨⟨k1, k2⟩, k3⟩, k4⟩, k5⟩, k6⟩, k7⟩, k8⟩, k9⟩, k10⟩, k11⟩, k12⟩, k13⟩ := k
  have hT1 := Nat.dvd_of_mod_eq_zero k2
  have hT2 := Nat.dvd_of_mod_eq_zero k3
  have hs := short_of_chk k8
  have per : ∀ i, B ≤ i → ∀ q, wordS (farH s s' ((i + q * T : Nat) : Int)) = wordS (farH s s' (i : Int)) := by
    intro i hi q
    have := word_for_good h h' k1 hT1 hT2 (m0 := (B : Int)) k4 k5 (b := 0) (fun hne m m1 m2 => by
      simp only [Bool.or_eq_true, decide_eq_true_eq] at k7
      have hall := k7.resolve_left hne
      have := List.all_eq_true.mp hall m.toNat (List.mem_range'_1.mpr ⟨by omega, by omega⟩)
      rw [show ((m.toNat : Nat) : Int) = m by omega] at this
      rw [show ((0 : Nat) : Int) = 0 from rfl, Int.zero_mul]
      split at this
      · next c => rw [if_pos c]; simp only [decide_eq_true_eq] at this; omega
      · next c => rw [if_neg c]; simp only [decide_eq_true_eq] at this; omega) (m := (i : Int)) (by simp; omega) q
    rw [show ((i + q * T : Nat) : Int) = (i : Int) + ((q * T : Nat) : Int) by omega]
    exact this
  have hall : ∀ i, i < B + T → itemAt e a i = wordS (farH s s' (i : Int)) := fun i hi => by
    have := List.all_eq_true.mp k12 i (List.mem_range.mpr hi)
    simpa using this
  refine ⟨hs, fun i => ?_, by omega, k11, fun x hx => ?_⟩
  · rcases Nat.lt_or_ge i (B + T) with hl | hl
    · exact hall i hl
    · have hm := Nat.mod_lt (i - B) k1
      have e1 := per (B + (i - B) % T) (by omega) ((i - B) / T)
      have hie : B + (i - B) % T + (i - B) / T * T = i := by
        have := Nat.div_add_mod (i - B) T
        rw [Nat.mul_comm] at this
        omega
      rw [hie] at e1
      rw [e1, ← hall _ (by omega), itemAt_ge (by omega), itemAt_ge (by omega)]
      obtain ⟨q, hq⟩ := Nat.dvd_of_mod_eq_zero k10
      refine cyc_eq (z := ((i - B) / T : Nat) * (q : Int)) ?_
      have : (a.length : Int) * (((i - B) / T : Nat) * (q : Int)) = (((i - B) / T * T : Nat) : Int) := by
        rw [Int.natCast_mul, hq, Int.natCast_mul, Int.mul_left_comm]
      rw [this]
      omega
  · have := List.all_eq_true.mp k13 x (List.mem_append.mpr hx)
    simp only [Bool.or_eq_true, decide_eq_true_eq] at this
    unfold isWord
    rcases this with (this | this) | this
    · exact .inl this
    · exact .inr (.inl this)
    · exact .inr (.inr this)
theorem words_val {s s' : Sn} (h : s.Ok) (h' : s'.Ok) {e a : List Str} (B T : Nat) (k : wordChk s s' e a B T = true) (S : Sto) : F_words_by [s.d, s'.d] S = .ok (.tup [.tup (e.map D.str), .tup (a.map D.str)]) S := by
  obtain ⟨e', a', w, hw⟩ := wordC_ex h h'
  obtain ⟨rfl, rfl⟩ := w.uniq (wordC_of_chk h h' B T k)
  exact hw S
end DL
/-! what minutes tell of depths -/
namespace DL
open PySem L2
section
variable {S : Sto}
theorem minute_in_eqB {c : Cal} (hlA : c.again.length ≤ 12) (hlE : c.early.length ≤ 100) (hr0 : 0 ≤ c.rise) (hr : c.rise ≤ 1000) {d : Int} (h1 : 1 ≤ d) (h2 : d ≤ 10000000000000000000000000000000000000000) : F_minute_in [c.d, .int d] S = .ok (oD (c.at (d - 1).toNat)) S := by
  obtain ⟨i, rfl⟩ : ∃ i : Nat, d = (i : Int) + 1 := ⟨(d - 1).toNat, by omega⟩
  have hi : ((i : Int) + 1 - 1).toNat = i := by omega
  rw [hi]
  by_cases c1 : i < c.early.length
  · have e : c.at i = some (c.early.getD i 0) := by unfold Cal.at; rw [if_pos c1]
    have i1 : gIdx (.tup (c.early.map D.int)) (.int (i : Int)) S = .ok (.int (c.early.getD i 0)) S := gIdx_tup _ (atI_nat (by simp [List.getElem?_eq_getElem c1, List.getD]))
    have c1' : (i : Int) + 1 ≤ (c.early.length : Int) := by omega
    have hs : (i : Int) + 1 - 1 = (i : Int) := by omega
    rw [e]
    simp [F_minute_in, fnP_ap, Cal.d, c1', hs, i1, oD]
  · have c1' : ¬ (i : Int) + 1 ≤ (c.early.length : Int) := by omega
    obtain ⟨j, hj⟩ : ∃ j : Nat, (i : Int) + 1 - 1 - (c.early.length : Int) = (j : Int) := ⟨i - c.early.length, by omega⟩
    have hj2 : i - c.early.length = j := by omega
    have hj' : (i : Int) - (c.early.length : Int) = (j : Int) := by omega
    by_cases c2 : c.again = []
    · have e : c.at i = none := by unfold Cal.at; rw [if_neg c1, c2]; rfl
      have i1 : gIdx (.tup [.non]) (.int 0) S = .ok .non S := gIdx_tup _ (atI0 _ _)
      have m1 : gMod (.int (j : Int)) (.int 1) S = .ok (.int 0) S := by rw [gMod_int _ (by omega)]; simp
      rw [e]
      simp [F_minute_in, fnP_ap, Cal.d, c1', hj', c2, agD, m1, i1, oD, isNon]
    · have hp : 0 < c.again.length := List.length_pos_iff.mpr c2
      have e : c.at i = some (rs c.again c.rise j) := by
        unfold Cal.at
        rw [if_neg c1, hj2, if_neg (by simpa using c2)]
      have hmod := Nat.mod_lt j hp
      have i1 : gIdx (.tup (c.again.map D.int)) (.int ((j % c.again.length : Nat) : Int)) S = .ok (.int (c.again.getD (j % c.again.length) 0)) S := gIdx_tup _ (atI_nat (by simp [List.getElem?_eq_getElem hmod, List.getD]))
      have m1 : gMod (.int (j : Int)) (.int (c.again.length : Int)) S = .ok (.int ((j % c.again.length : Nat) : Int)) S := by rw [gMod_int _ (by omega)]; rfl
      have hl : ((c.again.length : Int)).natAbs.log2 < 9000 := by
        have b : ((c.again.length : Int)).natAbs.log2 < 7 := log2_lt (by
          have : (2 : Nat) ^ 7 = 128 := by decide
          omega) (by decide)
        omega
      have m2 : gDiv (.int (j : Int)) (.int (c.again.length : Int)) S = .ok (.int ((j / c.again.length : Nat) : Int)) S := by rw [gDiv_int _ (by omega) hl]; rfl
      have hjb : j / c.again.length ≤ j := Nat.div_le_self _ _
      have m3 : gMul (.int ((j / c.again.length : Nat) : Int)) (.int c.rise) S = .ok (.int (((j / c.again.length : Nat) : Int) * c.rise)) S := gMul_int _ (by
        have a : c.rise.natAbs.log2 < 10 := log2_lt (by
          have : (2 : Nat) ^ 10 = 1024 := by decide
          omega) (by decide)
        have b : (((j / c.again.length : Nat) : Int)).natAbs.log2 < 200 := log2_lt (by
          rw [Int.natAbs_natCast]
          have : (10000000000000000000000000000000000000000 : Nat) + 100 < 2 ^ 200 := by decide
          omega) (by decide)
        omega)
      rw [e]
      unfold rs
      have hag : agD c.again = c.again.map D.int := agD_ne hp
      generalize j % c.again.length = q at *
      generalize j / c.again.length = q' at *
      simp [F_minute_in, fnP_ap, Cal.d, c1', hj', hag, m1, i1, m2, m3, oD, isNon]
end
theorem IsT.mono {st : List Int} {h d e : Int} {T U : Nat} (a : IsT st h d T) (b : IsT st h e U) (hd : d ≤ e) : T ≤ U := by
  rcases Nat.lt_or_ge U T with c | c
  · have := a.2 U c
    have := b.1
    omega
  · exact c
theorem mn_mono {a : Int} (ha : 0 ≤ a) {T U : Nat} (h : T ≤ U) : mn a T ≤ mn a U := by
  unfold mn
  by_cases c : T = 0
  · rw [if_pos c]
    split <;> omega
  · rw [if_neg c, if_neg (by omega)]
    omega
/-- deeper, never earlier -/
theorem Sn.at_mono {s : Sn} (h : s.Ok) {i j : Nat} (hij : i ≤ j) {x y : Int} (hx : s.cal.at i = some x) (hy : s.cal.at j = some y) : x ≤ y := by
  have k := Sn.calOk h
  have a := k.out i
  have b := k.out j
  rw [hx] at a
  rw [hy] at b
  obtain ⟨T, hT, rfl⟩ := a
  obtain ⟨U, hU, rfl⟩ := b
  exact mn_mono h.s0 (hT.mono hU (by omega))
theorem Sn.rise_pos {s : Sn} (h : s.Ok) (ha : s.cal.again ≠ []) : 0 < s.cal.rise := (Sn.calOk h).rise ha
/-- the turns in which a minute stands -/
theorem turns_of {s : Sn} (h : s.Ok) (ha : s.cal.again ≠ []) {m : Int} {i : Nat} (hi : s.cal.early.length ≤ i) (e : s.cal.at i = some m) :
    ∃ q r : Nat, i = s.cal.early.length + q * s.cal.again.length + r ∧ r < s.cal.again.length ∧ (q : Int) ≤ (m - s.cal.again.getD 0 0) / s.cal.rise ∧ (m - s.cal.again.getD 0 0) / s.cal.rise ≤ (q : Int) + 1 := by
  have hp : 0 < s.cal.again.length := List.length_pos_iff.mpr ha
  have hr := Sn.rise_pos h ha
  have hE := fun k => Cal.at_more (c := s.cal) s.cal.early.length k (Nat.le_refl _)
  have hal := Cal.al_at ha
  have h0 : s.cal.at s.cal.early.length = some (s.cal.again.getD 0 0) := by
    rw [Cal.at_ge ha (Nat.le_refl _), Nat.sub_self, rs_lt hp, List.getD_eq_getElem?_getD, List.getElem?_eq_getElem hp]
    rfl
  have hdm := Nat.div_add_mod (i - s.cal.early.length) s.cal.again.length
  have hmod := Nat.mod_lt (i - s.cal.early.length) hp
  refine ⟨(i - s.cal.early.length) / s.cal.again.length, (i - s.cal.early.length) % s.cal.again.length, ?_, hmod, ?_, ?_⟩
  · rw [Nat.mul_comm] at hdm
    omega
  · have e1 := hE ((i - s.cal.early.length) / s.cal.again.length)
    rw [h0, hal, Option.map_some] at e1
    have := Sn.at_mono h (i := s.cal.early.length + (i - s.cal.early.length) / s.cal.again.length * s.cal.again.length) (j := i) (by rw [Nat.mul_comm] at hdm; omega) e1 e
    exact (Int.le_ediv_iff_mul_le hr).mpr (by omega)
  · have e1 := hE ((i - s.cal.early.length) / s.cal.again.length + 1)
    rw [h0, hal, Option.map_some] at e1
    have hm3 := Sn.at_mono h (i := i) (j := s.cal.early.length + ((i - s.cal.early.length) / s.cal.again.length + 1) * s.cal.again.length) (by rw [Nat.succ_mul]; rw [Nat.mul_comm] at hdm; omega) e e1
    have h2 : (m - s.cal.again.getD 0 0) ≤ (((i - s.cal.early.length) / s.cal.again.length : Nat) + 1 : Int) * s.cal.rise := by
      have hcast : (((i - s.cal.early.length) / s.cal.again.length + 1 : Nat) : Int) = (((i - s.cal.early.length) / s.cal.again.length : Nat) : Int) + 1 := rfl
      rw [hcast] at hm3
      omega
    have h3 := Int.ediv_le_ediv hr h2
    rw [Int.mul_ediv_cancel _ (by omega)] at h3
    exact h3
/-- the depths that are looked at -/
def dpL (c : Cal) (t : Nat) : List Int := (List.range' 1 c.early.length).map (fun (j : Nat) => (j : Int)) ++ if c.endl then (List.range' (c.early.length + 1 + t * c.again.length) (4 * c.again.length)).map (fun (j : Nat) => (j : Int)) else []
def isMin (c : Cal) (m : Int) (d : Int) : Bool := decide (c.at (d - 1).toNat = some m)
def tuO : Option (Int × Int) → D
  | none => .non
  | some (l, h) => .tup [.int l, .int h]
/-- what is told of a minute -/
structure Told (c : Cal) (m : Int) (o : Option (Int × Int)) : Prop where
  yes : ∀ l h, o = some (l, h) → 1 ≤ l ∧ l ≤ h ∧ c.at (l - 1).toNat = some m ∧ c.at (h - 1).toNat = some m ∧ ∀ d : Int, 1 ≤ d → c.at (d - 1).toNat = some m → l ≤ d ∧ d ≤ h
  no : o = none → ∀ d : Int, 1 ≤ d → c.at (d - 1).toNat ≠ some m
theorem sorted_map (a n : Nat) : ((List.range' a n).map fun (j : Nat) => (j : Int)).Pairwise (· < ·) := by
  rw [List.pairwise_map]
  exact (List.pairwise_lt_range' (s := a) (n := n)).imp fun h => by omega
theorem dpL_sorted (c : Cal) (t : Nat) : (dpL c t).Pairwise (· < ·) := by
  unfold dpL
  split
  · rw [List.pairwise_append]
    refine ⟨sorted_map _ _, sorted_map _ _, fun x hx y hy => ?_⟩
    obtain ⟨i, hi, rfl⟩ := List.mem_map.mp hx
    obtain ⟨j, hj, rfl⟩ := List.mem_map.mp hy
    have := List.mem_range'_1.mp hi
    have := List.mem_range'_1.mp hj
    have := Nat.zero_le (t * c.again.length)
    omega
  · rw [List.append_nil]; exact sorted_map _ _
def turnsOf (c : Cal) (m : Int) : Nat := if c.endl then ((m - c.again.getD 0 0) / c.rise - 1).toNat else 0
/-- all depths with that minute are looked at -/
theorem dpL_all {s : Sn} (h : s.Ok) {m : Int} {d : Int} (h1 : 1 ≤ d) (e : s.cal.at (d - 1).toNat = some m) : d ∈ dpL s.cal (turnsOf s.cal m) := by
  unfold dpL
  rw [List.mem_append]
  by_cases c1 : (d - 1).toNat < s.cal.early.length
  · exact .inl (List.mem_map.mpr ⟨d.toNat, List.mem_range'_1.mpr ⟨by omega, by omega⟩, by omega⟩)
  · have ha : s.cal.again ≠ [] := at_endl (by omega) e
    have he := Cal.endl_iff.mpr ha
    obtain ⟨q, r, e1, e2, e3, e4⟩ := turns_of h ha (by omega) e
    refine .inr ?_
    rw [he]
    simp only [if_true]
    unfold turnsOf
    rw [he]
    simp only [if_true]
    generalize (m - s.cal.again.getD 0 0) / s.cal.rise = Q at *
    refine List.mem_map.mpr ⟨d.toNat, List.mem_range'_1.mpr ?_, by omega⟩
    have hp : 0 < s.cal.again.length := List.length_pos_iff.mpr ha
    obtain ⟨k, hk⟩ : ∃ k : Nat, q = (Q - 1).toNat + k ∧ k ≤ 1 := ⟨q - (Q - 1).toNat, by omega, by omega⟩
    obtain ⟨hk1, hk2⟩ := hk
    rw [hk1, Nat.add_mul] at e1
    have hkN : k * s.cal.again.length ≤ 1 * s.cal.again.length := Nat.mul_le_mul_right _ hk2
    generalize (Q - 1).toNat * s.cal.again.length = X at *
    omega
theorem told_of {s : Sn} (h : s.Ok) (m : Int) {L : List Int} (hL : (dpL s.cal (turnsOf s.cal m)).filter (isMin s.cal m) = L) : Told s.cal m (match L with | [] => none | x :: r => some (x, (x :: r).getLast (by simp))) := by
  have hsort : L.Pairwise (· < ·) := by rw [← hL]; exact (dpL_sorted _ _).filter _
  have hmem : ∀ d ∈ L, 1 ≤ d ∧ s.cal.at (d - 1).toNat = some m := by
    intro d hd
    rw [← hL] at hd
    obtain ⟨k1, k2⟩ := List.mem_filter.mp hd
    refine ⟨?_, by simpa [isMin] using k2⟩
    unfold dpL at k1
    rcases List.mem_append.mp k1 with k1 | k1
    · obtain ⟨i, hi, rfl⟩ := List.mem_map.mp k1
      have := List.mem_range'_1.mp hi
      omega
    · split at k1
      · obtain ⟨i, hi, rfl⟩ := List.mem_map.mp k1
        have := List.mem_range'_1.mp hi
        omega
      · cases k1
  have hall : ∀ d : Int, 1 ≤ d → s.cal.at (d - 1).toNat = some m → d ∈ L := by
    intro d h1 e
    rw [← hL]
    exact List.mem_filter.mpr ⟨dpL_all h h1 e, by unfold isMin; exact decide_eq_true e⟩
  cases L with
  | nil => exact ⟨fun l h e => by simp at e, fun _ d h1 e => by have := hall d h1 e; cases this⟩
  | cons x r =>
    refine ⟨fun l hh e => ?_, fun e => by simp at e⟩
    simp only [Option.some.injEq, Prod.mk.injEq] at e
    obtain ⟨rfl, rfl⟩ := e
    have hx := hmem x List.mem_cons_self
    have hl := hmem _ (List.getLast_mem (l := x :: r) (by simp))
    have hlo : ∀ d ∈ x :: r, x ≤ d := by
      intro d hd
      rcases List.mem_cons.mp hd with rfl | hd
      · exact Int.le_refl _
      · exact Int.le_of_lt ((List.pairwise_cons.mp hsort).1 d hd)
    have hhi : ∀ d ∈ x :: r, d ≤ (x :: r).getLast (by simp) := by
      intro d hd
      obtain ⟨k, hk, rfl⟩ := List.getElem_of_mem hd
      rw [List.getLast_eq_getElem]
      rcases Nat.lt_or_ge k ((x :: r).length - 1) with c | c
      · exact Int.le_of_lt (List.pairwise_iff_getElem.mp hsort k _ hk (by simp) c)
      · have : k = (x :: r).length - 1 := by omega
        subst this
        exact Int.le_refl _
    exact ⟨hx.1, hlo _ (List.getLast_mem (by simp)), hx.2, hl.2, fun d h1 e => ⟨hlo d (hall d h1 e), hhi d (hall d h1 e)⟩⟩
end DL
/-! depths_at, both, depths_told, is_seen -/
namespace DL
open PySem L2
theorem getLast_some {α : Type} (x : α) (r : List α) : (x :: r).getLast? = some ((x :: r).getLast (by simp)) := rfl
theorem rgD_nat (a k : Nat) : rgD (a : Int) ((a : Int) + (k : Int)) = ((List.range' a k).map fun (j : Nat) => (j : Int)).map D.int := by
  unfold rgD
  rw [show ((a : Int) + (k : Int) - (a : Int)).toNat = k by omega, List.map_map]
  refine List.ext_getElem (by simp) fun i h1 h2 => ?_
  simp
section
variable {S : Sto}
theorem lc_filt {f : Es} {w : Nat} {t : Et} {ρ : Rho} {p : Int → Bool} {l : List Int} (hw : w < ρ.length) (hl : l.length ≤ 16777216) (hf : f ρ S = .ok (.it (.lst (l.map D.int))) S) (he : ∀ x ∈ l, t ((wipeR ρ [w]).set w (some (.int x))) S = .ok (p x) S) :
    eLc f (.nm w) t (eVar w) [w] ρ S = .ok (.lst ((l.filter p).map D.int)) S := by
  rw [eLc_lst hf (by simpa using hl)]
  obtain ⟨φ, hφ⟩ : ∃ φ : D → Bool, ∀ i : Int, φ (.int i) = p i := ⟨fun d => match d with
    | .int i => p i
    | _ => false, fun _ => rfl⟩
  have hlw : (wipeR ρ [w]).length = ρ.length := by simp [wipeR]
  rw [lcL_filter (φ := id) (p := φ) _ (fun x hx => by
    simp only [List.mem_map] at hx
    obtain ⟨j, hj, rfl⟩ := hx
    refine ⟨_, rfl, by rw [hφ]; exact he j hj, fun _ => ?_⟩
    simp only [eVar]
    rw [List.getElem?_set_self (by omega)]
    rfl)]
  simp only [R.calm_ok, R.bind_ok]
  congr 2
  rw [List.filter_map, List.map_id]
  congr 1
  refine List.filter_congr fun j _ => ?_
  simp [hφ]
theorem depths_at_eq {s : Sn} (h : s.Ok) {m : Int} (h0 : 0 ≤ m) (h32 : m ≤ 100000000000000000000000000000000) :
    ∃ o : Option (Int × Int), F_depths_at [s.cal.d, .int m] S = .ok (tuO o) S ∧ Told s.cal m o := by
  have cb := Sn.calB h
  have hE := cb.lenE
  have hA := cb.lenA
  have hr4 := cb.r4
  have hr0 := cb.r0
  obtain ⟨t, ht⟩ : ∃ t : Nat, t = turnsOf s.cal m := ⟨_, rfl⟩
  obtain ⟨L, hL⟩ : ∃ L, (dpL s.cal (turnsOf s.cal m)).filter (isMin s.cal m) = L := ⟨_, rfl⟩
  have told := told_of h m hL
  refine ⟨_, ?_, told⟩
  rw [← ht] at hL
  have he := is_endless_eq (S := S) s.cal
  have hcd : s.cal.d = .tup [.tup (s.cal.early.map D.int), .tup (agD s.cal.again), .int s.cal.rise] := rfl
  -- how many turns
  have htb : (t : Int) ≤ 100000000000000000000000000000000 := by
    rw [ht]
    unfold turnsOf
    split
    · have ha := Cal.endl_iff.mp (by assumption)
      have hr := Sn.rise_pos h ha
      have h0' : 0 ≤ s.cal.again.getD 0 0 := by
        have hp : 0 < s.cal.again.length := List.length_pos_iff.mpr ha
        rw [List.getD_eq_getElem?_getD, List.getElem?_eq_getElem hp]
        exact (cb.entA _ (List.getElem_mem hp)).1
      have : (m - s.cal.again.getD 0 0) / s.cal.rise ≤ 100000000000000000000000000000000 := by
        apply Int.ediv_le_of_le_mul hr
        have := Int.mul_le_mul_of_nonneg_left (show 1 ≤ s.cal.rise by omega) (show (0 : Int) ≤ 100000000000000000000000000000000 by decide)
        omega
      omega
    · omega
  have st5 : (eIf (eTr (eCall F_is_endless [(eVar 0)])) (eCall gMax [(eK (.int 0)), (eBin gSub (eBin gDiv (eBin gSub (eVar 1) (eBin gIdx (eVar 3) (eK (.int 0)))) (eVar 4)) (eK (.int 1)))]) (eK (.int 0))) [some s.cal.d, some (.int m), some (.tup (s.cal.early.map D.int)), some (.tup (agD s.cal.again)), some (.int s.cal.rise), none, none, none, none, none] S = .ok (.int (t : Int)) S := by
    cases hb : s.cal.endl with
    | false =>
      rw [hb] at he
      have : t = 0 := by rw [ht]; unfold turnsOf; rw [hb]; rfl
      subst this
      simp [he]
    | true =>
      rw [hb] at he
      have ha := Cal.endl_iff.mp hb
      have hp : 0 < s.cal.again.length := List.length_pos_iff.mpr ha
      have hr := Sn.rise_pos h ha
      have i0 : gIdx (.tup (agD s.cal.again)) (.int 0) S = .ok (.int (s.cal.again.getD 0 0)) S := by
        rw [agD_ne hp]
        exact gIdx_tup _ (atI_map D.int s.cal.again hp rfl)
      have dd : gDiv (.int (m - s.cal.again.getD 0 0)) (.int s.cal.rise) S = .ok (.int ((m - s.cal.again.getD 0 0) / s.cal.rise)) S := gDiv_int _ hr (by
        have := small_log (x := s.cal.rise) (k := 10) (by
          have : (2 : Nat) ^ 10 = 1024 := by decide
          omega) (by decide) (by decide)
        omega)
      have htv : (t : Int) = if (m - s.cal.again.getD 0 0) / s.cal.rise - 1 > 0 then (m - s.cal.again.getD 0 0) / s.cal.rise - 1 else 0 := by
        rw [ht]
        unfold turnsOf
        rw [hb]
        simp only [if_true]
        split <;> omega
      rw [htv]
      generalize s.cal.again.getD 0 0 = a0 at *
      generalize (m - a0) / s.cal.rise = Q at *
      simp [he, i0, dd]
  have hal : gLen [.tup (agD s.cal.again)] S = .ok (.int (s.cal.al : Int)) S := by
    simp [Cal.al_len]
  have hal12 := cb.al
  have htN : t * s.cal.al ≤ t * 12 := Nat.mul_le_mul_left _ hal12
  have mT : gMul (.int (t : Int)) (.int (s.cal.al : Int)) S = .ok (.int ((t * s.cal.al : Nat) : Int)) S := by
    rw [gMul_int _ (by
      have a := small_log (x := (t : Int)) (k := 200) (by
        rw [Int.natAbs_natCast]
        have : (100000000000000000000000000000000 : Nat) < 2 ^ 200 := by decide
        omega) (by decide) (by decide)
      have b := small_log (x := (s.cal.al : Int)) (k := 10) (by
        have : (2 : Nat) ^ 10 = 1024 := by decide
        omega) (by decide) (by decide)
      omega)]
    simp
  obtain ⟨X, hX⟩ : ∃ X : Nat, X = t * s.cal.al := ⟨_, rfl⟩
  rw [← hX] at mT
  have hXb : (X : Int) ≤ 1200000000000000000000000000000000 := by
    rw [hX]
    omega
  have m4 : gMul (.int 4) (.int (s.cal.al : Int)) S = .ok (.int ((4 * s.cal.al : Nat) : Int)) S := by
    rw [gMul_int _ (by
      have b := small_log (x := (s.cal.al : Int)) (k := 10) (by
        have : (2 : Nat) ^ 10 = 1024 := by decide
        omega) (by decide) (by decide)
      have : (4 : Int).natAbs.log2 < 1000 := by decide
      omega)]
    simp
  let first : Nat := s.cal.early.length + 1 + X
  have r1 : rgD 1 ((s.cal.early.length : Int) + 1) = ((List.range' 1 s.cal.early.length).map fun (j : Nat) => (j : Int)).map D.int := by
    have := rgD_nat 1 s.cal.early.length
    rw [show ((1 : Nat) : Int) + (s.cal.early.length : Int) = (s.cal.early.length : Int) + 1 by omega] at this
    exact this
  have ok1 : rgOk 1 ((s.cal.early.length : Int) + 1) = true := by
    unfold rgOk
    rw [smallI_mk (by omega) (by omega), smallI_mk (by omega) (by omega)]
    simp; omega
  have r2 : rgD (first : Int) ((first : Int) + ((4 * s.cal.al : Nat) : Int)) = ((List.range' first (4 * s.cal.al)).map fun (j : Nat) => (j : Int)).map D.int := rgD_nat first (4 * s.cal.al)
  have l2 : ∀ ρ : Rho, ρ = [some s.cal.d, some (.int m), some (.tup (s.cal.early.map D.int)), some (.tup (agD s.cal.again)), some (.int s.cal.rise), some (.int (t : Int)), some (.int (first : Int)), some (.lst (((List.range' 1 s.cal.early.length).map fun (j : Nat) => (j : Int)).map D.int)), none, none] →
      (eListRg2 (eVar 6) (eBin gAdd (eVar 6) (eBin gMul (eK (.int 4)) (eCall gLen [(eVar 3)])))) ρ S = .ok (.lst (((List.range' first (4 * s.cal.al)).map fun (j : Nat) => (j : Int)).map D.int)) S := by
    rintro ρ rfl
    rw [← r2]
    have hsz : ((first : Int) + ((4 * s.cal.al : Nat) : Int) - (first : Int)).toNat ≤ 16777216 := by omega
    simp only [eListRg2_ap, eVar6, R.bind_ok, eBin_ap, eK_ap, eCall_ap, eArgs_cons, eArgs_nil, eVar3, hal, m4, gAdd_int, hsz, if_true]
    split <;> rfl
  have hdp : dpL s.cal t = ((List.range' 1 s.cal.early.length).map fun (j : Nat) => (j : Int)) ++ (if s.cal.endl then (List.range' first (4 * s.cal.al)).map (fun (j : Nat) => (j : Int)) else []) := by
    unfold dpL
    cases hb : s.cal.endl with
    | false => rfl
    | true =>
      rw [show first = s.cal.early.length + 1 + t * s.cal.again.length by rw [← Cal.al_at (Cal.endl_iff.mp hb), ← hX], ← Cal.al_at (Cal.endl_iff.mp hb)]
  have hlen : (dpL s.cal t).length ≤ 1000 := by
    rw [hdp]
    split <;> simp <;> omega
  have hbd : ∀ d ∈ dpL s.cal t, 1 ≤ d ∧ d ≤ 10000000000000000000000000000000000000000 := by
    intro d hd
    rw [hdp] at hd
    rcases List.mem_append.mp hd with hd | hd
    · obtain ⟨i, hi, rfl⟩ := List.mem_map.mp hd
      have := List.mem_range'_1.mp hi
      omega
    · split at hd
      · obtain ⟨i, hi, rfl⟩ := List.mem_map.mp hd
        have := List.mem_range'_1.mp hi
        omega
      · cases hd
  have st7 : ∀ k : Sm, (sSeq (sIf (eTr (eCall F_is_endless [(eVar 0)])) (sSet 7 (eBin gAdd (eVar 7) (eListRg2 (eVar 6) (eBin gAdd (eVar 6) (eBin gMul (eK (.int 4)) (eCall gLen [(eVar 3)])))))) sNx) k) [some s.cal.d, some (.int m), some (.tup (s.cal.early.map D.int)), some (.tup (agD s.cal.again)), some (.int s.cal.rise), some (.int (t : Int)), some (.int (first : Int)), some (.lst (((List.range' 1 s.cal.early.length).map fun (j : Nat) => (j : Int)).map D.int)), none, none] S
      = k [some s.cal.d, some (.int m), some (.tup (s.cal.early.map D.int)), some (.tup (agD s.cal.again)), some (.int s.cal.rise), some (.int (t : Int)), some (.int (first : Int)), some (.lst ((dpL s.cal t).map D.int)), none, none] S := by
    intro k
    rw [hdp]
    cases hb : s.cal.endl with
    | false => rw [hb] at he; simp [he]
    | true =>
      rw [hb] at he
      have ga := gAdd_lst S (xs := ((List.range' 1 s.cal.early.length).map fun (j : Nat) => (j : Int)).map D.int) (ys := ((List.range' first (4 * s.cal.al)).map fun (j : Nat) => (j : Int)).map D.int) (by simp; omega)
      have hl := l2 _ rfl
      simp only [sSeq_ap, sIf_ap, eTr_ap, eCall_ap, eArgs_cons, eArgs_nil, eVar0, R.bind_ok, he, gTru_bl, DL.F.ofR_ok, sSet_ap, eBin_ap, eVar7] at hl ⊢
      rw [hl]
      simp only [R.bind_ok, ga, DL.F.ofR_ok, List.set, DL.F.seq_nx, if_true, List.map_append]
  have st8 : eLc (eItS (eVar 7)) (.nm 9) (eTb (eBin gEq (eCall F_minute_in [(eVar 0), (eVar 9)]) (eVar 1))) (eVar 9) [9] [some s.cal.d, some (.int m), some (.tup (s.cal.early.map D.int)), some (.tup (agD s.cal.again)), some (.int s.cal.rise), some (.int (t : Int)), some (.int (first : Int)), some (.lst ((dpL s.cal t).map D.int)), none, none] S = .ok (.lst (L.map D.int)) S := by
    rw [← hL]
    refine lc_filt (by simp) (by omega) (by simp) (fun d hd => ?_)
    have hb := hbd d hd
    have e := minute_in_eqB (S := S) cb.lenA cb.lenE cb.r0 (by omega) hb.1 hb.2
    have q := gEq_oD (s.cal.at (d - 1).toNat) (some m) S
    rw [show oD (some m) = D.int m from rfl] at q
    unfold isMin
    generalize s.cal.at (d - 1).toNat = o at *
    simp [wipeR, e, q]
  rw [show F_depths_at [s.cal.d, .int m] S = popR S.length _ from fnP_ap _ _ _ _ _]
  have pre : ∀ k : Sm, (sSeq (sSt (eVar 0) (gTp 3 (gsCons (gNm 2) (gsCons (gNm 3) (gsCons (gNm 4) gsNil))))) (sSeq (sIf (eTb (eBin gIsN (eVar 1) (eK .non))) (sRt (eIf (eTr (eCall F_is_endless [(eVar 0)])) (eK .non) (eTup [(eBin gAdd (eCall gLen [(eVar 2)]) (eK (.int 1))), (eK .non)]))) sNx) k)) ([s.cal.d, .int m].map some ++ List.replicate (10 - 2) none) S
      = k [some s.cal.d, some (.int m), some (.tup (s.cal.early.map D.int)), some (.tup (agD s.cal.again)), some (.int s.cal.rise), none, none, none, none, none] S := by
    intro k
    rw [hcd]
    simp [isNon]
  rw [pre]
  simp only [sSeq_ap, sSet_ap, st5, DL.F.ofR_ok, DL.F.seq_nx, List.set]
  have st6 : (eBin gAdd (eBin gAdd (eCall gLen [(eVar 2)]) (eK (.int 1))) (eBin gMul (eVar 5) (eCall gLen [(eVar 3)]))) [some s.cal.d, some (.int m), some (.tup (s.cal.early.map D.int)), some (.tup (agD s.cal.again)), some (.int s.cal.rise), some (.int (t : Int)), none, none, none, none] S = .ok (.int (first : Int)) S := by
    have hf : (first : Int) = (s.cal.early.length : Int) + 1 + (X : Int) := rfl
    rw [hf]
    simp only [eBin_ap, eCall_ap, eArgs_cons, eArgs_nil, eVar2, eVar3, eVar5, R.bind_ok, gLen_tup, List.length_map, eK_ap, gAdd_int, Cal.al_len, mT]
  rw [st6]
  simp only [DL.F.ofR_ok, DL.F.seq_nx, List.set, sSeq_ap, sSet_ap]
  have st7a : (eListRg2 (eK (.int 1)) (eBin gAdd (eCall gLen [(eVar 2)]) (eK (.int 1)))) [some s.cal.d, some (.int m), some (.tup (s.cal.early.map D.int)), some (.tup (agD s.cal.again)), some (.int s.cal.rise), some (.int (t : Int)), some (.int (first : Int)), none, none, none] S = .ok (.lst (((List.range' 1 s.cal.early.length).map fun (j : Nat) => (j : Int)).map D.int)) S := by
    rw [← r1]
    simp [ok1]
  rw [st7a]
  simp only [DL.F.ofR_ok, DL.F.seq_nx, List.set]
  rw [st7]
  simp only [sSeq_ap, sSet_ap, st8, DL.F.ofR_ok, DL.F.seq_nx, List.set]
  have hq := gEqB_ints true L [] S
  simp only [if_true, List.map_nil] at hq
  cases L with
  | nil => simp at hq; simp [hq, tuO]
  | cons x r =>
    have i0 : gIdx (.lst ((x :: r).map D.int)) (.int 0) S = .ok (.int x) S := gIdx_lst _ (atI0 _ _)
    have il : gIdx (.lst ((x :: r).map D.int)) (.int (-1)) S = .ok (.int ((x :: r).getLast (by simp))) S := gIdx_lst _ (atI_last (by rw [List.getLast?_map, getLast_some]; rfl))
    generalize hgl : (x :: r).getLast (by simp) = y at *
    simp only [List.map_cons] at hq i0 il
    simp at hq
    simp [hq, i0, il, tuO, hgl]
end
end DL
/-! latest_start -/
namespace DL
open PySem L2
/-- never later -/
noncomputable def nev (c c' : Cal) : Bool := @decide (∀ i, isLt (c.at i) (c'.at i) = false) (Classical.propDecidable _)
theorem nev_iff {c c' : Cal} : nev c c' = true ↔ ∀ i, isLt (c.at i) (c'.at i) = false := by
  unfold nev
  exact @decide_eq_true_iff _ (Classical.propDecidable _)
def Sn.from (s : Sn) (st : Int) : Sn := ⟨st, s.height, s.steps⟩
theorem Sn.from_ok {s : Sn} (h : s.Ok) {st : Int} (h0 : 0 ≤ st) (h1 : st ≤ 20) : (s.from st).Ok := ⟨h0, h1, h.h0, h.h1, h.rd⟩
section
variable {S : Sto}
theorem started_eq (s : Sn) (st : Int) : F_started [s.d, .int st] S = .ok (s.from st).d S := by
  have hd : s.d = .tup [.int s.start, .int s.height, roundD s.steps] := rfl
  have hc : cutD [D.int s.start, .int s.height, roundD s.steps] (some 1) none = [.int s.height, roundD s.steps] := rfl
  have ga := gAdd_tup S (xs := [D.int st]) (ys := [.int s.height, roundD s.steps]) (by simp)
  simp only [List.singleton_append] at ga
  rw [hd]
  simp [F_started, fnP_ap, hc, ga]
  rfl
theorem later_none {c c' : Cal} (h : CalB c) (h' : CalB c') : ∃ o : Option Nat, F_later_depth [c.d, c'.d] S = .ok (oD (o.map fun (j : Nat) => (j : Int) + 1)) S ∧ o.isNone = nev c c' := by
  obtain ⟨o, e, p1, p2⟩ := later_depth_eq (S := S) h h'
  refine ⟨o, e, ?_⟩
  cases o with
  | none => exact (nev_iff.mpr (p2 rfl)).symm
  | some j =>
    have a := (p1 j rfl).1
    cases hn : nev c c' with
    | false => rfl
    | true => have := nev_iff.mp hn j; rw [a] at this; cases this
theorem never_later_eq {s s' : Sn} (h : s.Ok) (h' : s'.Ok) : F_never_later [s.d, s'.d] S = .ok (.bl (nev s.cal s'.cal)) S := by
  obtain ⟨o, e, hn⟩ := later_none (S := S) (Sn.calB h) (Sn.calB h')
  have : isNon (oD (o.map fun (j : Nat) => (j : Int) + 1)) = o.isNone := by cases o <;> rfl
  rw [hn] at this
  simp [F_never_later, fnP_ap, need_two_eq h h', calendar_of_eq h, calendar_of_eq h', e, this]
/-- the starts with which it is never later -/
noncomputable def lsL (s s' : Sn) : List Int := collN (fun st => nev (s.from (st : Int)).cal s'.cal) 0 21
noncomputable def lsO (s s' : Sn) : Option Int := (lsL s s').getLast?
theorem latest_start_eq {s s' : Sn} (h : s.Ok) (h' : s'.Ok) : F_latest_start [s.d, s'.d] S = .ok (oD (lsO s s')) S := by
  have hlc : eLc (eRng1 (eK (.int 21))) (.nm 4) (eTb (eBin gIsN (eCall F_later_depth [(eCall F_calendar_of [(eCall F_started [(eVar 0), (eVar 4)])]), (eVar 2)]) (eK .non))) (eVar 4) [4] [some s.d, some s'.d, some s'.cal.d, none, none] S = .ok (.lst ((lsL s s').map D.int)) S := by
    have h21 : smallI 21 = true := by decide
    rw [eLc_rng (lo := 0) (n := 21) (S1 := S) (by simp [h21]) (by omega), show (0 : Int) = ((0 : Nat) : Int) from rfl, rgN_range]
    rw [lc_coll (p := fun st => nev (s.from (st : Int)).cal s'.cal) (fun j h1 h2 => ?_)]
    · rfl
    · have hj := Sn.from_ok h (st := (j : Int)) (by omega) (by omega)
      obtain ⟨o, e, hn⟩ := later_none (S := S) (Sn.calB hj) (Sn.calB h')
      have : isNon (oD (o.map fun (j : Nat) => (j : Int) + 1)) = o.isNone := by cases o <;> rfl
      rw [hn] at this
      exact ⟨_, rfl, by simp [wipeR, started_eq, calendar_of_eq hj, e, this], by simp [wipeR]⟩
  rw [show F_latest_start [s.d, s'.d] S = popR S.length _ from fnP_ap _ _ _ _ _]
  have pre : ∀ k : Sm, (sSeq (sEx (eCall F_need_two [(eVar 0), (eVar 1)])) (sSeq (sSet 2 (eCall F_calendar_of [(eVar 1)])) k)) ([s.d, s'.d].map some ++ List.replicate (5 - 2) none) S = k [some s.d, some s'.d, some s'.cal.d, none, none] S := by
    intro k
    simp [need_two_eq h h', calendar_of_eq h']
  rw [pre]
  simp only [sSeq_ap, sSet_ap, hlc, DL.F.ofR_ok, DL.F.seq_nx, List.set]
  unfold lsO
  have hq := gEqB_ints true (lsL s s') [] S
  simp only [if_true, List.map_nil] at hq
  cases hL : lsL s s' with
  | nil => rw [hL] at hq; simp at hq; simp [hq, oD]
  | cons x r =>
    rw [hL] at hq
    have il : gIdx (.lst ((x :: r).map D.int)) (.int (-1)) S = .ok (.int ((x :: r).getLast (by simp))) S := gIdx_lst _ (atI_last (by rw [List.getLast?_map, getLast_some]; rfl))
    rw [getLast_some]
    generalize hgl : (x :: r).getLast (by simp) = y at *
    simp only [List.map_cons] at hq il
    simp at hq
    simp [hq, il, oD, hgl]
end
end DL
/-! depths told of one snail and one minute; is_seen -/
namespace DL
open PySem L2
/-- what is seen: pairs -/
def factD (f : Nat × Option Int) : D := .tup [.int (f.1 : Int), oD f.2]
def seenD (fs : List (Nat × Option Int)) : D := .tup (fs.map factD)
structure SeenOk (n : Nat) (fs : List (Nat × Option Int)) : Prop where
  l1 : 1 ≤ fs.length
  l4 : fs.length ≤ 4
  ix : ∀ f ∈ fs, f.1 < n
  mn : ∀ f ∈ fs, ∀ m, f.2 = some m → 0 ≤ m ∧ m ≤ 100000000000000000000000000000000
section
variable {S : Sto}
theorem is_fact_eq {ds : List D} {f : Nat × Option Int} (hi : f.1 < ds.length) (hm : ∀ m, f.2 = some m → 0 ≤ m ∧ m ≤ 100000000000000000000000000000000) : F_is_fact [.tup ds, factD f] S = .ok (.bl true) S := by
  have htg : tg (factD f) = true := by
    unfold factD
    cases f.2 <;> rfl
  have k1 := is_tuple_eq (S := S) htg 2 2
  have k1' : isTup (factD f) 2 2 = true := rfl
  rw [k1'] at k1
  have k2 := is_number_eq (S := S) (v := .int (f.1 : Int)) rfl 0 ((ds.length : Int) - 1)
  have k2' : isNum (.int (f.1 : Int)) 0 ((ds.length : Int) - 1) = true := by simp [isNum]; omega
  rw [k2'] at k2
  have i0 : gIdx (factD f) (.int 0) S = .ok (.int (f.1 : Int)) S := gIdx_tup _ (atI0 _ _)
  have i1 : gIdx (factD f) (.int 1) S = .ok (oD f.2) S := gIdx_tup _ (atI1 _ _ _)
  cases h2 : f.2 with
  | none =>
    rw [h2] at i1
    simp [F_is_fact, fnP_ap, k1, i0, i1, k2, oD, isNon]
  | some m =>
    rw [h2] at i1
    obtain ⟨m1, m2⟩ := hm m h2
    have k3 := is_number_eq (S := S) (v := .int m) rfl 0 100000000000000000000000000000000
    have k3' : isNum (.int m) 0 100000000000000000000000000000000 = true := by simp [isNum, m1, m2]
    rw [k3'] at k3
    simp only [oD] at i1
    simp [F_is_fact, fnP_ap, k1, i0, i1, k2, k3, isNon]
theorem need_seen_eq {ds : List D} {fs : List (Nat × Option Int)} (h : SeenOk ds.length fs) : F_need_seen [.tup ds, seenD fs] S = .ok .non S := by
  have hl1 := h.l1
  have hl4 := h.l4
  have htg : tg (seenD fs) = true := by
    unfold seenD
    simp only [tg]
    exact tgs_of fun x hx => by
      simp only [List.mem_map] at hx
      obtain ⟨f, _, rfl⟩ := hx
      unfold factD
      cases f.2 <;> rfl
  have k1 := is_tuple_eq (S := S) htg 1 4
  have k1' : isTup (seenD fs) 1 4 = true := by simp [isTup, seenD]; omega
  rw [k1'] at k1
  have hlc : eLc (eItS (eVar 1)) (.nm 2) tYesD (eCall F_is_fact [(eVar 0), (eVar 2)]) [2] [some (.tup ds), some (seenD fs), none] S = .ok (.lst ((fs.map fun _ => true).map D.bl)) S := by
    rw [eLc_tup (xs := fs.map factD) (S1 := S) (by simp [seenD]) (by simp; omega)]
    rw [lcL_map (φ := fun _ => .bl true) _ (fun x hx => by
      simp only [List.mem_map] at hx
      obtain ⟨f, hf, rfl⟩ := hx
      have := is_fact_eq (S := S) (h.ix f hf) (h.mn f hf)
      exact ⟨_, rfl, by simp [wipeR, this]⟩)]
    simp
  have ga := gAll_bls S (fs.map fun _ => true)
  rw [show (fs.map fun _ => true).all id = true by simp] at ga
  simp [F_need_seen, fnP_ap, k1, hlc, ga, -List.map_map, -List.map_const']
/-- the snail of an index -/
theorem snail_ix {ss : List Sn} {i : Nat} (hi : i < ss.length) : gIdx (ssD ss) (.int (i : Int)) S = .ok (ss[i]).d S := gIdx_tup _ (atI_nat (by rw [List.getElem?_map, List.getElem?_eq_getElem hi]; rfl))
/-- whether all is as seen -/
def seenP (ss : List Sn) (d : Int) (fs : List (Nat × Option Int)) : Bool := fs.all fun f => decide (((ss.map fun s => s.out d).getD f.1 none) = f.2)
theorem is_seen_eq {ss : List Sn} (h : SsOk ss) {fs : List (Nat × Option Int)} (hf : SeenOk ss.length fs) {d : Int} (h1 : 1 ≤ d) (h2 : d ≤ 1000000000000000000000000000000) : F_is_seen [ssD ss, .int d, seenD fs] S = .ok (.bl (seenP ss d fs)) S := by
  have hl4 := hf.l4
  have ns := need_seen_eq (S := S) (ds := ss.map Sn.d) (by simpa using hf)
  rw [show D.tup (ss.map Sn.d) = ssD ss from rfl] at ns
  have hlc : eLc (eItS (eVar 2)) (.tp [3, 4]) tYesD (eBin gEq (eCall F_minute_in [(eCall F_calendar_of [(eBin gIdx (eVar 0) (eVar 3))]), (eVar 1)]) (eVar 4)) [3, 4] [some (ssD ss), some (.int d), some (seenD fs), none, none] S = .ok (.lst ((fs.map fun f => decide (((ss.map fun s => s.out d).getD f.1 none) = f.2)).map D.bl)) S := by
    rw [eLc_tup (xs := fs.map factD) (S1 := S) (by simp [seenD]) (by simp; omega)]
    have : ∀ l : List (Nat × Option Int), (∀ f ∈ l, f.1 < ss.length) → lcL (.tp [3, 4]) tYesD (eBin gEq (eCall F_minute_in [(eCall F_calendar_of [(eBin gIdx (eVar 0) (eVar 3))]), (eVar 1)]) (eVar 4)) (wipeR [some (ssD ss), some (.int d), some (seenD fs), none, none] [3, 4]) (l.map factD) S = .ok ((l.map fun f => decide (((ss.map fun s => s.out d).getD f.1 none) = f.2)).map D.bl) S := by
      intro l
      induction l with
      | nil => intro _; rfl
      | cons f l ih =>
        intro hl
        have hi := hl f List.mem_cons_self
        have ih := ih fun x hx => hl x (List.mem_cons_of_mem _ hx)
        have hs := h.ok _ (List.getElem_mem hi)
        have e1 := snail_ix (S := S) (ss := ss) hi
        have e2 := calendar_of_eq (S := S) hs
        have e3 := cal_at (S := S) hs h1 h2
        rw [show (ss[f.1]).cal.at (d - 1).toNat = (ss[f.1]).out d from rfl] at e3
        have e4 : (ss.map fun s => s.out d).getD f.1 none = (ss[f.1]).out d := by
          rw [List.getD_eq_getElem?_getD, List.getElem?_map, List.getElem?_eq_getElem hi]; rfl
        have q := gEq_oD ((ss[f.1]).out d) f.2 S
        simp only [wipeR, List.foldl, List.set] at ih
        simp only [wipeR, List.foldl, List.set, List.map_cons, lcL, factD, Ct.put, Ct.put.go, tYes_ap, R.calm_ok, R.bind_ok, eBin_ap, eCall_ap, eArgs_cons, eArgs_nil, eVar0, eVar3, eVar1, eVar4, e1, e2, e3, e4]
        rw [show gEq (oD ((ss[f.1]).out d)) (oD f.2) S = _ from q]
        simp only [R.bind_ok, R.calm_ok, ih]
    rw [this fs hf.ix]
    rfl
  have ga := gAll_bls S (fs.map fun f => decide (((ss.map fun s => s.out d).getD f.1 none) = f.2))
  rw [all_map_id] at ga
  simp [F_is_seen, fnP_ap, need_snails_eq h, need_number_eq h1 h2, ns, hlc, ga, seenP, -List.map_map]
/-- one fact alone -/
theorem told_one {s : Sn} (h : s.Ok) {m : Int} (h0 : 0 ≤ m) (h32 : m ≤ 100000000000000000000000000000000) : ∃ o : Option (Int × Int), Told s.cal m o ∧ F_depths_told [ssD [s], seenD [(0, some m)]] S = .ok (tuO o) S := by
  have hss : SsOk [s] := ⟨fun x hx => by
    simp only [List.mem_singleton] at hx; subst hx; exact h, by simp, by simp⟩
  have hf : SeenOk [s].length [(0, some m)] := ⟨by simp, by simp, fun f hf => by
    simp only [List.mem_singleton] at hf; subst hf; simp, fun f hf m' e => by
    simp only [List.mem_singleton] at hf; subst hf; simp only [Option.some.injEq] at e; subst e; exact ⟨h0, h32⟩⟩
  have ns := need_seen_eq (S := S) (ds := [s].map Sn.d) (fs := [(0, some m)]) (by simpa using hf)
  rw [show D.tup ([s].map Sn.d) = ssD [s] from rfl] at ns
  obtain ⟨o, e, told⟩ := depths_at_eq (S := S) h h0 h32
  refine ⟨o, told, ?_⟩
  have e1 := snail_ix (S := S) (ss := [s]) (i := 0) (by simp)
  simp only [List.getElem_cons_zero] at e1
  have e2 := calendar_of_eq (S := S) h
  have bo : F_both [.tup [.int 1, .non], tuO o] S = .ok (tuO o) S := by
    cases o with
    | none => simp [F_both, fnP_ap, tuO, isNon]
    | some p =>
      obtain ⟨l, hh⟩ := p
      obtain ⟨t1, t2, _⟩ := told.yes l hh rfl
      have j0 : gIdx (.tup [.int 1, .non]) (.int 0) S = .ok (.int 1) S := gIdx_tup _ (atI0 _ _)
      have j1 : gIdx (.tup [.int 1, .non]) (.int 1) S = .ok .non S := gIdx_tup _ (atI1 _ _ _)
      have k0 : gIdx (.tup [.int l, .int hh]) (.int 0) S = .ok (.int l) S := gIdx_tup _ (atI0 _ _)
      have k1 : gIdx (.tup [.int l, .int hh]) (.int 1) S = .ok (.int hh) S := gIdx_tup _ (atI1 _ _ _)
      have hl1 : ¬ l < 1 := by omega
      simp [F_both, fnP_ap, tuO, isNon, j0, j1, k0, k1, hl1, t2]
  simp only [Int.natCast_zero] at e1
  have hsd : seenD [(0, some m)] = .tup [.tup [.int 0, .int m]] := rfl
  rw [hsd] at ns ⊢
  rw [show F_depths_told [ssD [s], .tup [.tup [.int 0, .int m]]] S = popR S.length _ from fnP_ap _ _ _ _ _]
  have pre : ∀ k : Sm, (sSeq (sEx (eCall F_need_snails [(eVar 0)])) (sSeq (sEx (eCall F_need_seen [(eVar 0), (eVar 1)])) (sSeq (sSet 2 (eTup [(eK (.int 1)), (eK .non)])) k))) ([ssD [s], .tup [.tup [.int 0, .int m]]].map some ++ List.replicate (5 - 2) none) S = k [some (ssD [s]), some (.tup [.tup [.int 0, .int m]]), some (.tup [.int 1, .non]), none, none] S := by
    intro k
    simp [need_snails_eq hss, ns]
  rw [pre]
  simp only [sSeq_ap]
  rw [sFor_tup (xs := [.tup [.int 0, .int m]]) (S1 := S) (by simp)]
  simp [forL, e1, e2, e, bo]
end
/-- how far a minute can stand -/
theorem told_bd {s : Sn} (h : s.Ok) {i j : Nat} {m : Int} (hi : s.cal.at i = some m) (hj : s.cal.at j = some m) : j ≤ i + 120 := by
  have cb := Sn.calB h
  have hE := cb.lenE
  have hA := cb.lenA
  rcases Nat.lt_or_ge j (i + 121) with c | c
  · omega
  · exfalso
    have ha : s.cal.again ≠ [] := at_endl (by omega) hj
    have hr := Sn.rise_pos h ha
    have hal := Cal.al_at ha
    obtain ⟨x, hx⟩ := Cal.at_some ha (i + 101)
    have e1 := Cal.at_more (c := s.cal) (i + 101) 1 (by omega)
    rw [hx, hal] at e1
    simp only [Option.map_some, Nat.one_mul] at e1
    have h1 := Sn.at_mono h (i := i) (j := i + 101) (by omega) hi hx
    have h2 := Sn.at_mono h (i := i + 101 + s.cal.again.length) (j := j) (by omega) e1 hj
    have : ((1 : Nat) : Int) * s.cal.rise = s.cal.rise := by simp
    omega
end DL
namespace DL
open PySem PySem.Spec PyProof.Rows L2
/-! ### the text -/
def topS (i : Nat) : Stmt := PySem.Challenge.pw_wellsnails_k21_whole_known_mistakes.main.body.getD i (.Pass ⟨0, 0, 0, 0⟩)
abbrev s_is_number : Stmt := topS 8
abbrev N_is_number : List Str := ["value", "least", "most"]
abbrev s_is_tuple : Stmt := topS 9
abbrev N_is_tuple : List Str := ["value", "least", "most"]
abbrev s_stepped : Stmt := topS 17
abbrev N_stepped : List Str := ["height", "step"]
abbrev s_lowest_sum : Stmt := topS 19
abbrev N_lowest_sum : List Str := ["steps", "here", "found", "step"]
abbrev s_least_turn : Stmt := topS 26
abbrev N_least_turn : List Str := ["items", "rise", "many", "part", "more", "late", "item"]
abbrev s_minute_in : Stmt := topS 28
abbrev N_minute_in : List Str := ["told", "depth", "early", "again", "rise", "place", "item"]
abbrev s_divisor : Stmt := topS 32
abbrev N_divisor : List Str := ["one", "other"]
abbrev s_rise_in : Stmt := topS 34
abbrev N_rise_in : List Str := ["told", "turn"]
abbrev s_is_endless : Stmt := topS 35
abbrev N_is_endless : List Str := ["told"]
abbrev s_shortened : Stmt := topS 38
abbrev N_shortened : List Str := ["early", "again", "many", "part", "same", "place", "size"]
abbrev s_first_of : Stmt := topS 39
abbrev N_first_of : List Str := ["minutes", "some", "minute", "index"]
abbrev s_is_later : Stmt := topS 47
abbrev N_is_later : List Str := ["minute", "other"]
abbrev s_word_of : Stmt := topS 55
abbrev N_word_of : List Str := ["far"]
abbrev s_started : Stmt := topS 69
abbrev N_started : List Str := ["snail", "start"]
abbrev s__law_source : Stmt := topS 72
abbrev N__law_source : List Str := ["script", "k", "cell"]
abbrev s__law_draw : Stmt := topS 73
abbrev N__law_draw : List Str := ["source", "many", "found"]
abbrev s_is_round : Stmt := topS 10
abbrev N_is_round : List Str := ["value", "step"]
abbrev s_need_number : Stmt := topS 15
abbrev N_need_number : List Str := ["value", "least"]
abbrev s_need_index : Stmt := topS 16
abbrev N_need_index : List Str := ["some", "value"]
abbrev s_behind : Stmt := topS 18
abbrev N_behind : List Str := ["height", "steps", "step"]
abbrev s_records_of : Stmt := topS 25
abbrev N_records_of : List Str := ["snail", "rounds", "start", "height", "steps", "found", "minute", "turn", "step"]
abbrev s_common_turn : Stmt := topS 33
abbrev N_common_turn : List Str := ["calendars", "found", "early", "again", "rise"]
abbrev s_blocks_until : Stmt := topS 36
abbrev N_blocks_until : List Str := ["one", "other", "first", "turn", "more", "found", "depth", "far"]
abbrev s_first_at : Stmt := topS 40
abbrev N_first_at : List Str := ["calendars", "depth", "told"]
abbrev s_is_good_snail : Stmt := topS 11
abbrev N_is_good_snail : List Str := ["value"]
abbrev s_is_settled : Stmt := topS 20
abbrev N_is_settled : List Str := ["height", "steps", "gain"]
abbrev s_gain_of : Stmt := topS 22
abbrev N_gain_of : List Str := ["height", "steps"]
abbrev s_settled_from : Stmt := topS 37
abbrev N_settled_from : List Str := ["calendars", "turn", "first", "some", "blocks", "told", "one", "other", "many"]
abbrev s_are_good_snails : Stmt := topS 12
abbrev N_are_good_snails : List Str := ["value", "snail"]
abbrev s_need_snail : Stmt := topS 13
abbrev N_need_snail : List Str := ["value"]
abbrev s_settled : Stmt := topS 21
abbrev N_settled : List Str := ["height", "steps", "found"]
abbrev s_winners_by : Stmt := topS 41
abbrev N_winners_by : List Str := ["calendars", "start", "turn", "early", "depth"]
abbrev s_later_depth : Stmt := topS 48
abbrev N_later_depth : List Str := ["one", "other", "start", "turn", "depth"]
abbrev s_leads_by : Stmt := topS 49
abbrev N_leads_by : List Str := ["one", "other", "start", "turn", "found", "depth", "mine", "yours", "low", "high", "more", "far"]
abbrev s_parting_depth : Stmt := topS 65
abbrev N_parting_depth : List Str := ["one", "other", "start", "turn", "depth"]
abbrev s_need_snails : Stmt := topS 14
abbrev N_need_snails : List Str := ["value"]
abbrev s_height_of : Stmt := topS 23
abbrev N_height_of : List Str := ["snail", "minute", "start", "height", "steps", "rounds", "rest", "heights", "base"]
abbrev s_calendar_of : Stmt := topS 27
abbrev N_calendar_of : List Str := ["snail", "start", "height", "steps", "heights", "gain", "rounds", "early", "late", "again", "rise", "part"]
abbrev s_need_two : Stmt := topS 50
abbrev N_need_two : List Str := ["one", "other"]
abbrev s_settled_minute : Stmt := topS 56
abbrev N_settled_minute : List Str := ["snail", "start", "height", "steps"]
abbrev s_gain_in : Stmt := topS 57
abbrev N_gain_in : List Str := ["snail", "minutes", "start", "height", "steps"]
abbrev s_top_of : Stmt := topS 60
abbrev N_top_of : List Str := ["snail", "start", "height", "steps", "heights", "best", "turn", "step"]
abbrev s_out_at : Stmt := topS 29
abbrev N_out_at : List Str := ["snail", "depth"]
abbrev s_calendar : Stmt := topS 30
abbrev N_calendar : List Str := ["snail"]
abbrev s_all_calendars : Stmt := topS 42
abbrev N_all_calendars : List Str := ["snails", "snail"]
abbrev s_leads : Stmt := topS 51
abbrev N_leads : List Str := ["one", "other"]
abbrev s_never_later : Stmt := topS 52
abbrev N_never_later : List Str := ["one", "other"]
abbrev s_first_later : Stmt := topS 53
abbrev N_first_later : List Str := ["one", "other"]
abbrev s_far_at : Stmt := topS 58
abbrev N_far_at : List Str := ["one", "other", "minute"]
abbrev s_highest : Stmt := topS 62
abbrev N_highest : List Str := ["snail"]
abbrev s_are_alike : Stmt := topS 64
abbrev N_are_alike : List Str := ["one", "other"]
abbrev s_parting : Stmt := topS 67
abbrev N_parting : List Str := ["one", "other"]
abbrev s_latest_start : Stmt := topS 70
abbrev N_latest_start : List Str := ["one", "other", "late", "some", "start"]
abbrev s_winner_calendar : Stmt := topS 43
abbrev N_winner_calendar : List Str := ["snails"]
abbrev s_how : Stmt := topS 44
abbrev N_how : List Str := ["snails", "index", "early", "again", "truths", "some"]
abbrev s_first_depth : Stmt := topS 45
abbrev N_first_depth : List Str := ["snails", "index", "early", "again", "found", "depth", "some"]
abbrev s_words_by : Stmt := topS 59
abbrev N_words_by : List Str := ["one", "other", "many", "late", "turn", "start", "more", "fars", "early", "minute", "far"]
abbrev s_alike : Stmt := topS 66
abbrev N_alike : List Str := ["one", "other"]
abbrev s__law_within_right : Stmt := topS 74
abbrev N__law_within_right : List Str := ["up", "down", "depth", "snail", "rounds", "found"]
abbrev s_order_calendar : Stmt := topS 61
abbrev N_order_calendar : List Str := ["one", "other"]
abbrev s__law_bottom_right : Stmt := topS 75
abbrev N__law_bottom_right : List Str := ["height", "snail", "early", "found"]
abbrev s__law_late_right : Stmt := topS 76
abbrev N__law_late_right : List Str := ["start", "slow", "quick", "found"]
abbrev s__law_rests_right : Stmt := topS 77
abbrev N__law_rests_right : List Str := ["rests", "snail", "found", "early", "word"]
abbrev s_law : Stmt := topS 78
abbrev N_law : List Str := ["script", "k", "source", "up", "down", "depth"]
structure Top (K : PySem.W.Frag) (mg : Str → Option Value) : Prop where
  m_MOST : ∃ t, mg "MOST" = some (.int (1000000000000000000000000000000) t)
  m_abs : mg "abs" = none
  m_all : mg "all" = none
  m_bool : mg "bool" = none
  m_enumerate : mg "enumerate" = none
  m_int : mg "int" = none
  m_isinstance : mg "isinstance" = none
  m_len : mg "len" = none
  m_max : mg "max" = none
  m_min : mg "min" = none
  m_range : mg "range" = none
  m_sum : mg "sum" = none
  m_tuple : mg "tuple" = none
  c_InvalidIndex : ExC K mg "InvalidIndex"
  c_InvalidNumber : ExC K mg "InvalidNumber"
  c_InvalidSnail : ExC K mg "InvalidSnail"
  c_InvalidSnails : ExC K mg "InvalidSnails"
  d_is_number : ∃ f fd, mg "is_number" = some (.ref f) ∧ Fun K "is_number" "is_number" s_is_number f fd ∧ Binds K fd ["value", "least", "most"] []
  d_is_tuple : ∃ f fd, mg "is_tuple" = some (.ref f) ∧ Fun K "is_tuple" "is_tuple" s_is_tuple f fd ∧ Binds K fd ["value", "least", "most"] []
  d_stepped : ∃ f fd, mg "stepped" = some (.ref f) ∧ Fun K "stepped" "stepped" s_stepped f fd ∧ Binds K fd ["height", "step"] []
  d_lowest_sum : ∃ f fd, mg "lowest_sum" = some (.ref f) ∧ Fun K "lowest_sum" "lowest_sum" s_lowest_sum f fd ∧ Binds K fd ["steps"] []
  d_least_turn : ∃ f fd, mg "least_turn" = some (.ref f) ∧ Fun K "least_turn" "least_turn" s_least_turn f fd ∧ Binds K fd ["items", "rise"] []
  d_minute_in : ∃ f fd, mg "minute_in" = some (.ref f) ∧ Fun K "minute_in" "minute_in" s_minute_in f fd ∧ Binds K fd ["told", "depth"] []
  d_divisor : ∃ f fd, mg "divisor" = some (.ref f) ∧ Fun K "divisor" "divisor" s_divisor f fd ∧ Binds K fd ["one", "other"] []
  d_rise_in : ∃ f fd, mg "rise_in" = some (.ref f) ∧ Fun K "rise_in" "rise_in" s_rise_in f fd ∧ Binds K fd ["told", "turn"] []
  d_is_endless : ∃ f fd, mg "is_endless" = some (.ref f) ∧ Fun K "is_endless" "is_endless" s_is_endless f fd ∧ Binds K fd ["told"] []
  d_shortened : ∃ f fd, mg "shortened" = some (.ref f) ∧ Fun K "shortened" "shortened" s_shortened f fd ∧ Binds K fd ["early", "again"] []
  d_first_of : ∃ f fd, mg "first_of" = some (.ref f) ∧ Fun K "first_of" "first_of" s_first_of f fd ∧ Binds K fd ["minutes"] []
  d_is_later : ∃ f fd, mg "is_later" = some (.ref f) ∧ Fun K "is_later" "is_later" s_is_later f fd ∧ Binds K fd ["minute", "other"] []
  d_word_of : ∃ f fd, mg "word_of" = some (.ref f) ∧ Fun K "word_of" "word_of" s_word_of f fd ∧ Binds K fd ["far"] []
  d_started : ∃ f fd, mg "started" = some (.ref f) ∧ Fun K "started" "started" s_started f fd ∧ Binds K fd ["snail", "start"] []
  d__law_source : ∃ f fd, mg "_law_source" = some (.ref f) ∧ Fun K "_law_source" "_law_source" s__law_source f fd ∧ Binds K fd ["script", "k"] []
  d__law_draw : ∃ f fd, mg "_law_draw" = some (.ref f) ∧ Fun K "_law_draw" "_law_draw" s__law_draw f fd ∧ Binds K fd ["source", "many"] []
  d_is_round : ∃ f fd, mg "is_round" = some (.ref f) ∧ Fun K "is_round" "is_round" s_is_round f fd ∧ Binds K fd ["value"] []
  d_need_number : ∃ f fd, mg "need_number" = some (.ref f) ∧ Fun K "need_number" "need_number" s_need_number f fd ∧ Binds K fd ["value", "least"] []
  d_need_index : ∃ f fd, mg "need_index" = some (.ref f) ∧ Fun K "need_index" "need_index" s_need_index f fd ∧ Binds K fd ["some", "value"] []
  d_behind : ∃ f fd, mg "behind" = some (.ref f) ∧ Fun K "behind" "behind" s_behind f fd ∧ Binds K fd ["height", "steps"] []
  d_records_of : ∃ f fd, mg "records_of" = some (.ref f) ∧ Fun K "records_of" "records_of" s_records_of f fd ∧ Binds K fd ["snail", "rounds"] []
  d_common_turn : ∃ f fd, mg "common_turn" = some (.ref f) ∧ Fun K "common_turn" "common_turn" s_common_turn f fd ∧ Binds K fd ["calendars"] []
  d_blocks_until : ∃ f fd, mg "blocks_until" = some (.ref f) ∧ Fun K "blocks_until" "blocks_until" s_blocks_until f fd ∧ Binds K fd ["one", "other", "first", "turn"] []
  d_first_at : ∃ f fd, mg "first_at" = some (.ref f) ∧ Fun K "first_at" "first_at" s_first_at f fd ∧ Binds K fd ["calendars", "depth"] []
  d_is_good_snail : ∃ f fd, mg "is_good_snail" = some (.ref f) ∧ Fun K "is_good_snail" "is_good_snail" s_is_good_snail f fd ∧ Binds K fd ["value"] []
  d_is_settled : ∃ f fd, mg "is_settled" = some (.ref f) ∧ Fun K "is_settled" "is_settled" s_is_settled f fd ∧ Binds K fd ["height", "steps"] []
  d_gain_of : ∃ f fd, mg "gain_of" = some (.ref f) ∧ Fun K "gain_of" "gain_of" s_gain_of f fd ∧ Binds K fd ["height", "steps"] []
  d_settled_from : ∃ f fd, mg "settled_from" = some (.ref f) ∧ Fun K "settled_from" "settled_from" s_settled_from f fd ∧ Binds K fd ["calendars"] []
  d_are_good_snails : ∃ f fd, mg "are_good_snails" = some (.ref f) ∧ Fun K "are_good_snails" "are_good_snails" s_are_good_snails f fd ∧ Binds K fd ["value"] []
  d_need_snail : ∃ f fd, mg "need_snail" = some (.ref f) ∧ Fun K "need_snail" "need_snail" s_need_snail f fd ∧ Binds K fd ["value"] []
  d_settled : ∃ f fd, mg "settled" = some (.ref f) ∧ Fun K "settled" "settled" s_settled f fd ∧ Binds K fd ["height", "steps"] []
  d_winners_by : ∃ f fd, mg "winners_by" = some (.ref f) ∧ Fun K "winners_by" "winners_by" s_winners_by f fd ∧ Binds K fd ["calendars"] []
  d_later_depth : ∃ f fd, mg "later_depth" = some (.ref f) ∧ Fun K "later_depth" "later_depth" s_later_depth f fd ∧ Binds K fd ["one", "other"] []
  d_leads_by : ∃ f fd, mg "leads_by" = some (.ref f) ∧ Fun K "leads_by" "leads_by" s_leads_by f fd ∧ Binds K fd ["one", "other"] []
  d_parting_depth : ∃ f fd, mg "parting_depth" = some (.ref f) ∧ Fun K "parting_depth" "parting_depth" s_parting_depth f fd ∧ Binds K fd ["one", "other"] []
  d_need_snails : ∃ f fd, mg "need_snails" = some (.ref f) ∧ Fun K "need_snails" "need_snails" s_need_snails f fd ∧ Binds K fd ["value"] []
  d_height_of : ∃ f fd, mg "height_of" = some (.ref f) ∧ Fun K "height_of" "height_of" s_height_of f fd ∧ Binds K fd ["snail", "minute"] []
  d_calendar_of : ∃ f fd, mg "calendar_of" = some (.ref f) ∧ Fun K "calendar_of" "calendar_of" s_calendar_of f fd ∧ Binds K fd ["snail"] []
  d_need_two : ∃ f fd, mg "need_two" = some (.ref f) ∧ Fun K "need_two" "need_two" s_need_two f fd ∧ Binds K fd ["one", "other"] []
  d_settled_minute : ∃ f fd, mg "settled_minute" = some (.ref f) ∧ Fun K "settled_minute" "settled_minute" s_settled_minute f fd ∧ Binds K fd ["snail"] []
  d_gain_in : ∃ f fd, mg "gain_in" = some (.ref f) ∧ Fun K "gain_in" "gain_in" s_gain_in f fd ∧ Binds K fd ["snail", "minutes"] []
  d_top_of : ∃ f fd, mg "top_of" = some (.ref f) ∧ Fun K "top_of" "top_of" s_top_of f fd ∧ Binds K fd ["snail"] []
  d_out_at : ∃ f fd, mg "out_at" = some (.ref f) ∧ Fun K "out_at" "out_at" s_out_at f fd ∧ Binds K fd ["snail", "depth"] []
  d_calendar : ∃ f fd, mg "calendar" = some (.ref f) ∧ Fun K "calendar" "calendar" s_calendar f fd ∧ Binds K fd ["snail"] []
  d_all_calendars : ∃ f fd, mg "all_calendars" = some (.ref f) ∧ Fun K "all_calendars" "all_calendars" s_all_calendars f fd ∧ Binds K fd ["snails"] []
  d_leads : ∃ f fd, mg "leads" = some (.ref f) ∧ Fun K "leads" "leads" s_leads f fd ∧ Binds K fd ["one", "other"] []
  d_never_later : ∃ f fd, mg "never_later" = some (.ref f) ∧ Fun K "never_later" "never_later" s_never_later f fd ∧ Binds K fd ["one", "other"] []
  d_first_later : ∃ f fd, mg "first_later" = some (.ref f) ∧ Fun K "first_later" "first_later" s_first_later f fd ∧ Binds K fd ["one", "other"] []
  d_far_at : ∃ f fd, mg "far_at" = some (.ref f) ∧ Fun K "far_at" "far_at" s_far_at f fd ∧ Binds K fd ["one", "other", "minute"] []
  d_highest : ∃ f fd, mg "highest" = some (.ref f) ∧ Fun K "highest" "highest" s_highest f fd ∧ Binds K fd ["snail"] []
  d_are_alike : ∃ f fd, mg "are_alike" = some (.ref f) ∧ Fun K "are_alike" "are_alike" s_are_alike f fd ∧ Binds K fd ["one", "other"] []
  d_parting : ∃ f fd, mg "parting" = some (.ref f) ∧ Fun K "parting" "parting" s_parting f fd ∧ Binds K fd ["one", "other"] []
  d_latest_start : ∃ f fd, mg "latest_start" = some (.ref f) ∧ Fun K "latest_start" "latest_start" s_latest_start f fd ∧ Binds K fd ["one", "other"] []
  d_winner_calendar : ∃ f fd, mg "winner_calendar" = some (.ref f) ∧ Fun K "winner_calendar" "winner_calendar" s_winner_calendar f fd ∧ Binds K fd ["snails"] []
  d_how : ∃ f fd, mg "how" = some (.ref f) ∧ Fun K "how" "how" s_how f fd ∧ Binds K fd ["snails", "index"] []
  d_first_depth : ∃ f fd, mg "first_depth" = some (.ref f) ∧ Fun K "first_depth" "first_depth" s_first_depth f fd ∧ Binds K fd ["snails", "index"] []
  d_words_by : ∃ f fd, mg "words_by" = some (.ref f) ∧ Fun K "words_by" "words_by" s_words_by f fd ∧ Binds K fd ["one", "other"] []
  d_alike : ∃ f fd, mg "alike" = some (.ref f) ∧ Fun K "alike" "alike" s_alike f fd ∧ Binds K fd ["one", "other"] []
  d__law_within_right : ∃ f fd, mg "_law_within_right" = some (.ref f) ∧ Fun K "_law_within_right" "_law_within_right" s__law_within_right f fd ∧ Binds K fd ["up", "down", "depth"] []
  d_order_calendar : ∃ f fd, mg "order_calendar" = some (.ref f) ∧ Fun K "order_calendar" "order_calendar" s_order_calendar f fd ∧ Binds K fd ["one", "other"] []
  d__law_bottom_right : ∃ f fd, mg "_law_bottom_right" = some (.ref f) ∧ Fun K "_law_bottom_right" "_law_bottom_right" s__law_bottom_right f fd ∧ Binds K fd ["height"] []
  d__law_late_right : ∃ f fd, mg "_law_late_right" = some (.ref f) ∧ Fun K "_law_late_right" "_law_late_right" s__law_late_right f fd ∧ Binds K fd ["start"] []
  d__law_rests_right : ∃ f fd, mg "_law_rests_right" = some (.ref f) ∧ Fun K "_law_rests_right" "_law_rests_right" s__law_rests_right f fd ∧ Binds K fd ["rests"] []
def F_k21_law_within_right : Fn := fnP 3 6
    (sSeq (sSet 3 (eTup [(eK (.int 0)), (eK (.int 0)), (eTup [(eVar 0), (eNeg (eVar 1))])]))
    (sSeq (sSet 4 (eBin gDiv (eBin gSub (eBin gSub (eBin gAdd (eCall gMax [(eK (.int 0)), (eBin gSub (eVar 2) (eVar 0))]) (eVar 0)) (eVar 1)) (eK (.int 1))) (eBin gSub (eVar 0) (eVar 1))))
    (sSeq (sSet 5 (eNewL [(eBin gEq (eCall F_out_at [(eVar 3), (eVar 2)]) (eBin gAdd (eBin gMul (eK (.int 2)) (eVar 4)) (eK (.int 1)))), (eBin gEq (eCall F_out_at [(eVar 3), (eVar 0)]) (eK (.int 1)))]))
    (sSeq (sEx (eAppend (eVar 5) (eBin gIsN (eCall F_highest [(eVar 3)]) (eK .non))))
    (sSeq (sEx (eAppend (eVar 5) (eBin gIsN (eCall F_out_at [(eTup [(eK (.int 0)), (eK (.int 0)), (eTup [(eVar 0), (eNeg (eVar 0))])]), (eBin gAdd (eVar 0) (eK (.int 1)))]) (eK .non))))
    (sSeq (sEx (eAppend (eVar 5) (eBin gEq (eCall F_calendar [(eTup [(eK (.int 0)), (eK (.int 0)), (eTup [(eVar 0), (eNeg (eVar 0))])])]) (eTup [(eBin gMul (eTup [(eK (.int 1))]) (eVar 0)), (eTup [(eK .non)]), (eK (.int 0))]))))
    (sRt (eBin gAdd (eVar 5) (eLst [(eBin gEq (eCall F_highest [(eTup [(eK (.int 0)), (eK (.int 0)), (eTup [(eVar 0), (eNeg (eVar 0))])])]) (eVar 0))])))))))))
def F_k21_law_bottom_right : Fn := fnP 1 4
    (sSeq (sSet 1 (eTup [(eK (.int 0)), (eVar 0), (eTup [(eNeg (eK (.int 3))), (eK (.int 2))])]))
    (sSeq (sSet 2 (eBin gAdd (eBin gMul (eTup [(eK (.int 0))]) (eVar 0)) (eBin gMul (eTup [(eK (.int 2))]) (eCall gMax [(eK (.int 0)), (eBin gSub (eK (.int 2)) (eVar 0))]))))
    (sSeq (sSet 3 (eNewL [(eBin gEq (eCall F_calendar [(eVar 1)]) (eTup [(eVar 2), (eTup [(eK .non)]), (eK (.int 0))])), (eBin gEq (eCall F_highest [(eVar 1)]) (eCall gMax [(eK (.int 2)), (eVar 0)]))]))
    (sSeq (sEx (eAppend (eVar 3) (eBin gEq (eCall F_alike [(eVar 1), (eTup [(eK (.int 0)), (eVar 0), (eTup [(eNeg (eK (.int 3))), (eNeg (eK (.int 3))), (eK (.int 2))])])]) (eBin gGt (eVar 0) (eK (.int 1))))))
    (sRt (eBin gAdd (eVar 3) (eLst [(eBin gEq (eCall F_calendar [(eTup [(eK (.int 0)), (eK (.int 0)), (eTup [(eNeg (eK (.int 3))), (eK (.int 3)), (eK (.int 1))])])]) (eTup [(eTup [(eK (.int 2)), (eK (.int 2)), (eK (.int 2))]), (eTup [(eK (.int 3))]), (eK (.int 3))]))])))))))
def F_k21_law_late_right : Fn := fnP 1 4
    (sSeq (sPar 1 2 (eTup [(eK (.int 0)), (eK (.int 0)), (eTup [(eK (.int 1)), (eK (.int 0))])]) (eTup [(eVar 0), (eK (.int 0)), (eTup [(eK (.int 1))])]))
    (sSeq (sSet 3 (eNewL [(eBin gEq (eCall F_winner_calendar [(eTup [(eVar 1), (eVar 2)])]) (eTup [(eBin gAdd (eBin gMul (eTup [(eTup [(eK (.int 0))])]) (eVar 0)) (eTup [(eTup [(eK (.int 0)), (eK (.int 1))])])), (eTup [(eTup [(eK (.int 1))])])]))]))
    (sSeq (sEx (eAppend (eVar 3) (eBin gEq (eCall F_leads [(eVar 1), (eVar 2)]) (eTup [(eK .non), (eVar 0)]))))
    (sSeq (sEx (eAppend (eVar 3) (eBin gEq (eCall F_first_later [(eVar 1), (eVar 2)]) (eBin gAdd (eVar 0) (eK (.int 2))))))
    (sSeq (sEx (eAppend (eVar 3) (eBin gEq (eCall F_first_depth [(eTup [(eVar 1), (eVar 2)]), (eK (.int 1))]) (eBin gAdd (eVar 0) (eK (.int 1))))))
    (sSeq (sEx (eAppend (eVar 3) (eBin gEq (eCall F_how [(eTup [(eVar 1), (eVar 2)]), (eK (.int 0))]) (eK (.str (Str.ofString "sometimes"))))))
    (sSeq (sEx (eAppend (eVar 3) (eBin gEq (eCall F_latest_start [(eVar 2), (eVar 1)]) (eK (.int 0)))))
    (sSeq (sEx (eAppend (eVar 3) (eBin gEq (eCall F_first_later [(eVar 2), (eVar 1)]) (eK (.int 1)))))
    (sSeq (sEx (eAppend (eVar 3) (eNot (eCall F_never_later [(eVar 2), (eVar 1)]))))
    (sRt (eBin gAdd (eVar 3) (eLst [(eBin gEq (eCall F_how [(eTup [(eVar 1), (eVar 1)]), (eK (.int 1))]) (eK (.str (Str.ofString "always")))), (eBin gEq (eCall F_parting [(eVar 1), (eVar 2)]) (eK (.int 1)))]))))))))))))
def F_k21_law_rests_right : Fn := fnP 1 5
    (sSeq (sSet 1 (eTup [(eK (.int 0)), (eK (.int 0)), (eBin gAdd (eBin gMul (eTup [(eK (.int 0))]) (eVar 0)) (eTup [(eK (.int 1))]))]))
    (sSeq (sSet 2 (eNewL [(eBin gEq (eCall F_calendar [(eVar 1)]) (eTup [(eTup []), (eTup [(eBin gAdd (eVar 0) (eK (.int 1)))]), (eBin gAdd (eVar 0) (eK (.int 1)))]))]))
    (sSeq (sEx (eAppend (eVar 2) (eBin gEq (eCall F_out_at [(eVar 1), (eBin gPow (eK (.int 10)) (eK (.int 30)))]) (eBin gMul (eBin gAdd (eVar 0) (eK (.int 1))) (eBin gPow (eK (.int 10)) (eK (.int 30)))))))
    (sSeq (sSet 3 (eTup [(eK (.int 0)), (eK (.int 0)), (eBin gAdd (eTup [(eK (.int 1))]) (eBin gMul (eTup [(eK (.int 0))]) (eVar 0)))]))
    (sSeq (sEx (eAppend (eVar 2) (eBin gEq (eCall F_leads [(eVar 3), (eVar 1)]) (eTup [(eVar 0), (eVar 0)]))))
    (sSeq (sSet 4 (eBin gMul (eTup [(eK (.str (Str.ofString "over")))]) (eVar 0)))
    (sRt (eBin gAdd (eVar 2) (eLst [(eBin gEq (eCall F_order_calendar [(eVar 3), (eVar 1)]) (eTup [(eTup []), (eBin gAdd (eTup [(eK (.str (Str.ofString "same")))]) (eVar 4))]))])))))))))
def F_law : Fn := fnP 1 6
    (sSeq (sFor (eRng1 (eBin gAdd (eK (.int 1)) (eCall gMin [(eCall gLen [(eVar 0)]), (eK (.int 8))]))) (gNm 1)
    (sSeq (sSet 2 (eCall F__law_source [(eVar 0), (eVar 1)]))
    (sSeq (sSet 3 (eBin gAdd (eK (.int 2)) (eCall F__law_draw [(eVar 2), (eK (.int 2))])))
    (sSeq (sPar 4 5 (eBin gAdd (eK (.int 1)) (eCall F__law_draw [(eVar 2), (eBin gSub (eVar 3) (eK (.int 1)))])) (eBin gAdd (eK (.int 1)) (eCall F__law_draw [(eVar 2), (eBin gPow (eK (.int 10)) (eK (.int 9)))])))
    (sSeq (sIf (eTb (eBin gIn (eK (.bl false)) (eCall F_k21_law_within_right [(eVar 3), (eVar 4), (eVar 5)])))
    (sRt (eK (.bl false)))
    sNx)
    (sSeq (sIf (eTb (eBin gIn (eK (.bl false)) (eCall F_k21_law_bottom_right [(eCall F__law_draw [(eVar 2), (eK (.int 4))])])))
    (sRt (eK (.bl false)))
    sNx)
    (sSeq (sIf (eTb (eBin gIn (eK (.bl false)) (eCall F_k21_law_late_right [(eBin gAdd (eK (.int 1)) (eCall F__law_draw [(eVar 2), (eK (.int 20))]))])))
    (sRt (eK (.bl false)))
    sNx)
    (sIf (eTb (eBin gIn (eK (.bl false)) (eCall F_k21_law_rests_right [(eBin gAdd (eK (.int 1)) (eCall F__law_draw [(eVar 2), (eK (.int 3))]))])))
    (sRt (eK (.bl false)))
    sNx))))))))
    (sRt (eBin gNotIn (eK (.bl false)) (eCall F_k21_law_bottom_right [(eK (.int 3))]))))
section
variable {P : Program} {w : World} {K : PySem.W.Frag} {mg : Str → Option Value} {base : Heap}
theorem sc_is_number : FnScope N_is_number ["value", "least", "most"] (defScope s_is_number) := ⟨rfl, rfl, rfl, by decide +kernel, rfl, by decide +kernel, by decide +kernel⟩
theorem ok_is_number (T : Top K mg) : DFn P w K mg base "is_number" ["value", "least", "most"] 1 F_is_number := by
  obtain ⟨f, fd, hm, Ff, hb⟩ := T.d_is_number
  exact fnP_ok (N := N_is_number) (k := 0) hm Ff hb sc_is_number fun cdv A outer s H E hr =>
    (dss_one (ds_ret (de_and (de_isi 2 (by decide) b_int T.m_isinstance T.m_int (de_var (pv 0))) (de_and (de_not (de_isi 1 (by decide) b_bool T.m_isinstance T.m_bool (de_var (pv 0)))) (de_one (de_chain op_le op_le od_le od_le (de_var (pv 1)) (de_var (pv 0)) (de_var (pv 2))))))))
theorem sc_is_tuple : FnScope N_is_tuple ["value", "least", "most"] (defScope s_is_tuple) := ⟨rfl, rfl, rfl, by decide +kernel, rfl, by decide +kernel, by decide +kernel⟩
theorem ok_is_tuple (T : Top K mg) : DFn P w K mg base "is_tuple" ["value", "least", "most"] 1 F_is_tuple := by
  obtain ⟨f, fd, hm, Ff, hb⟩ := T.d_is_tuple
  exact fnP_ok (N := N_is_tuple) (k := 0) hm Ff hb sc_is_tuple fun cdv A outer s H E hr =>
    (dss_one (ds_ret (de_and (de_isi 4 (by decide) b_tuple T.m_isinstance T.m_tuple (de_var (pv 0))) (de_one (de_chain op_le op_le od_le od_le (de_var (pv 1)) (de_callB call_len cd_len rfl T.m_len b_len (da_cons (de_var (pv 0)) da_nil)) (de_var (pv 2)))))))
theorem sc_stepped : FnScope N_stepped ["height", "step"] (defScope s_stepped) := ⟨rfl, rfl, rfl, by decide +kernel, rfl, by decide +kernel, by decide +kernel⟩
theorem ok_stepped (T : Top K mg) : DFn P w K mg base "stepped" ["height", "step"] 1 F_stepped := by
  obtain ⟨f, fd, hm, Ff, hb⟩ := T.d_stepped
  exact fnP_ok (N := N_stepped) (k := 0) hm Ff hb sc_stepped fun cdv A outer s H E hr =>
    (dss_one (ds_ret (de_if (dt_cmp op_gt od_gt (de_add (de_var (pv 0)) (de_var (pv 1))) de_int (nomark _)) (de_add (de_var (pv 0)) (de_var (pv 1))) de_int)))
theorem sc_lowest_sum : FnScope N_lowest_sum ["steps"] (defScope s_lowest_sum) := ⟨rfl, rfl, rfl, by decide +kernel, rfl, by decide +kernel, by decide +kernel⟩
theorem ok_lowest_sum (T : Top K mg) : DFn P w K mg base "lowest_sum" ["steps"] 1 F_lowest_sum := by
  obtain ⟨f, fd, hm, Ff, hb⟩ := T.d_lowest_sum
  exact fnP_ok (N := N_lowest_sum) (k := 0) hm Ff hb sc_lowest_sum fun cdv A outer s H E hr =>
    (dss_cons (ds_asg (de_tup (da_cons de_int (da_cons de_int da_nil))) (dg_tup rfl (dgs_cons (dg_name (i := 1) sc_lowest_sum.nd) (dgs_cons (dg_name (i := 2) sc_lowest_sum.nd) dgs_nil))))
    (dss_cons (ds_for (passes_of rfl) rfl (di_seq (de_var (pv 0))) (dg_name (i := 3) sc_lowest_sum.nd)
    (dss_cons (ds_set (i := 1) sc_lowest_sum.nd (de_add (de_var (pv 1)) (de_var (pv 3))))
    (dss_one (ds_set (i := 2) sc_lowest_sum.nd (de_if (dt_cmp op_lt od_lt (de_var (pv 1)) (de_var (pv 2)) (nomark _)) (de_var (pv 1)) (de_var (pv 2)))))))
    (dss_one (ds_ret (de_var (pv 2))))))
theorem sc_least_turn : FnScope N_least_turn ["items", "rise"] (defScope s_least_turn) := ⟨rfl, rfl, rfl, by decide +kernel, rfl, by decide +kernel, by decide +kernel⟩
theorem ok_least_turn (T : Top K mg) : DFn P w K mg base "least_turn" ["items", "rise"] 1 F_least_turn := by
  obtain ⟨f, fd, hm, Ff, hb⟩ := T.d_least_turn
  exact fnP_ok (N := N_least_turn) (k := 0) hm Ff hb sc_least_turn fun cdv A outer s H E hr =>
    (dss_cons (ds_set (i := 2) sc_least_turn.nd (de_callB call_len cd_len rfl T.m_len b_len (da_cons (de_var (pv 0)) da_nil)))
    (dss_cons (ds_for (passes_of rfl) rfl (di_rng2 rfl T.m_range (da_cons de_int (da_cons (de_add (de_var (pv 2)) de_int) da_nil))) (dg_name (i := 3) sc_least_turn.nd)
    (dss_one (ds_if (dt_w (dw_and (dt_cmp (op_eqD hr.units) od_eq (de_mod (de_var (pv 2)) (de_var (pv 3))) de_int (nomark _)) (dw_and1 (dt_cmp (op_eqD hr.units) od_eq (de_mod (de_mul (de_var (pv 1)) (de_var (pv 3))) (de_var (pv 2))) de_int (nomark _)))))
    (dss_cons (ds_set (i := 4) sc_least_turn.nd (de_div (de_mul (de_var (pv 1)) (de_var (pv 3))) (de_var (pv 2))))
    (dss_cons (ds_set (i := 5) sc_least_turn.nd (de_add (de_slice (de_var (pv 0)) (do_some (de_var (pv 3))) do_none) (de_lc (own := [(("item" : Str), 6)]) (c := (.nm 6)) rfl sc_least_turn.nd (di_seq (de_slice (de_var (pv 0)) do_none (do_some (de_var (pv 3))))) (blkOk_by (N := N_least_turn) (sc := defScope s_least_turn) (by decide +kernel)) (by decide) (fun _ _ _ _ _ => (pg_name (i := 6) sc_least_turn.nd rfl (Or.inl rfl))) (fun _ _ _ _ _ => dts_nil) (fun _ _ _ _ _ => (de_add (de_var (pv 6)) (de_var (pv 1)))))))
    (dss_one (ds_if (dt_cmp (op_eqD hr.units) od_eq (de_var (pv 5)) (de_lc (own := [(("item" : Str), 6)]) (c := (.nm 6)) rfl sc_least_turn.nd (di_seq (de_var (pv 0))) (blkOk_by (N := N_least_turn) (sc := defScope s_least_turn) (by decide +kernel)) (by decide) (fun _ _ _ _ _ => (pg_name (i := 6) sc_least_turn.nd rfl (Or.inl rfl))) (fun _ _ _ _ _ => dts_nil) (fun _ _ _ _ _ => (de_add (de_var (pv 6)) (de_var (pv 4))))) (nomark _))
    (dss_one (ds_ret (de_var (pv 3))))
    dss_nil))))
    dss_nil)))
    (dss_one (ds_ret (de_var (pv 2))))))
theorem sc_minute_in : FnScope N_minute_in ["told", "depth"] (defScope s_minute_in) := ⟨rfl, rfl, rfl, by decide +kernel, rfl, by decide +kernel, by decide +kernel⟩
theorem ok_minute_in (T : Top K mg) : DFn P w K mg base "minute_in" ["told", "depth"] 1 F_minute_in := by
  obtain ⟨f, fd, hm, Ff, hb⟩ := T.d_minute_in
  exact fnP_ok (N := N_minute_in) (k := 0) hm Ff hb sc_minute_in fun cdv A outer s H E hr =>
    (dss_cons (ds_asg (de_var (pv 0)) (dg_tup rfl (dgs_cons (dg_name (i := 2) sc_minute_in.nd) (dgs_cons (dg_name (i := 3) sc_minute_in.nd) (dgs_cons (dg_name (i := 4) sc_minute_in.nd) dgs_nil)))))
    (dss_cons (ds_if (dt_cmp op_le od_le (de_var (pv 1)) (de_callB call_len cd_len rfl T.m_len b_len (da_cons (de_var (pv 2)) da_nil)) (nomark _))
    (dss_one (ds_ret (de_idx (de_var (pv 2)) (de_sub (de_var (pv 1)) de_int))))
    dss_nil)
    (dss_cons (ds_set (i := 5) sc_minute_in.nd (de_sub (de_sub (de_var (pv 1)) de_int) (de_callB call_len cd_len rfl T.m_len b_len (da_cons (de_var (pv 2)) da_nil))))
    (dss_cons (ds_set (i := 6) sc_minute_in.nd (de_idx (de_var (pv 3)) (de_mod (de_var (pv 5)) (de_callB call_len cd_len rfl T.m_len b_len (da_cons (de_var (pv 3)) da_nil)))))
    (dss_one (ds_ret (de_if (dt_cmp op_isN od_isN (de_var (pv 6)) de_non (nomark _)) de_non (de_add (de_var (pv 6)) (de_mul (de_div (de_var (pv 5)) (de_callB call_len cd_len rfl T.m_len b_len (da_cons (de_var (pv 3)) da_nil))) (de_var (pv 4)))))))))))
theorem sc_divisor : FnScope N_divisor ["one", "other"] (defScope s_divisor) := ⟨rfl, rfl, rfl, by decide +kernel, rfl, by decide +kernel, by decide +kernel⟩
theorem ok_divisor (T : Top K mg) : DFn P w K mg base "divisor" ["one", "other"] 1 F_divisor := by
  obtain ⟨f, fd, hm, Ff, hb⟩ := T.d_divisor
  exact fnP_ok (N := N_divisor) (k := 0) hm Ff hb sc_divisor fun cdv A outer s H E hr =>
    (dss_cons (ds_while 4096 (passes_of rfl) (dt_cmp (op_neD hr.units) od_ne (de_var (pv 1)) de_int (nomark _))
    (dss_one (ds_par (i := 0) (j := 1) rfl sc_divisor.nd (de_var (pv 1)) (de_mod (de_var (pv 0)) (de_var (pv 1))))))
    (dss_one (ds_ret (de_var (pv 0)))))
theorem sc_rise_in : FnScope N_rise_in ["told", "turn"] (defScope s_rise_in) := ⟨rfl, rfl, rfl, by decide +kernel, rfl, by decide +kernel, by decide +kernel⟩
theorem ok_rise_in (T : Top K mg) : DFn P w K mg base "rise_in" ["told", "turn"] 1 F_rise_in := by
  obtain ⟨f, fd, hm, Ff, hb⟩ := T.d_rise_in
  exact fnP_ok (N := N_rise_in) (k := 0) hm Ff hb sc_rise_in fun cdv A outer s H E hr =>
    (dss_one (ds_ret (de_mul (de_idx (de_var (pv 0)) de_int) (de_div (de_var (pv 1)) (de_callB call_len cd_len rfl T.m_len b_len (da_cons (de_idx (de_var (pv 0)) de_int) da_nil))))))
theorem sc_is_endless : FnScope N_is_endless ["told"] (defScope s_is_endless) := ⟨rfl, rfl, rfl, by decide +kernel, rfl, by decide +kernel, by decide +kernel⟩
theorem ok_is_endless (T : Top K mg) : DFn P w K mg base "is_endless" ["told"] 1 F_is_endless := by
  obtain ⟨f, fd, hm, Ff, hb⟩ := T.d_is_endless
  exact fnP_ok (N := N_is_endless) (k := 0) hm Ff hb sc_is_endless fun cdv A outer s H E hr =>
    (dss_one (ds_ret (de_cmp (op_neD hr.units) od_ne (de_idx (de_var (pv 0)) de_int) (de_tup (da_cons de_non da_nil)) (nomark _))))
theorem sc_shortened : FnScope N_shortened ["early", "again"] (defScope s_shortened) := ⟨rfl, rfl, rfl, by decide +kernel, rfl, by decide +kernel, by decide +kernel⟩
theorem ok_shortened (T : Top K mg) : DFn P w K mg base "shortened" ["early", "again"] 1 F_shortened := by
  obtain ⟨f, fd, hm, Ff, hb⟩ := T.d_shortened
  exact fnP_ok (N := N_shortened) (k := 0) hm Ff hb sc_shortened fun cdv A outer s H E hr =>
    (dss_cons (ds_set (i := 2) sc_shortened.nd (de_callB call_len cd_len rfl T.m_len b_len (da_cons (de_var (pv 1)) da_nil)))
    (dss_cons (ds_set (i := 3) sc_shortened.nd (de_callB (call_minD rfl) cd_min rfl T.m_min b_min (da_cons (de_lc (own := [(("size" : Str), 6)]) (c := (.nm 6)) rfl sc_shortened.nd (di_rng2 rfl T.m_range (da_cons de_int (da_cons (de_add (de_var (pv 2)) de_int) da_nil))) (blkOk_by (N := N_shortened) (sc := defScope s_shortened) (by decide +kernel)) (by decide) (fun _ _ _ _ _ => (pg_name (i := 6) sc_shortened.nd rfl (Or.inl rfl))) (fun _ _ _ _ _ => (dts_one (dt_w (dw_and (dt_cmp (op_eqD hr.units) od_eq (de_mod (de_var (pv 2)) (de_var (pv 6))) de_int (nomark _)) (dw_and1 (dt_cmp (op_eqD hr.units) od_eq (de_add (de_slice (de_var (pv 1)) (do_some (de_var (pv 6))) do_none) (de_slice (de_var (pv 1)) do_none (do_some (de_var (pv 6))))) (de_var (pv 1)) (nomark _))))))) (fun _ _ _ _ _ => (de_var (pv 6)))) da_nil)))
    (dss_cons (ds_asg (de_tup (da_cons (de_slice (de_var (pv 1)) do_none (do_some (de_var (pv 3)))) (da_cons de_int da_nil))) (dg_tup rfl (dgs_cons (dg_name (i := 1) sc_shortened.nd) (dgs_cons (dg_name (i := 4) sc_shortened.nd) dgs_nil))))
    (dss_cons (ds_while 20000000 (passes_of rfl) (dt_w (dw_and (dt_cmp op_lt od_lt (de_var (pv 4)) (de_callB call_len cd_len rfl T.m_len b_len (da_cons (de_var (pv 0)) da_nil)) (nomark _)) (dw_and1 (dt_cmp (op_eqD hr.units) od_eq (de_idx (de_var (pv 0)) (de_sub (de_sub (de_callB call_len cd_len rfl T.m_len b_len (da_cons (de_var (pv 0)) da_nil)) de_int) (de_var (pv 4)))) (de_idx (de_var (pv 1)) (de_mod (de_sub (de_sub (de_var (pv 3)) de_int) (de_var (pv 4))) (de_var (pv 3)))) (nomark _)))))
    (dss_one (ds_set (i := 4) sc_shortened.nd (de_add (de_var (pv 4)) de_int))))
    (dss_cons (ds_set (i := 5) sc_shortened.nd (de_sub (de_var (pv 3)) (de_mod (de_var (pv 4)) (de_var (pv 3)))))
    (dss_one (ds_ret (de_tup (da_cons (de_callTy call_tuple_of cd_tuple rfl T.m_tuple b_tuple (da_cons (de_slice (de_var (pv 0)) do_none (do_some (de_sub (de_callB call_len cd_len rfl T.m_len b_len (da_cons (de_var (pv 0)) da_nil)) (de_var (pv 4))))) da_nil)) (da_cons (de_callTy call_tuple_of cd_tuple rfl T.m_tuple b_tuple (da_cons (de_add (de_slice (de_var (pv 1)) (do_some (de_var (pv 5))) do_none) (de_slice (de_var (pv 1)) do_none (do_some (de_var (pv 5))))) da_nil)) da_nil))))))))))
theorem sc_first_of : FnScope N_first_of ["minutes"] (defScope s_first_of) := ⟨rfl, rfl, rfl, by decide +kernel, rfl, by decide +kernel, by decide +kernel⟩
theorem ok_first_of (T : Top K mg) : DFn P w K mg base "first_of" ["minutes"] 1 F_first_of := by
  obtain ⟨f, fd, hm, Ff, hb⟩ := T.d_first_of
  exact fnP_ok (N := N_first_of) (k := 0) hm Ff hb sc_first_of fun cdv A outer s H E hr =>
    (dss_cons (ds_set (i := 1) sc_first_of.nd (de_lc (own := [(("minute" : Str), 2)]) (c := (.nm 2)) rfl sc_first_of.nd (di_seq (de_var (pv 0))) (blkOk_by (N := N_first_of) (sc := defScope s_first_of) (by decide +kernel)) (by decide) (fun _ _ _ _ _ => (pg_name (i := 2) sc_first_of.nd rfl (Or.inl rfl))) (fun _ _ _ _ _ => (dts_one (dt_cmp op_notN od_notN (de_var (pv 2)) de_non (nomark _)))) (fun _ _ _ _ _ => (de_callTy call_int1 cd_int rfl T.m_int b_int (da_cons (de_var (pv 2)) da_nil)))))
    (dss_cons (ds_if (dt_cmp (op_eqD hr.units) od_eq (de_var (pv 1)) (de_lst da_nil) (nomark _))
    (dss_one (ds_ret (de_tup da_nil)))
    dss_nil)
    (dss_one (ds_ret (de_callTy call_tuple_of cd_tuple rfl T.m_tuple b_tuple (da_cons (de_lc (own := [(("index" : Str), 3), (("minute" : Str), 2)]) (c := (.tp [3, 2])) rfl sc_first_of.nd (di_enum rfl T.m_enumerate (da_cons (de_var (pv 0)) da_nil)) (blkOk_by (N := N_first_of) (sc := defScope s_first_of) (by decide +kernel)) (by decide) (fun _ _ _ _ _ => (pg_tup rfl (pgs_cons (pg_name (i := 3) sc_first_of.nd rfl (Or.inl rfl)) (pgs_cons (pg_name (i := 2) sc_first_of.nd rfl (Or.inl rfl)) pgs_nil)))) (fun _ _ _ _ _ => (dts_one (dt_cmp (op_eqD hr.units) od_eq (de_var (pv 2)) (de_callB (call_minD rfl) cd_min rfl T.m_min b_min (da_cons (de_var (pv 1)) da_nil)) (nomark _)))) (fun _ _ _ _ _ => (de_var (pv 3)))) da_nil))))))
theorem sc_is_later : FnScope N_is_later ["minute", "other"] (defScope s_is_later) := ⟨rfl, rfl, rfl, by decide +kernel, rfl, by decide +kernel, by decide +kernel⟩
theorem ok_is_later (T : Top K mg) : DFn P w K mg base "is_later" ["minute", "other"] 1 F_is_later := by
  obtain ⟨f, fd, hm, Ff, hb⟩ := T.d_is_later
  exact fnP_ok (N := N_is_later) (k := 0) hm Ff hb sc_is_later fun cdv A outer s H E hr =>
    (dss_one (ds_ret (de_and (de_cmp op_notN od_notN (de_var (pv 1)) de_non (nomark _)) (de_one (de_or (de_cmp op_isN od_isN (de_var (pv 0)) de_non (nomark _)) (de_one (de_cmp op_gt od_gt (de_var (pv 0)) (de_var (pv 1)) (nomark _))))))))
theorem sc_word_of : FnScope N_word_of ["far"] (defScope s_word_of) := ⟨rfl, rfl, rfl, by decide +kernel, rfl, by decide +kernel, by decide +kernel⟩
theorem ok_word_of (T : Top K mg) : DFn P w K mg base "word_of" ["far"] 1 F_word_of := by
  obtain ⟨f, fd, hm, Ff, hb⟩ := T.d_word_of
  exact fnP_ok (N := N_word_of) (k := 0) hm Ff hb sc_word_of fun cdv A outer s H E hr =>
    (dss_one (ds_ret (de_if (dt_cmp op_gt od_gt (de_var (pv 0)) de_int (nomark _)) de_str (de_if (dt_cmp op_lt od_lt (de_var (pv 0)) de_int (nomark _)) de_str de_str))))
theorem sc_started : FnScope N_started ["snail", "start"] (defScope s_started) := ⟨rfl, rfl, rfl, by decide +kernel, rfl, by decide +kernel, by decide +kernel⟩
theorem ok_started (T : Top K mg) : DFn P w K mg base "started" ["snail", "start"] 1 F_started := by
  obtain ⟨f, fd, hm, Ff, hb⟩ := T.d_started
  exact fnP_ok (N := N_started) (k := 0) hm Ff hb sc_started fun cdv A outer s H E hr =>
    (dss_one (ds_ret (de_add (de_tup (da_cons (de_var (pv 1)) da_nil)) (de_slice (de_var (pv 0)) (do_some de_int) do_none))))
theorem sc__law_source : FnScope N__law_source ["script", "k"] (defScope s__law_source) := ⟨rfl, rfl, rfl, by decide +kernel, rfl, by decide +kernel, by decide +kernel⟩
theorem ok__law_source (T : Top K mg) : DFn P w K mg base "_law_source" ["script", "k"] 1 F__law_source := by
  obtain ⟨f, fd, hm, Ff, hb⟩ := T.d__law_source
  exact fnQ_ok (N := N__law_source) (k := 0) hm Ff hb sc__law_source fun cdv A outer s H E hr =>
    (dss_cons (ds_set (i := 2) sc__law_source.nd de_int)
    (dss_cons (ds_if (dt_cmp op_lt od_lt (de_var (pv 1)) (de_callB call_len cd_len rfl T.m_len b_len (da_cons (de_var (pv 0)) da_nil)) (nomark _))
    (dss_one (ds_set (i := 2) sc__law_source.nd (de_callB call_abs cd_abs rfl T.m_abs b_abs (da_cons (de_callTy call_int1 cd_int rfl T.m_int b_int (da_cons (de_idx (de_var (pv 0)) (de_var (pv 1))) da_nil)) da_nil))))
    dss_nil)
    (dss_cons (ds_if (dt_cmp op_lt od_lt (de_var (pv 2)) (de_pow de_int de_int) (nomark _))
    (dss_one (ds_ret (de_newL (da_cons de_int (da_cons (de_add de_int (de_mod (de_callTy call_int1 cd_int rfl T.m_int b_int (da_cons (de_add (de_mul (de_var (pv 2)) de_int) (de_mul de_int (de_var (pv 1)))) da_nil)) de_int)) da_nil)))))
    dss_nil)
    (dss_one (ds_ret (de_newL (da_cons (de_var (pv 2)) (da_cons (de_add de_int (de_mod (de_callTy call_int1 cd_int rfl T.m_int b_int (da_cons (de_add (de_var (pv 2)) (de_var (pv 1))) da_nil)) de_int)) da_nil))))))))
theorem sc__law_draw : FnScope N__law_draw ["source", "many"] (defScope s__law_draw) := ⟨rfl, rfl, rfl, by decide +kernel, rfl, by decide +kernel, by decide +kernel⟩
theorem ok__law_draw (T : Top K mg) : DFn P w K mg base "_law_draw" ["source", "many"] 1 F__law_draw := by
  obtain ⟨f, fd, hm, Ff, hb⟩ := T.d__law_draw
  exact fnP_ok (N := N__law_draw) (k := 0) hm Ff hb sc__law_draw fun cdv A outer s H E hr =>
    (dss_cons (ds_if (dt_cmp op_gt od_gt (de_idx (de_var (pv 0)) de_int) de_int (nomark _))
    (dss_cons (ds_set (i := 2) sc__law_draw.nd (de_mod (de_callTy call_int1 cd_int rfl T.m_int b_int (da_cons (de_idx (de_var (pv 0)) de_int) da_nil)) (de_var (pv 1))))
    (dss_cons (ds_ix (de_div (de_idx (de_var (pv 0)) de_int) (de_var (pv 1))) (de_var (pv 0)) de_int)
    (dss_one (ds_ret (de_var (pv 2))))))
    dss_nil)
    (dss_cons (ds_ix (de_mod (de_callTy call_int1 cd_int rfl T.m_int b_int (da_cons (de_mul (de_idx (de_var (pv 0)) de_int) de_int) da_nil)) de_int) (de_var (pv 0)) de_int)
    (dss_one (ds_ret (de_mod (de_callTy call_int1 cd_int rfl T.m_int b_int (da_cons (de_div (de_mod (de_callTy call_int1 cd_int rfl T.m_int b_int (da_cons (de_mul (de_idx (de_var (pv 0)) de_int) (de_idx (de_var (pv 0)) de_int)) da_nil)) de_int) de_int) da_nil)) (de_var (pv 1)))))))
theorem sc_is_round : FnScope N_is_round ["value"] (defScope s_is_round) := ⟨rfl, rfl, rfl, by decide +kernel, rfl, by decide +kernel, by decide +kernel⟩
theorem ok_is_round (T : Top K mg) : DFn P w K mg base "is_round" ["value"] 2 F_is_round := by
  obtain ⟨f, fd, hm, Ff, hb⟩ := T.d_is_round
  exact fnP_ok (N := N_is_round) (k := 1) hm Ff hb sc_is_round fun cdv A outer s H E hr =>
    (dss_one (ds_ret (de_and (de_call (ok_is_tuple (P := P) (w := w) (base := base) T) (hr.mono (by decide)) (takes_of rfl rfl rfl rfl) (da_cons (de_var (pv 0)) (da_cons de_int (da_cons de_int da_nil)))) (de_one (de_callB (cr_all rfl) cd_all rfl T.m_all b_all (da_cons (de_lc (own := [(("step" : Str), 1)]) (c := (.nm 1)) rfl sc_is_round.nd (di_seq (de_var (pv 0))) (blkOk_by (N := N_is_round) (sc := defScope s_is_round) (by decide +kernel)) (by decide) (fun _ _ _ _ _ => (pg_name (i := 1) sc_is_round.nd rfl (Or.inl rfl))) (fun _ _ _ _ _ => dts_nil) (fun _ _ _ _ _ => (de_call (ok_is_number (P := P) (w := w) (base := base) T) (hr.mono (by decide)) takes0 (da_cons (de_var (pv 1)) (da_cons (de_neg de_int) (da_cons de_int da_nil)))))) da_nil))))))
theorem sc_need_number : FnScope N_need_number ["value", "least"] (defScope s_need_number) := ⟨rfl, rfl, rfl, by decide +kernel, rfl, by decide +kernel, by decide +kernel⟩
theorem ok_need_number (T : Top K mg) : DFn P w K mg base "need_number" ["value", "least"] 2 F_need_number := by
  obtain ⟨f, fd, hm, Ff, hb⟩ := T.d_need_number
  exact fnP_ok (N := N_need_number) (k := 1) hm Ff hb sc_need_number fun cdv A outer s H E hr =>
    (dss_one (ds_if (dt_not (dt_truth (de_call (ok_is_number (P := P) (w := w) (base := base) T) (hr.mono (by decide)) (takes_of rfl rfl rfl rfl) (da_cons (de_var (pv 0)) (da_cons (de_var (pv 1)) (da_cons (de_gint T.m_MOST) da_nil)))) (by intro _; rfl)))
    (dss_one (ds_raise rfl (takes_of rfl rfl rfl rfl) T.c_InvalidNumber))
    dss_nil))
theorem sc_need_index : FnScope N_need_index ["some", "value"] (defScope s_need_index) := ⟨rfl, rfl, rfl, by decide +kernel, rfl, by decide +kernel, by decide +kernel⟩
theorem ok_need_index (T : Top K mg) : DFn P w K mg base "need_index" ["some", "value"] 2 F_need_index := by
  obtain ⟨f, fd, hm, Ff, hb⟩ := T.d_need_index
  exact fnP_ok (N := N_need_index) (k := 1) hm Ff hb sc_need_index fun cdv A outer s H E hr =>
    (dss_one (ds_if (dt_not (dt_truth (de_call (ok_is_number (P := P) (w := w) (base := base) T) (hr.mono (by decide)) (takes_of rfl rfl rfl rfl) (da_cons (de_var (pv 1)) (da_cons de_int (da_cons (de_sub (de_callB call_len cd_len rfl T.m_len b_len (da_cons (de_var (pv 0)) da_nil)) de_int) da_nil)))) (by intro _; rfl)))
    (dss_one (ds_raise rfl (takes_of rfl rfl rfl rfl) T.c_InvalidIndex))
    dss_nil))
theorem sc_behind : FnScope N_behind ["height", "steps"] (defScope s_behind) := ⟨rfl, rfl, rfl, by decide +kernel, rfl, by decide +kernel, by decide +kernel⟩
theorem ok_behind (T : Top K mg) : DFn P w K mg base "behind" ["height", "steps"] 2 F_behind := by
  obtain ⟨f, fd, hm, Ff, hb⟩ := T.d_behind
  exact fnP_ok (N := N_behind) (k := 1) hm Ff hb sc_behind fun cdv A outer s H E hr =>
    (dss_cons (ds_for (passes_of rfl) rfl (di_seq (de_var (pv 1))) (dg_name (i := 2) sc_behind.nd)
    (dss_one (ds_set (i := 0) sc_behind.nd (de_call (ok_stepped (P := P) (w := w) (base := base) T) (hr.mono (by decide)) (takes_of rfl rfl rfl rfl) (da_cons (de_var (pv 0)) (da_cons (de_var (pv 2)) da_nil))))))
    (dss_one (ds_ret (de_var (pv 0)))))
theorem sc_records_of : FnScope N_records_of ["snail", "rounds"] (defScope s_records_of) := ⟨rfl, rfl, rfl, by decide +kernel, rfl, by decide +kernel, by decide +kernel⟩
theorem ok_records_of (T : Top K mg) : DFn P w K mg base "records_of" ["snail", "rounds"] 2 F_records_of := by
  obtain ⟨f, fd, hm, Ff, hb⟩ := T.d_records_of
  exact fnP_ok (N := N_records_of) (k := 1) hm Ff hb sc_records_of fun cdv A outer s H E hr =>
    (dss_cons (ds_asg (de_var (pv 0)) (dg_tup rfl (dgs_cons (dg_name (i := 2) sc_records_of.nd) (dgs_cons (dg_name (i := 3) sc_records_of.nd) (dgs_cons (dg_name (i := 4) sc_records_of.nd) dgs_nil)))))
    (dss_cons (ds_set (i := 5) sc_records_of.nd (de_mul (de_lst (da_cons de_int da_nil)) (de_var (pv 3))))
    (dss_cons (ds_set (i := 6) sc_records_of.nd (de_var (pv 2)))
    (dss_cons (ds_for (passes_of rfl) rfl (di_rng1 rfl T.m_range (da_cons (de_var (pv 1)) da_nil)) (dg_name (i := 7) sc_records_of.nd)
    (dss_one (ds_for (passes_of rfl) rfl (di_seq (de_var (pv 4))) (dg_name (i := 8) sc_records_of.nd)
    (dss_cons (ds_par (i := 3) (j := 6) rfl sc_records_of.nd (de_call (ok_stepped (P := P) (w := w) (base := base) T) (hr.mono (by decide)) (takes_of rfl rfl rfl rfl) (da_cons (de_var (pv 3)) (da_cons (de_var (pv 8)) da_nil))) (de_add (de_var (pv 6)) de_int))
    (dss_one (ds_set (i := 5) sc_records_of.nd (de_add (de_var (pv 5)) (de_mul (de_lst (da_cons (de_var (pv 6)) da_nil)) (de_callB (call_maxD rfl) cd_max rfl T.m_max b_max (da_cons de_int (da_cons (de_sub (de_var (pv 3)) (de_callB call_len cd_len rfl T.m_len b_len (da_cons (de_var (pv 5)) da_nil))) da_nil)))))))))))
    (dss_one (ds_ret (de_var (pv 5))))))))
theorem sc_common_turn : FnScope N_common_turn ["calendars"] (defScope s_common_turn) := ⟨rfl, rfl, rfl, by decide +kernel, rfl, by decide +kernel, by decide +kernel⟩
theorem ok_common_turn (T : Top K mg) : DFn P w K mg base "common_turn" ["calendars"] 2 F_common_turn := by
  obtain ⟨f, fd, hm, Ff, hb⟩ := T.d_common_turn
  exact fnP_ok (N := N_common_turn) (k := 1) hm Ff hb sc_common_turn fun cdv A outer s H E hr =>
    (dss_cons (ds_set (i := 1) sc_common_turn.nd de_int)
    (dss_cons (ds_for (passes_of rfl) rfl (di_seq (de_var (pv 0))) (dg_tup rfl (dgs_cons (dg_name (i := 2) sc_common_turn.nd) (dgs_cons (dg_name (i := 3) sc_common_turn.nd) (dgs_cons (dg_name (i := 4) sc_common_turn.nd) dgs_nil))))
    (dss_one (ds_set (i := 1) sc_common_turn.nd (de_div (de_mul (de_var (pv 1)) (de_callB call_len cd_len rfl T.m_len b_len (da_cons (de_var (pv 3)) da_nil))) (de_call (ok_divisor (P := P) (w := w) (base := base) T) (hr.mono (by decide)) (takes_of rfl rfl rfl rfl) (da_cons (de_var (pv 1)) (da_cons (de_callB call_len cd_len rfl T.m_len b_len (da_cons (de_var (pv 3)) da_nil)) da_nil)))))))
    (dss_one (ds_ret (de_var (pv 1))))))
theorem sc_blocks_until : FnScope N_blocks_until ["one", "other", "first", "turn"] (defScope s_blocks_until) := ⟨rfl, rfl, rfl, by decide +kernel, rfl, by decide +kernel, by decide +kernel⟩
theorem ok_blocks_until (T : Top K mg) : DFn P w K mg base "blocks_until" ["one", "other", "first", "turn"] 2 F_blocks_until := by
  obtain ⟨f, fd, hm, Ff, hb⟩ := T.d_blocks_until
  exact fnP_ok (N := N_blocks_until) (k := 1) hm Ff hb sc_blocks_until fun cdv A outer s H E hr =>
    (dss_cons (ds_set (i := 4) sc_blocks_until.nd (de_sub (de_call (ok_rise_in (P := P) (w := w) (base := base) T) (hr.mono (by decide)) (takes_of rfl rfl rfl rfl) (da_cons (de_var (pv 0)) (da_cons (de_var (pv 3)) da_nil))) (de_call (ok_rise_in (P := P) (w := w) (base := base) T) (hr.mono (by decide)) (takes_of rfl rfl rfl rfl) (da_cons (de_var (pv 1)) (da_cons (de_var (pv 3)) da_nil)))))
    (dss_cons (ds_set (i := 5) sc_blocks_until.nd de_int)
    (dss_cons (ds_if (dt_cmp (op_neD hr.units) od_ne (de_var (pv 4)) de_int (nomark _))
    (dss_one (ds_for (passes_of rfl) rfl (di_rng2 rfl T.m_range (da_cons (de_var (pv 2)) (da_cons (de_add (de_var (pv 2)) (de_var (pv 3))) da_nil))) (dg_name (i := 6) sc_blocks_until.nd)
    (dss_cons (ds_set (i := 7) sc_blocks_until.nd (de_sub (de_call (ok_minute_in (P := P) (w := w) (base := base) T) (hr.mono (by decide)) (takes_of rfl rfl rfl rfl) (da_cons (de_var (pv 0)) (da_cons (de_var (pv 6)) da_nil))) (de_call (ok_minute_in (P := P) (w := w) (base := base) T) (hr.mono (by decide)) (takes_of rfl rfl rfl rfl) (da_cons (de_var (pv 1)) (da_cons (de_var (pv 6)) da_nil)))))
    (dss_cons (ds_set (i := 7) sc_blocks_until.nd (de_if (dt_cmp op_gt od_gt (de_var (pv 4)) de_int (nomark _)) (de_var (pv 7)) (de_neg (de_var (pv 7)))))
    (dss_one (ds_set (i := 5) sc_blocks_until.nd (de_callB (call_maxD rfl) cd_max rfl T.m_max b_max (da_cons (de_var (pv 5)) (da_cons (de_add (de_callTy call_int1 cd_int rfl T.m_int b_int (da_cons (de_div (de_neg (de_var (pv 7))) (de_callB call_abs cd_abs rfl T.m_abs b_abs (da_cons (de_var (pv 4)) da_nil))) da_nil)) de_int) da_nil)))))))))
    dss_nil)
    (dss_one (ds_ret (de_var (pv 5)))))))
theorem sc_first_at : FnScope N_first_at ["calendars", "depth"] (defScope s_first_at) := ⟨rfl, rfl, rfl, by decide +kernel, rfl, by decide +kernel, by decide +kernel⟩
theorem ok_first_at (T : Top K mg) : DFn P w K mg base "first_at" ["calendars", "depth"] 2 F_first_at := by
  obtain ⟨f, fd, hm, Ff, hb⟩ := T.d_first_at
  exact fnP_ok (N := N_first_at) (k := 1) hm Ff hb sc_first_at fun cdv A outer s H E hr =>
    (dss_one (ds_ret (de_call (ok_first_of (P := P) (w := w) (base := base) T) (hr.mono (by decide)) (takes_of rfl rfl rfl rfl) (da_cons (de_lc (own := [(("told" : Str), 2)]) (c := (.nm 2)) rfl sc_first_at.nd (di_seq (de_var (pv 0))) (blkOk_by (N := N_first_at) (sc := defScope s_first_at) (by decide +kernel)) (by decide) (fun _ _ _ _ _ => (pg_name (i := 2) sc_first_at.nd rfl (Or.inl rfl))) (fun _ _ _ _ _ => dts_nil) (fun _ _ _ _ _ => (de_call (ok_minute_in (P := P) (w := w) (base := base) T) (hr.mono (by decide)) takes0 (da_cons (de_var (pv 2)) (da_cons (de_var (pv 1)) da_nil))))) da_nil))))
theorem sc_is_good_snail : FnScope N_is_good_snail ["value"] (defScope s_is_good_snail) := ⟨rfl, rfl, rfl, by decide +kernel, rfl, by decide +kernel, by decide +kernel⟩
theorem ok_is_good_snail (T : Top K mg) : DFn P w K mg base "is_good_snail" ["value"] 3 F_is_good_snail := by
  obtain ⟨f, fd, hm, Ff, hb⟩ := T.d_is_good_snail
  exact fnP_ok (N := N_is_good_snail) (k := 2) hm Ff hb sc_is_good_snail fun cdv A outer s H E hr =>
    (dss_cons (ds_if (dt_w (dw_or (dt_not (dt_truth (de_call (ok_is_tuple (P := P) (w := w) (base := base) T) (hr.mono (by decide)) (takes_of rfl rfl rfl rfl) (da_cons (de_var (pv 0)) (da_cons de_int (da_cons de_int da_nil)))) (by intro _; rfl))) (dw_or1 (dt_not (dt_truth (de_call (ok_is_number (P := P) (w := w) (base := base) T) (hr.mono (by decide)) (takes_of rfl rfl rfl rfl) (da_cons (de_idx (de_var (pv 0)) de_int) (da_cons de_int (da_cons de_int da_nil)))) (by intro _; rfl))))))
    (dss_one (ds_ret de_bl))
    dss_nil)
    (dss_one (ds_ret (de_and (de_call (ok_is_number (P := P) (w := w) (base := base) T) (hr.mono (by decide)) (takes_of rfl rfl rfl rfl) (da_cons (de_idx (de_var (pv 0)) de_int) (da_cons de_int (da_cons de_int da_nil)))) (de_one (de_call (ok_is_round (P := P) (w := w) (base := base) T) (hr.mono (by decide)) (takes_of rfl rfl rfl rfl) (da_cons (de_idx (de_var (pv 0)) de_int) da_nil)))))))
theorem sc_is_settled : FnScope N_is_settled ["height", "steps"] (defScope s_is_settled) := ⟨rfl, rfl, rfl, by decide +kernel, rfl, by decide +kernel, by decide +kernel⟩
theorem ok_is_settled (T : Top K mg) : DFn P w K mg base "is_settled" ["height", "steps"] 3 F_is_settled := by
  obtain ⟨f, fd, hm, Ff, hb⟩ := T.d_is_settled
  exact fnP_ok (N := N_is_settled) (k := 2) hm Ff hb sc_is_settled fun cdv A outer s H E hr =>
    (dss_cons (ds_set (i := 2) sc_is_settled.nd (de_callB (call_sumD rfl) cd_sum rfl T.m_sum b_sum (da_cons (de_var (pv 1)) da_nil)))
    (dss_one (ds_ret (de_or (de_and (de_cmp op_ge od_ge (de_add (de_var (pv 0)) (de_call (ok_lowest_sum (P := P) (w := w) (base := base) T) (hr.mono (by decide)) (takes_of rfl rfl rfl rfl) (da_cons (de_var (pv 1)) da_nil))) de_int (nomark _)) (de_one (de_cmp op_ge od_ge (de_var (pv 2)) de_int (nomark _)))) (de_one (de_cmp (op_eqD hr.units) od_eq (de_call (ok_behind (P := P) (w := w) (base := base) T) (hr.mono (by decide)) (takes_of rfl rfl rfl rfl) (da_cons (de_var (pv 0)) (da_cons (de_var (pv 1)) da_nil))) (de_var (pv 0)) (nomark _)))))))
theorem sc_gain_of : FnScope N_gain_of ["height", "steps"] (defScope s_gain_of) := ⟨rfl, rfl, rfl, by decide +kernel, rfl, by decide +kernel, by decide +kernel⟩
theorem ok_gain_of (T : Top K mg) : DFn P w K mg base "gain_of" ["height", "steps"] 3 F_gain_of := by
  obtain ⟨f, fd, hm, Ff, hb⟩ := T.d_gain_of
  exact fnP_ok (N := N_gain_of) (k := 2) hm Ff hb sc_gain_of fun cdv A outer s H E hr =>
    (dss_one (ds_ret (de_sub (de_call (ok_behind (P := P) (w := w) (base := base) T) (hr.mono (by decide)) (takes_of rfl rfl rfl rfl) (da_cons (de_var (pv 0)) (da_cons (de_var (pv 1)) da_nil))) (de_var (pv 0)))))
theorem sc_settled_from : FnScope N_settled_from ["calendars"] (defScope s_settled_from) := ⟨rfl, rfl, rfl, by decide +kernel, rfl, by decide +kernel, by decide +kernel⟩
theorem ok_settled_from (T : Top K mg) : DFn P w K mg base "settled_from" ["calendars"] 3 F_settled_from := by
  obtain ⟨f, fd, hm, Ff, hb⟩ := T.d_settled_from
  exact fnP_ok (N := N_settled_from) (k := 2) hm Ff hb sc_settled_from fun cdv A outer s H E hr =>
    (dss_cons (ds_set (i := 1) sc_settled_from.nd (de_call (ok_common_turn (P := P) (w := w) (base := base) T) (hr.mono (by decide)) (takes_of rfl rfl rfl rfl) (da_cons (de_var (pv 0)) da_nil)))
    (dss_cons (ds_set (i := 2) sc_settled_from.nd (de_add de_int (de_callB (call_maxD rfl) cd_max rfl T.m_max b_max (da_cons (de_lc (own := [(("told" : Str), 5)]) (c := (.nm 5)) rfl sc_settled_from.nd (di_seq (de_var (pv 0))) (blkOk_by (N := N_settled_from) (sc := defScope s_settled_from) (by decide +kernel)) (by decide) (fun _ _ _ _ _ => (pg_name (i := 5) sc_settled_from.nd rfl (Or.inl rfl))) (fun _ _ _ _ _ => dts_nil) (fun _ _ _ _ _ => (de_callB call_len cd_len rfl T.m_len b_len (da_cons (de_idx (de_var (pv 5)) de_int) da_nil)))) da_nil))))
    (dss_cons (ds_set (i := 3) sc_settled_from.nd (de_lc (own := [(("told" : Str), 5)]) (c := (.nm 5)) rfl sc_settled_from.nd (di_seq (de_var (pv 0))) (blkOk_by (N := N_settled_from) (sc := defScope s_settled_from) (by decide +kernel)) (by decide) (fun _ _ _ _ _ => (pg_name (i := 5) sc_settled_from.nd rfl (Or.inl rfl))) (fun _ _ _ _ _ => (dts_one (dt_truth (de_call (ok_is_endless (P := P) (w := w) (base := base) T) (hr.mono (by decide)) takes0 (da_cons (de_var (pv 5)) da_nil)) (by intro _; rfl)))) (fun _ _ _ _ _ => (de_var (pv 5)))))
    (dss_cons (ds_setLc2 (i := 4) (own := [(("one" : Str), 6), (("other" : Str), 7)]) (ws1 := [7]) (c := (.nm 6)) (c1 := (.nm 7)) rfl sc_settled_from.nd (di_seq (de_var (pv 3))) (blkOk_by (N := N_settled_from) (sc := defScope s_settled_from) (by decide +kernel)) (by decide) (by decide) (by decide) (fun _ _ _ _ _ => (pg_name (i := 6) sc_settled_from.nd rfl (Or.inl rfl))) (fun _ _ _ _ _ => dts_nil) (fun _ _ _ _ _ => (di_seq (de_var (pv 3)))) (fun _ _ _ _ _ => (pg_name (i := 7) sc_settled_from.nd rfl (Or.inl rfl))) (fun _ _ _ _ _ => dts_nil) (fun _ _ _ _ _ => (de_call (ok_blocks_until (P := P) (w := w) (base := base) T) (hr.mono (by decide)) takes0 (da_cons (de_var (pv 6)) (da_cons (de_var (pv 7)) (da_cons (de_var (pv 2)) (da_cons (de_var (pv 1)) da_nil)))))))
    (dss_one (ds_ret (de_tup (da_cons (de_add (de_var (pv 2)) (de_mul (de_var (pv 1)) (de_callB (call_maxD rfl) cd_max rfl T.m_max b_max (da_cons (de_add (de_lst (da_cons de_int da_nil)) (de_lc (own := [(("many" : Str), 8)]) (c := (.nm 8)) rfl sc_settled_from.nd (di_seq (de_var (pv 4))) (blkOk_by (N := N_settled_from) (sc := defScope s_settled_from) (by decide +kernel)) (by decide) (fun _ _ _ _ _ => (pg_name (i := 8) sc_settled_from.nd rfl (Or.inl rfl))) (fun _ _ _ _ _ => dts_nil) (fun _ _ _ _ _ => (de_callTy call_int1 cd_int rfl T.m_int b_int (da_cons (de_var (pv 8)) da_nil))))) da_nil)))) (da_cons (de_var (pv 1)) da_nil)))))))))
theorem sc_are_good_snails : FnScope N_are_good_snails ["value"] (defScope s_are_good_snails) := ⟨rfl, rfl, rfl, by decide +kernel, rfl, by decide +kernel, by decide +kernel⟩
theorem ok_are_good_snails (T : Top K mg) : DFn P w K mg base "are_good_snails" ["value"] 4 F_are_good_snails := by
  obtain ⟨f, fd, hm, Ff, hb⟩ := T.d_are_good_snails
  exact fnP_ok (N := N_are_good_snails) (k := 3) hm Ff hb sc_are_good_snails fun cdv A outer s H E hr =>
    (dss_one (ds_ret (de_and (de_call (ok_is_tuple (P := P) (w := w) (base := base) T) (hr.mono (by decide)) (takes_of rfl rfl rfl rfl) (da_cons (de_var (pv 0)) (da_cons de_int (da_cons de_int da_nil)))) (de_one (de_callB (cr_all rfl) cd_all rfl T.m_all b_all (da_cons (de_lc (own := [(("snail" : Str), 1)]) (c := (.nm 1)) rfl sc_are_good_snails.nd (di_seq (de_var (pv 0))) (blkOk_by (N := N_are_good_snails) (sc := defScope s_are_good_snails) (by decide +kernel)) (by decide) (fun _ _ _ _ _ => (pg_name (i := 1) sc_are_good_snails.nd rfl (Or.inl rfl))) (fun _ _ _ _ _ => dts_nil) (fun _ _ _ _ _ => (de_call (ok_is_good_snail (P := P) (w := w) (base := base) T) (hr.mono (by decide)) takes0 (da_cons (de_var (pv 1)) da_nil)))) da_nil))))))
theorem sc_need_snail : FnScope N_need_snail ["value"] (defScope s_need_snail) := ⟨rfl, rfl, rfl, by decide +kernel, rfl, by decide +kernel, by decide +kernel⟩
theorem ok_need_snail (T : Top K mg) : DFn P w K mg base "need_snail" ["value"] 4 F_need_snail := by
  obtain ⟨f, fd, hm, Ff, hb⟩ := T.d_need_snail
  exact fnP_ok (N := N_need_snail) (k := 3) hm Ff hb sc_need_snail fun cdv A outer s H E hr =>
    (dss_one (ds_if (dt_not (dt_truth (de_call (ok_is_good_snail (P := P) (w := w) (base := base) T) (hr.mono (by decide)) (takes_of rfl rfl rfl rfl) (da_cons (de_var (pv 0)) da_nil)) (by intro _; rfl)))
    (dss_one (ds_raise rfl (takes_of rfl rfl rfl rfl) T.c_InvalidSnail))
    dss_nil))
theorem sc_settled : FnScope N_settled ["height", "steps"] (defScope s_settled) := ⟨rfl, rfl, rfl, by decide +kernel, rfl, by decide +kernel, by decide +kernel⟩
theorem ok_settled (T : Top K mg) : DFn P w K mg base "settled" ["height", "steps"] 4 F_settled := by
  obtain ⟨f, fd, hm, Ff, hb⟩ := T.d_settled
  exact fnP_ok (N := N_settled) (k := 3) hm Ff hb sc_settled fun cdv A outer s H E hr =>
    (dss_cons (ds_set (i := 2) sc_settled.nd (de_lst (da_cons (de_var (pv 0)) da_nil)))
    (dss_cons (ds_while 4096 (passes_of rfl) (dt_not (dt_truth (de_call (ok_is_settled (P := P) (w := w) (base := base) T) (hr.mono (by decide)) (takes_of rfl rfl rfl rfl) (da_cons (de_idx (de_var (pv 2)) (de_neg de_int)) (da_cons (de_var (pv 1)) da_nil))) (by intro _; rfl)))
    (dss_one (ds_set (i := 2) sc_settled.nd (de_add (de_var (pv 2)) (de_lst (da_cons (de_call (ok_behind (P := P) (w := w) (base := base) T) (hr.mono (by decide)) (takes_of rfl rfl rfl rfl) (da_cons (de_idx (de_var (pv 2)) (de_neg de_int)) (da_cons (de_var (pv 1)) da_nil))) da_nil))))))
    (dss_one (ds_ret (de_var (pv 2))))))
theorem sc_winners_by : FnScope N_winners_by ["calendars"] (defScope s_winners_by) := ⟨rfl, rfl, rfl, by decide +kernel, rfl, by decide +kernel, by decide +kernel⟩
theorem ok_winners_by (T : Top K mg) : DFn P w K mg base "winners_by" ["calendars"] 4 F_winners_by := by
  obtain ⟨f, fd, hm, Ff, hb⟩ := T.d_winners_by
  exact fnP_ok (N := N_winners_by) (k := 3) hm Ff hb sc_winners_by fun cdv A outer s H E hr =>
    (dss_cons (ds_asg (de_call (ok_settled_from (P := P) (w := w) (base := base) T) (hr.mono (by decide)) (takes_of rfl rfl rfl rfl) (da_cons (de_var (pv 0)) da_nil)) (dg_tup rfl (dgs_cons (dg_name (i := 1) sc_winners_by.nd) (dgs_cons (dg_name (i := 2) sc_winners_by.nd) dgs_nil))))
    (dss_cons (ds_setLc (i := 3) (own := [(("depth" : Str), 4)]) (c := (.nm 4)) rfl sc_winners_by.nd (di_rng2 rfl T.m_range (da_cons de_int (da_cons (de_var (pv 1)) da_nil))) (blkOk_by (N := N_winners_by) (sc := defScope s_winners_by) (by decide +kernel)) (by decide) (fun _ _ _ _ _ => (pg_name (i := 4) sc_winners_by.nd rfl (Or.inl rfl))) (fun _ _ _ _ _ => dts_nil) (fun _ _ _ _ _ => (de_call (ok_first_at (P := P) (w := w) (base := base) T) (hr.mono (by decide)) takes0 (da_cons (de_var (pv 0)) (da_cons (de_var (pv 4)) da_nil)))))
    (dss_one (ds_ret (de_call (ok_shortened (P := P) (w := w) (base := base) T) (hr.mono (by decide)) (takes_of rfl rfl rfl rfl) (da_cons (de_var (pv 3)) (da_cons (de_lc (own := [(("depth" : Str), 4)]) (c := (.nm 4)) rfl sc_winners_by.nd (di_rng2 rfl T.m_range (da_cons (de_var (pv 1)) (da_cons (de_add (de_var (pv 1)) (de_var (pv 2))) da_nil))) (blkOk_by (N := N_winners_by) (sc := defScope s_winners_by) (by decide +kernel)) (by decide) (fun _ _ _ _ _ => (pg_name (i := 4) sc_winners_by.nd rfl (Or.inl rfl))) (fun _ _ _ _ _ => dts_nil) (fun _ _ _ _ _ => (de_call (ok_first_at (P := P) (w := w) (base := base) T) (hr.mono (by decide)) takes0 (da_cons (de_var (pv 0)) (da_cons (de_var (pv 4)) da_nil))))) da_nil)))))))
theorem sc_later_depth : FnScope N_later_depth ["one", "other"] (defScope s_later_depth) := ⟨rfl, rfl, rfl, by decide +kernel, rfl, by decide +kernel, by decide +kernel⟩
theorem ok_later_depth (T : Top K mg) : DFn P w K mg base "later_depth" ["one", "other"] 4 F_later_depth := by
  obtain ⟨f, fd, hm, Ff, hb⟩ := T.d_later_depth
  exact fnP_ok (N := N_later_depth) (k := 3) hm Ff hb sc_later_depth fun cdv A outer s H E hr =>
    (dss_cons (ds_asg (de_call (ok_settled_from (P := P) (w := w) (base := base) T) (hr.mono (by decide)) (takes_of rfl rfl rfl rfl) (da_cons (de_lst (da_cons (de_var (pv 0)) (da_cons (de_var (pv 1)) da_nil))) da_nil)) (dg_tup rfl (dgs_cons (dg_name (i := 2) sc_later_depth.nd) (dgs_cons (dg_name (i := 3) sc_later_depth.nd) dgs_nil))))
    (dss_cons (ds_for (passes_of rfl) rfl (di_rng2 rfl T.m_range (da_cons de_int (da_cons (de_add (de_var (pv 2)) (de_var (pv 3))) da_nil))) (dg_name (i := 4) sc_later_depth.nd)
    (dss_one (ds_if (dt_truth (de_call (ok_is_later (P := P) (w := w) (base := base) T) (hr.mono (by decide)) (takes_of rfl rfl rfl rfl) (da_cons (de_call (ok_minute_in (P := P) (w := w) (base := base) T) (hr.mono (by decide)) (takes_of rfl rfl rfl rfl) (da_cons (de_var (pv 0)) (da_cons (de_var (pv 4)) da_nil))) (da_cons (de_call (ok_minute_in (P := P) (w := w) (base := base) T) (hr.mono (by decide)) (takes_of rfl rfl rfl rfl) (da_cons (de_var (pv 1)) (da_cons (de_var (pv 4)) da_nil))) da_nil))) (by intro _; rfl))
    (dss_one (ds_ret (de_var (pv 4))))
    dss_nil)))
    (dss_one (ds_ret de_non))))
theorem sc_leads_by : FnScope N_leads_by ["one", "other"] (defScope s_leads_by) := ⟨rfl, rfl, rfl, by decide +kernel, rfl, by decide +kernel, by decide +kernel⟩
theorem ok_leads_by (T : Top K mg) : DFn P w K mg base "leads_by" ["one", "other"] 4 F_leads_by := by
  obtain ⟨f, fd, hm, Ff, hb⟩ := T.d_leads_by
  exact fnP_ok (N := N_leads_by) (k := 3) hm Ff hb sc_leads_by fun cdv A outer s H E hr =>
    (dss_cons (ds_asg (de_call (ok_settled_from (P := P) (w := w) (base := base) T) (hr.mono (by decide)) (takes_of rfl rfl rfl rfl) (da_cons (de_lst (da_cons (de_var (pv 0)) (da_cons (de_var (pv 1)) da_nil))) da_nil)) (dg_tup rfl (dgs_cons (dg_name (i := 2) sc_leads_by.nd) (dgs_cons (dg_name (i := 3) sc_leads_by.nd) dgs_nil))))
    (dss_cons (ds_set (i := 4) sc_leads_by.nd (de_lst da_nil))
    (dss_cons (ds_for (passes_of rfl) rfl (di_rng2 rfl T.m_range (da_cons de_int (da_cons (de_add (de_var (pv 2)) (de_var (pv 3))) da_nil))) (dg_name (i := 5) sc_leads_by.nd)
    (dss_cons (ds_par (i := 6) (j := 7) rfl sc_leads_by.nd (de_call (ok_minute_in (P := P) (w := w) (base := base) T) (hr.mono (by decide)) (takes_of rfl rfl rfl rfl) (da_cons (de_var (pv 0)) (da_cons (de_var (pv 5)) da_nil))) (de_call (ok_minute_in (P := P) (w := w) (base := base) T) (hr.mono (by decide)) (takes_of rfl rfl rfl rfl) (da_cons (de_var (pv 1)) (da_cons (de_var (pv 5)) da_nil))))
    (dss_one (ds_set (i := 4) sc_leads_by.nd (de_add (de_var (pv 4)) (de_if (dt_w (dw_and (dt_cmp op_notN od_notN (de_var (pv 6)) de_non (nomark _)) (dw_and1 (dt_cmp op_notN od_notN (de_var (pv 7)) de_non (nomark _))))) (de_lst (da_cons (de_sub (de_var (pv 7)) (de_var (pv 6))) da_nil)) (de_lst da_nil)))))))
    (dss_cons (ds_if (dt_cmp (op_eqD hr.units) od_eq (de_var (pv 4)) (de_lst da_nil) (nomark _))
    (dss_one (ds_ret de_non))
    dss_nil)
    (dss_cons (ds_par (i := 8) (j := 9) rfl sc_leads_by.nd (de_callB (call_minD rfl) cd_min rfl T.m_min b_min (da_cons (de_lc (own := [(("far" : Str), 11)]) (c := (.nm 11)) rfl sc_leads_by.nd (di_seq (de_var (pv 4))) (blkOk_by (N := N_leads_by) (sc := defScope s_leads_by) (by decide +kernel)) (by decide) (fun _ _ _ _ _ => (pg_name (i := 11) sc_leads_by.nd rfl (Or.inl rfl))) (fun _ _ _ _ _ => dts_nil) (fun _ _ _ _ _ => (de_callTy call_int1 cd_int rfl T.m_int b_int (da_cons (de_var (pv 11)) da_nil)))) da_nil)) (de_callB (call_maxD rfl) cd_max rfl T.m_max b_max (da_cons (de_lc (own := [(("far" : Str), 11)]) (c := (.nm 11)) rfl sc_leads_by.nd (di_seq (de_var (pv 4))) (blkOk_by (N := N_leads_by) (sc := defScope s_leads_by) (by decide +kernel)) (by decide) (fun _ _ _ _ _ => (pg_name (i := 11) sc_leads_by.nd rfl (Or.inl rfl))) (fun _ _ _ _ _ => dts_nil) (fun _ _ _ _ _ => (de_callTy call_int1 cd_int rfl T.m_int b_int (da_cons (de_var (pv 11)) da_nil)))) da_nil)))
    (dss_cons (ds_set (i := 10) sc_leads_by.nd (de_if (dt_w (dw_and (dt_truth (de_call (ok_is_endless (P := P) (w := w) (base := base) T) (hr.mono (by decide)) (takes_of rfl rfl rfl rfl) (da_cons (de_var (pv 0)) da_nil)) (by intro _; rfl)) (dw_and1 (dt_truth (de_call (ok_is_endless (P := P) (w := w) (base := base) T) (hr.mono (by decide)) (takes_of rfl rfl rfl rfl) (da_cons (de_var (pv 1)) da_nil)) (by intro _; rfl))))) (de_sub (de_call (ok_rise_in (P := P) (w := w) (base := base) T) (hr.mono (by decide)) (takes_of rfl rfl rfl rfl) (da_cons (de_var (pv 1)) (da_cons (de_var (pv 3)) da_nil))) (de_call (ok_rise_in (P := P) (w := w) (base := base) T) (hr.mono (by decide)) (takes_of rfl rfl rfl rfl) (da_cons (de_var (pv 0)) (da_cons (de_var (pv 3)) da_nil)))) de_int))
    (dss_one (ds_ret (de_tup (da_cons (de_if (dt_cmp op_lt od_lt (de_var (pv 10)) de_int (nomark _)) de_non (de_var (pv 8))) (da_cons (de_if (dt_cmp op_gt od_gt (de_var (pv 10)) de_int (nomark _)) de_non (de_var (pv 9))) da_nil)))))))))))
theorem sc_parting_depth : FnScope N_parting_depth ["one", "other"] (defScope s_parting_depth) := ⟨rfl, rfl, rfl, by decide +kernel, rfl, by decide +kernel, by decide +kernel⟩
theorem ok_parting_depth (T : Top K mg) : DFn P w K mg base "parting_depth" ["one", "other"] 4 F_parting_depth := by
  obtain ⟨f, fd, hm, Ff, hb⟩ := T.d_parting_depth
  exact fnP_ok (N := N_parting_depth) (k := 3) hm Ff hb sc_parting_depth fun cdv A outer s H E hr =>
    (dss_cons (ds_asg (de_call (ok_settled_from (P := P) (w := w) (base := base) T) (hr.mono (by decide)) (takes_of rfl rfl rfl rfl) (da_cons (de_lst (da_cons (de_var (pv 0)) (da_cons (de_var (pv 1)) da_nil))) da_nil)) (dg_tup rfl (dgs_cons (dg_name (i := 2) sc_parting_depth.nd) (dgs_cons (dg_name (i := 3) sc_parting_depth.nd) dgs_nil))))
    (dss_cons (ds_for (passes_of rfl) rfl (di_rng2 rfl T.m_range (da_cons de_int (da_cons (de_add (de_var (pv 2)) (de_var (pv 3))) da_nil))) (dg_name (i := 4) sc_parting_depth.nd)
    (dss_one (ds_if (dt_cmp (op_neD hr.units) od_ne (de_call (ok_minute_in (P := P) (w := w) (base := base) T) (hr.mono (by decide)) (takes_of rfl rfl rfl rfl) (da_cons (de_var (pv 0)) (da_cons (de_var (pv 4)) da_nil))) (de_call (ok_minute_in (P := P) (w := w) (base := base) T) (hr.mono (by decide)) (takes_of rfl rfl rfl rfl) (da_cons (de_var (pv 1)) (da_cons (de_var (pv 4)) da_nil))) (nomark _))
    (dss_one (ds_ret (de_var (pv 4))))
    dss_nil)))
    (dss_one (ds_ret de_non))))
theorem sc_need_snails : FnScope N_need_snails ["value"] (defScope s_need_snails) := ⟨rfl, rfl, rfl, by decide +kernel, rfl, by decide +kernel, by decide +kernel⟩
theorem ok_need_snails (T : Top K mg) : DFn P w K mg base "need_snails" ["value"] 5 F_need_snails := by
  obtain ⟨f, fd, hm, Ff, hb⟩ := T.d_need_snails
  exact fnP_ok (N := N_need_snails) (k := 4) hm Ff hb sc_need_snails fun cdv A outer s H E hr =>
    (dss_one (ds_if (dt_not (dt_truth (de_call (ok_are_good_snails (P := P) (w := w) (base := base) T) (hr.mono (by decide)) (takes_of rfl rfl rfl rfl) (da_cons (de_var (pv 0)) da_nil)) (by intro _; rfl)))
    (dss_one (ds_raise rfl (takes_of rfl rfl rfl rfl) T.c_InvalidSnails))
    dss_nil))
theorem sc_height_of : FnScope N_height_of ["snail", "minute"] (defScope s_height_of) := ⟨rfl, rfl, rfl, by decide +kernel, rfl, by decide +kernel, by decide +kernel⟩
theorem ok_height_of (T : Top K mg) : DFn P w K mg base "height_of" ["snail", "minute"] 5 F_height_of := by
  obtain ⟨f, fd, hm, Ff, hb⟩ := T.d_height_of
  exact fnP_ok (N := N_height_of) (k := 4) hm Ff hb sc_height_of fun cdv A outer s H E hr =>
    (dss_cons (ds_asg (de_var (pv 0)) (dg_tup rfl (dgs_cons (dg_name (i := 2) sc_height_of.nd) (dgs_cons (dg_name (i := 3) sc_height_of.nd) (dgs_cons (dg_name (i := 4) sc_height_of.nd) dgs_nil)))))
    (dss_cons (ds_if (dt_cmp op_le od_le (de_var (pv 1)) (de_var (pv 2)) (nomark _))
    (dss_one (ds_ret (de_var (pv 3))))
    dss_nil)
    (dss_cons (ds_par (i := 5) (j := 6) rfl sc_height_of.nd (de_div (de_sub (de_var (pv 1)) (de_var (pv 2))) (de_callB call_len cd_len rfl T.m_len b_len (da_cons (de_var (pv 4)) da_nil))) (de_mod (de_sub (de_var (pv 1)) (de_var (pv 2))) (de_callB call_len cd_len rfl T.m_len b_len (da_cons (de_var (pv 4)) da_nil))))
    (dss_cons (ds_set (i := 7) sc_height_of.nd (de_call (ok_settled (P := P) (w := w) (base := base) T) (hr.mono (by decide)) (takes_of rfl rfl rfl rfl) (da_cons (de_var (pv 3)) (da_cons (de_var (pv 4)) da_nil))))
    (dss_cons (ds_if (dt_cmp op_lt od_lt (de_var (pv 5)) (de_callB call_len cd_len rfl T.m_len b_len (da_cons (de_var (pv 7)) da_nil)) (nomark _))
    (dss_one (ds_ret (de_call (ok_behind (P := P) (w := w) (base := base) T) (hr.mono (by decide)) (takes_of rfl rfl rfl rfl) (da_cons (de_idx (de_var (pv 7)) (de_var (pv 5))) (da_cons (de_slice (de_var (pv 4)) do_none (do_some (de_var (pv 6)))) da_nil)))))
    dss_nil)
    (dss_cons (ds_set (i := 8) sc_height_of.nd (de_add (de_idx (de_var (pv 7)) (de_neg de_int)) (de_mul (de_add (de_sub (de_var (pv 5)) (de_callB call_len cd_len rfl T.m_len b_len (da_cons (de_var (pv 7)) da_nil))) de_int) (de_call (ok_gain_of (P := P) (w := w) (base := base) T) (hr.mono (by decide)) (takes_of rfl rfl rfl rfl) (da_cons (de_idx (de_var (pv 7)) (de_neg de_int)) (da_cons (de_var (pv 4)) da_nil))))))
    (dss_one (ds_ret (de_call (ok_behind (P := P) (w := w) (base := base) T) (hr.mono (by decide)) (takes_of rfl rfl rfl rfl) (da_cons (de_var (pv 8)) (da_cons (de_slice (de_var (pv 4)) do_none (do_some (de_var (pv 6)))) da_nil)))))))))))
theorem sc_calendar_of : FnScope N_calendar_of ["snail"] (defScope s_calendar_of) := ⟨rfl, rfl, rfl, by decide +kernel, rfl, by decide +kernel, by decide +kernel⟩
theorem ok_calendar_of (T : Top K mg) : DFn P w K mg base "calendar_of" ["snail"] 5 F_calendar_of := by
  obtain ⟨f, fd, hm, Ff, hb⟩ := T.d_calendar_of
  exact fnP_ok (N := N_calendar_of) (k := 4) hm Ff hb sc_calendar_of fun cdv A outer s H E hr =>
    (dss_cons (ds_asg (de_var (pv 0)) (dg_tup rfl (dgs_cons (dg_name (i := 1) sc_calendar_of.nd) (dgs_cons (dg_name (i := 2) sc_calendar_of.nd) (dgs_cons (dg_name (i := 3) sc_calendar_of.nd) dgs_nil)))))
    (dss_cons (ds_set (i := 4) sc_calendar_of.nd (de_call (ok_settled (P := P) (w := w) (base := base) T) (hr.mono (by decide)) (takes_of rfl rfl rfl rfl) (da_cons (de_var (pv 2)) (da_cons (de_var (pv 3)) da_nil))))
    (dss_cons (ds_set (i := 5) sc_calendar_of.nd (de_call (ok_gain_of (P := P) (w := w) (base := base) T) (hr.mono (by decide)) (takes_of rfl rfl rfl rfl) (da_cons (de_idx (de_var (pv 4)) (de_neg de_int)) (da_cons (de_var (pv 3)) da_nil))))
    (dss_cons (ds_if (dt_cmp (op_eqD hr.units) od_eq (de_var (pv 5)) de_int (nomark _))
    (dss_one (ds_ret (de_tup (da_cons (de_callTy call_tuple_of cd_tuple rfl T.m_tuple b_tuple (da_cons (de_call (ok_records_of (P := P) (w := w) (base := base) T) (hr.mono (by decide)) (takes_of rfl rfl rfl rfl) (da_cons (de_var (pv 0)) (da_cons (de_callB call_len cd_len rfl T.m_len b_len (da_cons (de_var (pv 4)) da_nil)) da_nil))) da_nil)) (da_cons (de_tup (da_cons de_non da_nil)) (da_cons de_int da_nil))))))
    dss_nil)
    (dss_cons (ds_set (i := 6) sc_calendar_of.nd (de_callB call_len cd_len rfl T.m_len b_len (da_cons (de_var (pv 4)) da_nil)))
    (dss_cons (ds_while 4096 (passes_of rfl) (dt_cmp (op_neD hr.units) od_ne (de_sub (de_callB call_len cd_len rfl T.m_len b_len (da_cons (de_call (ok_records_of (P := P) (w := w) (base := base) T) (hr.mono (by decide)) (takes_of rfl rfl rfl rfl) (da_cons (de_var (pv 0)) (da_cons (de_add (de_var (pv 6)) de_int) da_nil))) da_nil)) (de_callB call_len cd_len rfl T.m_len b_len (da_cons (de_call (ok_records_of (P := P) (w := w) (base := base) T) (hr.mono (by decide)) (takes_of rfl rfl rfl rfl) (da_cons (de_var (pv 0)) (da_cons (de_var (pv 6)) da_nil))) da_nil))) (de_var (pv 5)) (nomark _))
    (dss_one (ds_set (i := 6) sc_calendar_of.nd (de_add (de_var (pv 6)) de_int))))
    (dss_cons (ds_par (i := 7) (j := 8) rfl sc_calendar_of.nd (de_call (ok_records_of (P := P) (w := w) (base := base) T) (hr.mono (by decide)) (takes_of rfl rfl rfl rfl) (da_cons (de_var (pv 0)) (da_cons (de_var (pv 6)) da_nil))) (de_call (ok_records_of (P := P) (w := w) (base := base) T) (hr.mono (by decide)) (takes_of rfl rfl rfl rfl) (da_cons (de_var (pv 0)) (da_cons (de_add (de_var (pv 6)) de_int) da_nil))))
    (dss_cons (ds_par (i := 9) (j := 10) rfl sc_calendar_of.nd (de_slice (de_var (pv 8)) (do_some (de_callB call_len cd_len rfl T.m_len b_len (da_cons (de_var (pv 7)) da_nil))) do_none) (de_callB call_len cd_len rfl T.m_len b_len (da_cons (de_var (pv 3)) da_nil)))
    (dss_cons (ds_set (i := 11) sc_calendar_of.nd (de_call (ok_least_turn (P := P) (w := w) (base := base) T) (hr.mono (by decide)) (takes_of rfl rfl rfl rfl) (da_cons (de_var (pv 9)) (da_cons (de_var (pv 10)) da_nil))))
    (dss_cons (ds_par (i := 9) (j := 10) rfl sc_calendar_of.nd (de_slice (de_var (pv 9)) do_none (do_some (de_var (pv 11)))) (de_div (de_mul (de_var (pv 10)) (de_var (pv 11))) (de_var (pv 5))))
    (dss_cons (ds_while 4096 (passes_of rfl) (dt_w (dw_and (dt_cmp (op_neD hr.units) od_ne (de_var (pv 7)) (de_lst da_nil) (nomark _)) (dw_and1 (dt_cmp (op_eqD hr.units) od_eq (de_add (de_idx (de_var (pv 7)) (de_neg de_int)) (de_var (pv 10))) (de_idx (de_var (pv 9)) (de_neg de_int)) (nomark _)))))
    (dss_one (ds_par (i := 7) (j := 9) rfl sc_calendar_of.nd (de_slice (de_var (pv 7)) do_none (do_some (de_neg de_int))) (de_add (de_lst (da_cons (de_idx (de_var (pv 7)) (de_neg de_int)) da_nil)) (de_slice (de_var (pv 9)) do_none (do_some (de_neg de_int)))))))
    (dss_one (ds_ret (de_tup (da_cons (de_callTy call_tuple_of cd_tuple rfl T.m_tuple b_tuple (da_cons (de_var (pv 7)) da_nil)) (da_cons (de_callTy call_tuple_of cd_tuple rfl T.m_tuple b_tuple (da_cons (de_var (pv 9)) da_nil)) (da_cons (de_var (pv 10)) da_nil)))))))))))))))))
theorem sc_need_two : FnScope N_need_two ["one", "other"] (defScope s_need_two) := ⟨rfl, rfl, rfl, by decide +kernel, rfl, by decide +kernel, by decide +kernel⟩
theorem ok_need_two (T : Top K mg) : DFn P w K mg base "need_two" ["one", "other"] 5 F_need_two := by
  obtain ⟨f, fd, hm, Ff, hb⟩ := T.d_need_two
  exact fnP_ok (N := N_need_two) (k := 4) hm Ff hb sc_need_two fun cdv A outer s H E hr =>
    (dss_cons (ds_expr (de_call (ok_need_snail (P := P) (w := w) (base := base) T) (hr.mono (by decide)) (takes_of rfl rfl rfl rfl) (da_cons (de_var (pv 0)) da_nil)))
    (dss_one (ds_expr (de_call (ok_need_snail (P := P) (w := w) (base := base) T) (hr.mono (by decide)) (takes_of rfl rfl rfl rfl) (da_cons (de_var (pv 1)) da_nil)))))
theorem sc_settled_minute : FnScope N_settled_minute ["snail"] (defScope s_settled_minute) := ⟨rfl, rfl, rfl, by decide +kernel, rfl, by decide +kernel, by decide +kernel⟩
theorem ok_settled_minute (T : Top K mg) : DFn P w K mg base "settled_minute" ["snail"] 5 F_settled_minute := by
  obtain ⟨f, fd, hm, Ff, hb⟩ := T.d_settled_minute
  exact fnP_ok (N := N_settled_minute) (k := 4) hm Ff hb sc_settled_minute fun cdv A outer s H E hr =>
    (dss_cons (ds_asg (de_var (pv 0)) (dg_tup rfl (dgs_cons (dg_name (i := 1) sc_settled_minute.nd) (dgs_cons (dg_name (i := 2) sc_settled_minute.nd) (dgs_cons (dg_name (i := 3) sc_settled_minute.nd) dgs_nil)))))
    (dss_one (ds_ret (de_add (de_var (pv 1)) (de_mul (de_sub (de_callB call_len cd_len rfl T.m_len b_len (da_cons (de_call (ok_settled (P := P) (w := w) (base := base) T) (hr.mono (by decide)) (takes_of rfl rfl rfl rfl) (da_cons (de_var (pv 2)) (da_cons (de_var (pv 3)) da_nil))) da_nil)) de_int) (de_callB call_len cd_len rfl T.m_len b_len (da_cons (de_var (pv 3)) da_nil)))))))
theorem sc_gain_in : FnScope N_gain_in ["snail", "minutes"] (defScope s_gain_in) := ⟨rfl, rfl, rfl, by decide +kernel, rfl, by decide +kernel, by decide +kernel⟩
theorem ok_gain_in (T : Top K mg) : DFn P w K mg base "gain_in" ["snail", "minutes"] 5 F_gain_in := by
  obtain ⟨f, fd, hm, Ff, hb⟩ := T.d_gain_in
  exact fnP_ok (N := N_gain_in) (k := 4) hm Ff hb sc_gain_in fun cdv A outer s H E hr =>
    (dss_cons (ds_asg (de_var (pv 0)) (dg_tup rfl (dgs_cons (dg_name (i := 2) sc_gain_in.nd) (dgs_cons (dg_name (i := 3) sc_gain_in.nd) (dgs_cons (dg_name (i := 4) sc_gain_in.nd) dgs_nil)))))
    (dss_one (ds_ret (de_mul (de_call (ok_gain_of (P := P) (w := w) (base := base) T) (hr.mono (by decide)) (takes_of rfl rfl rfl rfl) (da_cons (de_idx (de_call (ok_settled (P := P) (w := w) (base := base) T) (hr.mono (by decide)) (takes_of rfl rfl rfl rfl) (da_cons (de_var (pv 3)) (da_cons (de_var (pv 4)) da_nil))) (de_neg de_int)) (da_cons (de_var (pv 4)) da_nil))) (de_div (de_var (pv 1)) (de_callB call_len cd_len rfl T.m_len b_len (da_cons (de_var (pv 4)) da_nil)))))))
theorem sc_top_of : FnScope N_top_of ["snail"] (defScope s_top_of) := ⟨rfl, rfl, rfl, by decide +kernel, rfl, by decide +kernel, by decide +kernel⟩
theorem ok_top_of (T : Top K mg) : DFn P w K mg base "top_of" ["snail"] 5 F_top_of := by
  obtain ⟨f, fd, hm, Ff, hb⟩ := T.d_top_of
  exact fnP_ok (N := N_top_of) (k := 4) hm Ff hb sc_top_of fun cdv A outer s H E hr =>
    (dss_cons (ds_asg (de_var (pv 0)) (dg_tup rfl (dgs_cons (dg_name (i := 1) sc_top_of.nd) (dgs_cons (dg_name (i := 2) sc_top_of.nd) (dgs_cons (dg_name (i := 3) sc_top_of.nd) dgs_nil)))))
    (dss_cons (ds_set (i := 4) sc_top_of.nd (de_call (ok_settled (P := P) (w := w) (base := base) T) (hr.mono (by decide)) (takes_of rfl rfl rfl rfl) (da_cons (de_var (pv 2)) (da_cons (de_var (pv 3)) da_nil))))
    (dss_cons (ds_if (dt_cmp op_gt od_gt (de_call (ok_gain_of (P := P) (w := w) (base := base) T) (hr.mono (by decide)) (takes_of rfl rfl rfl rfl) (da_cons (de_idx (de_var (pv 4)) (de_neg de_int)) (da_cons (de_var (pv 3)) da_nil))) de_int (nomark _))
    (dss_one (ds_ret de_non))
    dss_nil)
    (dss_cons (ds_set (i := 5) sc_top_of.nd (de_var (pv 2)))
    (dss_cons (ds_for (passes_of rfl) rfl (di_rng1 rfl T.m_range (da_cons (de_callB call_len cd_len rfl T.m_len b_len (da_cons (de_var (pv 4)) da_nil)) da_nil)) (dg_name (i := 6) sc_top_of.nd)
    (dss_one (ds_for (passes_of rfl) rfl (di_seq (de_var (pv 3))) (dg_name (i := 7) sc_top_of.nd)
    (dss_cons (ds_set (i := 2) sc_top_of.nd (de_call (ok_stepped (P := P) (w := w) (base := base) T) (hr.mono (by decide)) (takes_of rfl rfl rfl rfl) (da_cons (de_var (pv 2)) (da_cons (de_var (pv 7)) da_nil))))
    (dss_one (ds_set (i := 5) sc_top_of.nd (de_if (dt_cmp op_gt od_gt (de_var (pv 2)) (de_var (pv 5)) (nomark _)) (de_var (pv 2)) (de_var (pv 5)))))))))
    (dss_one (ds_ret (de_var (pv 5)))))))))
theorem sc_out_at : FnScope N_out_at ["snail", "depth"] (defScope s_out_at) := ⟨rfl, rfl, rfl, by decide +kernel, rfl, by decide +kernel, by decide +kernel⟩
theorem ok_out_at (T : Top K mg) : DFn P w K mg base "out_at" ["snail", "depth"] 6 F_out_at := by
  obtain ⟨f, fd, hm, Ff, hb⟩ := T.d_out_at
  exact fnP_ok (N := N_out_at) (k := 5) hm Ff hb sc_out_at fun cdv A outer s H E hr =>
    (dss_cons (ds_expr (de_call (ok_need_snail (P := P) (w := w) (base := base) T) (hr.mono (by decide)) (takes_of rfl rfl rfl rfl) (da_cons (de_var (pv 0)) da_nil)))
    (dss_cons (ds_expr (de_call (ok_need_number (P := P) (w := w) (base := base) T) (hr.mono (by decide)) (takes_of rfl rfl rfl rfl) (da_cons (de_var (pv 1)) (da_cons de_int da_nil))))
    (dss_one (ds_ret (de_call (ok_minute_in (P := P) (w := w) (base := base) T) (hr.mono (by decide)) (takes_of rfl rfl rfl rfl) (da_cons (de_call (ok_calendar_of (P := P) (w := w) (base := base) T) (hr.mono (by decide)) (takes_of rfl rfl rfl rfl) (da_cons (de_var (pv 0)) da_nil)) (da_cons (de_var (pv 1)) da_nil)))))))
theorem sc_calendar : FnScope N_calendar ["snail"] (defScope s_calendar) := ⟨rfl, rfl, rfl, by decide +kernel, rfl, by decide +kernel, by decide +kernel⟩
theorem ok_calendar (T : Top K mg) : DFn P w K mg base "calendar" ["snail"] 6 F_calendar := by
  obtain ⟨f, fd, hm, Ff, hb⟩ := T.d_calendar
  exact fnP_ok (N := N_calendar) (k := 5) hm Ff hb sc_calendar fun cdv A outer s H E hr =>
    (dss_cons (ds_expr (de_call (ok_need_snail (P := P) (w := w) (base := base) T) (hr.mono (by decide)) (takes_of rfl rfl rfl rfl) (da_cons (de_var (pv 0)) da_nil)))
    (dss_one (ds_ret (de_call (ok_calendar_of (P := P) (w := w) (base := base) T) (hr.mono (by decide)) (takes_of rfl rfl rfl rfl) (da_cons (de_var (pv 0)) da_nil)))))
theorem sc_all_calendars : FnScope N_all_calendars ["snails"] (defScope s_all_calendars) := ⟨rfl, rfl, rfl, by decide +kernel, rfl, by decide +kernel, by decide +kernel⟩
theorem ok_all_calendars (T : Top K mg) : DFn P w K mg base "all_calendars" ["snails"] 6 F_all_calendars := by
  obtain ⟨f, fd, hm, Ff, hb⟩ := T.d_all_calendars
  exact fnP_ok (N := N_all_calendars) (k := 5) hm Ff hb sc_all_calendars fun cdv A outer s H E hr =>
    (dss_one (ds_ret (de_lc (own := [(("snail" : Str), 1)]) (c := (.nm 1)) rfl sc_all_calendars.nd (di_seq (de_var (pv 0))) (blkOk_by (N := N_all_calendars) (sc := defScope s_all_calendars) (by decide +kernel)) (by decide) (fun _ _ _ _ _ => (pg_name (i := 1) sc_all_calendars.nd rfl (Or.inl rfl))) (fun _ _ _ _ _ => dts_nil) (fun _ _ _ _ _ => (de_call (ok_calendar_of (P := P) (w := w) (base := base) T) (hr.mono (by decide)) takes0 (da_cons (de_var (pv 1)) da_nil))))))
theorem sc_leads : FnScope N_leads ["one", "other"] (defScope s_leads) := ⟨rfl, rfl, rfl, by decide +kernel, rfl, by decide +kernel, by decide +kernel⟩
theorem ok_leads (T : Top K mg) : DFn P w K mg base "leads" ["one", "other"] 6 F_leads := by
  obtain ⟨f, fd, hm, Ff, hb⟩ := T.d_leads
  exact fnP_ok (N := N_leads) (k := 5) hm Ff hb sc_leads fun cdv A outer s H E hr =>
    (dss_cons (ds_expr (de_call (ok_need_two (P := P) (w := w) (base := base) T) (hr.mono (by decide)) (takes_of rfl rfl rfl rfl) (da_cons (de_var (pv 0)) (da_cons (de_var (pv 1)) da_nil))))
    (dss_one (ds_ret (de_call (ok_leads_by (P := P) (w := w) (base := base) T) (hr.mono (by decide)) (takes_of rfl rfl rfl rfl) (da_cons (de_call (ok_calendar_of (P := P) (w := w) (base := base) T) (hr.mono (by decide)) (takes_of rfl rfl rfl rfl) (da_cons (de_var (pv 0)) da_nil)) (da_cons (de_call (ok_calendar_of (P := P) (w := w) (base := base) T) (hr.mono (by decide)) (takes_of rfl rfl rfl rfl) (da_cons (de_var (pv 1)) da_nil)) da_nil))))))
theorem sc_never_later : FnScope N_never_later ["one", "other"] (defScope s_never_later) := ⟨rfl, rfl, rfl, by decide +kernel, rfl, by decide +kernel, by decide +kernel⟩
theorem ok_never_later (T : Top K mg) : DFn P w K mg base "never_later" ["one", "other"] 6 F_never_later := by
  obtain ⟨f, fd, hm, Ff, hb⟩ := T.d_never_later
  exact fnP_ok (N := N_never_later) (k := 5) hm Ff hb sc_never_later fun cdv A outer s H E hr =>
    (dss_cons (ds_expr (de_call (ok_need_two (P := P) (w := w) (base := base) T) (hr.mono (by decide)) (takes_of rfl rfl rfl rfl) (da_cons (de_var (pv 0)) (da_cons (de_var (pv 1)) da_nil))))
    (dss_one (ds_ret (de_cmp op_isN od_isN (de_call (ok_later_depth (P := P) (w := w) (base := base) T) (hr.mono (by decide)) (takes_of rfl rfl rfl rfl) (da_cons (de_call (ok_calendar_of (P := P) (w := w) (base := base) T) (hr.mono (by decide)) (takes_of rfl rfl rfl rfl) (da_cons (de_var (pv 0)) da_nil)) (da_cons (de_call (ok_calendar_of (P := P) (w := w) (base := base) T) (hr.mono (by decide)) (takes_of rfl rfl rfl rfl) (da_cons (de_var (pv 1)) da_nil)) da_nil))) de_non (nomark _)))))
theorem sc_first_later : FnScope N_first_later ["one", "other"] (defScope s_first_later) := ⟨rfl, rfl, rfl, by decide +kernel, rfl, by decide +kernel, by decide +kernel⟩
theorem ok_first_later (T : Top K mg) : DFn P w K mg base "first_later" ["one", "other"] 6 F_first_later := by
  obtain ⟨f, fd, hm, Ff, hb⟩ := T.d_first_later
  exact fnP_ok (N := N_first_later) (k := 5) hm Ff hb sc_first_later fun cdv A outer s H E hr =>
    (dss_cons (ds_expr (de_call (ok_need_two (P := P) (w := w) (base := base) T) (hr.mono (by decide)) (takes_of rfl rfl rfl rfl) (da_cons (de_var (pv 0)) (da_cons (de_var (pv 1)) da_nil))))
    (dss_one (ds_ret (de_call (ok_later_depth (P := P) (w := w) (base := base) T) (hr.mono (by decide)) (takes_of rfl rfl rfl rfl) (da_cons (de_call (ok_calendar_of (P := P) (w := w) (base := base) T) (hr.mono (by decide)) (takes_of rfl rfl rfl rfl) (da_cons (de_var (pv 0)) da_nil)) (da_cons (de_call (ok_calendar_of (P := P) (w := w) (base := base) T) (hr.mono (by decide)) (takes_of rfl rfl rfl rfl) (da_cons (de_var (pv 1)) da_nil)) da_nil))))))
theorem sc_far_at : FnScope N_far_at ["one", "other", "minute"] (defScope s_far_at) := ⟨rfl, rfl, rfl, by decide +kernel, rfl, by decide +kernel, by decide +kernel⟩
theorem ok_far_at (T : Top K mg) : DFn P w K mg base "far_at" ["one", "other", "minute"] 6 F_far_at := by
  obtain ⟨f, fd, hm, Ff, hb⟩ := T.d_far_at
  exact fnP_ok (N := N_far_at) (k := 5) hm Ff hb sc_far_at fun cdv A outer s H E hr =>
    (dss_one (ds_ret (de_sub (de_call (ok_height_of (P := P) (w := w) (base := base) T) (hr.mono (by decide)) (takes_of rfl rfl rfl rfl) (da_cons (de_var (pv 0)) (da_cons (de_var (pv 2)) da_nil))) (de_call (ok_height_of (P := P) (w := w) (base := base) T) (hr.mono (by decide)) (takes_of rfl rfl rfl rfl) (da_cons (de_var (pv 1)) (da_cons (de_var (pv 2)) da_nil))))))
theorem sc_highest : FnScope N_highest ["snail"] (defScope s_highest) := ⟨rfl, rfl, rfl, by decide +kernel, rfl, by decide +kernel, by decide +kernel⟩
theorem ok_highest (T : Top K mg) : DFn P w K mg base "highest" ["snail"] 6 F_highest := by
  obtain ⟨f, fd, hm, Ff, hb⟩ := T.d_highest
  exact fnP_ok (N := N_highest) (k := 5) hm Ff hb sc_highest fun cdv A outer s H E hr =>
    (dss_cons (ds_expr (de_call (ok_need_snail (P := P) (w := w) (base := base) T) (hr.mono (by decide)) (takes_of rfl rfl rfl rfl) (da_cons (de_var (pv 0)) da_nil)))
    (dss_one (ds_ret (de_call (ok_top_of (P := P) (w := w) (base := base) T) (hr.mono (by decide)) (takes_of rfl rfl rfl rfl) (da_cons (de_var (pv 0)) da_nil)))))
theorem sc_are_alike : FnScope N_are_alike ["one", "other"] (defScope s_are_alike) := ⟨rfl, rfl, rfl, by decide +kernel, rfl, by decide +kernel, by decide +kernel⟩
theorem ok_are_alike (T : Top K mg) : DFn P w K mg base "are_alike" ["one", "other"] 6 F_are_alike := by
  obtain ⟨f, fd, hm, Ff, hb⟩ := T.d_are_alike
  exact fnP_ok (N := N_are_alike) (k := 5) hm Ff hb sc_are_alike fun cdv A outer s H E hr =>
    (dss_one (ds_ret (de_cmp (op_eqD hr.units) od_eq (de_call (ok_calendar_of (P := P) (w := w) (base := base) T) (hr.mono (by decide)) (takes_of rfl rfl rfl rfl) (da_cons (de_var (pv 0)) da_nil)) (de_call (ok_calendar_of (P := P) (w := w) (base := base) T) (hr.mono (by decide)) (takes_of rfl rfl rfl rfl) (da_cons (de_var (pv 1)) da_nil)) (nomark _))))
theorem sc_parting : FnScope N_parting ["one", "other"] (defScope s_parting) := ⟨rfl, rfl, rfl, by decide +kernel, rfl, by decide +kernel, by decide +kernel⟩
theorem ok_parting (T : Top K mg) : DFn P w K mg base "parting" ["one", "other"] 6 F_parting := by
  obtain ⟨f, fd, hm, Ff, hb⟩ := T.d_parting
  exact fnP_ok (N := N_parting) (k := 5) hm Ff hb sc_parting fun cdv A outer s H E hr =>
    (dss_cons (ds_expr (de_call (ok_need_two (P := P) (w := w) (base := base) T) (hr.mono (by decide)) (takes_of rfl rfl rfl rfl) (da_cons (de_var (pv 0)) (da_cons (de_var (pv 1)) da_nil))))
    (dss_one (ds_ret (de_call (ok_parting_depth (P := P) (w := w) (base := base) T) (hr.mono (by decide)) (takes_of rfl rfl rfl rfl) (da_cons (de_call (ok_calendar_of (P := P) (w := w) (base := base) T) (hr.mono (by decide)) (takes_of rfl rfl rfl rfl) (da_cons (de_var (pv 0)) da_nil)) (da_cons (de_call (ok_calendar_of (P := P) (w := w) (base := base) T) (hr.mono (by decide)) (takes_of rfl rfl rfl rfl) (da_cons (de_var (pv 1)) da_nil)) da_nil))))))
theorem sc_latest_start : FnScope N_latest_start ["one", "other"] (defScope s_latest_start) := ⟨rfl, rfl, rfl, by decide +kernel, rfl, by decide +kernel, by decide +kernel⟩
theorem ok_latest_start (T : Top K mg) : DFn P w K mg base "latest_start" ["one", "other"] 6 F_latest_start := by
  obtain ⟨f, fd, hm, Ff, hb⟩ := T.d_latest_start
  exact fnP_ok (N := N_latest_start) (k := 5) hm Ff hb sc_latest_start fun cdv A outer s H E hr =>
    (dss_cons (ds_expr (de_call (ok_need_two (P := P) (w := w) (base := base) T) (hr.mono (by decide)) (takes_of rfl rfl rfl rfl) (da_cons (de_var (pv 0)) (da_cons (de_var (pv 1)) da_nil))))
    (dss_cons (ds_set (i := 2) sc_latest_start.nd (de_call (ok_calendar_of (P := P) (w := w) (base := base) T) (hr.mono (by decide)) (takes_of rfl rfl rfl rfl) (da_cons (de_var (pv 1)) da_nil)))
    (dss_cons (ds_setLc (i := 3) (own := [(("start" : Str), 4)]) (c := (.nm 4)) rfl sc_latest_start.nd (di_rng1 rfl T.m_range (da_cons de_int da_nil)) (blkOk_by (N := N_latest_start) (sc := defScope s_latest_start) (by decide +kernel)) (by decide) (fun _ _ _ _ _ => (pg_name (i := 4) sc_latest_start.nd rfl (Or.inl rfl))) (fun _ _ _ _ _ => (dts_one (dt_cmp op_isN od_isN (de_call (ok_later_depth (P := P) (w := w) (base := base) T) (hr.mono (by decide)) takes0 (da_cons (de_call (ok_calendar_of (P := P) (w := w) (base := base) T) (hr.mono (by decide)) takes0 (da_cons (de_call (ok_started (P := P) (w := w) (base := base) T) (hr.mono (by decide)) takes0 (da_cons (de_var (pv 0)) (da_cons (de_var (pv 4)) da_nil))) da_nil)) (da_cons (de_var (pv 2)) da_nil))) de_non (nomark _)))) (fun _ _ _ _ _ => (de_var (pv 4))))
    (dss_one (ds_ret (de_if (dt_cmp (op_neD hr.units) od_ne (de_var (pv 3)) (de_lst da_nil) (nomark _)) (de_idx (de_var (pv 3)) (de_neg de_int)) de_non))))))
theorem sc_winner_calendar : FnScope N_winner_calendar ["snails"] (defScope s_winner_calendar) := ⟨rfl, rfl, rfl, by decide +kernel, rfl, by decide +kernel, by decide +kernel⟩
theorem ok_winner_calendar (T : Top K mg) : DFn P w K mg base "winner_calendar" ["snails"] 7 F_winner_calendar := by
  obtain ⟨f, fd, hm, Ff, hb⟩ := T.d_winner_calendar
  exact fnP_ok (N := N_winner_calendar) (k := 6) hm Ff hb sc_winner_calendar fun cdv A outer s H E hr =>
    (dss_cons (ds_expr (de_call (ok_need_snails (P := P) (w := w) (base := base) T) (hr.mono (by decide)) (takes_of rfl rfl rfl rfl) (da_cons (de_var (pv 0)) da_nil)))
    (dss_one (ds_ret (de_call (ok_winners_by (P := P) (w := w) (base := base) T) (hr.mono (by decide)) (takes_of rfl rfl rfl rfl) (da_cons (de_call (ok_all_calendars (P := P) (w := w) (base := base) T) (hr.mono (by decide)) (takes_of rfl rfl rfl rfl) (da_cons (de_var (pv 0)) da_nil)) da_nil)))))
theorem sc_how : FnScope N_how ["snails", "index"] (defScope s_how) := ⟨rfl, rfl, rfl, by decide +kernel, rfl, by decide +kernel, by decide +kernel⟩
theorem ok_how (T : Top K mg) : DFn P w K mg base "how" ["snails", "index"] 7 F_how := by
  obtain ⟨f, fd, hm, Ff, hb⟩ := T.d_how
  exact fnP_ok (N := N_how) (k := 6) hm Ff hb sc_how fun cdv A outer s H E hr =>
    (dss_cons (ds_expr (de_call (ok_need_snails (P := P) (w := w) (base := base) T) (hr.mono (by decide)) (takes_of rfl rfl rfl rfl) (da_cons (de_var (pv 0)) da_nil)))
    (dss_cons (ds_expr (de_call (ok_need_index (P := P) (w := w) (base := base) T) (hr.mono (by decide)) (takes_of rfl rfl rfl rfl) (da_cons (de_var (pv 0)) (da_cons (de_var (pv 1)) da_nil))))
    (dss_cons (ds_asg (de_call (ok_winners_by (P := P) (w := w) (base := base) T) (hr.mono (by decide)) (takes_of rfl rfl rfl rfl) (da_cons (de_call (ok_all_calendars (P := P) (w := w) (base := base) T) (hr.mono (by decide)) (takes_of rfl rfl rfl rfl) (da_cons (de_var (pv 0)) da_nil)) da_nil)) (dg_tup rfl (dgs_cons (dg_name (i := 2) sc_how.nd) (dgs_cons (dg_name (i := 3) sc_how.nd) dgs_nil))))
    (dss_cons (ds_setLc (i := 4) (own := [(("some" : Str), 5)]) (c := (.nm 5)) rfl sc_how.nd (di_seq (de_add (de_var (pv 2)) (de_var (pv 3)))) (blkOk_by (N := N_how) (sc := defScope s_how) (by decide +kernel)) (by decide) (fun _ _ _ _ _ => (pg_name (i := 5) sc_how.nd rfl (Or.inl rfl))) (fun _ _ _ _ _ => dts_nil) (fun _ _ _ _ _ => (de_cmp (op_inA hr) od_in (de_var (pv 1)) (de_var (pv 5)) (by with_unfolding_all rfl))))
    (dss_cons (ds_if (dt_cmp (op_notInA hr) od_notIn de_bl (de_var (pv 4)) (by with_unfolding_all rfl))
    (dss_one (ds_ret de_str))
    dss_nil)
    (dss_one (ds_ret (de_if (dt_cmp (op_inA hr) od_in de_bl (de_var (pv 4)) (by with_unfolding_all rfl)) de_str de_str))))))))
theorem sc_first_depth : FnScope N_first_depth ["snails", "index"] (defScope s_first_depth) := ⟨rfl, rfl, rfl, by decide +kernel, rfl, by decide +kernel, by decide +kernel⟩
theorem ok_first_depth (T : Top K mg) : DFn P w K mg base "first_depth" ["snails", "index"] 7 F_first_depth := by
  obtain ⟨f, fd, hm, Ff, hb⟩ := T.d_first_depth
  exact fnP_ok (N := N_first_depth) (k := 6) hm Ff hb sc_first_depth fun cdv A outer s H E hr =>
    (dss_cons (ds_expr (de_call (ok_need_snails (P := P) (w := w) (base := base) T) (hr.mono (by decide)) (takes_of rfl rfl rfl rfl) (da_cons (de_var (pv 0)) da_nil)))
    (dss_cons (ds_expr (de_call (ok_need_index (P := P) (w := w) (base := base) T) (hr.mono (by decide)) (takes_of rfl rfl rfl rfl) (da_cons (de_var (pv 0)) (da_cons (de_var (pv 1)) da_nil))))
    (dss_cons (ds_asg (de_call (ok_winners_by (P := P) (w := w) (base := base) T) (hr.mono (by decide)) (takes_of rfl rfl rfl rfl) (da_cons (de_call (ok_all_calendars (P := P) (w := w) (base := base) T) (hr.mono (by decide)) (takes_of rfl rfl rfl rfl) (da_cons (de_var (pv 0)) da_nil)) da_nil)) (dg_tup rfl (dgs_cons (dg_name (i := 2) sc_first_depth.nd) (dgs_cons (dg_name (i := 3) sc_first_depth.nd) dgs_nil))))
    (dss_cons (ds_setLc (i := 4) (own := [(("depth" : Str), 5), (("some" : Str), 6)]) (c := (.tp [5, 6])) rfl sc_first_depth.nd (di_enum rfl T.m_enumerate (da_cons (de_add (de_var (pv 2)) (de_var (pv 3))) da_nil)) (blkOk_by (N := N_first_depth) (sc := defScope s_first_depth) (by decide +kernel)) (by decide) (fun _ _ _ _ _ => (pg_tup rfl (pgs_cons (pg_name (i := 5) sc_first_depth.nd rfl (Or.inl rfl)) (pgs_cons (pg_name (i := 6) sc_first_depth.nd rfl (Or.inl rfl)) pgs_nil)))) (fun _ _ _ _ _ => (dts_one (dt_cmp (op_inA hr) od_in (de_var (pv 1)) (de_var (pv 6)) (by with_unfolding_all rfl)))) (fun _ _ _ _ _ => (de_add (de_var (pv 5)) de_int)))
    (dss_one (ds_ret (de_if (dt_cmp (op_neD hr.units) od_ne (de_var (pv 4)) (de_lst da_nil) (nomark _)) (de_idx (de_var (pv 4)) de_int) de_non)))))))
theorem sc_words_by : FnScope N_words_by ["one", "other"] (defScope s_words_by) := ⟨rfl, rfl, rfl, by decide +kernel, rfl, by decide +kernel, by decide +kernel⟩
theorem ok_words_by (T : Top K mg) : DFn P w K mg base "words_by" ["one", "other"] 7 F_words_by := by
  obtain ⟨f, fd, hm, Ff, hb⟩ := T.d_words_by
  exact fnP_ok (N := N_words_by) (k := 6) hm Ff hb sc_words_by fun cdv A outer s H E hr =>
    (dss_cons (ds_par (i := 2) (j := 3) rfl sc_words_by.nd (de_callB call_len cd_len rfl T.m_len b_len (da_cons (de_idx (de_var (pv 0)) de_int) da_nil)) (de_callB call_len cd_len rfl T.m_len b_len (da_cons (de_idx (de_var (pv 1)) de_int) da_nil)))
    (dss_cons (ds_set (i := 4) sc_words_by.nd (de_div (de_mul (de_var (pv 2)) (de_var (pv 3))) (de_call (ok_divisor (P := P) (w := w) (base := base) T) (hr.mono (by decide)) (takes_of rfl rfl rfl rfl) (da_cons (de_var (pv 2)) (da_cons (de_var (pv 3)) da_nil)))))
    (dss_cons (ds_set (i := 5) sc_words_by.nd (de_callB (call_maxD rfl) cd_max rfl T.m_max b_max (da_cons (de_callTy call_int1 cd_int rfl T.m_int b_int (da_cons (de_call (ok_settled_minute (P := P) (w := w) (base := base) T) (hr.mono (by decide)) (takes_of rfl rfl rfl rfl) (da_cons (de_var (pv 0)) da_nil)) da_nil)) (da_cons (de_callTy call_int1 cd_int rfl T.m_int b_int (da_cons (de_call (ok_settled_minute (P := P) (w := w) (base := base) T) (hr.mono (by decide)) (takes_of rfl rfl rfl rfl) (da_cons (de_var (pv 1)) da_nil)) da_nil)) da_nil))))
    (dss_cons (ds_set (i := 6) sc_words_by.nd (de_sub (de_call (ok_gain_in (P := P) (w := w) (base := base) T) (hr.mono (by decide)) (takes_of rfl rfl rfl rfl) (da_cons (de_var (pv 0)) (da_cons (de_var (pv 4)) da_nil))) (de_call (ok_gain_in (P := P) (w := w) (base := base) T) (hr.mono (by decide)) (takes_of rfl rfl rfl rfl) (da_cons (de_var (pv 1)) (da_cons (de_var (pv 4)) da_nil)))))
    (dss_cons (ds_if (dt_cmp (op_neD hr.units) od_ne (de_var (pv 6)) de_int (nomark _))
    (dss_cons (ds_setLc (i := 7) (own := [(("minute" : Str), 9)]) (c := (.nm 9)) rfl sc_words_by.nd (di_rng2 rfl T.m_range (da_cons (de_var (pv 5)) (da_cons (de_add (de_var (pv 5)) (de_var (pv 4))) da_nil))) (blkOk_by (N := N_words_by) (sc := defScope s_words_by) (by decide +kernel)) (by decide) (fun _ _ _ _ _ => (pg_name (i := 9) sc_words_by.nd rfl (Or.inl rfl))) (fun _ _ _ _ _ => dts_nil) (fun _ _ _ _ _ => (de_call (ok_far_at (P := P) (w := w) (base := base) T) (hr.mono (by decide)) takes0 (da_cons (de_var (pv 0)) (da_cons (de_var (pv 1)) (da_cons (de_var (pv 9)) da_nil))))))
    (dss_cons (ds_setLc (i := 7) (own := [(("far" : Str), 10)]) (c := (.nm 10)) rfl sc_words_by.nd (di_seq (de_var (pv 7))) (blkOk_by (N := N_words_by) (sc := defScope s_words_by) (by decide +kernel)) (by decide) (fun _ _ _ _ _ => (pg_name (i := 10) sc_words_by.nd rfl (Or.inl rfl))) (fun _ _ _ _ _ => dts_nil) (fun _ _ _ _ _ => (de_if (dt_cmp op_gt od_gt (de_var (pv 6)) de_int (nomark _)) (de_var (pv 10)) (de_neg (de_var (pv 10))))))
    (dss_one (ds_set (i := 5) sc_words_by.nd (de_add (de_var (pv 5)) (de_mul (de_var (pv 4)) (de_callB (call_maxD rfl) cd_max rfl T.m_max b_max (da_cons (de_add (de_lst (da_cons de_int da_nil)) (de_lc (own := [(("far" : Str), 10)]) (c := (.nm 10)) rfl sc_words_by.nd (di_seq (de_var (pv 7))) (blkOk_by (N := N_words_by) (sc := defScope s_words_by) (by decide +kernel)) (by decide) (fun _ _ _ _ _ => (pg_name (i := 10) sc_words_by.nd rfl (Or.inl rfl))) (fun _ _ _ _ _ => dts_nil) (fun _ _ _ _ _ => (de_add (de_callTy call_int1 cd_int rfl T.m_int b_int (da_cons (de_div (de_neg (de_var (pv 10))) (de_callB call_abs cd_abs rfl T.m_abs b_abs (da_cons (de_var (pv 6)) da_nil))) da_nil)) de_int)))) da_nil))))))))
    dss_nil)
    (dss_cons (ds_setLc (i := 8) (own := [(("minute" : Str), 9)]) (c := (.nm 9)) rfl sc_words_by.nd (di_rng1 rfl T.m_range (da_cons (de_var (pv 5)) da_nil)) (blkOk_by (N := N_words_by) (sc := defScope s_words_by) (by decide +kernel)) (by decide) (fun _ _ _ _ _ => (pg_name (i := 9) sc_words_by.nd rfl (Or.inl rfl))) (fun _ _ _ _ _ => dts_nil) (fun _ _ _ _ _ => (de_call (ok_word_of (P := P) (w := w) (base := base) T) (hr.mono (by decide)) takes0 (da_cons (de_call (ok_far_at (P := P) (w := w) (base := base) T) (hr.mono (by decide)) takes0 (da_cons (de_var (pv 0)) (da_cons (de_var (pv 1)) (da_cons (de_var (pv 9)) da_nil)))) da_nil))))
    (dss_one (ds_ret (de_call (ok_shortened (P := P) (w := w) (base := base) T) (hr.mono (by decide)) (takes_of rfl rfl rfl rfl) (da_cons (de_var (pv 8)) (da_cons (de_lc (own := [(("minute" : Str), 9)]) (c := (.nm 9)) rfl sc_words_by.nd (di_rng2 rfl T.m_range (da_cons (de_var (pv 5)) (da_cons (de_add (de_var (pv 5)) (de_var (pv 4))) da_nil))) (blkOk_by (N := N_words_by) (sc := defScope s_words_by) (by decide +kernel)) (by decide) (fun _ _ _ _ _ => (pg_name (i := 9) sc_words_by.nd rfl (Or.inl rfl))) (fun _ _ _ _ _ => dts_nil) (fun _ _ _ _ _ => (de_call (ok_word_of (P := P) (w := w) (base := base) T) (hr.mono (by decide)) takes0 (da_cons (de_call (ok_far_at (P := P) (w := w) (base := base) T) (hr.mono (by decide)) takes0 (da_cons (de_var (pv 0)) (da_cons (de_var (pv 1)) (da_cons (de_var (pv 9)) da_nil)))) da_nil)))) da_nil)))))))))))
theorem sc_alike : FnScope N_alike ["one", "other"] (defScope s_alike) := ⟨rfl, rfl, rfl, by decide +kernel, rfl, by decide +kernel, by decide +kernel⟩
theorem ok_alike (T : Top K mg) : DFn P w K mg base "alike" ["one", "other"] 7 F_alike := by
  obtain ⟨f, fd, hm, Ff, hb⟩ := T.d_alike
  exact fnP_ok (N := N_alike) (k := 6) hm Ff hb sc_alike fun cdv A outer s H E hr =>
    (dss_cons (ds_expr (de_call (ok_need_two (P := P) (w := w) (base := base) T) (hr.mono (by decide)) (takes_of rfl rfl rfl rfl) (da_cons (de_var (pv 0)) (da_cons (de_var (pv 1)) da_nil))))
    (dss_one (ds_ret (de_call (ok_are_alike (P := P) (w := w) (base := base) T) (hr.mono (by decide)) (takes_of rfl rfl rfl rfl) (da_cons (de_var (pv 0)) (da_cons (de_var (pv 1)) da_nil))))))
theorem sc__law_within_right : FnScope N__law_within_right ["up", "down", "depth"] (defScope s__law_within_right) := ⟨rfl, rfl, rfl, by decide +kernel, rfl, by decide +kernel, by decide +kernel⟩
theorem ok__law_within_right (T : Top K mg) : DFn P w K mg base "_law_within_right" ["up", "down", "depth"] 7 F_k21_law_within_right := by
  obtain ⟨f, fd, hm, Ff, hb⟩ := T.d__law_within_right
  exact fnP_ok (N := N__law_within_right) (k := 6) hm Ff hb sc__law_within_right fun cdv A outer s H E hr =>
    (dss_cons (ds_set (i := 3) sc__law_within_right.nd (de_tup (da_cons de_int (da_cons de_int (da_cons (de_tup (da_cons (de_var (pv 0)) (da_cons (de_neg (de_var (pv 1))) da_nil))) da_nil)))))
    (dss_cons (ds_set (i := 4) sc__law_within_right.nd (de_div (de_sub (de_sub (de_add (de_callB (call_maxD rfl) cd_max rfl T.m_max b_max (da_cons de_int (da_cons (de_sub (de_var (pv 2)) (de_var (pv 0))) da_nil))) (de_var (pv 0))) (de_var (pv 1))) de_int) (de_sub (de_var (pv 0)) (de_var (pv 1)))))
    (dss_cons (ds_set (i := 5) sc__law_within_right.nd (de_newL (da_cons (de_cmp (op_eqD hr.units) od_eq (de_call (ok_out_at (P := P) (w := w) (base := base) T) (hr.mono (by decide)) (takes_of rfl rfl rfl rfl) (da_cons (de_var (pv 3)) (da_cons (de_var (pv 2)) da_nil))) (de_add (de_mul de_int (de_var (pv 4))) de_int) (nomark _)) (da_cons (de_cmp (op_eqD hr.units) od_eq (de_call (ok_out_at (P := P) (w := w) (base := base) T) (hr.mono (by decide)) (takes_of rfl rfl rfl rfl) (da_cons (de_var (pv 3)) (da_cons (de_var (pv 0)) da_nil))) de_int (nomark _)) da_nil))))
    (dss_cons (ds_expr (de_append (de_var (pv 5)) (da_cons (de_cmp op_isN od_isN (de_call (ok_highest (P := P) (w := w) (base := base) T) (hr.mono (by decide)) (takes_of rfl rfl rfl rfl) (da_cons (de_var (pv 3)) da_nil)) de_non (nomark _)) da_nil)))
    (dss_cons (ds_expr (de_append (de_var (pv 5)) (da_cons (de_cmp op_isN od_isN (de_call (ok_out_at (P := P) (w := w) (base := base) T) (hr.mono (by decide)) (takes_of rfl rfl rfl rfl) (da_cons (de_tup (da_cons de_int (da_cons de_int (da_cons (de_tup (da_cons (de_var (pv 0)) (da_cons (de_neg (de_var (pv 0))) da_nil))) da_nil)))) (da_cons (de_add (de_var (pv 0)) de_int) da_nil))) de_non (nomark _)) da_nil)))
    (dss_cons (ds_expr (de_append (de_var (pv 5)) (da_cons (de_cmp (op_eqD hr.units) od_eq (de_call (ok_calendar (P := P) (w := w) (base := base) T) (hr.mono (by decide)) (takes_of rfl rfl rfl rfl) (da_cons (de_tup (da_cons de_int (da_cons de_int (da_cons (de_tup (da_cons (de_var (pv 0)) (da_cons (de_neg (de_var (pv 0))) da_nil))) da_nil)))) da_nil)) (de_tup (da_cons (de_mul (de_tup (da_cons de_int da_nil)) (de_var (pv 0))) (da_cons (de_tup (da_cons de_non da_nil)) (da_cons de_int da_nil)))) (nomark _)) da_nil)))
    (dss_one (ds_ret (de_add (de_var (pv 5)) (de_lst (da_cons (de_cmp (op_eqD hr.units) od_eq (de_call (ok_highest (P := P) (w := w) (base := base) T) (hr.mono (by decide)) (takes_of rfl rfl rfl rfl) (da_cons (de_tup (da_cons de_int (da_cons de_int (da_cons (de_tup (da_cons (de_var (pv 0)) (da_cons (de_neg (de_var (pv 0))) da_nil))) da_nil)))) da_nil)) (de_var (pv 0)) (nomark _)) da_nil)))))))))))
theorem sc_order_calendar : FnScope N_order_calendar ["one", "other"] (defScope s_order_calendar) := ⟨rfl, rfl, rfl, by decide +kernel, rfl, by decide +kernel, by decide +kernel⟩
theorem ok_order_calendar (T : Top K mg) : DFn P w K mg base "order_calendar" ["one", "other"] 8 F_order_calendar := by
  obtain ⟨f, fd, hm, Ff, hb⟩ := T.d_order_calendar
  exact fnP_ok (N := N_order_calendar) (k := 7) hm Ff hb sc_order_calendar fun cdv A outer s H E hr =>
    (dss_cons (ds_expr (de_call (ok_need_two (P := P) (w := w) (base := base) T) (hr.mono (by decide)) (takes_of rfl rfl rfl rfl) (da_cons (de_var (pv 0)) (da_cons (de_var (pv 1)) da_nil))))
    (dss_one (ds_ret (de_call (ok_words_by (P := P) (w := w) (base := base) T) (hr.mono (by decide)) (takes_of rfl rfl rfl rfl) (da_cons (de_var (pv 0)) (da_cons (de_var (pv 1)) da_nil))))))
theorem sc__law_bottom_right : FnScope N__law_bottom_right ["height"] (defScope s__law_bottom_right) := ⟨rfl, rfl, rfl, by decide +kernel, rfl, by decide +kernel, by decide +kernel⟩
theorem ok__law_bottom_right (T : Top K mg) : DFn P w K mg base "_law_bottom_right" ["height"] 8 F_k21_law_bottom_right := by
  obtain ⟨f, fd, hm, Ff, hb⟩ := T.d__law_bottom_right
  exact fnP_ok (N := N__law_bottom_right) (k := 7) hm Ff hb sc__law_bottom_right fun cdv A outer s H E hr =>
    (dss_cons (ds_set (i := 1) sc__law_bottom_right.nd (de_tup (da_cons de_int (da_cons (de_var (pv 0)) (da_cons (de_tup (da_cons (de_neg de_int) (da_cons de_int da_nil))) da_nil)))))
    (dss_cons (ds_set (i := 2) sc__law_bottom_right.nd (de_add (de_mul (de_tup (da_cons de_int da_nil)) (de_var (pv 0))) (de_mul (de_tup (da_cons de_int da_nil)) (de_callB (call_maxD rfl) cd_max rfl T.m_max b_max (da_cons de_int (da_cons (de_sub de_int (de_var (pv 0))) da_nil))))))
    (dss_cons (ds_set (i := 3) sc__law_bottom_right.nd (de_newL (da_cons (de_cmp (op_eqD hr.units) od_eq (de_call (ok_calendar (P := P) (w := w) (base := base) T) (hr.mono (by decide)) (takes_of rfl rfl rfl rfl) (da_cons (de_var (pv 1)) da_nil)) (de_tup (da_cons (de_var (pv 2)) (da_cons (de_tup (da_cons de_non da_nil)) (da_cons de_int da_nil)))) (nomark _)) (da_cons (de_cmp (op_eqD hr.units) od_eq (de_call (ok_highest (P := P) (w := w) (base := base) T) (hr.mono (by decide)) (takes_of rfl rfl rfl rfl) (da_cons (de_var (pv 1)) da_nil)) (de_callB (call_maxD rfl) cd_max rfl T.m_max b_max (da_cons de_int (da_cons (de_var (pv 0)) da_nil))) (nomark _)) da_nil))))
    (dss_cons (ds_expr (de_append (de_var (pv 3)) (da_cons (de_cmp (op_eqD hr.units) od_eq (de_call (ok_alike (P := P) (w := w) (base := base) T) (hr.mono (by decide)) (takes_of rfl rfl rfl rfl) (da_cons (de_var (pv 1)) (da_cons (de_tup (da_cons de_int (da_cons (de_var (pv 0)) (da_cons (de_tup (da_cons (de_neg de_int) (da_cons (de_neg de_int) (da_cons de_int da_nil)))) da_nil)))) da_nil))) (de_cmp op_gt od_gt (de_var (pv 0)) de_int (nomark _)) (nomark _)) da_nil)))
    (dss_one (ds_ret (de_add (de_var (pv 3)) (de_lst (da_cons (de_cmp (op_eqD hr.units) od_eq (de_call (ok_calendar (P := P) (w := w) (base := base) T) (hr.mono (by decide)) (takes_of rfl rfl rfl rfl) (da_cons (de_tup (da_cons de_int (da_cons de_int (da_cons (de_tup (da_cons (de_neg de_int) (da_cons de_int (da_cons de_int da_nil)))) da_nil)))) da_nil)) (de_tup (da_cons (de_tup (da_cons de_int (da_cons de_int (da_cons de_int da_nil)))) (da_cons (de_tup (da_cons de_int da_nil)) (da_cons de_int da_nil)))) (nomark _)) da_nil)))))))))
theorem sc__law_late_right : FnScope N__law_late_right ["start"] (defScope s__law_late_right) := ⟨rfl, rfl, rfl, by decide +kernel, rfl, by decide +kernel, by decide +kernel⟩
theorem ok__law_late_right (T : Top K mg) : DFn P w K mg base "_law_late_right" ["start"] 8 F_k21_law_late_right := by
  obtain ⟨f, fd, hm, Ff, hb⟩ := T.d__law_late_right
  exact fnP_ok (N := N__law_late_right) (k := 7) hm Ff hb sc__law_late_right fun cdv A outer s H E hr =>
    (dss_cons (ds_par (i := 1) (j := 2) rfl sc__law_late_right.nd (de_tup (da_cons de_int (da_cons de_int (da_cons (de_tup (da_cons de_int (da_cons de_int da_nil))) da_nil)))) (de_tup (da_cons (de_var (pv 0)) (da_cons de_int (da_cons (de_tup (da_cons de_int da_nil)) da_nil)))))
    (dss_cons (ds_set (i := 3) sc__law_late_right.nd (de_newL (da_cons (de_cmp (op_eqD hr.units) od_eq (de_call (ok_winner_calendar (P := P) (w := w) (base := base) T) (hr.mono (by decide)) (takes_of rfl rfl rfl rfl) (da_cons (de_tup (da_cons (de_var (pv 1)) (da_cons (de_var (pv 2)) da_nil))) da_nil)) (de_tup (da_cons (de_add (de_mul (de_tup (da_cons (de_tup (da_cons de_int da_nil)) da_nil)) (de_var (pv 0))) (de_tup (da_cons (de_tup (da_cons de_int (da_cons de_int da_nil))) da_nil))) (da_cons (de_tup (da_cons (de_tup (da_cons de_int da_nil)) da_nil)) da_nil))) (nomark _)) da_nil)))
    (dss_cons (ds_expr (de_append (de_var (pv 3)) (da_cons (de_cmp (op_eqD hr.units) od_eq (de_call (ok_leads (P := P) (w := w) (base := base) T) (hr.mono (by decide)) (takes_of rfl rfl rfl rfl) (da_cons (de_var (pv 1)) (da_cons (de_var (pv 2)) da_nil))) (de_tup (da_cons de_non (da_cons (de_var (pv 0)) da_nil))) (nomark _)) da_nil)))
    (dss_cons (ds_expr (de_append (de_var (pv 3)) (da_cons (de_cmp (op_eqD hr.units) od_eq (de_call (ok_first_later (P := P) (w := w) (base := base) T) (hr.mono (by decide)) (takes_of rfl rfl rfl rfl) (da_cons (de_var (pv 1)) (da_cons (de_var (pv 2)) da_nil))) (de_add (de_var (pv 0)) de_int) (nomark _)) da_nil)))
    (dss_cons (ds_expr (de_append (de_var (pv 3)) (da_cons (de_cmp (op_eqD hr.units) od_eq (de_call (ok_first_depth (P := P) (w := w) (base := base) T) (hr.mono (by decide)) (takes_of rfl rfl rfl rfl) (da_cons (de_tup (da_cons (de_var (pv 1)) (da_cons (de_var (pv 2)) da_nil))) (da_cons de_int da_nil))) (de_add (de_var (pv 0)) de_int) (nomark _)) da_nil)))
    (dss_cons (ds_expr (de_append (de_var (pv 3)) (da_cons (de_cmp (op_eqD hr.units) od_eq (de_call (ok_how (P := P) (w := w) (base := base) T) (hr.mono (by decide)) (takes_of rfl rfl rfl rfl) (da_cons (de_tup (da_cons (de_var (pv 1)) (da_cons (de_var (pv 2)) da_nil))) (da_cons de_int da_nil))) de_str (nomark _)) da_nil)))
    (dss_cons (ds_expr (de_append (de_var (pv 3)) (da_cons (de_cmp (op_eqD hr.units) od_eq (de_call (ok_latest_start (P := P) (w := w) (base := base) T) (hr.mono (by decide)) (takes_of rfl rfl rfl rfl) (da_cons (de_var (pv 2)) (da_cons (de_var (pv 1)) da_nil))) de_int (nomark _)) da_nil)))
    (dss_cons (ds_expr (de_append (de_var (pv 3)) (da_cons (de_cmp (op_eqD hr.units) od_eq (de_call (ok_first_later (P := P) (w := w) (base := base) T) (hr.mono (by decide)) (takes_of rfl rfl rfl rfl) (da_cons (de_var (pv 2)) (da_cons (de_var (pv 1)) da_nil))) de_int (nomark _)) da_nil)))
    (dss_cons (ds_expr (de_append (de_var (pv 3)) (da_cons (de_not (de_call (ok_never_later (P := P) (w := w) (base := base) T) (hr.mono (by decide)) (takes_of rfl rfl rfl rfl) (da_cons (de_var (pv 2)) (da_cons (de_var (pv 1)) da_nil)))) da_nil)))
    (dss_one (ds_ret (de_add (de_var (pv 3)) (de_lst (da_cons (de_cmp (op_eqD hr.units) od_eq (de_call (ok_how (P := P) (w := w) (base := base) T) (hr.mono (by decide)) (takes_of rfl rfl rfl rfl) (da_cons (de_tup (da_cons (de_var (pv 1)) (da_cons (de_var (pv 1)) da_nil))) (da_cons de_int da_nil))) de_str (nomark _)) (da_cons (de_cmp (op_eqD hr.units) od_eq (de_call (ok_parting (P := P) (w := w) (base := base) T) (hr.mono (by decide)) (takes_of rfl rfl rfl rfl) (da_cons (de_var (pv 1)) (da_cons (de_var (pv 2)) da_nil))) de_int (nomark _)) da_nil)))))))))))))))
theorem sc__law_rests_right : FnScope N__law_rests_right ["rests"] (defScope s__law_rests_right) := ⟨rfl, rfl, rfl, by decide +kernel, rfl, by decide +kernel, by decide +kernel⟩
theorem ok__law_rests_right (T : Top K mg) : DFn P w K mg base "_law_rests_right" ["rests"] 9 F_k21_law_rests_right := by
  obtain ⟨f, fd, hm, Ff, hb⟩ := T.d__law_rests_right
  exact fnP_ok (N := N__law_rests_right) (k := 8) hm Ff hb sc__law_rests_right fun cdv A outer s H E hr =>
    (dss_cons (ds_set (i := 1) sc__law_rests_right.nd (de_tup (da_cons de_int (da_cons de_int (da_cons (de_add (de_mul (de_tup (da_cons de_int da_nil)) (de_var (pv 0))) (de_tup (da_cons de_int da_nil))) da_nil)))))
    (dss_cons (ds_set (i := 2) sc__law_rests_right.nd (de_newL (da_cons (de_cmp (op_eqD hr.units) od_eq (de_call (ok_calendar (P := P) (w := w) (base := base) T) (hr.mono (by decide)) (takes_of rfl rfl rfl rfl) (da_cons (de_var (pv 1)) da_nil)) (de_tup (da_cons (de_tup da_nil) (da_cons (de_tup (da_cons (de_add (de_var (pv 0)) de_int) da_nil)) (da_cons (de_add (de_var (pv 0)) de_int) da_nil)))) (nomark _)) da_nil)))
    (dss_cons (ds_expr (de_append (de_var (pv 2)) (da_cons (de_cmp (op_eqD hr.units) od_eq (de_call (ok_out_at (P := P) (w := w) (base := base) T) (hr.mono (by decide)) (takes_of rfl rfl rfl rfl) (da_cons (de_var (pv 1)) (da_cons (de_pow de_int de_int) da_nil))) (de_mul (de_add (de_var (pv 0)) de_int) (de_pow de_int de_int)) (nomark _)) da_nil)))
    (dss_cons (ds_set (i := 3) sc__law_rests_right.nd (de_tup (da_cons de_int (da_cons de_int (da_cons (de_add (de_tup (da_cons de_int da_nil)) (de_mul (de_tup (da_cons de_int da_nil)) (de_var (pv 0)))) da_nil)))))
    (dss_cons (ds_expr (de_append (de_var (pv 2)) (da_cons (de_cmp (op_eqD hr.units) od_eq (de_call (ok_leads (P := P) (w := w) (base := base) T) (hr.mono (by decide)) (takes_of rfl rfl rfl rfl) (da_cons (de_var (pv 3)) (da_cons (de_var (pv 1)) da_nil))) (de_tup (da_cons (de_var (pv 0)) (da_cons (de_var (pv 0)) da_nil))) (nomark _)) da_nil)))
    (dss_cons (ds_set (i := 4) sc__law_rests_right.nd (de_mul (de_tup (da_cons de_str da_nil)) (de_var (pv 0))))
    (dss_one (ds_ret (de_add (de_var (pv 2)) (de_lst (da_cons (de_cmp (op_eqD hr.units) od_eq (de_call (ok_order_calendar (P := P) (w := w) (base := base) T) (hr.mono (by decide)) (takes_of rfl rfl rfl rfl) (da_cons (de_var (pv 3)) (da_cons (de_var (pv 1)) da_nil))) (de_tup (da_cons (de_tup da_nil) (da_cons (de_add (de_tup (da_cons de_str da_nil)) (de_var (pv 4))) da_nil))) (nomark _)) da_nil)))))))))))
theorem sc_law : FnScope N_law ["script"] (defScope s_law) := ⟨rfl, rfl, rfl, by decide +kernel, rfl, by decide +kernel, by decide +kernel⟩
theorem ok_law (T : Top K mg) {f : Addr} {fd : FuncData} (Ff : Fun K "law" "law" s_law f fd) : FnOk P w K mg base (L2.CX P w) 10 f fd ["script"] (spD K 1 F_law) :=
  fnP_fn (N := N_law) (k := 9) Ff sc_law fun cdv A outer s H E hr =>
    (dss_cons (ds_for (passes_of rfl) rfl (di_rng1 rfl T.m_range (da_cons (de_add de_int (de_callB (call_minD rfl) cd_min rfl T.m_min b_min (da_cons (de_callB call_len cd_len rfl T.m_len b_len (da_cons (de_var (pv 0)) da_nil)) (da_cons de_int da_nil)))) da_nil)) (dg_name (i := 1) sc_law.nd)
    (dss_cons (ds_set (i := 2) sc_law.nd (de_call (ok__law_source (P := P) (w := w) (base := base) T) (hr.mono (by decide)) (takes_of rfl rfl rfl rfl) (da_cons (de_var (pv 0)) (da_cons (de_var (pv 1)) da_nil))))
    (dss_cons (ds_set (i := 3) sc_law.nd (de_add de_int (de_call (ok__law_draw (P := P) (w := w) (base := base) T) (hr.mono (by decide)) (takes_of rfl rfl rfl rfl) (da_cons (de_var (pv 2)) (da_cons de_int da_nil)))))
    (dss_cons (ds_par (i := 4) (j := 5) rfl sc_law.nd (de_add de_int (de_call (ok__law_draw (P := P) (w := w) (base := base) T) (hr.mono (by decide)) (takes_of rfl rfl rfl rfl) (da_cons (de_var (pv 2)) (da_cons (de_sub (de_var (pv 3)) de_int) da_nil)))) (de_add de_int (de_call (ok__law_draw (P := P) (w := w) (base := base) T) (hr.mono (by decide)) (takes_of rfl rfl rfl rfl) (da_cons (de_var (pv 2)) (da_cons (de_pow de_int de_int) da_nil)))))
    (dss_cons (ds_if (dt_cmp (op_inA hr) od_in de_bl (de_call (ok__law_within_right (P := P) (w := w) (base := base) T) (hr.mono (by decide)) (takes_of rfl rfl rfl rfl) (da_cons (de_var (pv 3)) (da_cons (de_var (pv 4)) (da_cons (de_var (pv 5)) da_nil)))) (by with_unfolding_all rfl))
    (dss_one (ds_ret de_bl))
    dss_nil)
    (dss_cons (ds_if (dt_cmp (op_inA hr) od_in de_bl (de_call (ok__law_bottom_right (P := P) (w := w) (base := base) T) (hr.mono (by decide)) (takes_of rfl rfl rfl rfl) (da_cons (de_call (ok__law_draw (P := P) (w := w) (base := base) T) (hr.mono (by decide)) (takes_of rfl rfl rfl rfl) (da_cons (de_var (pv 2)) (da_cons de_int da_nil))) da_nil)) (by with_unfolding_all rfl))
    (dss_one (ds_ret de_bl))
    dss_nil)
    (dss_cons (ds_if (dt_cmp (op_inA hr) od_in de_bl (de_call (ok__law_late_right (P := P) (w := w) (base := base) T) (hr.mono (by decide)) (takes_of rfl rfl rfl rfl) (da_cons (de_add de_int (de_call (ok__law_draw (P := P) (w := w) (base := base) T) (hr.mono (by decide)) (takes_of rfl rfl rfl rfl) (da_cons (de_var (pv 2)) (da_cons de_int da_nil)))) da_nil)) (by with_unfolding_all rfl))
    (dss_one (ds_ret de_bl))
    dss_nil)
    (dss_one (ds_if (dt_cmp (op_inA hr) od_in de_bl (de_call (ok__law_rests_right (P := P) (w := w) (base := base) T) (hr.mono (by decide)) (takes_of rfl rfl rfl rfl) (da_cons (de_add de_int (de_call (ok__law_draw (P := P) (w := w) (base := base) T) (hr.mono (by decide)) (takes_of rfl rfl rfl rfl) (da_cons (de_var (pv 2)) (da_cons de_int da_nil)))) da_nil)) (by with_unfolding_all rfl))
    (dss_one (ds_ret de_bl))
    dss_nil)))))))))
    (dss_one (ds_ret (de_cmp (op_notInA hr) od_notIn de_bl (de_call (ok__law_bottom_right (P := P) (w := w) (base := base) T) (hr.mono (by decide)) (takes_of rfl rfl rfl rfl) (da_cons de_int da_nil)) (by with_unfolding_all rfl)))))
end
end DL
namespace DL
open PySem L2
theorem popR_plain {k : Nat} {d : D} {S' : Sto} (h : k < S'.length) (hC : (S'.take k).all (MO.lim k) = true) (hd : D.lim k d = true) (hu : unown k S' d = d) : popR k (.ok d S') = .ok d (S'.take k) := by
  unfold popR
  dsimp only
  rw [if_neg (by omega), hu, hC, hd]
  rfl
def trues (n : Nat) : List D := List.replicate n (.bl true)
/-- a def that gathers truths in a list of its own, and hands a new list back -/
theorem popR_trues {S : Sto} {n : Nat} {o : MO} (hC : Clean S) : popR S.length (.ok (.lst (trues n)) (S ++ [o])) = .ok (.lst (trues n)) S := by
  have ht : (S ++ [o]).take S.length = S := by simp
  rw [popR_plain (by simp) (by rw [ht]; exact hC.at _) ?_ rfl, ht]
  simp only [D.lim]
  unfold trues
  induction n with
  | zero => rfl
  | succ n ih => simp [List.replicate_succ, D.lims, D.lim, ih]
theorem app_true {i : Nat} {ρ : Rho} {S : Sto} {n : Nat} {e : Ee} (h1 : ρ[i]? = some (some (.obj S.length))) (h2 : e ρ (S ++ [.lst (trues n)]) = .ok (.bl true) (S ++ [.lst (trues n)])) (hn : n < 100) :
    sEx (eAppend (eVar i) e) ρ (S ++ [.lst (trues n)]) = .nx ρ (S ++ [.lst (trues (n + 1))]) := by
  have hv : eVar i ρ (S ++ [.lst (trues n)]) = .ok (.obj S.length) (S ++ [.lst (trues n)]) := by simp [eVar, h1]
  have hl : (trues n).length < 16777216 := by simp [trues]; omega
  have ha : trues n ++ [D.bl true] = trues (n + 1) := by simp [trues, List.replicate_succ']
  simp [eAppend, hv, h2, isLO, hl, ha]
theorem add_trues {S : Sto} {n m : Nat} (h : n + m < 1000) : gAdd (.obj S.length) (.lst (trues m)) (S ++ [.lst (trues n)]) = .ok (.lst (trues (n + m))) (S ++ [.lst (trues n)]) := by
  have hv : view (S ++ [.lst (trues n)]) (.obj S.length) = .lst (trues n) := view_at _ (by simp)
  have ha : trues n ++ trues m = trues (n + m) := by simp [trues, List.replicate_append_replicate]
  have hl : (trues n).length + (trues m).length ≤ 16777216 := by simp [trues]; omega
  simp [gAdd, hv, ha, hl]
theorem in_trues (n : Nat) (neg : Bool) (S : Sto) : gInB neg (.bl false) (.lst (trues n)) S = .ok (.bl neg) S := by
  have h1 : (trues n).all flatD = true := by simp [trues, flatD]
  have h2 : (trues n).any (fun y => eqF y (.bl false)) = false := by
    unfold trues
    rw [List.any_replicate]
    split <;> rfl
  unfold gInB
  simp only [view_lst_, show flatD (.bl false) = true from rfl, h1, h2, Bool.and_self, if_true]
  cases neg <;> rfl
theorem gEq_same {w n : Nat} {d : D} (h : plB w n d = true) (hn : n ≤ 64) (S : Sto) : gEqB false d d S = .ok (.bl true) S := by
  have := gEqB_self false h hn S
  simpa using this
section
variable {S : Sto}
theorem new1 {i : Nat} {e : Ee} {ρ : Rho} (h : ∀ S, e ρ S = .ok (.bl true) S) : sSet i (eNewL [e]) ρ S = .nx (ρ.set i (some (.obj S.length))) (S ++ [.lst (trues 1)]) := by
  simp [eNewL, eArgs, h, trues]
theorem new2 {i : Nat} {e f : Ee} {ρ : Rho} (h : ∀ S, e ρ S = .ok (.bl true) S) (h2 : ∀ S, f ρ S = .ok (.bl true) S) : sSet i (eNewL [e, f]) ρ S = .nx (ρ.set i (some (.obj S.length))) (S ++ [.lst (trues 2)]) := by
  simp [eNewL, eArgs, h, h2, trues, List.replicate]
theorem ret1 {i n : Nat} {e : Ee} {ρ : Rho} (hr : ρ[i]? = some (some (.obj S.length))) (h : ∀ S, e ρ S = .ok (.bl true) S) (hn : n < 100) : sRt (eBin gAdd (eVar i) (eLst [e])) ρ (S ++ [.lst (trues n)]) = .rt (.lst (trues (n + 1))) (S ++ [.lst (trues n)]) := by
  have hv : eVar i ρ (S ++ [.lst (trues n)]) = .ok (.obj S.length) (S ++ [.lst (trues n)]) := by simp [eVar, hr]
  have this : gAdd (D.obj S.length) (.lst [.bl true]) (S ++ [.lst (trues n)]) = .ok (.lst (trues (n + 1))) (S ++ [.lst (trues n)]) := add_trues (m := 1) (by omega)
  simp [eBin, hv, eLst, eArgs, h, this]
theorem ret2 {i n : Nat} {e f : Ee} {ρ : Rho} (hr : ρ[i]? = some (some (.obj S.length))) (h : ∀ S, e ρ S = .ok (.bl true) S) (h2 : ∀ S, f ρ S = .ok (.bl true) S) (hn : n < 100) : sRt (eBin gAdd (eVar i) (eLst [e, f])) ρ (S ++ [.lst (trues n)]) = .rt (.lst (trues (n + 2))) (S ++ [.lst (trues n)]) := by
  have hv : eVar i ρ (S ++ [.lst (trues n)]) = .ok (.obj S.length) (S ++ [.lst (trues n)]) := by simp [eVar, hr]
  have this : gAdd (D.obj S.length) (.lst [.bl true, .bl true]) (S ++ [.lst (trues n)]) = .ok (.lst (trues (n + 2))) (S ++ [.lst (trues n)]) := add_trues (m := 2) (by omega)
  simp [eBin, hv, eLst, eArgs, h, h2, this]
theorem set_to {i : Nat} {a : Ee} {ρ : Rho} {d : D} {S S' : Sto} (h : a ρ S = .ok d S') : sSet i a ρ S = .nx (ρ.set i (some d)) S' := by
  simp [h]
theorem seq_go {a b : Sm} {ρ ρ' : Rho} {S S' : Sto} (h : a ρ S = .nx ρ' S') : sSeq a b ρ S = b ρ' S' := by
  rw [sSeq_ap, h, DL.F.seq_nx]
theorem bottom_eq {x : Int} (hx : x = 0 ∨ x = 1 ∨ x = 2 ∨ x = 3) (hC : Clean S) : F_k21_law_bottom_right [.int x] S = .ok (.lst (trues 4)) S := by
  have oR : (⟨0, 0, [-3, 3, 1]⟩ : Sn).Ok := Sn.ok_of (by decide)
  have cR := fun S : Sto => calendar_eq (S := S) oR
  rw [show (⟨0, 0, [-3, 3, 1]⟩ : Sn).cal = ⟨[2, 2, 2], [3], 3⟩ by decide +kernel] at cR
  have tR := fun S : Sto => gEq_same (w := 9) (n := 2) (d := (⟨[2, 2, 2], [3], 3⟩ : Cal).d) (by decide) (by omega) S
  have oA : (⟨0, x, [-3, 2]⟩ : Sn).Ok := by rcases hx with rfl | rfl | rfl | rfl <;> exact Sn.ok_of (by decide)
  have oB : (⟨0, x, [-3, -3, 2]⟩ : Sn).Ok := by rcases hx with rfl | rfl | rfl | rfl <;> exact Sn.ok_of (by decide)
  have c1 := fun S : Sto => calendar_eq (S := S) oA
  have c2 := fun S : Sto => highest_eq (S := S) oA
  have c3 := fun S : Sto => alike_eq (S := S) oA oB
  have q1 : ∃ c : Cal, (⟨0, x, [-3, 2]⟩ : Sn).cal = c ∧ (∀ S : Sto, (eBin gAdd (eBin gMul (eTup [(eK (.int 0))]) (eVar 0)) (eBin gMul (eTup [(eK (.int 2))]) (eCall gMax [(eK (.int 0)), (eBin gSub (eK (.int 2)) (eVar 0))]))) [some (.int x), some (⟨0, x, [-3, 2]⟩ : Sn).d, none, none] S = .ok (.tup (c.early.map D.int)) S) ∧ c.again = [] ∧ c.rise = 0 ∧ plB 9 2 c.d = true := by
    rcases hx with rfl | rfl | rfl | rfl
    · exact ⟨⟨[2, 2], [], 0⟩, by decide +kernel, fun S => rfl, rfl, rfl, by decide⟩
    · exact ⟨⟨[0, 2], [], 0⟩, by decide +kernel, fun S => rfl, rfl, rfl, by decide⟩
    · exact ⟨⟨[0, 0], [], 0⟩, by decide +kernel, fun S => rfl, rfl, rfl, by decide⟩
    · exact ⟨⟨[0, 0, 0], [], 0⟩, by decide +kernel, fun S => rfl, rfl, rfl, by decide⟩
  have q2 : ∃ m : Int, (⟨0, x, [-3, 2]⟩ : Sn).top = some m ∧ (∀ (v1 v2 v3 : Option D) (S : Sto), (eCall gMax [(eK (.int 2)), (eVar 0)]) [some (.int x), v1, v2, v3] S = .ok (.int m) S) := by
    rcases hx with rfl | rfl | rfl | rfl
    · exact ⟨2, by decide +kernel, fun v1 v2 v3 S => rfl⟩
    · exact ⟨2, by decide +kernel, fun v1 v2 v3 S => rfl⟩
    · exact ⟨2, by decide +kernel, fun v1 v2 v3 S => rfl⟩
    · exact ⟨3, by decide +kernel, fun v1 v2 v3 S => rfl⟩
  have q3 : decide ((⟨0, x, [-3, 2]⟩ : Sn).cal = (⟨0, x, [-3, -3, 2]⟩ : Sn).cal) = decide (x > 1) := by
    rcases hx with rfl | rfl | rfl | rfl <;> decide +kernel
  obtain ⟨c, qc, qe, qa, qr, qp⟩ := q1
  obtain ⟨m, qm, qx⟩ := q2
  rw [qc] at c1
  rw [qm] at c2
  rw [q3] at c3
  have hd : c.d = .tup [.tup (c.early.map D.int), .tup [.non], .int 0] := by
    unfold Cal.d
    rw [qa, qr]
    rfl
  have s1 : (eTup [(eK (.int 0)), (eVar 0), (eTup [(eNeg (eK (.int 3))), (eK (.int 2))])]) [some (.int x), none, none, none] S = .ok (⟨0, x, [-3, 2]⟩ : Sn).d S := rfl
  have t1 : ∀ S : Sto, (eBin gEq (eCall F_calendar [(eVar 1)]) (eTup [(eVar 2), (eTup [(eK .non)]), (eK (.int 0))])) [some (.int x), some (⟨0, x, [-3, 2]⟩ : Sn).d, some (.tup (c.early.map D.int)), none] S = .ok (.bl true) S := fun S => by
    have := gEq_same qp (by omega) S
    have e2 : (eTup [(eVar 2), (eTup [(eK .non)]), (eK (.int 0))]) [some (.int x), some (⟨0, x, [-3, 2]⟩ : Sn).d, some (.tup (c.early.map D.int)), none] S = .ok c.d S := by rw [hd]; rfl
    have e1 : (eCall F_calendar [(eVar 1)]) [some (.int x), some (⟨0, x, [-3, 2]⟩ : Sn).d, some (.tup (c.early.map D.int)), none] S = .ok c.d S := by
      simp only [eCall_ap, eArgs_cons, eArgs_nil, eVar1, R.bind_ok]
      exact c1 S
    unfold eBin
    rw [e1]
    simp only [R.bind_ok, e2]
    exact this
  have t2 : ∀ S : Sto, (eBin gEq (eCall F_highest [(eVar 1)]) (eCall gMax [(eK (.int 2)), (eVar 0)])) [some (.int x), some (⟨0, x, [-3, 2]⟩ : Sn).d, some (.tup (c.early.map D.int)), none] S = .ok (.bl true) S := fun S => by
    have e1 : (eCall F_highest [(eVar 1)]) [some (.int x), some (⟨0, x, [-3, 2]⟩ : Sn).d, some (.tup (c.early.map D.int)), none] S = .ok (.int m) S := by
      simp only [eCall_ap, eArgs_cons, eArgs_nil, eVar1, R.bind_ok]
      exact c2 S
    unfold eBin
    rw [e1]
    simp only [R.bind_ok, qx]
    simp
  have t3 : ∀ (v2 v3 : Option D) (S : Sto), (eBin gEq (eCall F_alike [(eVar 1), (eTup [(eK (.int 0)), (eVar 0), (eTup [(eNeg (eK (.int 3))), (eNeg (eK (.int 3))), (eK (.int 2))])])]) (eBin gGt (eVar 0) (eK (.int 1)))) [some (.int x), some (⟨0, x, [-3, 2]⟩ : Sn).d, v2, v3] S = .ok (.bl true) S := fun v2 v3 S => by
    have e1 : (eCall F_alike [(eVar 1), (eTup [(eK (.int 0)), (eVar 0), (eTup [(eNeg (eK (.int 3))), (eNeg (eK (.int 3))), (eK (.int 2))])])]) [some (.int x), some (⟨0, x, [-3, 2]⟩ : Sn).d, v2, v3] S = .ok (.bl (decide (x > 1))) S := by
      exact c3 S
    unfold eBin
    rw [e1]
    simp
  have t4 : ∀ (v2 v3 : Option D) (S : Sto), (eBin gEq (eCall F_calendar [(eTup [(eK (.int 0)), (eK (.int 0)), (eTup [(eNeg (eK (.int 3))), (eK (.int 3)), (eK (.int 1))])])]) (eTup [(eTup [(eK (.int 2)), (eK (.int 2)), (eK (.int 2))]), (eTup [(eK (.int 3))]), (eK (.int 3))])) [some (.int x), some (⟨0, x, [-3, 2]⟩ : Sn).d, v2, v3] S = .ok (.bl true) S := fun v2 v3 S => by
    have e1 : (eCall F_calendar [(eTup [(eK (.int 0)), (eK (.int 0)), (eTup [(eNeg (eK (.int 3))), (eK (.int 3)), (eK (.int 1))])])]) [some (.int x), some (⟨0, x, [-3, 2]⟩ : Sn).d, v2, v3] S = .ok (⟨[2, 2, 2], [3], 3⟩ : Cal).d S := cR S
    unfold eBin
    rw [e1]
    exact tR S
  rw [F_k21_law_bottom_right, fnP_ap]
  simp only [List.map, List.replicate, List.cons_append, List.nil_append, Nat.sub]
  rw [seq_go (set_to s1)]
  simp only [List.set]
  rw [seq_go (set_to (qe S))]
  simp only [List.set]
  rw [seq_go (new2 t1 t2)]
  simp only [List.set]
  rw [seq_go (app_true rfl (t3 _ _ _) (by omega)), ret1 rfl (t4 _ _) (by omega)]
  exact popR_trues hC
/-- an equation between a call and a plain value -/
theorem eq_tru {e f : Ee} {ρ : Rho} {d : D} {w n : Nat} {S : Sto} (h1 : e ρ S = .ok d S) (h2 : f ρ S = .ok d S) (hp : plB w n d = true) (hn : n ≤ 64) : eBin gEq e f ρ S = .ok (.bl true) S := by
  unfold eBin
  rw [h1]
  simp only [R.bind_ok, h2]
  exact gEq_same hp hn S
def rest1 : Ee := (eTup [(eK (.int 0)), (eK (.int 0)), (eBin gAdd (eBin gMul (eTup [(eK (.int 0))]) (eVar 0)) (eTup [(eK (.int 1))]))])
def rest2 : Ee := (eTup [(eK (.int 0)), (eK (.int 0)), (eBin gAdd (eTup [(eK (.int 1))]) (eBin gMul (eTup [(eK (.int 0))]) (eVar 0)))])
def rest3 : Ee := (eBin gMul (eTup [(eK (.str (Str.ofString "over")))]) (eVar 0))
theorem rests_eq {x : Int} (hx : x = 1 ∨ x = 2 ∨ x = 3) (hC : Clean S) : F_k21_law_rests_right [.int x] S = .ok (.lst (trues 4)) S := by
  have q : ∃ (a b : List Int) (w : List Str), (⟨0, 0, a⟩ : Sn).Ok ∧ (⟨0, 0, b⟩ : Sn).Ok ∧ (⟨0, 0, a⟩ : Sn).cal = ⟨[], [x + 1], x + 1⟩ ∧ (⟨0, 0, b⟩ : Sn).cal = ⟨[], [1], x + 1⟩ ∧
      (∀ (v1 v2 v3 v4 : Option D) (S : Sto), rest1 [some (.int x), v1, v2, v3, v4] S = .ok (⟨0, 0, a⟩ : Sn).d S) ∧ (∀ (v1 v2 v3 v4 : Option D) (S : Sto), rest2 [some (.int x), v1, v2, v3, v4] S = .ok (⟨0, 0, b⟩ : Sn).d S) ∧
      (∀ (v1 v2 v3 v4 : Option D) (S : Sto), rest3 [some (.int x), v1, v2, v3, v4] S = .ok (.tup (w.map D.str)) S) ∧
      ldChk ⟨[], [1], x + 1⟩ ⟨[], [x + 1], x + 1⟩ (some x) (some x) = true ∧ (⟨[], [x + 1], x + 1⟩ : Cal).at 999999999999999999999999999999 = some ((x + 1) * 1000000000000000000000000000000) ∧
      (∃ B T, wordChk ⟨0, 0, b⟩ ⟨0, 0, a⟩ [] (Str.ofString "same" :: w) B T = true) ∧ plB 9 2 (.tup [.tup [], .tup ((Str.ofString "same" :: w).map D.str)]) = true ∧
      (∀ S : Sto, gAdd (.tup [.str (Str.ofString "same")]) (.tup (w.map D.str)) S = .ok (.tup ((Str.ofString "same" :: w).map D.str)) S) ∧ plB 9 2 (⟨[], [x + 1], x + 1⟩ : Cal).d = true ∧
      (∀ S : Sto, gMul (.int (x + 1)) (.int 1000000000000000000000000000000) S = .ok (.int ((x + 1) * 1000000000000000000000000000000)) S) ∧ (∀ S : Sto, gAdd (.int x) (.int 1) S = .ok (.int (x + 1)) S) ∧ plB 9 2 (.int ((x + 1) * 1000000000000000000000000000000)) = true ∧ plB 9 2 (.tup [.int x, .int x]) = true := by
    rcases hx with rfl | rfl | rfl
    · exact ⟨[0, 1], [1, 0], [Str.ofString "over"], Sn.ok_of (by decide), Sn.ok_of (by decide), by decide +kernel, by decide +kernel, fun v1 v2 v3 v4 S => rfl, fun v1 v2 v3 v4 S => rfl, fun v1 v2 v3 v4 S => rfl, by decide +kernel, by decide +kernel, ⟨4, 2, by decide +kernel⟩, by decide +kernel, fun S => rfl, by decide, fun S => rfl, fun S => rfl, by decide +kernel, by decide +kernel⟩
    · exact ⟨[0, 0, 1], [1, 0, 0], [Str.ofString "over", Str.ofString "over"], Sn.ok_of (by decide), Sn.ok_of (by decide), by decide +kernel, by decide +kernel, fun v1 v2 v3 v4 S => rfl, fun v1 v2 v3 v4 S => rfl, fun v1 v2 v3 v4 S => rfl, by decide +kernel, by decide +kernel, ⟨3, 3, by decide +kernel⟩, by decide +kernel, fun S => rfl, by decide, fun S => rfl, fun S => rfl, by decide +kernel, by decide +kernel⟩
    · exact ⟨[0, 0, 0, 1], [1, 0, 0, 0], [Str.ofString "over", Str.ofString "over", Str.ofString "over"], Sn.ok_of (by decide), Sn.ok_of (by decide), by decide +kernel, by decide +kernel, fun v1 v2 v3 v4 S => rfl, fun v1 v2 v3 v4 S => rfl, fun v1 v2 v3 v4 S => rfl, by decide +kernel, by decide +kernel, ⟨4, 4, by decide +kernel⟩, by decide +kernel, fun S => rfl, by decide, fun S => rfl, fun S => rfl, by decide +kernel, by decide +kernel⟩
  obtain ⟨a, b, w, oa, ob, ca, cb, ha, hb, hw, hl, ho, ⟨B, T, hk⟩, hp, hg, hpc, hm, hx1, hp3, hp4⟩ := q
  have t1 : ∀ (v2 v3 v4 : Option D) (S : Sto), (eBin gEq (eCall F_calendar [(eVar 1)]) (eTup [(eTup []), (eTup [(eBin gAdd (eVar 0) (eK (.int 1)))]), (eBin gAdd (eVar 0) (eK (.int 1)))])) [some (.int x), some (⟨0, 0, a⟩ : Sn).d, v2, v3, v4] S = .ok (.bl true) S := fun v2 v3 v4 S => by
    refine eq_tru (d := (⟨[], [x + 1], x + 1⟩ : Cal).d) ?_ ?_ hpc (by omega)
    · rw [← ca]
      exact calendar_eq oa
    · simp [eTup, eArgs, hx1, Cal.d, agD]
  have t2 : ∀ (v2 v3 v4 : Option D) (S : Sto), (eBin gEq (eCall F_out_at [(eVar 1), (eBin gPow (eK (.int 10)) (eK (.int 30)))]) (eBin gMul (eBin gAdd (eVar 0) (eK (.int 1))) (eBin gPow (eK (.int 10)) (eK (.int 30))))) [some (.int x), some (⟨0, 0, a⟩ : Sn).d, v2, v3, v4] S = .ok (.bl true) S := fun v2 v3 v4 S => by
    refine eq_tru (d := .int ((x + 1) * 1000000000000000000000000000000)) ?_ ?_ hp3 (by omega)
    · have := out_at_eq (S := S) oa (d := 1000000000000000000000000000000) (by omega) (by omega)
      rw [Sn.out, ca, show ((1000000000000000000000000000000 : Int) - 1).toNat = 999999999999999999999999999999 by decide, ho] at this
      simp only [eCall_ap, eArgs_cons, eArgs_nil, eVar1, R.bind_ok, eBin, eK_ap, pow30]
      exact this
    · simp only [eBin, eK_ap, pow30, R.bind_ok, eVar0, hx1, hm]
  have t3 : ∀ (v2 v4 : Option D) (S : Sto), (eBin gEq (eCall F_leads [(eVar 3), (eVar 1)]) (eTup [(eVar 0), (eVar 0)])) [some (.int x), some (⟨0, 0, a⟩ : Sn).d, v2, some (⟨0, 0, b⟩ : Sn).d, v4] S = .ok (.bl true) S := fun v2 v4 S => by
    refine eq_tru (d := .tup [.int x, .int x]) ?_ ?_ hp4 (by omega)
    · exact leads_val ob oa cb ca (some x) (some x) hl
    · rfl
  have t4 : ∀ (v2 : Option D) (S : Sto), (eBin gEq (eCall F_order_calendar [(eVar 3), (eVar 1)]) (eTup [(eTup []), (eBin gAdd (eTup [(eK (.str (Str.ofString "same")))]) (eVar 4))])) [some (.int x), some (⟨0, 0, a⟩ : Sn).d, v2, some (⟨0, 0, b⟩ : Sn).d, some (.tup (w.map D.str))] S = .ok (.bl true) S := fun v2 S => by
    refine eq_tru (d := .tup [.tup [], .tup ((Str.ofString "same" :: w).map D.str)]) ?_ ?_ hp (by omega)
    · exact order_calendar_eq ob oa (words_val ob oa B T hk S)
    · have : (eBin gAdd (eTup [(eK (.str (Str.ofString "same")))]) (eVar 4)) [some (.int x), some (⟨0, 0, a⟩ : Sn).d, v2, some (⟨0, 0, b⟩ : Sn).d, some (.tup (w.map D.str))] S = .ok (.tup ((Str.ofString "same" :: w).map D.str)) S := hg S
      simp only [eTup, eArgs_cons, eArgs_nil, R.bind_ok, this]
  unfold rest1 at ha
  unfold rest2 at hb
  unfold rest3 at hw
  rw [F_k21_law_rests_right, fnP_ap]
  simp only [List.map_cons, List.map_nil, List.replicate, List.cons_append, List.nil_append, Nat.sub]
  rw [seq_go (set_to (ha _ _ _ _ S))]
  simp only [List.set]
  rw [seq_go (new1 (t1 _ _ _))]
  simp only [List.set]
  rw [seq_go (app_true rfl (t2 _ _ _ _) (by omega)), seq_go (set_to (hb _ _ _ _ _))]
  simp only [List.set]
  rw [seq_go (app_true rfl (t3 _ _ _) (by omega)), seq_go (set_to (hw _ _ _ _ _))]
  simp only [List.set]
  rw [ret1 rfl (t4 _) (by omega)]
  exact popR_trues hC
theorem rep1 (n : Nat) (d : D) : (List.replicate n [d]).flatten = List.replicate n d := by
  induction n with
  | zero => rfl
  | succ n ih => simp [List.replicate_succ, ih]
def lateSlow : Sn := ⟨0, 0, [1, 0]⟩
def lateQuick (n : Nat) : Sn := ⟨(n : Int), 0, [1]⟩
def lateE (n : Nat) : List (List Int) := List.replicate n [0] ++ [[0, 1]]
theorem late_facts : ∀ n : Nat, n < 20 → (lateQuick (n + 1)).okB = true ∧ (lateQuick (n + 1)).cal = ⟨[], [((n + 1 : Nat) : Int) + 1], 1⟩ ∧ winChk [⟨[], [1], 2⟩, ⟨[], [((n + 1 : Nat) : Int) + 1], 1⟩] (lateE (n + 1)) [[1]] (n + 2) 1 = true
    ∧ ldChk ⟨[], [1], 2⟩ ⟨[], [((n + 1 : Nat) : Int) + 1], 1⟩ none (some ((n + 1 : Nat) : Int)) = true ∧ flChk ⟨[], [1], 2⟩ ⟨[], [((n + 1 : Nat) : Int) + 1], 1⟩ (n + 2) = true ∧ flChk ⟨[], [((n + 1 : Nat) : Int) + 1], 1⟩ ⟨[], [1], 2⟩ 0 = true
    ∧ fdI (inP 1 (lateE (n + 1) ++ [[1]])) (lateE (n + 1) ++ [[1]]).length = some (n + 1) ∧ (true ∈ inL 0 (lateE (n + 1) ++ [[1]])) ∧ (false ∈ inL 0 (lateE (n + 1) ++ [[1]]))
    ∧ (decide ((⟨[], [1], 2⟩ : Cal).at 0 ≠ (⟨[], [((n + 1 : Nat) : Int) + 1], 1⟩ : Cal).at 0) && (List.range 0).all fun m => decide ((⟨[], [1], 2⟩ : Cal).at m = (⟨[], [((n + 1 : Nat) : Int) + 1], 1⟩ : Cal).at m)) = true
    ∧ plB 25 3 (.tup [.tup ((lateE (n + 1)).map lD), .tup [lD [1]]]) = true := by decide +kernel
theorem late_ls {n : Nat} (h : n < 20) : lsO (lateQuick (n + 1)) lateSlow = some 0 := by
  have cs : lateSlow.cal = ⟨[], [1], 2⟩ := by decide +kernel
  have key : ∀ st : Nat, st < 21 → nev ((lateQuick (n + 1)).from (st : Int)).cal lateSlow.cal = decide (st = 0) := by
    intro st hst
    rcases Nat.eq_zero_or_pos st with z | z
    · subst z
      have e0 : ((lateQuick (n + 1)).from ((0 : Nat) : Int)).cal = ⟨[], [1], 1⟩ := by
        show (⟨0, 0, [1]⟩ : Sn).cal = _
        decide +kernel
      have o1 : (⟨0, 0, [1]⟩ : Sn).Ok := Sn.ok_of (by decide)
      have o2 : lateSlow.Ok := Sn.ok_of (by decide)
      have b1 := Sn.calB o1
      have b2 := Sn.calB o2
      rw [show (⟨0, 0, [1]⟩ : Sn).cal = ⟨[], [1], 1⟩ by decide +kernel] at b1
      rw [cs] at b2
      rw [e0, cs, nev_iff.mpr (nl_all b1 b2 (by decide +kernel))]
      rfl
    · obtain ⟨k, rfl⟩ : ∃ k, st = k + 1 := ⟨st - 1, by omega⟩
      have f := late_facts k (by omega)
      have e0 : ((lateQuick (n + 1)).from ((k + 1 : Nat) : Int)).cal = ⟨[], [((k + 1 : Nat) : Int) + 1], 1⟩ := f.2.1
      have : nev ((lateQuick (n + 1)).from ((k + 1 : Nat) : Int)).cal lateSlow.cal = false := by
        rw [Bool.eq_false_iff]
        intro hh
        have h0 := nev_iff.mp hh 0
        rw [e0, cs] at h0
        have h1 := f.2.2.2.2.2.1
        unfold flChk at h1
        simp only [Bool.and_eq_true] at h1
        rw [h0] at h1
        cases h1.1
      rw [this]
      rfl
  unfold lsO lsL collN
  have : (List.range' 0 21).filter (fun (st : Nat) => nev ((lateQuick (n + 1)).from (st : Int)).cal lateSlow.cal) = (List.range' 0 21).filter (fun (st : Nat) => decide (st = 0)) := by
    apply List.filter_congr
    intro x hx
    rw [List.mem_range'] at hx
    obtain ⟨i, hi, rfl⟩ := hx
    exact key _ (by omega)
  rw [this]
  decide
def lateR (x : Int) (q : Sn) (v3 : Option D) : Rho := [some (.int x), some lateSlow.d, some q.d, v3]
theorem late_eq {n : Nat} (hn : n < 20) (hC : Clean S) : F_k21_law_late_right [.int ((n + 1 : Nat) : Int)] S = .ok (.lst (trues 10)) S := by
  obtain ⟨f1, f2, f3, f4, f5, f6, f7, f8, f9, f10, f11⟩ := late_facts n hn
  have ls := late_ls hn
  have oq : (lateQuick (n + 1)).Ok := Sn.ok_of f1
  have os : lateSlow.Ok := Sn.ok_of (by decide)
  have cs : lateSlow.cal = ⟨[], [1], 2⟩ := by decide +kernel
  have hss : SsOk [lateSlow, lateQuick (n + 1)] := ⟨fun s hs => by
    simp only [List.mem_cons, List.not_mem_nil, or_false] at hs
    rcases hs with rfl | rfl
    · exact os
    · exact oq, by simp, by simp⟩
  have hs2 : SsOk [lateSlow, lateSlow] := ⟨fun s hs => by
    simp only [List.mem_cons, List.not_mem_nil, or_false, or_self] at hs
    rw [hs]
    exact os, by simp, by simp⟩
  have hcs : calsOf [lateSlow, lateQuick (n + 1)] = [⟨[], [1], 2⟩, ⟨[], [((n + 1 : Nat) : Int) + 1], 1⟩] := by simp only [calsOf, List.map_cons, List.map_nil, cs, f2]
  have hc2 : calsOf [lateSlow, lateSlow] = [⟨[], [1], 2⟩, ⟨[], [1], 2⟩] := by simp only [calsOf, List.map_cons, List.map_nil, cs]
  have w := win_of_chk hcs _ _ f3
  have wv := fun S => win_val hss hcs _ _ f3 S
  have k2 : winChk [⟨[], [1], 2⟩, ⟨[], [1], 2⟩] [] [[0, 1]] 1 1 = true := by decide +kernel
  have w2 := win_of_chk hc2 _ _ k2
  have wv2 := fun S => win_val hs2 hc2 _ _ k2 S
  generalize hx : ((n + 1 : Nat) : Int) = x at *
  have hx1 : 1 ≤ x := by omega
  have hx2 : x ≤ 20 := by omega
  generalize hq : lateQuick (n + 1) = q at *
  have hqd : q.d = .tup [.int x, .int 0, .tup [.int 1]] := by rw [← hq, ← hx]; rfl
  have hrep : (List.replicate (n + 1) ([0] : List Int)).map lD = List.replicate (n + 1) (lD [0]) := by simp
  have hE : (lateE (n + 1)).map lD = List.replicate (n + 1) (.tup [.int 0]) ++ [.tup [.int 0, .int 1]] := by
    unfold lateE
    rw [List.map_append, hrep]
    rfl
  have m1 : ∀ S : Sto, gMul (.tup [.tup [.int 0]]) (.int x) S = .ok (.tup (List.replicate (n + 1) (.tup [.int 0]))) S := fun S => by
    have : x.toNat = n + 1 := by omega
    have hr := rep1 (n + 1) (.tup [.int 0])
    rw [← this] at hr ⊢
    unfold gMul
    simp only [view_tup_, view_int_]
    rw [if_pos ⟨by omega, by omega, by simp⟩, hr]
  have sl : ∀ ρ S, (eTup [(eK (.int 0)), (eK (.int 0)), (eTup [(eK (.int 1)), (eK (.int 0))])]) ρ S = .ok lateSlow.d S := fun ρ S => rfl
  have t0 : ∀ (v3 : Option D) (S : Sto), (eBin gEq (eCall F_winner_calendar [(eTup [(eVar 1), (eVar 2)])]) (eTup [(eBin gAdd (eBin gMul (eTup [(eTup [(eK (.int 0))])]) (eVar 0)) (eTup [(eTup [(eK (.int 0)), (eK (.int 1))])])), (eTup [(eTup [(eK (.int 1))])])])) (lateR x q v3) S = .ok (.bl true) S := fun v3 S => by
    refine eq_tru (d := .tup [.tup ((lateE (n + 1)).map lD), .tup [lD [1]]]) ?_ ?_ f11 (by omega)
    · exact winner_calendar_eq hss (wv S)
    · have a1 := gAdd_tup S (xs := List.replicate (n + 1) (.tup [.int 0])) (ys := [.tup [.int 0, .int 1]]) (by simp; omega)
      rw [← hE] at a1
      have e1 : (eBin gMul (eTup [(eTup [(eK (.int 0))])]) (eVar 0)) (lateR x q v3) S = .ok (.tup (List.replicate (n + 1) (.tup [.int 0]))) S := m1 S
      have e2 : (eBin gAdd (eBin gMul (eTup [(eTup [(eK (.int 0))])]) (eVar 0)) (eTup [(eTup [(eK (.int 0)), (eK (.int 1))])])) (lateR x q v3) S = .ok (.tup ((lateE (n + 1)).map lD)) S := by
        rw [eBin, e1]
        exact a1
      simp only [eTup, eArgs_cons, eArgs_nil, R.bind_ok] at e2 ⊢
      rw [e2]
      rfl
  have t1 : ∀ (v3 : Option D) (S : Sto), (eBin gEq (eCall F_leads [(eVar 1), (eVar 2)]) (eTup [(eK .non), (eVar 0)])) (lateR x q v3) S = .ok (.bl true) S := fun v3 S =>
    eq_tru (d := .tup [.non, .int x]) (w := 5) (n := 3) (leads_val os oq cs f2 none (some x) f4) rfl (by rfl) (by omega)
  have t2 : ∀ (v3 : Option D) (S : Sto), (eBin gEq (eCall F_first_later [(eVar 1), (eVar 2)]) (eBin gAdd (eVar 0) (eK (.int 2)))) (lateR x q v3) S = .ok (.bl true) S := fun v3 S => by
    refine eq_tru (d := .int (((n + 2 : Nat) : Int) + 1)) (w := 5) (n := 3) (later_val os oq cs f2 (n + 2) f5).1 ?_ (by rfl) (by omega)
    rw [show (((n + 2 : Nat) : Int) + 1) = x + 2 by omega]
    rfl
  have t3 : ∀ (v3 : Option D) (S : Sto), (eBin gEq (eCall F_first_depth [(eTup [(eVar 1), (eVar 2)]), (eK (.int 1))]) (eBin gAdd (eVar 0) (eK (.int 1)))) (lateR x q v3) S = .ok (.bl true) S := fun v3 S => by
    have := first_depth_eq (S := S) hss w wv (i := 1) (by omega) (by simp)
    rw [f7] at this
    refine eq_tru (d := .int (((n + 1 : Nat) : Int) + 1)) (w := 5) (n := 3) this ?_ (by rfl) (by omega)
    rw [hx]
    rfl
  have t4 : ∀ (v3 : Option D) (S : Sto), (eBin gEq (eCall F_how [(eTup [(eVar 1), (eVar 2)]), (eK (.int 0))]) (eK (.str (Str.ofString "sometimes")))) (lateR x q v3) S = .ok (.bl true) S := fun v3 S => by
    have := how_eq (S := S) hss w wv (i := 0) (by omega) (by simp)
    rw [howW, if_pos f8, if_pos f9] at this
    exact eq_tru (w := 5) (n := 3) this rfl (by decide +kernel) (by omega)
  have t5 : ∀ (v3 : Option D) (S : Sto), (eBin gEq (eCall F_latest_start [(eVar 2), (eVar 1)]) (eK (.int 0))) (lateR x q v3) S = .ok (.bl true) S := fun v3 S => by
    have := latest_start_eq (S := S) oq os
    rw [ls] at this
    exact eq_tru (w := 5) (n := 3) this rfl (by rfl) (by omega)
  have t6 : ∀ (v3 : Option D) (S : Sto), (eBin gEq (eCall F_first_later [(eVar 2), (eVar 1)]) (eK (.int 1))) (lateR x q v3) S = .ok (.bl true) S := fun v3 S =>
    eq_tru (w := 5) (n := 3) (later_val oq os f2 cs 0 f6).1 rfl (by rfl) (by omega)
  have t7 : ∀ (v3 : Option D) (S : Sto), (eNot (eCall F_never_later [(eVar 2), (eVar 1)])) (lateR x q v3) S = .ok (.bl true) S := fun v3 S => by
    have e : (eCall F_never_later [(eVar 2), (eVar 1)]) (lateR x q v3) S = .ok (.bl false) S := (later_val oq os f2 cs 0 f6).2
    rw [eNot_ap, e]
    rfl
  have t8 : ∀ (v3 : Option D) (S : Sto), (eBin gEq (eCall F_how [(eTup [(eVar 1), (eVar 1)]), (eK (.int 1))]) (eK (.str (Str.ofString "always")))) (lateR x q v3) S = .ok (.bl true) S := fun v3 S => by
    have := how_eq (S := S) hs2 w2 wv2 (i := 1) (by omega) (by simp)
    rw [howW, if_pos (by decide), if_neg (by decide)] at this
    exact eq_tru (w := 5) (n := 3) this rfl (by decide +kernel) (by omega)
  have t9 : ∀ (v3 : Option D) (S : Sto), (eBin gEq (eCall F_parting [(eVar 1), (eVar 2)]) (eK (.int 1))) (lateR x q v3) S = .ok (.bl true) S := fun v3 S =>
    eq_tru (w := 5) (n := 3) (parting_val os oq cs f2 0 f10) rfl (by rfl) (by omega)
  have sp : sPar 1 2 (eTup [(eK (.int 0)), (eK (.int 0)), (eTup [(eK (.int 1)), (eK (.int 0))])]) (eTup [(eVar 0), (eK (.int 0)), (eTup [(eK (.int 1))])]) [some (.int x), none, none, none] S = .nx (lateR x q none) S := by
    unfold lateR
    rw [hqd]
    rfl
  rw [F_k21_law_late_right, fnP_ap]
  simp only [List.map_cons, List.map_nil, List.replicate, List.cons_append, List.nil_append, Nat.sub]
  rw [seq_go sp, seq_go (new1 (t0 _))]
  simp only [lateR, List.set]
  unfold lateR at t1 t2 t3 t4 t5 t6 t7 t8 t9
  rw [seq_go (app_true rfl (t1 _ _) (by omega)), seq_go (app_true rfl (t2 _ _) (by omega)), seq_go (app_true rfl (t3 _ _) (by omega)), seq_go (app_true rfl (t4 _ _) (by omega)), seq_go (app_true rfl (t5 _ _) (by omega)), seq_go (app_true rfl (t6 _ _) (by omega)), seq_go (app_true rfl (t7 _ _) (by omega)), ret2 rfl (t8 _) (t9 _) (by omega)]
  exact popR_trues hC
def wR (u d x r : Int) (s : Sn) (v5 : Option D) : Rho := [some (.int u), some (.int d), some (.int x), some s.d, some (.int r), v5]
def wRounds : Ee := (eBin gDiv (eBin gSub (eBin gSub (eBin gAdd (eCall gMax [(eK (.int 0)), (eBin gSub (eVar 2) (eVar 0))]) (eVar 0)) (eVar 1)) (eK (.int 1))) (eBin gSub (eVar 0) (eVar 1)))
theorem within_gen {u d x r : Int} {s z : Sn} {ez : List Int} (hC : Clean S) (hu : u = 2 ∨ u = 3) (os : s.Ok) (oz : z.Ok) (hs : s.d = .tup [.int 0, .int 0, .tup [.int u, .int (-d)]]) (hz : z.d = .tup [.int 0, .int 0, .tup [.int u, .int (-u)]])
    (h1 : 1 ≤ x) (h2 : x ≤ 1000000000) (hr : ∀ (v4 v5 : Option D) (S : Sto), wRounds [some (.int u), some (.int d), some (.int x), some s.d, v4, v5] S = .ok (.int r) S) (hr0 : 0 ≤ r) (hr1 : r ≤ 2000000000)
    (so : s.out x = some (2 * r + 1)) (su : s.out u = some 1) (st : s.top = none) (zo : z.out (u + 1) = none) (zt : z.top = some u) (zc : z.cal = ⟨ez, [], 0⟩)
    (hm : ∀ S : Sto, gMul (.tup [.int 1]) (.int u) S = .ok (.tup (ez.map D.int)) S) (hp : plB 5 3 (.tup [.tup (ez.map D.int), .tup [.non], .int 0]) = true) : F_k21_law_within_right [.int u, .int d, .int x] S = .ok (.lst (trues 6)) S := by
  have en : ∀ (r : Int) (v5 : Option D) (S : Sto), (eTup [(eK (.int 0)), (eK (.int 0)), (eTup [(eVar 0), (eNeg (eVar 0))])]) (wR u d x r s v5) S = .ok z.d S := fun r v5 S => by
    rw [hz]
    rcases hu with rfl | rfl <;> rfl
  have sn : (eTup [(eK (.int 0)), (eK (.int 0)), (eTup [(eVar 0), (eNeg (eVar 1))])]) [some (.int u), some (.int d), some (.int x), none, none, none] S = .ok s.d S := by
    rw [hs]
    simp [eTup, eArgs]
  have t0 : ∀ (v5 : Option D) (S : Sto), (eBin gEq (eCall F_out_at [(eVar 3), (eVar 2)]) (eBin gAdd (eBin gMul (eK (.int 2)) (eVar 4)) (eK (.int 1)))) (wR u d x r s v5) S = .ok (.bl true) S := fun v5 S => by
    have := out_at_eq (S := S) os h1 (by omega)
    rw [so] at this
    refine eq_tru (d := .int (2 * r + 1)) (w := 5) (n := 3) this ?_ (by rfl) (by omega)
    have sm : (2 : Nat).log2 + r.natAbs.log2 < 1000000 := by
      have a := Nat.log2_le_self 2
      have b := small_log (x := r) (k := 40) (by
        have : (2000000000 : Nat) < 2 ^ 40 := by decide
        omega) (by decide) (by decide)
      omega
    have : gMul (.int 2) (.int r) S = .ok (.int (2 * r)) S := by
      unfold gMul
      simp only [view_int_]
      rw [if_pos (by simpa using sm)]
    simp [wR, eBin, this]
  have t1 : ∀ (v5 : Option D) (S : Sto), (eBin gEq (eCall F_out_at [(eVar 3), (eVar 0)]) (eK (.int 1))) (wR u d x r s v5) S = .ok (.bl true) S := fun v5 S => by
    have := out_at_eq (S := S) os (d := u) (by omega) (by omega)
    rw [su] at this
    exact eq_tru (w := 5) (n := 3) this rfl (by rfl) (by omega)
  have t2 : ∀ (v5 : Option D) (S : Sto), (eBin gIsN (eCall F_highest [(eVar 3)]) (eK .non)) (wR u d x r s v5) S = .ok (.bl true) S := fun v5 S => by
    have := highest_eq (S := S) os
    rw [st] at this
    have e : (eCall F_highest [(eVar 3)]) (wR u d x r s v5) S = .ok .non S := this
    rw [eBin, e]
    rfl
  have t3 : ∀ (v5 : Option D) (S : Sto), (eBin gIsN (eCall F_out_at [(eTup [(eK (.int 0)), (eK (.int 0)), (eTup [(eVar 0), (eNeg (eVar 0))])]), (eBin gAdd (eVar 0) (eK (.int 1)))]) (eK .non)) (wR u d x r s v5) S = .ok (.bl true) S := fun v5 S => by
    have := out_at_eq (S := S) oz (d := u + 1) (by omega) (by omega)
    rw [zo] at this
    have e : (eCall F_out_at [(eTup [(eK (.int 0)), (eK (.int 0)), (eTup [(eVar 0), (eNeg (eVar 0))])]), (eBin gAdd (eVar 0) (eK (.int 1)))]) (wR u d x r s v5) S = .ok .non S := by
      have a : (eBin gAdd (eVar 0) (eK (.int 1))) (wR u d x r s v5) S = .ok (.int (u + 1)) S := by
        rcases hu with rfl | rfl <;> rfl
      simp only [eCall_ap, eArgs_cons, eArgs_nil, en, a, R.bind_ok]
      exact this
    rw [eBin, e]
    rfl
  have t4 : ∀ (v5 : Option D) (S : Sto), (eBin gEq (eCall F_calendar [(eTup [(eK (.int 0)), (eK (.int 0)), (eTup [(eVar 0), (eNeg (eVar 0))])])]) (eTup [(eBin gMul (eTup [(eK (.int 1))]) (eVar 0)), (eTup [(eK .non)]), (eK (.int 0))])) (wR u d x r s v5) S = .ok (.bl true) S := fun v5 S => by
    refine eq_tru (d := .tup [.tup (ez.map D.int), .tup [.non], .int 0]) ?_ ?_ hp (by omega)
    · have := calendar_eq (S := S) oz
      rw [zc] at this
      simp only [eCall_ap, eArgs_cons, eArgs_nil, en, R.bind_ok]
      exact this
    · have a : (eBin gMul (eTup [(eK (.int 1))]) (eVar 0)) (wR u d x r s v5) S = .ok (.tup (ez.map D.int)) S := hm S
      simp only [eTup, eArgs_cons, eArgs_nil, R.bind_ok] at a ⊢
      rw [a]
      rfl
  have t5 : ∀ (v5 : Option D) (S : Sto), (eBin gEq (eCall F_highest [(eTup [(eK (.int 0)), (eK (.int 0)), (eTup [(eVar 0), (eNeg (eVar 0))])])]) (eVar 0)) (wR u d x r s v5) S = .ok (.bl true) S := fun v5 S => by
    have := highest_eq (S := S) oz
    rw [zt] at this
    refine eq_tru (d := .int u) (w := 5) (n := 3) ?_ rfl (by rfl) (by omega)
    simp only [eCall_ap, eArgs_cons, eArgs_nil, en, R.bind_ok]
    exact this
  unfold wRounds at hr
  unfold wR at t0 t1 t2 t3 t4 t5
  rw [F_k21_law_within_right, fnP_ap]
  simp only [List.map_cons, List.map_nil, List.replicate, List.cons_append, List.nil_append, Nat.sub]
  rw [seq_go (set_to sn)]
  simp only [List.set]
  rw [seq_go (set_to (hr _ _ S))]
  simp only [List.set]
  rw [seq_go (new2 (t0 _) (t1 _))]
  simp only [List.set]
  rw [seq_go (app_true rfl (t2 _ _) (by omega)), seq_go (app_true rfl (t3 _ _) (by omega)), seq_go (app_true rfl (t4 _ _) (by omega)), ret1 rfl (t5 _) (by omega)]
  exact popR_trues hC
theorem out_at1 {e a : List Int} {r x : Int} {s : Sn} (hc : s.cal = ⟨e, a, r⟩) (ha : a.isEmpty = false) (hx : (e.length : Int) < x) : s.out x = some (rs a r ((x - 1).toNat - e.length)) := by
  unfold Sn.out Cal.at
  rw [hc, if_neg (by simp only; omega), ha]
  rfl
theorem rnd_eq {u d x r : Int} (hu : 0 < u - d) (hu3 : u - d < 10) (hr : r = ((if x - u > 0 then x - u else 0) + u - d - 1) / (u - d)) (v3 v4 v5 : Option D) (S : Sto) : wRounds [some (.int u), some (.int d), some (.int x), v3, v4, v5] S = .ok (.int r) S := by
  have hl : (u - d).natAbs.log2 < 9000 := by
    have := small_log (x := u - d) (k := 10) (by
      have : (10 : Nat) < 2 ^ 10 := by decide
      omega) (by decide) (by decide)
    omega
  have g : ∀ a : Int, gDiv (.int a) (.int (u - d)) S = .ok (.int (a / (u - d))) S := fun a => by
    unfold gDiv
    simp only [view_int_]
    rw [if_pos ⟨hu, hl⟩]
  have g1 : ∀ a b : Int, gSub (.int a) (.int b) S = .ok (.int (a - b)) S := fun a b => by simp
  have g2 : ∀ a b : Int, gAdd (.int a) (.int b) S = .ok (.int (a + b)) S := fun a b => by simp
  simp only [wRounds, eBin, eCall_ap, eArgs_cons, eArgs_nil, eVar0, eVar1, eVar2, eK_ap, R.bind_ok, gMax_int, g, g1, g2, hr]
theorem within_eq {u d x : Int} (h : (u = 2 ∧ d = 1) ∨ (u = 3 ∧ d = 1) ∨ (u = 3 ∧ d = 2)) (h1 : 1 ≤ x) (h2 : x ≤ 1000000000) (hC : Clean S) : F_k21_law_within_right [.int u, .int d, .int x] S = .ok (.lst (trues 6)) S := by
  rcases h with ⟨rfl, rfl⟩ | ⟨rfl, rfl⟩ | ⟨rfl, rfl⟩
  · refine within_gen (s := ⟨0, 0, [2, -1]⟩) (z := ⟨0, 0, [2, -2]⟩) (ez := [1, 1]) hC (by omega) (Sn.ok_of (by decide)) (Sn.ok_of (by decide)) rfl rfl h1 h2 (fun v4 v5 S => rnd_eq (by omega) (by omega) rfl _ _ _ S) (by split <;> omega) (by split <;> omega) ?_ (by decide +kernel) (by decide +kernel) (by decide +kernel) (by decide +kernel) (by decide +kernel) (fun S => rfl) (by decide)
    rcases Int.lt_or_le 1 x with z | z
    · rw [out_at1 (e := [1]) (a := [1]) (r := 2) (by decide +kernel) rfl (by simpa using z)]
      congr 1
      simp only [rs, List.length_cons, List.length_nil]
      have g : ∀ n : Nat, ([1] : List Int).getD (n % (0 + 1)) 0 = 1 := fun n => by
        rw [show n % (0 + 1) = 0 by omega]
        rfl
      rw [g]
      split <;> omega
    · obtain rfl : x = 1 := by omega
      decide +kernel
  · refine within_gen (s := ⟨0, 0, [3, -1]⟩) (z := ⟨0, 0, [3, -3]⟩) (ez := [1, 1, 1]) hC (by omega) (Sn.ok_of (by decide)) (Sn.ok_of (by decide)) rfl rfl h1 h2 (fun v4 v5 S => rnd_eq (by omega) (by omega) rfl _ _ _ S) (by split <;> omega) (by split <;> omega) ?_ (by decide +kernel) (by decide +kernel) (by decide +kernel) (by decide +kernel) (by decide +kernel) (fun S => rfl) (by decide)
    rcases Int.lt_or_le 1 x with z | z
    · rw [out_at1 (e := [1]) (a := [1, 1]) (r := 2) (by decide +kernel) rfl (by simpa using z)]
      congr 1
      simp only [rs, List.length_cons, List.length_nil]
      have g : ∀ n : Nat, ([1, 1] : List Int).getD (n % (0 + 1 + 1)) 0 = 1 := fun n => by
        rcases (show n % (0 + 1 + 1) = 0 ∨ n % (0 + 1 + 1) = 1 by omega) with e | e <;> rw [e] <;> rfl
      rw [g]
      split <;> omega
    · obtain rfl : x = 1 := by omega
      decide +kernel
  · refine within_gen (s := ⟨0, 0, [3, -2]⟩) (z := ⟨0, 0, [3, -3]⟩) (ez := [1, 1, 1]) hC (by omega) (Sn.ok_of (by decide)) (Sn.ok_of (by decide)) rfl rfl h1 h2 (fun v4 v5 S => rnd_eq (by omega) (by omega) rfl _ _ _ S) (by split <;> omega) (by split <;> omega) ?_ (by decide +kernel) (by decide +kernel) (by decide +kernel) (by decide +kernel) (by decide +kernel) (fun S => rfl) (by decide)
    rcases Int.lt_or_le 2 x with z | z
    · rw [out_at1 (e := [1, 1]) (a := [1]) (r := 2) (by decide +kernel) rfl (by simpa using z)]
      congr 1
      simp only [rs, List.length_cons, List.length_nil]
      have g : ∀ n : Nat, ([1] : List Int).getD (n % (0 + 1)) 0 = 1 := fun n => by
        rw [show n % (0 + 1) = 0 by omega]
        rfl
      rw [g]
      split <;> omega
    · rcases (show x = 1 ∨ x = 2 by omega) with rfl | rfl <;> decide +kernel
end
def cell21 : Sm := (sSeq (sSet 2 (eCall F__law_source [(eVar 0), (eVar 1)]))
    (sSeq (sSet 3 (eBin gAdd (eK (.int 2)) (eCall F__law_draw [(eVar 2), (eK (.int 2))])))
    (sSeq (sPar 4 5 (eBin gAdd (eK (.int 1)) (eCall F__law_draw [(eVar 2), (eBin gSub (eVar 3) (eK (.int 1)))])) (eBin gAdd (eK (.int 1)) (eCall F__law_draw [(eVar 2), (eBin gPow (eK (.int 10)) (eK (.int 9)))])))
    (sSeq (sIf (eTb (eBin gIn (eK (.bl false)) (eCall F_k21_law_within_right [(eVar 3), (eVar 4), (eVar 5)])))
    (sRt (eK (.bl false)))
    sNx)
    (sSeq (sIf (eTb (eBin gIn (eK (.bl false)) (eCall F_k21_law_bottom_right [(eCall F__law_draw [(eVar 2), (eK (.int 4))])])))
    (sRt (eK (.bl false)))
    sNx)
    (sSeq (sIf (eTb (eBin gIn (eK (.bl false)) (eCall F_k21_law_late_right [(eBin gAdd (eK (.int 1)) (eCall F__law_draw [(eVar 2), (eK (.int 20))]))])))
    (sRt (eK (.bl false)))
    sNx)
    (sIf (eTb (eBin gIn (eK (.bl false)) (eCall F_k21_law_rests_right [(eBin gAdd (eK (.int 1)) (eCall F__law_draw [(eVar 2), (eK (.int 3))]))])))
    (sRt (eK (.bl false)))
    sNx)))))))
/-- a call whose list holds no False -/
theorem no_false {e : Ee} {ρ : Rho} {S S' : Sto} {n : Nat} (h : e ρ S = .ok (.lst (trues n)) S') : sIf (eTb (eBin gIn (eK (.bl false)) e)) (sRt (eK (.bl false))) sNx ρ S = .nx ρ S' := by
  have := in_trues n false S'
  have : (eTb (eBin gIn (eK (.bl false)) e)) ρ S = .ok false S' := by
    simp only [eTb, eBin, eK_ap, R.bind_ok, h, gIn, this]
  rw [sIf_ap, this]
  rfl
theorem cell21_eq {ns : List Int} {k : Nat} {S : Sto} (hC : Clean S) (hk : k ≤ 63) (y2 y3 y4 y5 : Option D) :
    ∃ (z2 z3 z4 z5 : Option D) (S' : Sto), cell21 [some (.frz (ns.map D.int)), some (.int (k : Int)), y2, y3, y4, y5] S = .nx [some (.frz (ns.map D.int)), some (.int (k : Int)), z2, z3, z4, z5] S' ∧ Clean S' := by
  obtain ⟨a, b, e1, b0, b1⟩ := source_spec ns k S hk
  have hs0 := src_new (S := S) (a := a) b0 b1
  have hC1 := hC.src a b
  generalize S ++ [.lst [.int a, .int b]] = S1 at *
  generalize S.length = n at *
  obtain ⟨d2, S2, e2, l2, u2⟩ := drawn (m := 2) hs0 (by decide) (by decide)
  obtain ⟨d3, S3, e3, l3, u3⟩ := drawn (m := 2 + (d2 : Int) - 1) u2.src (by omega) (by omega)
  obtain ⟨d4, S4, e4, l4, u4⟩ := drawn (m := 1000000000) u3.src (by decide) (by decide)
  have hC4 := ((hC1.upd u2).upd u3).upd u4
  have w := within_eq (S := S4) (u := 2 + (d2 : Int)) (d := 1 + (d3 : Int)) (x := 1 + (d4 : Int)) (by omega) (by omega) (by omega) hC4
  obtain ⟨d5, S5, e5, l5, u5⟩ := drawn (m := 4) u4.src (by decide) (by decide)
  have hC5 := hC4.upd u5
  have q1 := bottom_eq (S := S5) (x := (d5 : Int)) (by omega) hC5
  obtain ⟨d6, S6, e6, l6, u6⟩ := drawn (m := 20) u5.src (by decide) (by decide)
  have hC6 := hC5.upd u6
  have q2 := late_eq (S := S6) (n := d6) (by omega) hC6
  obtain ⟨d7, S7, e7, l7, u7⟩ := drawn (m := 3) u6.src (by decide) (by decide)
  have hC7 := hC6.upd u7
  have q3 := rests_eq (S := S7) (x := 1 + (d7 : Int)) (by omega) hC7
  rw [show ((d6 + 1 : Nat) : Int) = 1 + (d6 : Int) by omega] at q2
  refine ⟨some (.obj n), some (.int (2 + (d2 : Int))), some (.int (1 + (d3 : Int))), some (.int (1 + (d4 : Int))), S7, ?_, hC7⟩
  unfold cell21
  have s1 : (eCall F__law_source [(eVar 0), (eVar 1)]) [some (.frz (ns.map D.int)), some (.int (k : Int)), y2, y3, y4, y5] S = .ok (.obj n) S1 := by
    simp only [eCall_ap, eArgs_cons, eArgs_nil, eVar0, eVar1, R.bind_ok, e1]
  have s2 : (eBin gAdd (eK (.int 2)) (eCall F__law_draw [(eVar 2), (eK (.int 2))])) [some (.frz (ns.map D.int)), some (.int (k : Int)), some (.obj n), y3, y4, y5] S1 = .ok (.int (2 + (d2 : Int))) S2 := by
    simp [eBin, e2]
  have s3 : sPar 4 5 (eBin gAdd (eK (.int 1)) (eCall F__law_draw [(eVar 2), (eBin gSub (eVar 3) (eK (.int 1)))])) (eBin gAdd (eK (.int 1)) (eCall F__law_draw [(eVar 2), (eBin gPow (eK (.int 10)) (eK (.int 9)))])) [some (.frz (ns.map D.int)), some (.int (k : Int)), some (.obj n), some (.int (2 + (d2 : Int))), y4, y5] S2 = .nx [some (.frz (ns.map D.int)), some (.int (k : Int)), some (.obj n), some (.int (2 + (d2 : Int))), some (.int (1 + (d3 : Int))), some (.int (1 + (d4 : Int)))] S4 := by
    simp [eBin, e3, pow9, e4]
  rw [seq_go (set_to s1)]
  simp only [List.set]
  rw [seq_go (set_to s2)]
  simp only [List.set]
  rw [seq_go s3]
  rw [seq_go (no_false (S' := S4) (n := 6) (by simp only [eCall_ap, eArgs_cons, eArgs_nil, eVar3, eVar4, eVar5, R.bind_ok, w]))]
  rw [seq_go (no_false (S' := S5) (n := 4) (by simp only [eCall_ap, eArgs_cons, eArgs_nil, eVar2, eK_ap, R.bind_ok, e5, q1]))]
  rw [seq_go (no_false (S' := S6) (n := 10) (by
    have : (eBin gAdd (eK (.int 1)) (eCall F__law_draw [(eVar 2), (eK (.int 20))])) [some (.frz (ns.map D.int)), some (.int (k : Int)), some (.obj n), some (.int (2 + (d2 : Int))), some (.int (1 + (d3 : Int))), some (.int (1 + (d4 : Int)))] S5 = .ok (.int (1 + (d6 : Int))) S6 := by simp [eBin, e6]
    rw [eCall_ap, eArgs_cons, this]
    simp only [eArgs_nil, R.bind_ok, q2]))]
  exact no_false (S' := S7) (n := 4) (by
    have : (eBin gAdd (eK (.int 1)) (eCall F__law_draw [(eVar 2), (eK (.int 3))])) [some (.frz (ns.map D.int)), some (.int (k : Int)), some (.obj n), some (.int (2 + (d2 : Int))), some (.int (1 + (d3 : Int))), some (.int (1 + (d4 : Int)))] S6 = .ok (.int (1 + (d7 : Int))) S7 := by simp [eBin, e7]
    rw [eCall_ap, eArgs_cons, this]
    simp only [eArgs_nil, R.bind_ok, q3])
theorem law_holds (ns : List Int) (hn : ns.length ≤ 63) : ∃ S, F_law [.frz (ns.map D.int)] [] = .ok (.bl true) S := by
  obtain ⟨m, hm, hme, hsm⟩ := cells (ns := ns) (c := 8) (by omega)
  have key := forR_inv (g := gNm 1) (b := cell21)
    (fun r lo ρ S' => ∃ (y1 y2 y3 y4 y5 : Option D), ρ = [some (.frz (ns.map D.int)), y1, y2, y3, y4, y5] ∧ Clean S' ∧ 0 ≤ lo ∧ lo + r = m)
    m 0 [some (.frz (ns.map D.int)), none, none, none, none, none] [] ⟨_, _, _, _, _, rfl, rfl, by omega, by omega⟩ (by
      rintro r lo ρ S ⟨y1, y2, y3, y4, y5, rfl, hC, h0, h1⟩
      obtain ⟨k, rfl⟩ : ∃ k : Nat, lo = (k : Int) := ⟨lo.toNat, by omega⟩
      obtain ⟨z2, z3, z4, z5, S', e, hC'⟩ := cell21_eq (ns := ns) (k := k) hC (by omega) y2 y3 y4 y5
      exact ⟨_, _, _, S', rfl, .inl e, some (.int (k : Int)), z2, z3, z4, z5, rfl, hC', by omega, by omega⟩)
  obtain ⟨ρ', S', hi, e, y1, y2, y3, y4, y5, rfl, hC, _⟩ := key
  obtain ⟨S9, h9⟩ := popR_top true S'
  have hme' : (1 + if (8 : Int) < (ns.length : Int) then (8 : Int) else (ns.length : Int)) = (m : Int) := hme
  refine ⟨S9, ?_⟩
  rw [← h9]
  simp only [cell21] at e
  simp only [F_law, fnP_ap]
  rw [sSeq_ap, sFor_rng (lo := 0) (n := m) (S1 := []) (by simp [hme', hsm])]
  simp only [List.map_cons, List.map_nil, List.cons_append, List.nil_append, List.replicate, Nat.reduceSub]
  rw [e]
  have q := bottom_eq (S := S') (x := 3) (by omega) hC
  have q2 := in_trues 4 true S'
  have : (eBin gNotIn (eK (.bl false)) (eCall F_k21_law_bottom_right [(eK (.int 3))])) [some (.frz (ns.map D.int)), y1, y2, y3, y4, y5] S' = .ok (.bl true) S' := by
    simp only [eBin, eK_ap, eCall_ap, eArgs_cons, eArgs_nil, R.bind_ok, q, gNotIn, q2]
  simp only [DL.F.seq_nx, sRt_ap, this, DL.F.ofR_ok]
  rfl
end DL
namespace DL
open PySem PySem.Spec PyProof.Rows L2
end DL
open PySem PySem.W PyProof.Rows
set_option maxHeartbeats 0 in
theorem PySem.Challenge.cw_wellsnails_k21_whole_known_mistakes_holds : PySem.Challenge.rw_wellsnails_k21_whole_known_mistakes.Holds := by
  w_on; o_law; k_head; (case hw => w_witness2)
  k_fill
  refine DL.walk_ofX (l := PySem.Challenge.rw_wellsnails_k21_whole_known_mistakes) (n := 63) (k := 10) (x := "script") (CX := fun w => L2.CX PySem.Challenge.pw_wellsnails_k21_whole_known_mistakes w) (sp := fun w => DL.spD _ 1 DL.F_law) rfl (by decide) rfl ⟨rfl, by decide, by decide⟩ (fun w h Y => PySem.W.kIn_of Y) ?F (fun _ H a ns hl _ hS => DL.law_sp DL.law_holds H a ns hl hS) (fun w H s e s' h => DL.cx_none (P := PySem.Challenge.pw_wellsnails_k21_whole_known_mistakes) (w := w) H s e s' h)
  case F =>
    intro w mg fa h KX XX G hmg0
    have hmg : mg "law" = some (.ref fa) := hmg0
    clear hmg0
    have m_abs : mg "abs" = none := by
      refine' PySem.W.mg_none_of KX G ?z
      (case z => k_is)
    have m_all : mg "all" = none := by
      refine' PySem.W.mg_none_of KX G ?z
      (case z => k_is)
    have m_bool : mg "bool" = none := by
      refine' PySem.W.mg_none_of KX G ?z
      (case z => k_is)
    have m_enumerate : mg "enumerate" = none := by
      refine' PySem.W.mg_none_of KX G ?z
      (case z => k_is)
    have m_int : mg "int" = none := by
      refine' PySem.W.mg_none_of KX G ?z
      (case z => k_is)
    have m_isinstance : mg "isinstance" = none := by
      refine' PySem.W.mg_none_of KX G ?z
      (case z => k_is)
    have m_len : mg "len" = none := by
      refine' PySem.W.mg_none_of KX G ?z
      (case z => k_is)
    have m_max : mg "max" = none := by
      refine' PySem.W.mg_none_of KX G ?z
      (case z => k_is)
    have m_min : mg "min" = none := by
      refine' PySem.W.mg_none_of KX G ?z
      (case z => k_is)
    have m_range : mg "range" = none := by
      refine' PySem.W.mg_none_of KX G ?z
      (case z => k_is)
    have m_sum : mg "sum" = none := by
      refine' PySem.W.mg_none_of KX G ?z
      (case z => k_is)
    have m_tuple : mg "tuple" = none := by
      refine' PySem.W.mg_none_of KX G ?z
      (case z => k_is)
    have m_MOST : ∃ t, mg "MOST" = some (.int (1000000000000000000000000000000) t) := by
      exact DL.loose_int XX (by decide +kernel)
    have c_InvalidIndex : DL.ExC (L2.KOf KX) mg "InvalidIndex" := by
      refine' DL.exc_mk KX G ?a ?x ?k ?b ?t
      (case a => unfold L2.KOf; k_is); (case x => unfold L2.KOf; first | k_exc | k_is); (case k => unfold L2.KOf; k_is); (case b => unfold L2.KOf; k_is); (case t => unfold L2.KOf; k_is)
    have c_InvalidNumber : DL.ExC (L2.KOf KX) mg "InvalidNumber" := by
      refine' DL.exc_mk KX G ?a ?x ?k ?b ?t
      (case a => unfold L2.KOf; k_is); (case x => unfold L2.KOf; first | k_exc | k_is); (case k => unfold L2.KOf; k_is); (case b => unfold L2.KOf; k_is); (case t => unfold L2.KOf; k_is)
    have c_InvalidSnail : DL.ExC (L2.KOf KX) mg "InvalidSnail" := by
      refine' DL.exc_mk KX G ?a ?x ?k ?b ?t
      (case a => unfold L2.KOf; k_is); (case x => unfold L2.KOf; first | k_exc | k_is); (case k => unfold L2.KOf; k_is); (case b => unfold L2.KOf; k_is); (case t => unfold L2.KOf; k_is)
    have c_InvalidSnails : DL.ExC (L2.KOf KX) mg "InvalidSnails" := by
      refine' DL.exc_mk KX G ?a ?x ?k ?b ?t
      (case a => unfold L2.KOf; k_is); (case x => unfold L2.KOf; first | k_exc | k_is); (case k => unfold L2.KOf; k_is); (case b => unfold L2.KOf; k_is); (case t => unfold L2.KOf; k_is)
    have d_is_number : ∃ f fd, mg "is_number" = some (.ref f) ∧ L2.Fun (L2.KOf KX) "is_number" "is_number" DL.s_is_number f fd ∧ L2.Binds (L2.KOf KX) fd ["value", "least", "most"] [] := by
      refine' DL.def_mk KX G ?a ?l ?c ?k (fun _ _ _ _ _ _ us hl => match us, hl with | [_, _, _], _ => rfl)
      (case a => unfold L2.KOf; k_is); (case l => unfold L2.KOf; k_is); (case c => unfold L2.KOf; k_is); (case k => unfold L2.KOf; k_is)
    have d_is_tuple : ∃ f fd, mg "is_tuple" = some (.ref f) ∧ L2.Fun (L2.KOf KX) "is_tuple" "is_tuple" DL.s_is_tuple f fd ∧ L2.Binds (L2.KOf KX) fd ["value", "least", "most"] [] := by
      refine' DL.def_mk KX G ?a ?l ?c ?k (fun _ _ _ _ _ _ us hl => match us, hl with | [_, _, _], _ => rfl)
      (case a => unfold L2.KOf; k_is); (case l => unfold L2.KOf; k_is); (case c => unfold L2.KOf; k_is); (case k => unfold L2.KOf; k_is)
    have d_stepped : ∃ f fd, mg "stepped" = some (.ref f) ∧ L2.Fun (L2.KOf KX) "stepped" "stepped" DL.s_stepped f fd ∧ L2.Binds (L2.KOf KX) fd ["height", "step"] [] := by
      refine' DL.def_mk KX G ?a ?l ?c ?k (fun _ _ _ _ _ _ us hl => match us, hl with | [_, _], _ => rfl)
      (case a => unfold L2.KOf; k_is); (case l => unfold L2.KOf; k_is); (case c => unfold L2.KOf; k_is); (case k => unfold L2.KOf; k_is)
    have d_lowest_sum : ∃ f fd, mg "lowest_sum" = some (.ref f) ∧ L2.Fun (L2.KOf KX) "lowest_sum" "lowest_sum" DL.s_lowest_sum f fd ∧ L2.Binds (L2.KOf KX) fd ["steps"] [] := by
      refine' DL.def_mk KX G ?a ?l ?c ?k (fun _ _ _ _ _ _ us hl => match us, hl with | [_], _ => rfl)
      (case a => unfold L2.KOf; k_is); (case l => unfold L2.KOf; k_is); (case c => unfold L2.KOf; k_is); (case k => unfold L2.KOf; k_is)
    have d_least_turn : ∃ f fd, mg "least_turn" = some (.ref f) ∧ L2.Fun (L2.KOf KX) "least_turn" "least_turn" DL.s_least_turn f fd ∧ L2.Binds (L2.KOf KX) fd ["items", "rise"] [] := by
      refine' DL.def_mk KX G ?a ?l ?c ?k (fun _ _ _ _ _ _ us hl => match us, hl with | [_, _], _ => rfl)
      (case a => unfold L2.KOf; k_is); (case l => unfold L2.KOf; k_is); (case c => unfold L2.KOf; k_is); (case k => unfold L2.KOf; k_is)
    have d_minute_in : ∃ f fd, mg "minute_in" = some (.ref f) ∧ L2.Fun (L2.KOf KX) "minute_in" "minute_in" DL.s_minute_in f fd ∧ L2.Binds (L2.KOf KX) fd ["told", "depth"] [] := by
      refine' DL.def_mk KX G ?a ?l ?c ?k (fun _ _ _ _ _ _ us hl => match us, hl with | [_, _], _ => rfl)
      (case a => unfold L2.KOf; k_is); (case l => unfold L2.KOf; k_is); (case c => unfold L2.KOf; k_is); (case k => unfold L2.KOf; k_is)
    have d_divisor : ∃ f fd, mg "divisor" = some (.ref f) ∧ L2.Fun (L2.KOf KX) "divisor" "divisor" DL.s_divisor f fd ∧ L2.Binds (L2.KOf KX) fd ["one", "other"] [] := by
      refine' DL.def_mk KX G ?a ?l ?c ?k (fun _ _ _ _ _ _ us hl => match us, hl with | [_, _], _ => rfl)
      (case a => unfold L2.KOf; k_is); (case l => unfold L2.KOf; k_is); (case c => unfold L2.KOf; k_is); (case k => unfold L2.KOf; k_is)
    have d_rise_in : ∃ f fd, mg "rise_in" = some (.ref f) ∧ L2.Fun (L2.KOf KX) "rise_in" "rise_in" DL.s_rise_in f fd ∧ L2.Binds (L2.KOf KX) fd ["told", "turn"] [] := by
      refine' DL.def_mk KX G ?a ?l ?c ?k (fun _ _ _ _ _ _ us hl => match us, hl with | [_, _], _ => rfl)
      (case a => unfold L2.KOf; k_is); (case l => unfold L2.KOf; k_is); (case c => unfold L2.KOf; k_is); (case k => unfold L2.KOf; k_is)
    have d_is_endless : ∃ f fd, mg "is_endless" = some (.ref f) ∧ L2.Fun (L2.KOf KX) "is_endless" "is_endless" DL.s_is_endless f fd ∧ L2.Binds (L2.KOf KX) fd ["told"] [] := by
      refine' DL.def_mk KX G ?a ?l ?c ?k (fun _ _ _ _ _ _ us hl => match us, hl with | [_], _ => rfl)
      (case a => unfold L2.KOf; k_is); (case l => unfold L2.KOf; k_is); (case c => unfold L2.KOf; k_is); (case k => unfold L2.KOf; k_is)
    have d_shortened : ∃ f fd, mg "shortened" = some (.ref f) ∧ L2.Fun (L2.KOf KX) "shortened" "shortened" DL.s_shortened f fd ∧ L2.Binds (L2.KOf KX) fd ["early", "again"] [] := by
      refine' DL.def_mk KX G ?a ?l ?c ?k (fun _ _ _ _ _ _ us hl => match us, hl with | [_, _], _ => rfl)
      (case a => unfold L2.KOf; k_is); (case l => unfold L2.KOf; k_is); (case c => unfold L2.KOf; k_is); (case k => unfold L2.KOf; k_is)
    have d_first_of : ∃ f fd, mg "first_of" = some (.ref f) ∧ L2.Fun (L2.KOf KX) "first_of" "first_of" DL.s_first_of f fd ∧ L2.Binds (L2.KOf KX) fd ["minutes"] [] := by
      refine' DL.def_mk KX G ?a ?l ?c ?k (fun _ _ _ _ _ _ us hl => match us, hl with | [_], _ => rfl)
      (case a => unfold L2.KOf; k_is); (case l => unfold L2.KOf; k_is); (case c => unfold L2.KOf; k_is); (case k => unfold L2.KOf; k_is)
    have d_is_later : ∃ f fd, mg "is_later" = some (.ref f) ∧ L2.Fun (L2.KOf KX) "is_later" "is_later" DL.s_is_later f fd ∧ L2.Binds (L2.KOf KX) fd ["minute", "other"] [] := by
      refine' DL.def_mk KX G ?a ?l ?c ?k (fun _ _ _ _ _ _ us hl => match us, hl with | [_, _], _ => rfl)
      (case a => unfold L2.KOf; k_is); (case l => unfold L2.KOf; k_is); (case c => unfold L2.KOf; k_is); (case k => unfold L2.KOf; k_is)
    have d_word_of : ∃ f fd, mg "word_of" = some (.ref f) ∧ L2.Fun (L2.KOf KX) "word_of" "word_of" DL.s_word_of f fd ∧ L2.Binds (L2.KOf KX) fd ["far"] [] := by
      refine' DL.def_mk KX G ?a ?l ?c ?k (fun _ _ _ _ _ _ us hl => match us, hl with | [_], _ => rfl)
      (case a => unfold L2.KOf; k_is); (case l => unfold L2.KOf; k_is); (case c => unfold L2.KOf; k_is); (case k => unfold L2.KOf; k_is)
    have d_started : ∃ f fd, mg "started" = some (.ref f) ∧ L2.Fun (L2.KOf KX) "started" "started" DL.s_started f fd ∧ L2.Binds (L2.KOf KX) fd ["snail", "start"] [] := by
      refine' DL.def_mk KX G ?a ?l ?c ?k (fun _ _ _ _ _ _ us hl => match us, hl with | [_, _], _ => rfl)
      (case a => unfold L2.KOf; k_is); (case l => unfold L2.KOf; k_is); (case c => unfold L2.KOf; k_is); (case k => unfold L2.KOf; k_is)
    have d__law_source : ∃ f fd, mg "_law_source" = some (.ref f) ∧ L2.Fun (L2.KOf KX) "_law_source" "_law_source" DL.s__law_source f fd ∧ L2.Binds (L2.KOf KX) fd ["script", "k"] [] := by
      refine' DL.def_mk KX G ?a ?l ?c ?k (fun _ _ _ _ _ _ us hl => match us, hl with | [_, _], _ => rfl)
      (case a => unfold L2.KOf; k_is); (case l => unfold L2.KOf; k_is); (case c => unfold L2.KOf; k_is); (case k => unfold L2.KOf; k_is)
    have d__law_draw : ∃ f fd, mg "_law_draw" = some (.ref f) ∧ L2.Fun (L2.KOf KX) "_law_draw" "_law_draw" DL.s__law_draw f fd ∧ L2.Binds (L2.KOf KX) fd ["source", "many"] [] := by
      refine' DL.def_mk KX G ?a ?l ?c ?k (fun _ _ _ _ _ _ us hl => match us, hl with | [_, _], _ => rfl)
      (case a => unfold L2.KOf; k_is); (case l => unfold L2.KOf; k_is); (case c => unfold L2.KOf; k_is); (case k => unfold L2.KOf; k_is)
    have d_is_round : ∃ f fd, mg "is_round" = some (.ref f) ∧ L2.Fun (L2.KOf KX) "is_round" "is_round" DL.s_is_round f fd ∧ L2.Binds (L2.KOf KX) fd ["value"] [] := by
      refine' DL.def_mk KX G ?a ?l ?c ?k (fun _ _ _ _ _ _ us hl => match us, hl with | [_], _ => rfl)
      (case a => unfold L2.KOf; k_is); (case l => unfold L2.KOf; k_is); (case c => unfold L2.KOf; k_is); (case k => unfold L2.KOf; k_is)
    have d_need_number : ∃ f fd, mg "need_number" = some (.ref f) ∧ L2.Fun (L2.KOf KX) "need_number" "need_number" DL.s_need_number f fd ∧ L2.Binds (L2.KOf KX) fd ["value", "least"] [] := by
      refine' DL.def_mk KX G ?a ?l ?c ?k (fun _ _ _ _ _ _ us hl => match us, hl with | [_, _], _ => rfl)
      (case a => unfold L2.KOf; k_is); (case l => unfold L2.KOf; k_is); (case c => unfold L2.KOf; k_is); (case k => unfold L2.KOf; k_is)
    have d_need_index : ∃ f fd, mg "need_index" = some (.ref f) ∧ L2.Fun (L2.KOf KX) "need_index" "need_index" DL.s_need_index f fd ∧ L2.Binds (L2.KOf KX) fd ["some", "value"] [] := by
      refine' DL.def_mk KX G ?a ?l ?c ?k (fun _ _ _ _ _ _ us hl => match us, hl with | [_, _], _ => rfl)
      (case a => unfold L2.KOf; k_is); (case l => unfold L2.KOf; k_is); (case c => unfold L2.KOf; k_is); (case k => unfold L2.KOf; k_is)
    have d_behind : ∃ f fd, mg "behind" = some (.ref f) ∧ L2.Fun (L2.KOf KX) "behind" "behind" DL.s_behind f fd ∧ L2.Binds (L2.KOf KX) fd ["height", "steps"] [] := by
      refine' DL.def_mk KX G ?a ?l ?c ?k (fun _ _ _ _ _ _ us hl => match us, hl with | [_, _], _ => rfl)
      (case a => unfold L2.KOf; k_is); (case l => unfold L2.KOf; k_is); (case c => unfold L2.KOf; k_is); (case k => unfold L2.KOf; k_is)
    have d_records_of : ∃ f fd, mg "records_of" = some (.ref f) ∧ L2.Fun (L2.KOf KX) "records_of" "records_of" DL.s_records_of f fd ∧ L2.Binds (L2.KOf KX) fd ["snail", "rounds"] [] := by
      refine' DL.def_mk KX G ?a ?l ?c ?k (fun _ _ _ _ _ _ us hl => match us, hl with | [_, _], _ => rfl)
      (case a => unfold L2.KOf; k_is); (case l => unfold L2.KOf; k_is); (case c => unfold L2.KOf; k_is); (case k => unfold L2.KOf; k_is)
    have d_common_turn : ∃ f fd, mg "common_turn" = some (.ref f) ∧ L2.Fun (L2.KOf KX) "common_turn" "common_turn" DL.s_common_turn f fd ∧ L2.Binds (L2.KOf KX) fd ["calendars"] [] := by
      refine' DL.def_mk KX G ?a ?l ?c ?k (fun _ _ _ _ _ _ us hl => match us, hl with | [_], _ => rfl)
      (case a => unfold L2.KOf; k_is); (case l => unfold L2.KOf; k_is); (case c => unfold L2.KOf; k_is); (case k => unfold L2.KOf; k_is)
    have d_blocks_until : ∃ f fd, mg "blocks_until" = some (.ref f) ∧ L2.Fun (L2.KOf KX) "blocks_until" "blocks_until" DL.s_blocks_until f fd ∧ L2.Binds (L2.KOf KX) fd ["one", "other", "first", "turn"] [] := by
      refine' DL.def_mk KX G ?a ?l ?c ?k (fun _ _ _ _ _ _ us hl => match us, hl with | [_, _, _, _], _ => rfl)
      (case a => unfold L2.KOf; k_is); (case l => unfold L2.KOf; k_is); (case c => unfold L2.KOf; k_is); (case k => unfold L2.KOf; k_is)
    have d_first_at : ∃ f fd, mg "first_at" = some (.ref f) ∧ L2.Fun (L2.KOf KX) "first_at" "first_at" DL.s_first_at f fd ∧ L2.Binds (L2.KOf KX) fd ["calendars", "depth"] [] := by
      refine' DL.def_mk KX G ?a ?l ?c ?k (fun _ _ _ _ _ _ us hl => match us, hl with | [_, _], _ => rfl)
      (case a => unfold L2.KOf; k_is); (case l => unfold L2.KOf; k_is); (case c => unfold L2.KOf; k_is); (case k => unfold L2.KOf; k_is)
    have d_is_good_snail : ∃ f fd, mg "is_good_snail" = some (.ref f) ∧ L2.Fun (L2.KOf KX) "is_good_snail" "is_good_snail" DL.s_is_good_snail f fd ∧ L2.Binds (L2.KOf KX) fd ["value"] [] := by
      refine' DL.def_mk KX G ?a ?l ?c ?k (fun _ _ _ _ _ _ us hl => match us, hl with | [_], _ => rfl)
      (case a => unfold L2.KOf; k_is); (case l => unfold L2.KOf; k_is); (case c => unfold L2.KOf; k_is); (case k => unfold L2.KOf; k_is)
    have d_is_settled : ∃ f fd, mg "is_settled" = some (.ref f) ∧ L2.Fun (L2.KOf KX) "is_settled" "is_settled" DL.s_is_settled f fd ∧ L2.Binds (L2.KOf KX) fd ["height", "steps"] [] := by
      refine' DL.def_mk KX G ?a ?l ?c ?k (fun _ _ _ _ _ _ us hl => match us, hl with | [_, _], _ => rfl)
      (case a => unfold L2.KOf; k_is); (case l => unfold L2.KOf; k_is); (case c => unfold L2.KOf; k_is); (case k => unfold L2.KOf; k_is)
    have d_gain_of : ∃ f fd, mg "gain_of" = some (.ref f) ∧ L2.Fun (L2.KOf KX) "gain_of" "gain_of" DL.s_gain_of f fd ∧ L2.Binds (L2.KOf KX) fd ["height", "steps"] [] := by
      refine' DL.def_mk KX G ?a ?l ?c ?k (fun _ _ _ _ _ _ us hl => match us, hl with | [_, _], _ => rfl)
      (case a => unfold L2.KOf; k_is); (case l => unfold L2.KOf; k_is); (case c => unfold L2.KOf; k_is); (case k => unfold L2.KOf; k_is)
    have d_settled_from : ∃ f fd, mg "settled_from" = some (.ref f) ∧ L2.Fun (L2.KOf KX) "settled_from" "settled_from" DL.s_settled_from f fd ∧ L2.Binds (L2.KOf KX) fd ["calendars"] [] := by
      refine' DL.def_mk KX G ?a ?l ?c ?k (fun _ _ _ _ _ _ us hl => match us, hl with | [_], _ => rfl)
      (case a => unfold L2.KOf; k_is); (case l => unfold L2.KOf; k_is); (case c => unfold L2.KOf; k_is); (case k => unfold L2.KOf; k_is)
    have d_are_good_snails : ∃ f fd, mg "are_good_snails" = some (.ref f) ∧ L2.Fun (L2.KOf KX) "are_good_snails" "are_good_snails" DL.s_are_good_snails f fd ∧ L2.Binds (L2.KOf KX) fd ["value"] [] := by
      refine' DL.def_mk KX G ?a ?l ?c ?k (fun _ _ _ _ _ _ us hl => match us, hl with | [_], _ => rfl)
      (case a => unfold L2.KOf; k_is); (case l => unfold L2.KOf; k_is); (case c => unfold L2.KOf; k_is); (case k => unfold L2.KOf; k_is)
    have d_need_snail : ∃ f fd, mg "need_snail" = some (.ref f) ∧ L2.Fun (L2.KOf KX) "need_snail" "need_snail" DL.s_need_snail f fd ∧ L2.Binds (L2.KOf KX) fd ["value"] [] := by
      refine' DL.def_mk KX G ?a ?l ?c ?k (fun _ _ _ _ _ _ us hl => match us, hl with | [_], _ => rfl)
      (case a => unfold L2.KOf; k_is); (case l => unfold L2.KOf; k_is); (case c => unfold L2.KOf; k_is); (case k => unfold L2.KOf; k_is)
    have d_settled : ∃ f fd, mg "settled" = some (.ref f) ∧ L2.Fun (L2.KOf KX) "settled" "settled" DL.s_settled f fd ∧ L2.Binds (L2.KOf KX) fd ["height", "steps"] [] := by
      refine' DL.def_mk KX G ?a ?l ?c ?k (fun _ _ _ _ _ _ us hl => match us, hl with | [_, _], _ => rfl)
      (case a => unfold L2.KOf; k_is); (case l => unfold L2.KOf; k_is); (case c => unfold L2.KOf; k_is); (case k => unfold L2.KOf; k_is)
    have d_winners_by : ∃ f fd, mg "winners_by" = some (.ref f) ∧ L2.Fun (L2.KOf KX) "winners_by" "winners_by" DL.s_winners_by f fd ∧ L2.Binds (L2.KOf KX) fd ["calendars"] [] := by
      refine' DL.def_mk KX G ?a ?l ?c ?k (fun _ _ _ _ _ _ us hl => match us, hl with | [_], _ => rfl)
      (case a => unfold L2.KOf; k_is); (case l => unfold L2.KOf; k_is); (case c => unfold L2.KOf; k_is); (case k => unfold L2.KOf; k_is)
    have d_later_depth : ∃ f fd, mg "later_depth" = some (.ref f) ∧ L2.Fun (L2.KOf KX) "later_depth" "later_depth" DL.s_later_depth f fd ∧ L2.Binds (L2.KOf KX) fd ["one", "other"] [] := by
      refine' DL.def_mk KX G ?a ?l ?c ?k (fun _ _ _ _ _ _ us hl => match us, hl with | [_, _], _ => rfl)
      (case a => unfold L2.KOf; k_is); (case l => unfold L2.KOf; k_is); (case c => unfold L2.KOf; k_is); (case k => unfold L2.KOf; k_is)
    have d_leads_by : ∃ f fd, mg "leads_by" = some (.ref f) ∧ L2.Fun (L2.KOf KX) "leads_by" "leads_by" DL.s_leads_by f fd ∧ L2.Binds (L2.KOf KX) fd ["one", "other"] [] := by
      refine' DL.def_mk KX G ?a ?l ?c ?k (fun _ _ _ _ _ _ us hl => match us, hl with | [_, _], _ => rfl)
      (case a => unfold L2.KOf; k_is); (case l => unfold L2.KOf; k_is); (case c => unfold L2.KOf; k_is); (case k => unfold L2.KOf; k_is)
    have d_parting_depth : ∃ f fd, mg "parting_depth" = some (.ref f) ∧ L2.Fun (L2.KOf KX) "parting_depth" "parting_depth" DL.s_parting_depth f fd ∧ L2.Binds (L2.KOf KX) fd ["one", "other"] [] := by
      refine' DL.def_mk KX G ?a ?l ?c ?k (fun _ _ _ _ _ _ us hl => match us, hl with | [_, _], _ => rfl)
      (case a => unfold L2.KOf; k_is); (case l => unfold L2.KOf; k_is); (case c => unfold L2.KOf; k_is); (case k => unfold L2.KOf; k_is)
    have d_need_snails : ∃ f fd, mg "need_snails" = some (.ref f) ∧ L2.Fun (L2.KOf KX) "need_snails" "need_snails" DL.s_need_snails f fd ∧ L2.Binds (L2.KOf KX) fd ["value"] [] := by
      refine' DL.def_mk KX G ?a ?l ?c ?k (fun _ _ _ _ _ _ us hl => match us, hl with | [_], _ => rfl)
      (case a => unfold L2.KOf; k_is); (case l => unfold L2.KOf; k_is); (case c => unfold L2.KOf; k_is); (case k => unfold L2.KOf; k_is)
    have d_height_of : ∃ f fd, mg "height_of" = some (.ref f) ∧ L2.Fun (L2.KOf KX) "height_of" "height_of" DL.s_height_of f fd ∧ L2.Binds (L2.KOf KX) fd ["snail", "minute"] [] := by
      refine' DL.def_mk KX G ?a ?l ?c ?k (fun _ _ _ _ _ _ us hl => match us, hl with | [_, _], _ => rfl)
      (case a => unfold L2.KOf; k_is); (case l => unfold L2.KOf; k_is); (case c => unfold L2.KOf; k_is); (case k => unfold L2.KOf; k_is)
    have d_calendar_of : ∃ f fd, mg "calendar_of" = some (.ref f) ∧ L2.Fun (L2.KOf KX) "calendar_of" "calendar_of" DL.s_calendar_of f fd ∧ L2.Binds (L2.KOf KX) fd ["snail"] [] := by
      refine' DL.def_mk KX G ?a ?l ?c ?k (fun _ _ _ _ _ _ us hl => match us, hl with | [_], _ => rfl)
      (case a => unfold L2.KOf; k_is); (case l => unfold L2.KOf; k_is); (case c => unfold L2.KOf; k_is); (case k => unfold L2.KOf; k_is)
    have d_need_two : ∃ f fd, mg "need_two" = some (.ref f) ∧ L2.Fun (L2.KOf KX) "need_two" "need_two" DL.s_need_two f fd ∧ L2.Binds (L2.KOf KX) fd ["one", "other"] [] := by
      refine' DL.def_mk KX G ?a ?l ?c ?k (fun _ _ _ _ _ _ us hl => match us, hl with | [_, _], _ => rfl)
      (case a => unfold L2.KOf; k_is); (case l => unfold L2.KOf; k_is); (case c => unfold L2.KOf; k_is); (case k => unfold L2.KOf; k_is)
    have d_settled_minute : ∃ f fd, mg "settled_minute" = some (.ref f) ∧ L2.Fun (L2.KOf KX) "settled_minute" "settled_minute" DL.s_settled_minute f fd ∧ L2.Binds (L2.KOf KX) fd ["snail"] [] := by
      refine' DL.def_mk KX G ?a ?l ?c ?k (fun _ _ _ _ _ _ us hl => match us, hl with | [_], _ => rfl)
      (case a => unfold L2.KOf; k_is); (case l => unfold L2.KOf; k_is); (case c => unfold L2.KOf; k_is); (case k => unfold L2.KOf; k_is)
    have d_gain_in : ∃ f fd, mg "gain_in" = some (.ref f) ∧ L2.Fun (L2.KOf KX) "gain_in" "gain_in" DL.s_gain_in f fd ∧ L2.Binds (L2.KOf KX) fd ["snail", "minutes"] [] := by
      refine' DL.def_mk KX G ?a ?l ?c ?k (fun _ _ _ _ _ _ us hl => match us, hl with | [_, _], _ => rfl)
      (case a => unfold L2.KOf; k_is); (case l => unfold L2.KOf; k_is); (case c => unfold L2.KOf; k_is); (case k => unfold L2.KOf; k_is)
    have d_top_of : ∃ f fd, mg "top_of" = some (.ref f) ∧ L2.Fun (L2.KOf KX) "top_of" "top_of" DL.s_top_of f fd ∧ L2.Binds (L2.KOf KX) fd ["snail"] [] := by
      refine' DL.def_mk KX G ?a ?l ?c ?k (fun _ _ _ _ _ _ us hl => match us, hl with | [_], _ => rfl)
      (case a => unfold L2.KOf; k_is); (case l => unfold L2.KOf; k_is); (case c => unfold L2.KOf; k_is); (case k => unfold L2.KOf; k_is)
    have d_out_at : ∃ f fd, mg "out_at" = some (.ref f) ∧ L2.Fun (L2.KOf KX) "out_at" "out_at" DL.s_out_at f fd ∧ L2.Binds (L2.KOf KX) fd ["snail", "depth"] [] := by
      refine' DL.def_mk KX G ?a ?l ?c ?k (fun _ _ _ _ _ _ us hl => match us, hl with | [_, _], _ => rfl)
      (case a => unfold L2.KOf; k_is); (case l => unfold L2.KOf; k_is); (case c => unfold L2.KOf; k_is); (case k => unfold L2.KOf; k_is)
    have d_calendar : ∃ f fd, mg "calendar" = some (.ref f) ∧ L2.Fun (L2.KOf KX) "calendar" "calendar" DL.s_calendar f fd ∧ L2.Binds (L2.KOf KX) fd ["snail"] [] := by
      refine' DL.def_mk KX G ?a ?l ?c ?k (fun _ _ _ _ _ _ us hl => match us, hl with | [_], _ => rfl)
      (case a => unfold L2.KOf; k_is); (case l => unfold L2.KOf; k_is); (case c => unfold L2.KOf; k_is); (case k => unfold L2.KOf; k_is)
    have d_all_calendars : ∃ f fd, mg "all_calendars" = some (.ref f) ∧ L2.Fun (L2.KOf KX) "all_calendars" "all_calendars" DL.s_all_calendars f fd ∧ L2.Binds (L2.KOf KX) fd ["snails"] [] := by
      refine' DL.def_mk KX G ?a ?l ?c ?k (fun _ _ _ _ _ _ us hl => match us, hl with | [_], _ => rfl)
      (case a => unfold L2.KOf; k_is); (case l => unfold L2.KOf; k_is); (case c => unfold L2.KOf; k_is); (case k => unfold L2.KOf; k_is)
    have d_leads : ∃ f fd, mg "leads" = some (.ref f) ∧ L2.Fun (L2.KOf KX) "leads" "leads" DL.s_leads f fd ∧ L2.Binds (L2.KOf KX) fd ["one", "other"] [] := by
      refine' DL.def_mk KX G ?a ?l ?c ?k (fun _ _ _ _ _ _ us hl => match us, hl with | [_, _], _ => rfl)
      (case a => unfold L2.KOf; k_is); (case l => unfold L2.KOf; k_is); (case c => unfold L2.KOf; k_is); (case k => unfold L2.KOf; k_is)
    have d_never_later : ∃ f fd, mg "never_later" = some (.ref f) ∧ L2.Fun (L2.KOf KX) "never_later" "never_later" DL.s_never_later f fd ∧ L2.Binds (L2.KOf KX) fd ["one", "other"] [] := by
      refine' DL.def_mk KX G ?a ?l ?c ?k (fun _ _ _ _ _ _ us hl => match us, hl with | [_, _], _ => rfl)
      (case a => unfold L2.KOf; k_is); (case l => unfold L2.KOf; k_is); (case c => unfold L2.KOf; k_is); (case k => unfold L2.KOf; k_is)
    have d_first_later : ∃ f fd, mg "first_later" = some (.ref f) ∧ L2.Fun (L2.KOf KX) "first_later" "first_later" DL.s_first_later f fd ∧ L2.Binds (L2.KOf KX) fd ["one", "other"] [] := by
      refine' DL.def_mk KX G ?a ?l ?c ?k (fun _ _ _ _ _ _ us hl => match us, hl with | [_, _], _ => rfl)
      (case a => unfold L2.KOf; k_is); (case l => unfold L2.KOf; k_is); (case c => unfold L2.KOf; k_is); (case k => unfold L2.KOf; k_is)
    have d_far_at : ∃ f fd, mg "far_at" = some (.ref f) ∧ L2.Fun (L2.KOf KX) "far_at" "far_at" DL.s_far_at f fd ∧ L2.Binds (L2.KOf KX) fd ["one", "other", "minute"] [] := by
      refine' DL.def_mk KX G ?a ?l ?c ?k (fun _ _ _ _ _ _ us hl => match us, hl with | [_, _, _], _ => rfl)
      (case a => unfold L2.KOf; k_is); (case l => unfold L2.KOf; k_is); (case c => unfold L2.KOf; k_is); (case k => unfold L2.KOf; k_is)
    have d_highest : ∃ f fd, mg "highest" = some (.ref f) ∧ L2.Fun (L2.KOf KX) "highest" "highest" DL.s_highest f fd ∧ L2.Binds (L2.KOf KX) fd ["snail"] [] := by
      refine' DL.def_mk KX G ?a ?l ?c ?k (fun _ _ _ _ _ _ us hl => match us, hl with | [_], _ => rfl)
      (case a => unfold L2.KOf; k_is); (case l => unfold L2.KOf; k_is); (case c => unfold L2.KOf; k_is); (case k => unfold L2.KOf; k_is)
    have d_are_alike : ∃ f fd, mg "are_alike" = some (.ref f) ∧ L2.Fun (L2.KOf KX) "are_alike" "are_alike" DL.s_are_alike f fd ∧ L2.Binds (L2.KOf KX) fd ["one", "other"] [] := by
      refine' DL.def_mk KX G ?a ?l ?c ?k (fun _ _ _ _ _ _ us hl => match us, hl with | [_, _], _ => rfl)
      (case a => unfold L2.KOf; k_is); (case l => unfold L2.KOf; k_is); (case c => unfold L2.KOf; k_is); (case k => unfold L2.KOf; k_is)
    have d_parting : ∃ f fd, mg "parting" = some (.ref f) ∧ L2.Fun (L2.KOf KX) "parting" "parting" DL.s_parting f fd ∧ L2.Binds (L2.KOf KX) fd ["one", "other"] [] := by
      refine' DL.def_mk KX G ?a ?l ?c ?k (fun _ _ _ _ _ _ us hl => match us, hl with | [_, _], _ => rfl)
      (case a => unfold L2.KOf; k_is); (case l => unfold L2.KOf; k_is); (case c => unfold L2.KOf; k_is); (case k => unfold L2.KOf; k_is)
    have d_latest_start : ∃ f fd, mg "latest_start" = some (.ref f) ∧ L2.Fun (L2.KOf KX) "latest_start" "latest_start" DL.s_latest_start f fd ∧ L2.Binds (L2.KOf KX) fd ["one", "other"] [] := by
      refine' DL.def_mk KX G ?a ?l ?c ?k (fun _ _ _ _ _ _ us hl => match us, hl with | [_, _], _ => rfl)
      (case a => unfold L2.KOf; k_is); (case l => unfold L2.KOf; k_is); (case c => unfold L2.KOf; k_is); (case k => unfold L2.KOf; k_is)
    have d_winner_calendar : ∃ f fd, mg "winner_calendar" = some (.ref f) ∧ L2.Fun (L2.KOf KX) "winner_calendar" "winner_calendar" DL.s_winner_calendar f fd ∧ L2.Binds (L2.KOf KX) fd ["snails"] [] := by
      refine' DL.def_mk KX G ?a ?l ?c ?k (fun _ _ _ _ _ _ us hl => match us, hl with | [_], _ => rfl)
      (case a => unfold L2.KOf; k_is); (case l => unfold L2.KOf; k_is); (case c => unfold L2.KOf; k_is); (case k => unfold L2.KOf; k_is)
    have d_how : ∃ f fd, mg "how" = some (.ref f) ∧ L2.Fun (L2.KOf KX) "how" "how" DL.s_how f fd ∧ L2.Binds (L2.KOf KX) fd ["snails", "index"] [] := by
      refine' DL.def_mk KX G ?a ?l ?c ?k (fun _ _ _ _ _ _ us hl => match us, hl with | [_, _], _ => rfl)
      (case a => unfold L2.KOf; k_is); (case l => unfold L2.KOf; k_is); (case c => unfold L2.KOf; k_is); (case k => unfold L2.KOf; k_is)
    have d_first_depth : ∃ f fd, mg "first_depth" = some (.ref f) ∧ L2.Fun (L2.KOf KX) "first_depth" "first_depth" DL.s_first_depth f fd ∧ L2.Binds (L2.KOf KX) fd ["snails", "index"] [] := by
      refine' DL.def_mk KX G ?a ?l ?c ?k (fun _ _ _ _ _ _ us hl => match us, hl with | [_, _], _ => rfl)
      (case a => unfold L2.KOf; k_is); (case l => unfold L2.KOf; k_is); (case c => unfold L2.KOf; k_is); (case k => unfold L2.KOf; k_is)
    have d_words_by : ∃ f fd, mg "words_by" = some (.ref f) ∧ L2.Fun (L2.KOf KX) "words_by" "words_by" DL.s_words_by f fd ∧ L2.Binds (L2.KOf KX) fd ["one", "other"] [] := by
      refine' DL.def_mk KX G ?a ?l ?c ?k (fun _ _ _ _ _ _ us hl => match us, hl with | [_, _], _ => rfl)
      (case a => unfold L2.KOf; k_is); (case l => unfold L2.KOf; k_is); (case c => unfold L2.KOf; k_is); (case k => unfold L2.KOf; k_is)
    have d_alike : ∃ f fd, mg "alike" = some (.ref f) ∧ L2.Fun (L2.KOf KX) "alike" "alike" DL.s_alike f fd ∧ L2.Binds (L2.KOf KX) fd ["one", "other"] [] := by
      refine' DL.def_mk KX G ?a ?l ?c ?k (fun _ _ _ _ _ _ us hl => match us, hl with | [_, _], _ => rfl)
      (case a => unfold L2.KOf; k_is); (case l => unfold L2.KOf; k_is); (case c => unfold L2.KOf; k_is); (case k => unfold L2.KOf; k_is)
    have d__law_within_right : ∃ f fd, mg "_law_within_right" = some (.ref f) ∧ L2.Fun (L2.KOf KX) "_law_within_right" "_law_within_right" DL.s__law_within_right f fd ∧ L2.Binds (L2.KOf KX) fd ["up", "down", "depth"] [] := by
      refine' DL.def_mk KX G ?a ?l ?c ?k (fun _ _ _ _ _ _ us hl => match us, hl with | [_, _, _], _ => rfl)
      (case a => unfold L2.KOf; k_is); (case l => unfold L2.KOf; k_is); (case c => unfold L2.KOf; k_is); (case k => unfold L2.KOf; k_is)
    have d_order_calendar : ∃ f fd, mg "order_calendar" = some (.ref f) ∧ L2.Fun (L2.KOf KX) "order_calendar" "order_calendar" DL.s_order_calendar f fd ∧ L2.Binds (L2.KOf KX) fd ["one", "other"] [] := by
      refine' DL.def_mk KX G ?a ?l ?c ?k (fun _ _ _ _ _ _ us hl => match us, hl with | [_, _], _ => rfl)
      (case a => unfold L2.KOf; k_is); (case l => unfold L2.KOf; k_is); (case c => unfold L2.KOf; k_is); (case k => unfold L2.KOf; k_is)
    have d__law_bottom_right : ∃ f fd, mg "_law_bottom_right" = some (.ref f) ∧ L2.Fun (L2.KOf KX) "_law_bottom_right" "_law_bottom_right" DL.s__law_bottom_right f fd ∧ L2.Binds (L2.KOf KX) fd ["height"] [] := by
      refine' DL.def_mk KX G ?a ?l ?c ?k (fun _ _ _ _ _ _ us hl => match us, hl with | [_], _ => rfl)
      (case a => unfold L2.KOf; k_is); (case l => unfold L2.KOf; k_is); (case c => unfold L2.KOf; k_is); (case k => unfold L2.KOf; k_is)
    have d__law_late_right : ∃ f fd, mg "_law_late_right" = some (.ref f) ∧ L2.Fun (L2.KOf KX) "_law_late_right" "_law_late_right" DL.s__law_late_right f fd ∧ L2.Binds (L2.KOf KX) fd ["start"] [] := by
      refine' DL.def_mk KX G ?a ?l ?c ?k (fun _ _ _ _ _ _ us hl => match us, hl with | [_], _ => rfl)
      (case a => unfold L2.KOf; k_is); (case l => unfold L2.KOf; k_is); (case c => unfold L2.KOf; k_is); (case k => unfold L2.KOf; k_is)
    have d__law_rests_right : ∃ f fd, mg "_law_rests_right" = some (.ref f) ∧ L2.Fun (L2.KOf KX) "_law_rests_right" "_law_rests_right" DL.s__law_rests_right f fd ∧ L2.Binds (L2.KOf KX) fd ["rests"] [] := by
      refine' DL.def_mk KX G ?a ?l ?c ?k (fun _ _ _ _ _ _ us hl => match us, hl with | [_], _ => rfl)
      (case a => unfold L2.KOf; k_is); (case l => unfold L2.KOf; k_is); (case c => unfold L2.KOf; k_is); (case k => unfold L2.KOf; k_is)
    have d_law : ∃ f fd, mg "law" = some (.ref f) ∧ L2.Fun (L2.KOf KX) "law" "law" DL.s_law f fd ∧ ∀ (s : Shared) (u : Value), BindsTo s fd ⟨[u], []⟩ [("script", u)] := by
      refine' DL.law_mk KX G ?a ?l ?c ?k (fun _ _ _ _ _ _ _ _ => .of_eq rfl)
      (case a => unfold L2.KOf; k_is); (case l => unfold L2.KOf; k_is); (case c => unfold L2.KOf; k_is); (case k => unfold L2.KOf; k_is)
    obtain ⟨f, fd, hm, Ff, hb⟩ := d_law
    cases hmg.symm.trans hm
    exact ⟨fd, hb, fun base _ _ => DL.ok_law ⟨m_MOST, m_abs, m_all, m_bool, m_enumerate, m_int, m_isinstance, m_len, m_max, m_min, m_range, m_sum, m_tuple, c_InvalidIndex, c_InvalidNumber, c_InvalidSnail, c_InvalidSnails, d_is_number, d_is_tuple, d_stepped, d_lowest_sum, d_least_turn, d_minute_in, d_divisor, d_rise_in, d_is_endless, d_shortened, d_first_of, d_is_later, d_word_of, d_started, d__law_source, d__law_draw, d_is_round, d_need_number, d_need_index, d_behind, d_records_of, d_common_turn, d_blocks_until, d_first_at, d_is_good_snail, d_is_settled, d_gain_of, d_settled_from, d_are_good_snails, d_need_snail, d_settled, d_winners_by, d_later_depth, d_leads_by, d_parting_depth, d_need_snails, d_height_of, d_calendar_of, d_need_two, d_settled_minute, d_gain_in, d_top_of, d_out_at, d_calendar, d_all_calendars, d_leads, d_never_later, d_first_later, d_far_at, d_highest, d_are_alike, d_parting, d_latest_start, d_winner_calendar, d_how, d_first_depth, d_words_by, d_alike, d__law_within_right, d_order_calendar, d__law_bottom_right, d__law_late_right, d__law_rests_right⟩ Ff⟩
