import PyProof.Rows.All
import Wide.All
import OpenK.AllK
import Wide.FinOn
import HandS.ForMost
import HandS.ForExc
import HandS.Wide
import HandS.IsInst
import HandS.TupAny
import HandS.TupMul
import HandS.Deep
import HandS.Flow
import HandS.Text
import HandS.Conv
import HandS.CallSlots
import HandS.TryOnly
import HandS.Iter
import KE.GoesMore
import HandS.Style
import HandS.RaiseMore
import HandS.Star
import HandS.ClsMeth
import HandS.Property
import HandS.SlotsOwn
import HandS.SortRule
import KE.KOpsOwn
import KE.KCallOwn
import HandS.Codes
import HandS.GenList
import HandS.GenCall
import HandS.GenYield
import HandS.FStr
import PyProof.ForAny
import HandS.Head2
import HandS.HeadHook2
import HandS.HeadEnd
import PySem.Challenge.RW_wellsnails_k22_examples_of_the_document
set_option Elab.async false
set_option linter.all false
set_option maxRecDepth 100000
set_option maxHeartbeats 4000000
namespace DL
open PySem PySem.Spec PyProof.Rows L2

/-! ### data, mutable objects, results -/
inductive D where
  | non | bl (b : Bool) | int (i : Int) | str (x : Str) | tup (xs : List D) | lst (xs : List D) | obj (n : Nat) | ref (a : Addr) | frz (xs : List D)
inductive MO where
  | lst (xs : List D) | ins (C : Addr) (fs : List (Str × D)) | dct (kvs : List (Key × D)) | dead
abbrev Sto := List MO
abbrev Rho := List (Option D)
/-- an error: the name of its class (a class of the module), its own fields -/
structure Exn where
  nm : Str
  fs : List (Str × D)
inductive R (α : Type) where
  | ok (a : α) (S : Sto) | ex (e : Exn) (S : Sto) | bad
def R.bind {α β : Type} (r : R α) (k : α → Sto → R β) : R β := match r with
  | .ok a S => k a S
  | .ex e S => .ex e S
  | .bad => .bad
@[simp] theorem R.bind_ok {α β : Type} (a : α) (S : Sto) (k : α → Sto → R β) : (R.ok a S).bind k = k a S := rfl
@[simp] theorem R.bind_ex {α β : Type} (e : Exn) (S : Sto) (k : α → Sto → R β) : (R.ex e S : R α).bind k = .ex e S := rfl
@[simp] theorem R.bind_bad {α β : Type} (k : α → Sto → R β) : (R.bad : R α).bind k = .bad := rfl
/-- a flow behind a statement -/
inductive F where
  | nx (ρ : Rho) (S : Sto) | rt (d : D) (S : Sto) | bk (ρ : Rho) (S : Sto) | ct (ρ : Rho) (S : Sto) | ex (e : Exn) (ρ : Rho) (S : Sto) | bad
abbrev Ee := Rho → Sto → R D
abbrev Et := Rho → Sto → R Bool
abbrev Ea := Rho → Sto → R (List D)
abbrev Sm := Rho → Sto → F
abbrev Fn := List D → Sto → R D

/-! ### what data are in a heap; M: where the mutable objects stand, and what is private -/
structure Mp where
  o : List Addr
  p : List Addr
def Mp.In (M : Mp) (a : Addr) : Prop := a ∈ M.o ∨ a ∈ M.p
def Mp.add (M : Mp) (a : Addr) : Mp := ⟨M.o ++ [a], M.p⟩
def Mp.hide (M : Mp) (a : Addr) : Mp := ⟨M.o, a :: M.p⟩
def KTup (K : PySem.W.Frag) (a : Addr) (xs : List V) : Prop := ∃ (o : Obj) (its : Array Value) (n : Nat), K.lookup a = some o ∧ o.cls = .type "tuple" ∧ o.data = .seq its n ∧ its.size ≤ sizeLine ∧ Vals xs its.toList
def KLst (K : PySem.W.Frag) (a : Addr) (xs : List V) : Prop := ∃ (o : Obj) (its : Array Value) (n : Nat), K.lookup a = some o ∧ o.cls = .type "list" ∧ o.dict = none ∧ o.data = .seq its n ∧ its.size ≤ sizeLine ∧ Vals xs its.toList
/-- a list that is read alone -/
def SqFM (K : PySem.W.Frag) (M : Mp) (H : Hp) (a : Addr) (xs : List V) : Prop := (¬ M.In a ∧ Rd H a (.lst xs)) ∨ KLst K a xs
def SqLM (K : PySem.W.Frag) (M : Mp) (H : Hp) (a : Addr) (xs : List V) : Prop := ¬ M.In a ∧ H a = some (.lst xs)
def SqTM (K : PySem.W.Frag) (M : Mp) (H : Hp) (a : Addr) (xs : List V) : Prop := (¬ M.In a ∧ H a = some (.tup xs)) ∨ KTup K a xs
mutual
inductive Rep (K : PySem.W.Frag) (M : Mp) (H : Hp) : V → D → Prop
  | non : Rep K M H .non .non
  | bl (b : Bool) : Rep K M H (.bl b) (.bl b)
  | int (i : Int) : Rep K M H (.int i) (.int i)
  | str (x : Str) : Rep K M H (.str x) (.str x)
  | tup {a : Addr} {xs : List V} {ds : List D} : SqTM K M H a xs → Reps K M H xs ds → Rep K M H (.ref a) (.tup ds)
  | lst {a : Addr} {xs : List V} {ds : List D} : SqLM K M H a xs → Reps K M H xs ds → Rep K M H (.ref a) (.lst ds)
  | obj {n : Nat} {a : Addr} : M.o[n]? = some a → Rep K M H (.ref a) (.obj n)
  | ref (a : Addr) : Rep K M H (.ref a) (.ref a)
  | frz {a : Addr} {xs : List V} {ds : List D} : SqFM K M H a xs → Reps K M H xs ds → Rep K M H (.ref a) (.frz ds)
inductive Reps (K : PySem.W.Frag) (M : Mp) (H : Hp) : List V → List D → Prop
  | nil : Reps K M H [] []
  | cons {v : V} {vs : List V} {d : D} {ds : List D} : Rep K M H v d → Reps K M H vs ds → Reps K M H (v :: vs) (d :: ds)
end
/-- fields of an instance -/
inductive RepF (K : PySem.W.Frag) (M : Mp) (H : Hp) : List (Str × V) → List (Str × D) → Prop
  | nil : RepF K M H [] []
  | cons {f : Str} {v : V} {vs : List (Str × V)} {d : D} {ds : List (Str × D)} : Rep K M H v d → RepF K M H vs ds → RepF K M H ((f, v) :: vs) ((f, d) :: ds)
inductive RepK (K : PySem.W.Frag) (M : Mp) (H : Hp) : List (Key × V) → List (Key × D) → Prop
  | nil : RepK K M H [] []
  | cons {f : Key} {v : V} {vs : List (Key × V)} {d : D} {ds : List (Key × D)} : Rep K M H v d → RepK K M H vs ds → RepK K M H ((f, v) :: vs) ((f, d) :: ds)
def MoAt (K : PySem.W.Frag) (M : Mp) (H : Hp) (a : Addr) : MO → Prop
  | .lst ds => ∃ xs, H a = some (.lst xs) ∧ Reps K M H xs ds
  | .ins C fs => ∃ dx vs, H a = some (.ins C dx vs) ∧ RepF K M H vs fs
  | .dct kvs => ∃ vs, H a = some (.dK vs) ∧ RepK K M H vs kvs
  | .dead => ∃ o, H a = some o
structure HS (K : PySem.W.Frag) (M : Mp) (S : Sto) (H : Hp) : Prop where
  len : M.o.length = S.length
  nd : M.o.Nodup
  pv : ∀ b ∈ M.p, b ∉ M.o ∧ ∃ o, H b = some o
  «at» : ∀ (n : Nat) (a : Addr) (mo : MO), M.o[n]? = some a → S[n]? = some mo → MoAt K M H a mo
structure RepE (K : PySem.W.Frag) (M : Mp) (H : Hp) (σ : L2.St) (ρ : Rho) : Prop where
  len : σ.length = ρ.length
  «at» : ∀ (i : Nat) (d : D), ρ[i]? = some (some d) → ∃ v, σ[i]? = some (some v) ∧ Rep K M H v d
/-- later: new mutable objects, all else as it was -/
structure Ext (M : Mp) (H : Hp) (M' : Mp) (H' : Hp) : Prop where
  more : ∃ l, M'.o = M.o ++ l ∧ ∀ a ∈ l, H a = none
  priv : M'.p = M.p
  keep : ∀ b o, b ∉ M.o → H b = some o → H' b = some o
  stay : ∀ b ∈ M.o, ∃ o, H' b = some o

section
variable {K : PySem.W.Frag} {M M' M'' : Mp} {H H' H'' : Hp} {S S' : Sto} {σ : L2.St} {ρ : Rho}
theorem HS.there (h : HS K M S H) {a : Addr} (ha : a ∈ M.o) : ∃ o, H a = some o := by
  obtain ⟨n, hn, e⟩ := List.getElem_of_mem ha
  have e1 : M.o[n]? = some a := by rw [List.getElem?_eq_getElem hn, e]
  have hs : n < S.length := h.len ▸ hn
  have q := h.at n a S[n] e1 (List.getElem?_eq_getElem hs)
  cases hm : S[n] with
  | lst ds => rw [hm] at q; obtain ⟨xs, e, _⟩ := q; exact ⟨_, e⟩
  | ins C fs => rw [hm] at q; obtain ⟨dx, vs, e, _⟩ := q; exact ⟨_, e⟩
  | dct kvs => rw [hm] at q; obtain ⟨vs, e, _⟩ := q; exact ⟨_, e⟩
  | dead => rw [hm] at q; exact q
theorem HS.freshO (h : HS K M S H) {a : Addr} (ha : H a = none) : a ∉ M.o := fun hm => by
  obtain ⟨o, e⟩ := h.there hm
  rw [ha] at e; cases e
theorem HS.fresh (h : HS K M S H) {a : Addr} (ha : H a = none) : ¬ M.In a := fun hm => by
  rcases hm with hm | hm
  · exact h.freshO ha hm
  · obtain ⟨_, o, e⟩ := h.pv a hm
    rw [ha] at e; cases e
theorem Ext.refl (h : HS K M S H) : Ext M H M H := ⟨⟨[], (List.append_nil M.o).symm, fun _ h => nomatch h⟩, rfl, fun _ _ _ e => e, fun b hb => h.there hb⟩
theorem Ext.trans (e : Ext M H M' H') (f : Ext M' H' M'' H'') : Ext M H M'' H'' := by
  obtain ⟨l, el, hl⟩ := e.more
  obtain ⟨l2, el2, hl2⟩ := f.more
  refine ⟨⟨l ++ l2, by rw [el2, el, List.append_assoc], fun a ha => ?_⟩, f.priv.trans e.priv, fun b o hb q => ?_, fun b hb => f.stay b (by rw [el]; exact List.mem_append_left _ hb)⟩
  · rcases List.mem_append.mp ha with h | h
    · exact hl a h
    · have z := hl2 a h
      cases q : H a with
      | none => rfl
      | some o =>
        by_cases hm : a ∈ M.o
        · obtain ⟨o', e'⟩ := e.stay a hm
          rw [z] at e'; cases e'
        · have := e.keep a o hm q
          rw [z] at this; cases this
  · have h1 := e.keep b o hb q
    by_cases hm : b ∈ l
    · rw [hl b hm] at q; cases q
    · refine f.keep b o (fun hx => ?_) h1
      rw [el] at hx
      rcases List.mem_append.mp hx with h | h
      · exact hb h
      · exact hm h
theorem Ext.notIn (e : Ext M H M' H') {a : Addr} {o : HO} (ha : ¬ M.In a) (h : H a = some o) : ¬ M'.In a := by
  obtain ⟨l, el, hl⟩ := e.more
  intro hx
  rcases hx with hx | hx
  · rw [el] at hx
    rcases List.mem_append.mp hx with z | z
    · exact ha (.inl z)
    · rw [hl a z] at h; cases h
  · rw [e.priv] at hx
    exact ha (.inr hx)
theorem Ext.get (e : Ext M H M' H') {n : Nat} {a : Addr} (h : M.o[n]? = some a) : M'.o[n]? = some a := by
  obtain ⟨l, el, _⟩ := e.more
  rw [el, List.getElem?_append_left (List.getElem?_eq_some_iff.mp h).1]
  exact h
theorem Ext.at (e : Ext M H M' H') {a : Addr} {o : HO} (ha : ¬ M.In a) (h : H a = some o) : H' a = some o := e.keep a o (fun z => ha (.inl z)) h
theorem SqLM.mono (e : Ext M H M' H') {a : Addr} {xs : List V} (h : SqLM K M H a xs) : SqLM K M' H' a xs := ⟨e.notIn h.1 h.2, e.at h.1 h.2⟩
theorem SqTM.mono (e : Ext M H M' H') {a : Addr} {xs : List V} (h : SqTM K M H a xs) : SqTM K M' H' a xs := by
  rcases h with ⟨hm, h⟩ | h
  · exact .inl ⟨e.notIn hm h, e.at hm h⟩
  · exact .inr h
theorem SqFM.mono (e : Ext M H M' H') {a : Addr} {xs : List V} (h : SqFM K M H a xs) : SqFM K M' H' a xs := by
  rcases h with ⟨hm, h | ⟨o, h⟩⟩ | h
  · exact .inl ⟨e.notIn hm h, .inl (e.at hm h)⟩
  · exact .inl ⟨e.notIn hm h, .inr ⟨o, e.at hm h⟩⟩
  · exact .inr h
theorem SqFM.seq {a : Addr} {xs : List V} (h : SqFM K M H a xs) : SqL K H a xs := by
  rcases h with ⟨_, h⟩ | h
  · exact .inl h
  · exact .inr h
theorem SqLM.seq {a : Addr} {xs : List V} (h : SqLM K M H a xs) : SqL K H a xs := .inl (.inl h.2)
theorem SqTM.seq {a : Addr} {xs : List V} (h : SqTM K M H a xs) : SqT K H a xs := by
  rcases h with ⟨_, h⟩ | h
  · exact .inl (.inl h)
  · exact .inr h
mutual
theorem Rep.mono (e : Ext M H M' H') : ∀ {v : V} {d : D}, Rep K M H v d → Rep K M' H' v d
  | _, _, .non => .non
  | _, _, .bl b => .bl b
  | _, _, .int i => .int i
  | _, _, .str x => .str x
  | _, _, .tup h r => .tup (h.mono e) (Reps.mono e r)
  | _, _, .lst h r => .lst (h.mono e) (Reps.mono e r)
  | _, _, .obj h => .obj (e.get h)
  | _, _, .ref a => .ref a
  | _, _, .frz h r => .frz (h.mono e) (Reps.mono e r)
theorem Reps.mono (e : Ext M H M' H') : ∀ {vs : List V} {ds : List D}, Reps K M H vs ds → Reps K M' H' vs ds
  | _, _, .nil => .nil
  | _, _, .cons r t => .cons (Rep.mono e r) (Reps.mono e t)
end
theorem RepF.mono (e : Ext M H M' H') : ∀ {vs : List (Str × V)} {ds : List (Str × D)}, RepF K M H vs ds → RepF K M' H' vs ds
  | _, _, .nil => .nil
  | _, _, .cons r t => .cons (r.mono e) (RepF.mono e t)
theorem RepK.mono (e : Ext M H M' H') : ∀ {vs : List (Key × V)} {ds : List (Key × D)}, RepK K M H vs ds → RepK K M' H' vs ds
  | _, _, .nil => .nil
  | _, _, .cons r t => .cons (r.mono e) (RepK.mono e t)
theorem RepE.mono (e : Ext M H M' H') (h : RepE K M H σ ρ) : RepE K M' H' σ ρ := ⟨h.len, fun i d q => by
  obtain ⟨v, a, b⟩ := h.at i d q
  exact ⟨v, a, b.mono e⟩⟩
theorem RepE.set {i : Nat} {v : V} {d : D} (h : RepE K M H σ ρ) (r : Rep K M H v d) : RepE K M H (σ.set i (some v)) (ρ.set i (some d)) := ⟨by rw [List.length_set, List.length_set]; exact h.len, fun j e q => by
  by_cases hj : i = j
  · subst hj
    by_cases hl : i < ρ.length
    · rw [List.getElem?_set_self hl] at q
      cases q
      exact ⟨v, List.getElem?_set_self (h.len ▸ hl), r⟩
    · rw [List.getElem?_eq_none (by rw [List.length_set]; omega)] at q; cases q
  · rw [List.getElem?_set_ne hj] at q ⊢
    exact h.at j e q⟩
theorem Reps.length : ∀ {vs : List V} {ds : List D}, Reps K M H vs ds → vs.length = ds.length
  | _, _, .nil => rfl
  | _, _, .cons _ t => by rw [List.length_cons, List.length_cons, Reps.length t]
theorem Reps.get : ∀ {vs : List V} {ds : List D} {i : Nat} {v : V}, Reps K M H vs ds → vs[i]? = some v → ∃ d, ds[i]? = some d ∧ Rep K M H v d
  | _, _, i, _, .nil, h => by simp at h
  | _, _, 0, _, .cons r t, h => by simp at h; subst h; exact ⟨_, rfl, r⟩
  | _, _, i + 1, _, .cons r t, h => by
    obtain ⟨d, a, b⟩ := Reps.get (i := i) t (by simpa using h)
    exact ⟨d, by simpa using a, b⟩
theorem Reps.get' : ∀ {vs : List V} {ds : List D} {i : Nat} {d : D}, Reps K M H vs ds → ds[i]? = some d → ∃ v, vs[i]? = some v ∧ Rep K M H v d
  | _, _, i, _, .nil, h => by simp at h
  | _, _, 0, _, .cons r t, h => by simp at h; subst h; exact ⟨_, rfl, r⟩
  | _, _, i + 1, _, .cons r t, h => by
    obtain ⟨d, a, b⟩ := Reps.get' (i := i) t (by simpa using h)
    exact ⟨d, by simpa using a, b⟩
theorem Reps.append : ∀ {vs ws : List V} {ds es : List D}, Reps K M H vs ds → Reps K M H ws es → Reps K M H (vs ++ ws) (ds ++ es)
  | _, _, _, _, .nil, s => s
  | _, _, _, _, .cons r t, s => .cons r (Reps.append t s)
theorem Reps.take : ∀ {vs : List V} {ds : List D} (n : Nat), Reps K M H vs ds → Reps K M H (vs.take n) (ds.take n)
  | _, _, 0, _ => .nil
  | _, _, _ + 1, .nil => .nil
  | _, _, n + 1, .cons r t => .cons r (Reps.take n t)
theorem Reps.drop : ∀ {vs : List V} {ds : List D} (n : Nat), Reps K M H vs ds → Reps K M H (vs.drop n) (ds.drop n)
  | _, _, 0, r => r
  | _, _, _ + 1, .nil => .nil
  | _, _, n + 1, .cons r t => Reps.drop n t
theorem Reps.rep {vs : List V} {ds : List D} (r : Reps K M H vs ds) : ∀ n : Nat, Reps K M H (List.replicate n vs).flatten (List.replicate n ds).flatten
  | 0 => .nil
  | n + 1 => by
    rw [List.replicate_succ, List.replicate_succ, List.flatten_cons, List.flatten_cons]
    exact r.append (Reps.rep r n)
theorem Reps.set {v : V} {d : D} (r : Rep K M H v d) : ∀ {vs : List V} {ds : List D} (n : Nat), Reps K M H vs ds → Reps K M H (vs.set n v) (ds.set n d)
  | _, _, _, .nil => .nil
  | _, _, 0, .cons _ t => .cons r t
  | _, _, n + 1, .cons q t => .cons q (Reps.set r n t)
theorem Reps.dropLast {vs : List V} {ds : List D} (r : Reps K M H vs ds) : Reps K M H vs.dropLast ds.dropLast := by
  rw [List.dropLast_eq_take, List.dropLast_eq_take, r.length]
  exact r.take _
theorem Reps.ints : ∀ {ns : List Int}, Reps K M H (ns.map V.int) (ns.map D.int)
  | [] => .nil
  | n :: r => .cons (.int n) Reps.ints
/-- nothing that is tracked has changed: all stands -/
theorem Ext.same (h : HS K M S H) (s : Same H H') : Ext M H M H' := ⟨⟨[], (List.append_nil M.o).symm, fun _ h => nomatch h⟩, rfl, fun b o _ e => s b o e, fun b hb => by
  obtain ⟨o, e⟩ := h.there hb
  exact ⟨o, s b o e⟩⟩
theorem MoAt.ext {a : Addr} {mo : MO} (e : Ext M H M' H') (ha : ∀ o, H a = some o → H' a = some o) (h : MoAt K M H a mo) : MoAt K M' H' a mo := by
  cases mo with
  | lst ds => obtain ⟨xs, q, r⟩ := h; exact ⟨xs, ha _ q, r.mono e⟩
  | ins C fs => obtain ⟨dx, vs, q, r⟩ := h; exact ⟨dx, vs, ha _ q, r.mono e⟩
  | dct kvs => obtain ⟨vs, q, r⟩ := h; exact ⟨vs, ha _ q, r.mono e⟩
  | dead => obtain ⟨o, q⟩ := h; exact ⟨o, ha _ q⟩
theorem HS.same (h : HS K M S H) (s : Same H H') : HS K M S H' := ⟨h.len, h.nd, fun b hb => ⟨(h.pv b hb).1, by obtain ⟨_, o, e⟩ := h.pv b hb; exact ⟨o, s b o e⟩⟩, fun n a mo h1 h2 => (h.at n a mo h1 h2).ext (Ext.same h s) (fun o e => s a o e)⟩
theorem Same.new {p : Addr} {o : HO} (h : H p = none) : Same H (upd H p o) := fun b x e => by
  rw [upd_ne (ne_of_none e h)]
  exact e
/-- a new list, a new tuple -/
theorem Rep.newL {p : Addr} {xs : List V} {ds : List D} (hs : HS K M S H) (h : H p = none) (r : Reps K M H xs ds) : Rep K M (upd H p (.lst xs)) (.ref p) (.lst ds) :=
  .lst ⟨hs.fresh h, upd_same⟩ (r.mono (Ext.same hs (Same.new h)))
theorem Rep.newT {p : Addr} {xs : List V} {ds : List D} (hs : HS K M S H) (h : H p = none) (r : Reps K M H xs ds) : Rep K M (upd H p (.tup xs)) (.ref p) (.tup ds) :=
  .tup (.inl ⟨hs.fresh h, upd_same⟩) (r.mono (Ext.same hs (Same.new h)))
/-- the object n is written -/
theorem HS.ext_write {n : Nat} {a : Addr} {o : HO} (hs : HS K M S H) (hn : M.o[n]? = some a) : Ext M H M (upd H a o) :=
  ⟨⟨[], (List.append_nil M.o).symm, fun _ h => nomatch h⟩, rfl, fun b x hb e => by
    rw [upd_ne (fun z => hb (by rw [z]; exact List.mem_of_getElem? hn))]
    exact e, fun b hb => by
    by_cases z : b = a
    · subst z; exact ⟨o, upd_same⟩
    · obtain ⟨x, e⟩ := hs.there hb
      exact ⟨x, by rw [upd_ne z]; exact e⟩⟩
theorem HS.write {n : Nat} {a : Addr} {o : HO} {mo : MO} (hs : HS K M S H) (hn : M.o[n]? = some a) (q : MoAt K M (upd H a o) a mo) : HS K M (S.set n mo) (upd H a o) := by
  have ha : a ∈ M.o := List.mem_of_getElem? hn
  refine ⟨by rw [List.length_set]; exact hs.len, hs.nd, fun b hb => ⟨(hs.pv b hb).1, by
    obtain ⟨h1, x, e⟩ := hs.pv b hb
    exact ⟨x, by rw [upd_ne (fun z => h1 (by rw [z]; exact ha))]; exact e⟩⟩, fun k b mb h1 h2 => ?_⟩
  have hl : n < M.o.length := (List.getElem?_eq_some_iff.mp hn).1
  by_cases hk : n = k
  · subst hk
    rw [List.getElem?_set_self (hs.len ▸ hl)] at h2
    cases h2
    rw [hn] at h1
    cases h1
    exact q
  · rw [List.getElem?_set_ne hk] at h2
    have hb : b ≠ a := fun z => by
      subst z
      exact hk (nd_ix hs.nd hn h1)
    exact (hs.at k b mb h1 h2).ext (hs.ext_write hn) (fun x e => by rw [upd_ne hb]; exact e)
theorem HS.ext_join {p : Addr} {o : HO} (hs : HS K M S H) (hp : H p = none) : Ext M H (M.add p) (upd H p o) :=
  ⟨⟨[p], rfl, fun a ha => by rw [List.mem_singleton] at ha; rw [ha]; exact hp⟩, rfl, fun b x _ e => Same.new hp b x e, fun b hb => by
    obtain ⟨x, e⟩ := hs.there hb
    exact ⟨x, Same.new hp b x e⟩⟩
/-- a new object joins the mutable ones -/
theorem HS.join {p : Addr} {o : HO} {mo : MO} (hs : HS K M S H) (hp : H p = none) (q : MoAt K (M.add p) (upd H p o) p mo) : HS K (M.add p) (S ++ [mo]) (upd H p o) := by
  have hm := hs.freshO hp
  have e : Ext M H (M.add p) (upd H p o) := hs.ext_join hp
  refine ⟨by simp [Mp.add, hs.len], ?_, fun b hb => ?_, fun n a mb h1 h2 => ?_⟩
  · show (M.o ++ [p]).Nodup
    rw [List.nodup_append]
    exact ⟨hs.nd, by simp, fun a ha b hb => by rw [List.mem_singleton] at hb; rw [hb]; exact fun z => hm (z ▸ ha)⟩
  · obtain ⟨h1, x, h2⟩ := hs.pv b hb
    refine ⟨fun z => ?_, x, Same.new hp b x h2⟩
    rcases List.mem_append.mp z with z | z
    · exact h1 z
    · rw [List.mem_singleton] at z; rw [z, hp] at h2; cases h2
  · have h1 : (M.o ++ [p])[n]? = some a := h1
    by_cases hn : n < M.o.length
    · rw [List.getElem?_append_left hn] at h1
      rw [List.getElem?_append_left (hs.len ▸ hn)] at h2
      have ha : a ≠ p := fun z => hm (z ▸ List.mem_of_getElem? h1)
      exact (hs.at n a mb h1 h2).ext e (fun x e => Same.new hp a x e)
    · have hn2 : n = M.o.length := by
        have := (List.getElem?_eq_some_iff.mp h1).1
        rw [List.length_append, List.length_singleton] at this
        omega
      subst hn2
      rw [List.getElem?_append_right (Nat.le_refl _)] at h1
      rw [List.getElem?_append_right (by rw [hs.len]; exact Nat.le_refl _)] at h2
      simp at h1
      rw [hs.len] at h2
      simp at h2
      subst h1
      subst h2
      exact q
/-! ### something private: a list that is being built -/
theorem SqLM.upd {D : Addr} {o : HO} {a : Addr} {xs : List V} (h : SqLM K (M.hide D) H a xs) : SqLM K (M.hide D) (upd H D o) a xs := ⟨h.1, by
  rw [upd_ne (fun z => h.1 (.inr (by rw [z]; exact List.mem_cons_self)))]
  exact h.2⟩
theorem SqTM.upd {D : Addr} {o : HO} {a : Addr} {xs : List V} (h : SqTM K (M.hide D) H a xs) : SqTM K (M.hide D) (upd H D o) a xs := by
  rcases h with h | h
  · exact .inl ⟨h.1, by
      rw [upd_ne (fun z => h.1 (.inr (by rw [z]; exact List.mem_cons_self)))]
      exact h.2⟩
  · exact .inr h
theorem SqFM.upd {D : Addr} {o : HO} {a : Addr} {xs : List V} (h : SqFM K (M.hide D) H a xs) : SqFM K (M.hide D) (upd H D o) a xs := by
  rcases h with h | h
  · have z : a ≠ D := fun z => h.1 (.inr (by rw [z]; exact List.mem_cons_self))
    exact .inl ⟨h.1, by
      unfold Rd
      rw [upd_ne z]
      exact h.2⟩
  · exact .inr h
mutual
theorem Rep.upd {D : Addr} {o : HO} : ∀ {v : V} {d : DL.D}, Rep K (M.hide D) H v d → Rep K (M.hide D) (L2.upd H D o) v d
  | _, _, .non => .non
  | _, _, .bl b => .bl b
  | _, _, .int i => .int i
  | _, _, .str x => .str x
  | _, _, .tup h r => .tup h.upd (Reps.upd r)
  | _, _, .lst h r => .lst h.upd (Reps.upd r)
  | _, _, .obj h => .obj h
  | _, _, .ref a => .ref a
  | _, _, .frz h r => .frz h.upd (Reps.upd r)
theorem Reps.upd {D : Addr} {o : HO} : ∀ {vs : List V} {ds : List DL.D}, Reps K (M.hide D) H vs ds → Reps K (M.hide D) (L2.upd H D o) vs ds
  | _, _, .nil => .nil
  | _, _, .cons r t => .cons (Rep.upd r) (Reps.upd t)
end
theorem RepF.upd {D : Addr} {o : HO} : ∀ {vs : List (Str × V)} {ds : List (Str × DL.D)}, RepF K (M.hide D) H vs ds → RepF K (M.hide D) (L2.upd H D o) vs ds
  | _, _, .nil => .nil
  | _, _, .cons r t => .cons r.upd (RepF.upd t)
theorem RepK.upd {D : Addr} {o : HO} : ∀ {vs : List (Key × V)} {ds : List (Key × DL.D)}, RepK K (M.hide D) H vs ds → RepK K (M.hide D) (L2.upd H D o) vs ds
  | _, _, .nil => .nil
  | _, _, .cons r t => .cons r.upd (RepK.upd t)
theorem RepE.upd {D : Addr} {o : HO} (h : RepE K (M.hide D) H σ ρ) : RepE K (M.hide D) (L2.upd H D o) σ ρ := ⟨h.len, fun i d e => by
  obtain ⟨v, a, b⟩ := h.at i d e
  exact ⟨v, a, b.upd⟩⟩
theorem HS.upd {D : Addr} {o : HO} (h : HS K (M.hide D) S H) : HS K (M.hide D) S (L2.upd H D o) := by
  have hD : D ∉ M.o := (h.pv D List.mem_cons_self).1
  refine ⟨h.len, h.nd, fun b hb => ⟨(h.pv b hb).1, ?_⟩, fun n a mo h1 h2 => ?_⟩
  · by_cases z : b = D
    · subst z; exact ⟨o, upd_same⟩
    · obtain ⟨_, x, e⟩ := h.pv b hb
      exact ⟨x, by rw [upd_ne z]; exact e⟩
  · have ha : a ≠ D := fun z => hD (z ▸ List.mem_of_getElem? h1)
    have q := h.at n a mo h1 h2
    cases mo with
    | lst ds => obtain ⟨xs, q, r⟩ := q; exact ⟨xs, by rw [upd_ne ha]; exact q, r.upd⟩
    | ins C fs => obtain ⟨dx, vs, q, r⟩ := q; exact ⟨dx, vs, by rw [upd_ne ha]; exact q, r.upd⟩
    | dct kvs => obtain ⟨vs, q, r⟩ := q; exact ⟨vs, by rw [upd_ne ha]; exact q, r.upd⟩
    | dead => obtain ⟨x, q⟩ := q; exact ⟨x, by rw [upd_ne ha]; exact q⟩
/-- hidden from now on (D is new) -/
theorem SqLM.hide {D : Addr} (hD : H D = none) {a : Addr} {xs : List V} (h : SqLM K M H a xs) : SqLM K (M.hide D) H a xs := ⟨fun z => by
  rcases z with z | z
  · exact h.1 (.inl z)
  · rcases List.mem_cons.mp z with z | z
    · rw [z] at h; have := h.2; rw [hD] at this; cases this
    · exact h.1 (.inr z), h.2⟩
theorem SqTM.hide {D : Addr} (hD : H D = none) {a : Addr} {xs : List V} (h : SqTM K M H a xs) : SqTM K (M.hide D) H a xs := by
  rcases h with h | h
  · exact .inl ⟨fun z => by
      rcases z with z | z
      · exact h.1 (.inl z)
      · rcases List.mem_cons.mp z with z | z
        · rw [z] at h; have := h.2; rw [hD] at this; cases this
        · exact h.1 (.inr z), h.2⟩
  · exact .inr h
theorem SqFM.hide {D : Addr} (hD : H D = none) {a : Addr} {xs : List V} (h : SqFM K M H a xs) : SqFM K (M.hide D) H a xs := by
  rcases h with h | h
  · refine .inl ⟨fun z => ?_, h.2⟩
    rcases z with z | z
    · exact h.1 (.inl z)
    · rcases List.mem_cons.mp z with z | z
      · subst z
        rcases h.2 with q | ⟨o, q⟩ <;> (rw [hD] at q; cases q)
      · exact h.1 (.inr z)
  · exact .inr h
mutual
theorem Rep.hide {D : Addr} (hD : H D = none) : ∀ {v : V} {d : DL.D}, Rep K M H v d → Rep K (M.hide D) H v d
  | _, _, .non => .non
  | _, _, .bl b => .bl b
  | _, _, .int i => .int i
  | _, _, .str x => .str x
  | _, _, .tup h r => .tup (h.hide hD) (Reps.hide hD r)
  | _, _, .lst h r => .lst (h.hide hD) (Reps.hide hD r)
  | _, _, .obj h => .obj h
  | _, _, .ref a => .ref a
  | _, _, .frz h r => .frz (h.hide hD) (Reps.hide hD r)
theorem Reps.hide {D : Addr} (hD : H D = none) : ∀ {vs : List V} {ds : List DL.D}, Reps K M H vs ds → Reps K (M.hide D) H vs ds
  | _, _, .nil => .nil
  | _, _, .cons r t => .cons (Rep.hide hD r) (Reps.hide hD t)
end
theorem RepF.hide {D : Addr} (hD : H D = none) : ∀ {vs : List (Str × V)} {ds : List (Str × DL.D)}, RepF K M H vs ds → RepF K (M.hide D) H vs ds
  | _, _, .nil => .nil
  | _, _, .cons r t => .cons (r.hide hD) (RepF.hide hD t)
theorem RepK.hide {D : Addr} (hD : H D = none) : ∀ {vs : List (Key × V)} {ds : List (Key × DL.D)}, RepK K M H vs ds → RepK K (M.hide D) H vs ds
  | _, _, .nil => .nil
  | _, _, .cons r t => .cons (r.hide hD) (RepK.hide hD t)
/-- a new thing, hidden: the state behind -/
theorem HS.hideNew {D : Addr} {o : HO} (h : HS K M S H) (hD : H D = none) : HS K (M.hide D) S (L2.upd H D o) := by
  have e : Ext M H M (L2.upd H D o) := Ext.same h (Same.new hD)
  refine ⟨h.len, h.nd, fun b hb => ?_, fun n a mo h1 h2 => ?_⟩
  · rcases List.mem_cons.mp hb with z | z
    · subst z; exact ⟨h.freshO hD, o, upd_same⟩
    · obtain ⟨h1, x, e⟩ := h.pv b z
      exact ⟨h1, x, Same.new hD b x e⟩
  · have ha : a ≠ D := fun z => h.freshO hD (z ▸ List.mem_of_getElem? h1)
    have q := h.at n a mo h1 h2
    cases mo with
    | lst ds => obtain ⟨xs, q, r⟩ := q; exact ⟨xs, by rw [upd_ne ha]; exact q, (r.hide hD).upd⟩
    | ins C fs => obtain ⟨dx, vs, q, r⟩ := q; exact ⟨dx, vs, by rw [upd_ne ha]; exact q, (r.hide hD).upd⟩
    | dct kvs => obtain ⟨vs, q, r⟩ := q; exact ⟨vs, by rw [upd_ne ha]; exact q, (r.hide hD).upd⟩
    | dead => obtain ⟨x, q⟩ := q; exact ⟨x, by rw [upd_ne ha]; exact q⟩
/-- shown again -/
theorem SqLM.show_ {D : Addr} {a : Addr} {xs : List V} (h : SqLM K (M.hide D) H a xs) : SqLM K M H a xs := ⟨fun z => h.1 (z.imp id (List.mem_cons_of_mem _)), h.2⟩
theorem SqTM.show_ {D : Addr} {a : Addr} {xs : List V} (h : SqTM K (M.hide D) H a xs) : SqTM K M H a xs := by
  rcases h with h | h
  · exact .inl ⟨fun z => h.1 (z.imp id (List.mem_cons_of_mem _)), h.2⟩
  · exact .inr h
theorem SqFM.show_ {D : Addr} {a : Addr} {xs : List V} (h : SqFM K (M.hide D) H a xs) : SqFM K M H a xs := by
  rcases h with h | h
  · exact .inl ⟨fun z => h.1 (z.imp id (List.mem_cons_of_mem _)), h.2⟩
  · exact .inr h
mutual
theorem Rep.show_ {D : Addr} : ∀ {v : V} {d : DL.D}, Rep K (M.hide D) H v d → Rep K M H v d
  | _, _, .non => .non
  | _, _, .bl b => .bl b
  | _, _, .int i => .int i
  | _, _, .str x => .str x
  | _, _, .tup h r => .tup h.show_ (Reps.show_ r)
  | _, _, .lst h r => .lst h.show_ (Reps.show_ r)
  | _, _, .obj h => .obj h
  | _, _, .ref a => .ref a
  | _, _, .frz h r => .frz h.show_ (Reps.show_ r)
theorem Reps.show_ {D : Addr} : ∀ {vs : List V} {ds : List DL.D}, Reps K (M.hide D) H vs ds → Reps K M H vs ds
  | _, _, .nil => .nil
  | _, _, .cons r t => .cons (Rep.show_ r) (Reps.show_ t)
end
theorem RepF.show_ {D : Addr} : ∀ {vs : List (Str × V)} {ds : List (Str × DL.D)}, RepF K (M.hide D) H vs ds → RepF K M H vs ds
  | _, _, .nil => .nil
  | _, _, .cons r t => .cons r.show_ (RepF.show_ t)
theorem RepK.show_ {D : Addr} : ∀ {vs : List (Key × V)} {ds : List (Key × DL.D)}, RepK K (M.hide D) H vs ds → RepK K M H vs ds
  | _, _, .nil => .nil
  | _, _, .cons r t => .cons r.show_ (RepK.show_ t)
theorem HS.show_ {D : Addr} (h : HS K (M.hide D) S H) : HS K M S H := ⟨h.len, h.nd, fun b hb => h.pv b (List.mem_cons_of_mem _ hb), fun n a mo h1 h2 => by
  have q := h.at n a mo h1 h2
  cases mo with
  | lst ds => obtain ⟨xs, q, r⟩ := q; exact ⟨xs, q, r.show_⟩
  | ins C fs => obtain ⟨dx, vs, q, r⟩ := q; exact ⟨dx, vs, q, r.show_⟩
  | dct kvs => obtain ⟨vs, q, r⟩ := q; exact ⟨vs, q, r.show_⟩
  | dead => obtain ⟨x, q⟩ := q; exact ⟨x, q⟩⟩
/-- over a hidden thing's life -/
theorem Ext.over {D : Addr} {M1 : Mp} {H1 : Hp} {o : HO} (hs : HS K M S H) (hD : H D = none) (e : Ext (M.hide D) (L2.upd H D o) M1 H1) : ∃ M2 : Mp, M1 = M2.hide D ∧ Ext M H M2 H1 := by
  obtain ⟨l, el, hl⟩ := e.more
  have ep := e.priv
  refine ⟨⟨M1.o, M.p⟩, by cases M1; simp only [Mp.hide] at ep ⊢; rw [ep], ⟨l, el, fun a ha => ?_⟩, rfl, fun b x hb q => ?_, fun b hb => e.stay b hb⟩
  · have := hl a ha
    cases q : H a with
    | none => rfl
    | some x => rw [Same.new hD a x q] at this; cases this
  · exact e.keep b x hb (Same.new hD b x q)
end
end DL
namespace DL
open PySem PySem.Spec PyProof.Rows L2

/-! ### weakening -/
section
variable {X : Cx}
theorem peI {e : Expr} {t t' : TE} (h : PE X e t) (w : ∀ σ H Q, t' σ H Q → t σ H Q) : PE X e t' := ⟨fun pins s σ H Q I q => h.run pins s σ H Q I (w σ H Q q)⟩
theorem ptI {e : Expr} {t t' : TT} (h : PT X e t) (w : ∀ σ H Q, t' σ H Q → t σ H Q) : PT X e t' := ⟨fun pins s σ H Q I q => h.run pins s σ H Q I (w σ H Q q)⟩
theorem pwI {e : Expr} {t t' : TT} (h : PW X e t) (w : ∀ σ H Q, t' σ H Q → t σ H Q) : PW X e t' := ⟨fun whole pins s σ H Q I q => h.run whole pins s σ H Q I (w σ H Q q)⟩
theorem paI {es : List Expr} {t t' : TA} (h : PA X es t) (w : ∀ σ H Q, t' σ H Q → t σ H Q) : PA X es t' := ⟨fun pos pins s σ H Q I q => h.run pos pins s σ H Q I (w σ H Q q)⟩
theorem poI {e : Option Expr} {t t' : TO} (h : PO X e t) (w : ∀ σ H Q, t' σ H Q → t σ H Q) : PO X e t' := ⟨fun pins s σ H Q I q => h.run pins s σ H Q I (w σ H Q q)⟩
theorem psI {e : Stmt} {t t' : TS} (h : PS X e t) (w : ∀ D σ H, t' D σ H → t D σ H) : PS X e t' := ⟨fun pins s σ H D I q => h.run pins s σ H D I (w D σ H q)⟩
theorem pssI {e : List Stmt} {t t' : TS} (h : PSs X e t) (w : ∀ D σ H, t' D σ H → t D σ H) : PSs X e t' := ⟨fun pins s σ H D I q => h.run pins s σ H D I (w D σ H q)⟩
end

/-! ### what is wanted of a result -/
def ExR (K : PySem.W.Frag) (M : Mp) (H : Hp) (e : Exn) (cls : Value) (dd : Option Addr) : Prop :=
  PySem.W.nsIn K mainGlobals e.nm = some (some cls) ∧ ((e.fs = [] ∧ dd = none) ∨ ∃ d vs, dd = some d ∧ ¬ M.In d ∧ H d = some (.xd vs) ∧ RepF K M H vs e.fs)
def wpG {α β : Type} (rel : Mp → Hp → β → α → Prop) (K : PySem.W.Frag) (W : WX) (σ : L2.St) (M : Mp) (H : Hp) (r : R α) (Q : β → Hp → Prop) : Prop := match r with
  | .ok a S' => ∀ M' v H', Ext M H M' H' → rel M' H' v a → HS K M' S' H' → Q v H'
  | .ex e S' => ∀ M' H' cls dd, Ext M H M' H' → HS K M' S' H' → ExR K M' H' e cls dd → W cls dd σ H'
  | .bad => False
section
variable {α β γ δ : Type} {rel : Mp → Hp → β → α → Prop} {rel2 : Mp → Hp → δ → γ → Prop} {K : PySem.W.Frag} {W : WX} {σ : L2.St} {M M' : Mp} {H H' : Hp} {S S' : Sto} {ρ : Rho}
theorem wpG.ext {r : R α} {Q : β → Hp → Prop} (e : Ext M H M' H') (h : wpG rel K W σ M H r Q) : wpG rel K W σ M' H' r Q := by
  cases r with
  | ok a S' => exact fun M2 v H2 e2 r hs => h M2 v H2 (e.trans e2) r hs
  | ex x S' => exact fun M2 H2 cls dd e2 hs q => h M2 H2 cls dd (e.trans e2) hs q
  | bad => exact h
theorem wpG.imp {r : R α} {Q Q' : β → Hp → Prop} (h : wpG rel K W σ M H r Q) (q : ∀ v H, Q v H → Q' v H) : wpG rel K W σ M H r Q' := by
  cases r with
  | ok a S' => exact fun M2 v H2 e2 r hs => q _ _ (h M2 v H2 e2 r hs)
  | ex x S' => exact h
  | bad => exact h
theorem wpG.bind {r : R α} {k : α → Sto → R γ} {Q : δ → Hp → Prop} {Q1 : β → Hp → Prop} (h : wpG rel2 K W σ M H (r.bind k) Q)
    (q : ∀ M1 v H1 a S1, Ext M H M1 H1 → rel M1 H1 v a → HS K M1 S1 H1 → wpG rel2 K W σ M1 H1 (k a S1) Q → Q1 v H1) : wpG rel K W σ M H r Q1 := by
  cases r with
  | ok a S' => exact fun M1 v H1 e r hs => q M1 v H1 a S' e r hs (wpG.ext e h)
  | ex x S' => exact h
  | bad => exact h
theorem wp_val {v : V} {d : D} {Q : VK} (hs : HS K M S H) (r : Rep K M H v d) (h : wpG (Rep K) K W σ M H (.ok d S) Q) : Q v H := h M v H (Ext.refl hs) r hs
theorem wp_newL {xs : List V} {ds : List D} {Q : VK} (hs : HS K M S H) (r : Reps K M H xs ds) (h : wpG (Rep K) K W σ M H (.ok (.lst ds) S) Q) : ∀ p, H p = none → Q (.ref p) (upd H p (.lst xs)) :=
  fun p hp => h M _ _ (Ext.same hs (Same.new hp)) (Rep.newL hs hp r) (hs.same (Same.new hp))
theorem wp_newT {xs : List V} {ds : List D} {Q : VK} (hs : HS K M S H) (r : Reps K M H xs ds) (h : wpG (Rep K) K W σ M H (.ok (.tup ds) S) Q) : ∀ p, H p = none → Q (.ref p) (upd H p (.tup xs)) :=
  fun p hp => h M _ _ (Ext.same hs (Same.new hp)) (Rep.newT hs hp r) (hs.same (Same.new hp))
end
/-! ### the readings by data -/
def tD (K : PySem.W.Frag) (W : WX) (f : Ee) : TE := fun σ H Q => ∃ M ρ S, RepE K M H σ ρ ∧ HS K M S H ∧ wpG (Rep K) K W σ M H (f ρ S) Q
def tDT (K : PySem.W.Frag) (W : WX) (f : Et) : TT := fun σ H Q => ∃ M ρ S, RepE K M H σ ρ ∧ HS K M S H ∧ wpG (fun _ _ (b c : Bool) => b = c) K W σ M H (f ρ S) Q
def tDA (K : PySem.W.Frag) (W : WX) (f : Ea) : TA := fun σ H Q => ∃ M ρ S, RepE K M H σ ρ ∧ HS K M S H ∧ wpG (Reps K) K W σ M H (f ρ S) Q
abbrev DE (X : Cx) (W : WX) (e : Expr) (f : Ee) : Prop := PE X e (tD X.K W f)
abbrev DT (X : Cx) (W : WX) (e : Expr) (f : Et) : Prop := PT X e (tDT X.K W f)
abbrev DA (X : Cx) (W : WX) (e : List Expr) (f : Ea) : Prop := PA X e (tDA X.K W f)

section
variable {X : Cx} {W : WX} {pos : Pos}
def eVar (i : Nat) : Ee := fun ρ S => match ρ[i]? with
  | some (some d) => .ok d S
  | _ => .bad
theorem de_var {e : Expr} {i : Nat} (h : PE X e (tVar i)) : DE X W e (eVar i) := peI h fun σ H Q ⟨M, ρ, S, hr, hs, w⟩ => by
  unfold eVar at w
  match e : ρ[i]? with
  | some (some d) =>
    rw [e] at w
    obtain ⟨v, hv, r⟩ := hr.at i d e
    exact ⟨v, hv, wp_val hs r w⟩
  | some none => rw [e] at w; exact w.elim
  | none => rw [e] at w; exact w.elim
def eK (d : D) : Ee := fun _ S => .ok d S
theorem de_K {e : Expr} {v : V} {d : D} (h : PE X e (tC v)) (r : ∀ M H, Rep X.K M H v d) : DE X W e (eK d) := peI h fun σ H Q ⟨M, ρ, S, hr, hs, w⟩ => wp_val hs (r M H) w
theorem de_int {i j pos} : DE X W (.Constant (.int i) j pos) (eK (.int i)) := de_K pe_int fun _ _ => .int i
theorem de_bl {b j pos} : DE X W (.Constant (.bool b) j pos) (eK (.bl b)) := de_K pe_bl fun _ _ => .bl b
theorem de_non {j pos} : DE X W (.Constant .none j pos) (eK .non) := de_K pe_non fun _ _ => .non
theorem de_str {x j pos} : DE X W (.Constant (.str x) j pos) (eK (.str x)) := de_K pe_str fun _ _ => .str x

/-! ### two-place operations -/
def OpD (K : PySem.W.Frag) (r : R2) (g : D → D → Sto → R D) : Prop := ∀ (W : WX) (σ : L2.St) (M : Mp) (H : Hp) (S : Sto) (x y : V) (d1 d2 : D) (Q : VK), HS K M S H → Rep K M H x d1 → Rep K M H y d2 → wpG (Rep K) K W σ M H (g d1 d2 S) Q → r x y H Q
def eBin (g : D → D → Sto → R D) (a b : Ee) : Ee := fun ρ S => (a ρ S).bind fun x S1 => (b ρ S1).bind fun y S2 => g x y S2
theorem tD_op {K : PySem.W.Frag} {r : R2} {g : D → D → Sto → R D} {fa fb : Ee} (hg : OpD K r g) : ∀ σ H Q, tD K W (eBin g fa fb) σ H Q → tOp r (tD K W fa) (tD K W fb) σ H Q :=
  fun σ H Q ⟨M, ρ, S, hr, hs, w⟩ => ⟨M, ρ, S, hr, hs, wpG.bind w fun M1 x H1 d1 S1 e1 r1 hs1 w1 =>
    ⟨M1, ρ, S1, hr.mono e1, hs1, wpG.bind w1 fun M2 y H2 d2 S2 e2 r2 hs2 w2 => hg W σ M2 H2 S2 x y d1 d2 Q hs2 (r1.mono e2) r2 w2⟩⟩
variable {a b c : Expr} {fa fb fc : Ee}
theorem de_bin {op : Operator} {r : R2} {g : D → D → Sto → R D} (ho : OpR X (binaryOp op) r) (hg : OpD X.K r g) (ha : DE X W a fa) (hb : DE X W b fb) : DE X W (.BinOp a op b pos) (eBin g fa fb) := peI (pe_op ho ha hb) (tD_op hg)
theorem de_cmp {op : CmpOp} {r : R2} {g : D → D → Sto → R D} (ho : OpR X (compareOp op) r) (hg : OpD X.K r g) (ha : DE X W a fa) (hb : DE X W b fb) (hm : behindInMarks op b = false) : DE X W (.Compare a [op] [b] pos) (eBin g fa fb) := peI (pe_cmpR ho ha hb hm) (tD_op hg)
/-- an expression's value as a truth: it is a bool -/
def eTb (a : Ee) : Et := fun ρ S => (a ρ S).bind fun x S1 => match x with
  | .bl b => .ok b S1
  | _ => .bad
theorem tD_test {K : PySem.W.Frag} {fa : Ee} : ∀ σ H Q, tDT K W (eTb fa) σ H Q → tTest (tD K W fa) σ H Q :=
  fun σ H Q ⟨M, ρ, S, hr, hs, w⟩ => ⟨M, ρ, S, hr, hs, wpG.bind w fun M1 x H1 d1 S1 e1 r1 hs1 w1 => by
    cases d1 with
    | bl b => cases r1; exact ⟨b, rfl, w1 M1 b H1 (Ext.refl hs1) rfl hs1⟩
    | _ => exact w1.elim⟩
theorem dt_cmp {op : CmpOp} {r : R2} {g : D → D → Sto → R D} (ho : OpR X (compareOp op) r) (hg : OpD X.K r g) (ha : DE X W a fa) (hb : DE X W b fb) (hm : behindInMarks op b = false) : DT X W (.Compare a [op] [b] pos) (eTb (eBin g fa fb)) :=
  ptI (pt_cmpR ho ha hb hm) fun σ H Q h => by
    obtain ⟨M, ρ, S, hr, hs, w⟩ := tD_test σ H Q h
    exact tD_op hg σ H _ ⟨M, ρ, S, hr, hs, w⟩
/-- a op1 b op2 c -/
def eChain (g g' : D → D → Sto → R D) (a b c : Ee) : Ee := fun ρ S => (a ρ S).bind fun x S1 => (b ρ S1).bind fun y S2 => (g x y S2).bind fun z S3 => match z with
  | .bl true => (c ρ S3).bind fun u S4 => g' y u S4
  | .bl false => .ok (.bl false) S3
  | _ => .bad
theorem tD_chain {K : PySem.W.Frag} {r r' : R2} {g g' : D → D → Sto → R D} {fa fb fc : Ee} (hg : OpD K r g) (hg' : OpD K r' g') : ∀ σ H Q, tD K W (eChain g g' fa fb fc) σ H Q → tChain r r' (tD K W fa) (tD K W fb) (tD K W fc) σ H Q :=
  fun σ H Q ⟨M, ρ, S, hr, hs, w⟩ => ⟨M, ρ, S, hr, hs, wpG.bind w fun M1 x H1 d1 S1 e1 r1 hs1 w1 =>
    ⟨M1, ρ, S1, hr.mono e1, hs1, wpG.bind w1 fun M2 y H2 d2 S2 e2 r2 hs2 w2 => hg W σ M2 H2 S2 x y d1 d2 _ hs2 (r1.mono e2) r2 (wpG.bind w2 fun M3 z H3 d3 S3 e3 r3 hs3 w3 => by
      cases d3 with
      | bl k =>
        cases r3
        refine ⟨k, rfl, ?_⟩
        cases k with
        | true =>
          rw [if_pos rfl]
          exact ⟨M3, ρ, S3, ((hr.mono e1).mono e2).mono e3, hs3, wpG.bind w3 fun M4 u H4 d4 S4 e4 r4 hs4 w4 => hg' W σ M4 H4 S4 y u d2 d4 Q hs4 ((r2.mono e3).mono e4) r4 w4⟩
        | false =>
          rw [if_neg Bool.false_ne_true]
          exact wp_val hs3 (.bl false) w3
      | _ => exact w3.elim)⟩⟩
theorem de_chain {op op' : CmpOp} {r r' : R2} {g g' : D → D → Sto → R D} (ho : OpR X (compareOp op) r) (ho' : OpR X (compareOp op') r') (hg : OpD X.K r g) (hg' : OpD X.K r' g') (ha : DE X W a fa) (hb : DE X W b fb) (hc : DE X W c fc)
    (hm : lastMarks [op, op'] [b, c] = false := by with_unfolding_all rfl) : DE X W (.Compare a [op, op'] [b, c] pos) (eChain g g' fa fb fc) := peI (pe_chain ho ho' ha hb hc hm) (tD_chain hg hg')
theorem dt_chain {op op' : CmpOp} {r r' : R2} {g g' : D → D → Sto → R D} (ho : OpR X (compareOp op) r) (ho' : OpR X (compareOp op') r') (hg : OpD X.K r g) (hg' : OpD X.K r' g') (ha : DE X W a fa) (hb : DE X W b fb) (hc : DE X W c fc)
    (hm : lastMarks [op, op'] [b, c] = false := by with_unfolding_all rfl) : DT X W (.Compare a [op, op'] [b, c] pos) (eTb (eChain g g' fa fb fc)) :=
  ptI (pt_chain ho ho' ha hb hc hm) fun σ H Q h => by
    obtain ⟨M, ρ, S, hr, hs, w⟩ := tD_test σ H Q h
    exact tD_chain hg hg' σ H _ ⟨M, ρ, S, hr, hs, w⟩

/-! ### truth, and, or, not, if -/
def view (S : Sto) : D → D
  | .obj n => match S[n]? with
    | some (.lst ds) => .lst ds
    | _ => .obj n
  | d => d
end
section
variable {K : PySem.W.Frag} {M : Mp} {H : Hp} {S : Sto} {v : V} {d : D}
theorem view_lst {ds : List D} (hs : HS K M S H) (r : Rep K M H v d) (e : view S d = .lst ds) : ∃ a xs, v = .ref a ∧ H a = some (.lst xs) ∧ Reps K M H xs ds := by
  cases r with
  | lst h r => simp only [view] at e; cases e; exact ⟨_, _, rfl, h.2, r⟩
  | @obj n a h =>
    match q : S[n]? with
    | some (.lst es) =>
      simp only [view, q] at e
      cases e
      obtain ⟨xs, h1, h2⟩ := hs.at n a _ h q
      exact ⟨a, xs, rfl, h1, h2⟩
    | some (.ins _ _) => simp only [view, q] at e; cases e
    | some (.dct _) => simp only [view, q] at e; cases e
    | some .dead => simp only [view, q] at e; cases e
    | none => simp only [view, q] at e; cases e
  | _ => simp only [view] at e; cases e
theorem view_obj {n : Nat} {d' : D} (e : view S (.obj n) = d') : (∃ ds, d' = .lst ds) ∨ d' = .obj n := by
  match q : S[n]? with
  | some (.lst es) => simp only [view, q] at e; exact .inl ⟨es, e.symm⟩
  | some (.ins _ _) => simp only [view, q] at e; exact .inr e.symm
  | some (.dct _) => simp only [view, q] at e; exact .inr e.symm
  | some .dead => simp only [view, q] at e; exact .inr e.symm
  | none => simp only [view, q] at e; exact .inr e.symm
theorem view_int {i : Int} (r : Rep K M H v d) (e : view S d = .int i) : v = .int i := by
  cases r with
  | int j => simp only [view] at e; cases e; rfl
  | obj h => rcases view_obj e with ⟨_, h⟩ | h <;> cases h
  | _ => simp only [view] at e; cases e
theorem view_str {i : Str} (r : Rep K M H v d) (e : view S d = .str i) : v = .str i := by
  cases r with
  | str j => simp only [view] at e; cases e; rfl
  | obj h => rcases view_obj e with ⟨_, h⟩ | h <;> cases h
  | _ => simp only [view] at e; cases e
theorem view_bl {i : Bool} (r : Rep K M H v d) (e : view S d = .bl i) : v = .bl i := by
  cases r with
  | bl j => simp only [view] at e; cases e; rfl
  | obj h => rcases view_obj e with ⟨_, h⟩ | h <;> cases h
  | _ => simp only [view] at e; cases e
theorem view_non (r : Rep K M H v d) (e : view S d = .non) : v = .non := by
  cases r with
  | non => rfl
  | obj h => rcases view_obj e with ⟨_, h⟩ | h <;> cases h
  | _ => simp only [view] at e; cases e
theorem view_tup {ds : List D} (r : Rep K M H v d) (e : view S d = .tup ds) : ∃ a xs, v = .ref a ∧ SqT K H a xs ∧ Reps K M H xs ds := by
  cases r with
  | tup h r => simp only [view] at e; cases e; exact ⟨_, _, rfl, h.seq, r⟩
  | obj h => rcases view_obj e with ⟨_, h⟩ | h <;> cases h
  | _ => simp only [view] at e; cases e
theorem view_frz {ds : List D} (r : Rep K M H v d) (e : view S d = .frz ds) : ∃ a xs, v = .ref a ∧ SqL K H a xs ∧ Reps K M H xs ds := by
  cases r with
  | frz h r => simp only [view] at e; cases e; exact ⟨_, _, rfl, h.seq, r⟩
  | obj h => rcases view_obj e with ⟨_, h⟩ | h <;> cases h
  | _ => simp only [view] at e; cases e
end
end DL
/-! tuple * int, the number from 0 on -/
namespace DL
open PySem PySem.Spec PyProof.Rows L2
theorem tuple_mulSame (l : Addr) (items : Array Value) (n : Nat) (dd : Option Addr) (sl : Array (Option Value)) (x : Int) (u : Tok) (c0 : (decide (x < -(2 ^ 63)) || decide (x ≥ 2 ^ 63)) = false) (c1 : (items.isEmpty || x == 1) = true) :
    Meets (Builtin.«tuple.__mul__» ⟨[.ref l, .int x u], []⟩) (fun _ R s => s.heap.get? l = some { cls := .type "tuple", dict := dd, data := .seq items n, slots := sl } ∧ R (.ok (.ret (Value.ref l))) s) :=
  .of_wp fun prog w A R s h => by
    obtain ⟨hp, g, d, tk, os⟩ := s
    obtain ⟨hl, h⟩ := h
    have f1 := AutoSeq1.idx_int
    have f2 : (Value.type "tuple" == Value.type "tuple") = true := by decide
    wp_walk using wpAny_loadPart' hl
    repeat (first
      | (refine wpAny_ite_false (decide_eq_false (by rw [c0]; exact Bool.false_ne_true)) ?_; wp_walk using wpAny_loadPart' hl)
      | (refine wpAny_ite_true (decide_eq_true (by rw [c1])) ?_; wp_walk using wpAny_loadPart' hl))
    exact ⟨_, rfl, h⟩
theorem tuple_mulNone (l : Addr) (items : Array Value) (n : Nat) (dd : Option Addr) (sl : Array (Option Value)) (x : Int) (u : Tok) (c0 : (decide (x < -(2 ^ 63)) || decide (x ≥ 2 ^ 63)) = false) (c1 : (items.isEmpty || x == 1) = false) (c2 : (decide (x ≤ 0) || items.isEmpty) = true) :
    Meets (Builtin.«tuple.__mul__» ⟨[.ref l, .int x u], []⟩) (fun _ R s => s.heap.get? l = some { cls := .type "tuple", dict := dd, data := .seq items n, slots := sl } ∧
      R (.ok (.ret (Value.ref s.heap.objs.size))) { s with heap := s.heap.push { cls := Value.type "tuple", data := Data.seq #[] }, toks := s.toks }) :=
  .of_wp fun prog w A R s h => by
    obtain ⟨hp, g, d, tk, os⟩ := s
    obtain ⟨hl, h⟩ := h
    have f1 := AutoSeq1.idx_int
    wp_walk using wpAny_loadPart' hl
    repeat (first
      | (refine wpAny_ite_false (decide_eq_false (by rw [c0]; exact Bool.false_ne_true)) ?_; wp_walk using wpAny_loadPart' hl)
      | (refine wpAny_ite_false (decide_eq_false (by rw [c1]; exact Bool.false_ne_true)) ?_; wp_walk using wpAny_loadPart' hl)
      | (refine wpAny_ite_true (decide_eq_true (by rw [c2])) ?_; wp_walk using wpAny_loadPart' hl))
    exact ⟨_, rfl, h⟩
def rRepT2 (K : PySem.W.Frag) : R2 := fun x y H Q => ∃ l k xs, x = .ref l ∧ y = .int k ∧ SqT K H l xs ∧ 0 ≤ k ∧ k ≤ 1000 ∧ xs.length ≤ 1000 ∧
  ((xs = [] ∨ k = 1) → Q (.ref l) H) ∧ (xs ≠ [] → k ≠ 1 → ∀ p, H p = none → Q (.ref p) (upd H p (.tup (List.replicate k.toNat xs).flatten)))
section
variable {X : Cx}
theorem op_repT2 : OpR X (binaryOp .Mult) (rRepT2 X.K) := by
  intro pins s σ H x y v u Q I rx ry h
  obtain ⟨l, k, xs, rfl, rfl, hT, h0, h2, hz, q1, q2⟩ := h
  by_cases hbig : xs ≠ [] ∧ 2 ≤ k
  · exact op_repT pins s σ H _ _ v u Q I rx ry ⟨l, k, xs, rfl, rfl, hT, hbig.1, hbig.2, h2, hz, q2 hbig.1 (by omega)⟩
  cases rx
  obtain ⟨t, rfl⟩ := ry
  obtain ⟨its, r, ⟨⟨cls, dd, data, sl⟩, ho, hc, n, hd⟩, hs⟩ := I.tuple hT
  simp only at hc hd
  subst hc hd
  have c0 : (decide (k < -(2 ^ 63)) || decide (k ≥ 2 ^ 63)) = false := by
    rw [decide_eq_false (by omega), decide_eq_false (by omega)] <;> rfl
  by_cases hsame : xs = [] ∨ k = 1
  · have c1 : (its.toArray.isEmpty || k == 1) = true := by
      rcases hsame with z | z
      · subst z
        cases r
        rfl
      · subst z
        simp
    exact wpAny_binaryOp_repeat_ref (T := "tuple") (U := "int") (by decide) ⟨_, ho, rfl⟩ (fun s' => typeIs_int s' k t) noFill_tuple_mul F.fills_int_mul F.slot_int_rmul repeat_tuple F.slot_int_index.lookup
      (call_meets F.slot_int_rmul (typeIs_int s k t) F.entry_int_rmul (F.args_int_rmul_2 _ _) (int_rmul_tuple k t l its.toArray n dd sl)
        ⟨ho, rfl, ⟨_, ho, rfl⟩, call_meets F.slot_tuple_mul ⟨_, ho, rfl⟩ F.entry_tuple_mul (F.args_tuple_mul_2 _ _) (tuple_mulSame l its.toArray n dd sl k t c0 c1) ⟨ho, ⟨.ref l, H, I, rfl, q1 hsame⟩⟩⟩)
  · have hne : xs ≠ [] := fun z => hsame (.inl z)
    have hk0 : k = 0 := by
      have : k ≠ 1 := fun z => hsame (.inr z)
      have : ¬ 2 ≤ k := fun z => hbig ⟨hne, z⟩
      omega
    subst hk0
    have hi : its.toArray.isEmpty = false := by
      cases r with
      | nil => exact absurd rfl hne
      | cons a b => rfl
    have c1 : (its.toArray.isEmpty || (0 : Int) == 1) = false := by rw [hi]; rfl
    have c2 : (decide ((0 : Int) ≤ 0) || its.toArray.isEmpty) = true := by rw [hi]; rfl
    refine wpAny_binaryOp_repeat_ref (T := "tuple") (U := "int") (by decide) ⟨_, ho, rfl⟩ (fun s' => typeIs_int s' 0 t) noFill_tuple_mul F.fills_int_mul F.slot_int_rmul repeat_tuple F.slot_int_index.lookup
      (call_meets F.slot_int_rmul (typeIs_int s 0 t) F.entry_int_rmul (F.args_int_rmul_2 _ _) (int_rmul_tuple 0 t l its.toArray n dd sl)
        ⟨ho, rfl, ⟨_, ho, rfl⟩, call_meets F.slot_tuple_mul ⟨_, ho, rfl⟩ F.entry_tuple_mul (F.args_tuple_mul_2 _ _) (tuple_mulNone l its.toArray n dd sl 0 t c0 c1 c2) ⟨ho, ?_⟩⟩)
    refine ⟨.ref s.heap.objs.size, _, I.laid (t' := s.toks) (o := .tup (List.replicate (0 : Int).toNat xs).flatten) (fun b ob q => Heap.get?_push_of_some _ q) (Nat.le_refl _) ?_, rfl, q2 hne (by decide) _ (I.hok.fresh (Nat.le_refl _))⟩
    exact ⟨by simp, [], .nil, IsTup.new _ _⟩
end
end DL
namespace DL
open PySem PySem.Spec PyProof.Rows L2

theorem line_eq : (sizeLine : Nat) = 16777216 := sizeLine_eq
theorem le_line {n : Nat} (h : n ≤ 16777216) : n ≤ sizeLine := by rw [line_eq]; exact h
theorem lt_line {n : Nat} (h : n < 16777216) : n < sizeLine := by rw [line_eq]; exact h

theorem isSubtype_int_bool : isSubtype (.type "int") (.type "bool") = pure false := by kernel_rfl
theorem gives_add_bool_int (p : Bool) (j : Int) (t : Tok) : Gives (Builtin.«int.__add__» ⟨[.bool p, .int j t], []⟩) (.int ((if p = true then (1 : Int) else 0) + j)) :=
  .of_wp fun M A E s Q h => by obtain ⟨hp, g, d, tk, os⟩ := s; wp_walk; exact ⟨_, rfl, h⟩
section
variable {prog : Program} {w : World} {A : Around} {E : Value → Shared → Prop} {s : Shared} {p : Bool} {j : Int} {t : Tok} {Q : Value → Shared → Prop}
theorem add_bool_int (h : Q (.int (b2i p + j) s.toks) { s with toks := s.toks + 1 }) : wpAny (model prog w) A (binaryOp .Add (.bool p) (.int j t)) Q E s :=
  binaryOp_left_gives (op := .Add) (T := "bool") (U := "int") (by decide) (typeIs_bool' s p) (fun s' => typeIs_int s' j t) F.fills_bool_add F.fills_int_add isSubtype_int_bool F.slot_bool_add F.slot_int_radd F.entry_int_add (F.args_int_add_2 _ _) (gives_add_bool_int p j t) trivial h
end
theorem op_add_bi {X : Cx} : OpR X (binaryOp .Add) (fun x y H Q => ∃ k j, x = .bl k ∧ y = .int j ∧ Q (.int (b2i k + j)) H) := by
  intro pins s σ H x y v u Q I rx ry h
  obtain ⟨k, j, rfl, rfl, q⟩ := h
  obtain ⟨t, rfl⟩ := ry
  cases rx
  exact add_bool_int ⟨.int (b2i k + j), H, I.tok _, ⟨_, rfl⟩, q⟩
/-! ### operators -/
def gAdd (d1 d2 : D) (S : Sto) : R D := match view S d1, view S d2 with
  | .int i, .int j => .ok (.int (i + j)) S
  | .str i, .str j => if i.length + j.length ≤ 16777216 then .ok (.str (i ++ j)) S else .bad
  | .tup xs, .tup ys => if xs.length + ys.length ≤ 16777216 then .ok (.tup (xs ++ ys)) S else .bad
  | .lst xs, .lst ys => if xs.length + ys.length ≤ 16777216 then .ok (.lst (xs ++ ys)) S else .bad
  | .bl p, .int j => .ok (.int ((if p = true then 1 else 0) + j)) S
  | _, _ => .bad
def gSub (d1 d2 : D) (S : Sto) : R D := match view S d1, view S d2 with
  | .int i, .int j => .ok (.int (i - j)) S
  | _, _ => .bad
def gMul (d1 d2 : D) (S : Sto) : R D := match view S d1, view S d2 with
  | .int i, .int j => if i.natAbs.log2 + j.natAbs.log2 < 1000000 then .ok (.int (i * j)) S else .bad
  | .lst xs, .int k => if Nat.ble k.natAbs 9223372036854775807 = true ∧ xs.length * k.toNat ≤ 16777216 then .ok (.lst (List.replicate k.toNat xs).flatten) S else .bad
  | .tup xs, .int k => if 0 ≤ k ∧ k ≤ 1000 ∧ xs.length ≤ 1000 then .ok (.tup (List.replicate k.toNat xs).flatten) S else .bad
  | _, _ => .bad
def gDiv (d1 d2 : D) (S : Sto) : R D := match view S d1, view S d2 with
  | .int i, .int j => if 0 < j ∧ j.natAbs.log2 < 9000 then .ok (.int (i / j)) S else .bad
  | _, _ => .bad
def gMod (d1 d2 : D) (S : Sto) : R D := match view S d1, view S d2 with
  | .int i, .int j => if 0 < j then .ok (.int (i % j)) S else .bad
  | _, _ => .bad
def gPow (d1 d2 : D) (S : Sto) : R D := match view S d1, view S d2 with
  | .int i, .int j => if 0 ≤ j ∧ j.toNat ≤ 1000000 ∧ i.natAbs < 18446744073709551616 then .ok (.int (i ^ j.toNat)) S else .bad
  | _, _ => .bad
def gI2 (p : Int → Int → Bool) (d1 d2 : D) (S : Sto) : R D := match view S d1, view S d2 with
  | .int i, .int j => .ok (.bl (p i j)) S
  | _, _ => .bad
abbrev gLt := gI2 fun i j => decide (i < j)
abbrev gLe := gI2 fun i j => decide (i ≤ j)
abbrev gGt := gI2 fun i j => decide (j < i)
abbrev gGe := gI2 fun i j => decide (j ≤ i)
mutual
def toPy : D → Option PyData
  | .non => some .none
  | .bl b => some (.bool b)
  | .int i => some (.int i)
  | .str x => some (.str x)
  | .tup xs => match toPys xs with
    | some ps => some (.tuple ps)
    | none => none
  | .lst xs => match toPys xs with
    | some ps => some (.list ps)
    | none => none
  | _ => none
def toPys : List D → Option (List PyData)
  | [] => some []
  | d :: ds => match toPy d, toPys ds with
    | some p, some ps => some (p :: ps)
    | _, _ => none
end
def gEqB (neg : Bool) (d1 d2 : D) (S : Sto) : R D := match toPy (view S d1), toPy (view S d2) with
  | some p, some q => if SeqAt.shaped p = true ∧ SeqAt.shaped q = true then .ok (.bl (if neg then !PyData.eqv p q else PyData.eqv p q)) S else .bad
  | _, _ => .bad
abbrev gEq := gEqB false
abbrev gNe := gEqB true
def isNon : D → Bool
  | .non => true
  | _ => false
def gIsN (d1 d2 : D) (S : Sto) : R D := match d2 with
  | .non => .ok (.bl (isNon d1)) S
  | _ => .bad
def gNotN (d1 d2 : D) (S : Sto) : R D := match d2 with
  | .non => .ok (.bl (!isNon d1)) S
  | _ => .bad
def flatD : D → Bool
  | .non => true
  | .bl _ => true
  | .int _ => true
  | .str _ => true
  | _ => false
def eqF : D → D → Bool
  | .non, .non => true
  | .bl a, .bl b => a == b
  | .bl a, .int b => (if a then 1 else 0) == b
  | .int a, .bl b => a == (if b then 1 else 0)
  | .int a, .int b => a == b
  | .str a, .str b => a == b
  | _, _ => false
def gInB (neg : Bool) (d1 d2 : D) (S : Sto) : R D := match view S d2 with
  | .lst xs => if flatD d1 && xs.all flatD then .ok (.bl (if neg then !xs.any (fun y => eqF y d1) else xs.any (fun y => eqF y d1))) S else match toPy d1, toPy (.lst xs) with
    | some p, some (.list ps) => if SeqAt.shaped p && SeqAt.shaped (.list ps) then .ok (.bl (if neg then !ps.any (fun z => PyData.eqv z p) else ps.any (fun z => PyData.eqv z p))) S else .bad
    | _, _ => .bad
  | .tup xs => if flatD d1 && xs.all flatD then .ok (.bl (if neg then !xs.any (fun y => eqF y d1) else xs.any (fun y => eqF y d1))) S else .bad
  | _ => .bad
abbrev gIn := gInB false
abbrev gNotIn := gInB true

section
variable {K : PySem.W.Frag} {M : Mp} {H : Hp} {S : Sto} {v : V} {d : D}
theorem view_tup' {ds : List D} (r : Rep K M H v d) (e : view S d = .tup ds) : d = .tup ds := by
  cases d with
  | obj n => rcases view_obj e with ⟨_, h⟩ | h <;> cases h
  | _ => simp only [view] at e; exact e
mutual
theorem Rep.dp : ∀ {d : D} {v : V} {p : PyData}, Rep K M H v d → toPy d = some p → Dp K H v p
  | .non, _, _, .non, e => by simp only [toPy] at e; cases e; exact .non
  | .bl b, _, _, .bl _, e => by simp only [toPy] at e; cases e; exact .bl b
  | .int i, _, _, .int _, e => by simp only [toPy] at e; cases e; exact .int i
  | .str x, _, _, .str _, e => by simp only [toPy] at e; cases e; exact .str x
  | .tup ds, _, _, .tup h r, e => by
    simp only [toPy] at e
    split at e
    · rename_i ps hp; cases e; exact .tup h.seq (Reps.dp r hp)
    · cases e
  | .lst ds, _, _, .lst h r, e => by
    simp only [toPy] at e
    split at e
    · rename_i ps hp; cases e; exact .lst h.seq (Reps.dp r hp)
    · cases e
  | .obj n, _, _, .obj _, e => by simp only [toPy] at e; cases e
  | .ref n, _, _, .ref _, e => by simp only [toPy] at e; cases e
  | .frz n, _, _, .frz _ _, e => by simp only [toPy] at e; cases e
theorem Reps.dp : ∀ {ds : List D} {vs : List V} {ps : List PyData}, Reps K M H vs ds → toPys ds = some ps → DpAll K H vs ps
  | [], _, _, .nil, e => by simp only [toPys] at e; cases e; exact .nil
  | d :: ds, _, _, .cons r t, e => by
    simp only [toPys] at e
    split at e
    · rename_i p ps h1 h2; cases e; exact .cons (Rep.dp r h1) (Reps.dp t h2)
    · cases e
end
theorem vdp {p : PyData} (hs : HS K M S H) (r : Rep K M H v d) (e : toPy (view S d) = some p) : Dp K H v p := by
  cases d with
  | obj n =>
    cases hv : view S (.obj n) with
    | lst ds =>
      rw [hv] at e
      obtain ⟨a, xs, rfl, h1, h2⟩ := view_lst hs r hv
      simp only [toPy] at e
      split at e
      · rename_i ps hp; cases e; exact .lst (SqL.of h1) (Reps.dp h2 hp)
      · cases e
    | _ => rcases view_obj hv with ⟨_, h⟩ | h <;> first | cases h | skip
           all_goals (rw [hv] at e; simp only [toPy] at e; cases e)
  | _ => exact r.dp (by simpa only [view] using e)
theorem Reps.flat : ∀ {vs : List V} {ds : List D}, Reps K M H vs ds → ds.all flatD = true → vs.all flatV = true
  | _, _, .nil, _ => rfl
  | _, _, .cons r t, h => by
    rw [List.all_cons, Bool.and_eq_true] at h ⊢
    refine ⟨?_, Reps.flat t h.2⟩
    cases r <;> first | rfl | exact absurd h.1 (by simp [flatD])
theorem Rep.flat (r : Rep K M H v d) (h : flatD d = true) : flatV v = true := by
  cases r <;> first | rfl | exact absurd h (by simp [flatD])
theorem eqF_V {v w : V} {d e : D} (r : Rep K M H v d) (q : Rep K M H w e) (h : flatD d = true) (h' : flatD e = true) : eqV v w = eqF d e := by
  cases r <;> cases q <;> first | rfl | exact absurd h (by simp [flatD]) | exact absurd h' (by simp [flatD])
theorem any_eqF {w : V} {e : D} (q : Rep K M H w e) (h' : flatD e = true) : ∀ {vs : List V} {ds : List D}, Reps K M H vs ds → ds.all flatD = true → vs.any (fun y => eqV y w) = ds.any fun y => eqF y e
  | _, _, .nil, _ => rfl
  | _, _, .cons r t, h => by
    rw [List.all_cons, Bool.and_eq_true] at h
    rw [List.any_cons, List.any_cons, eqF_V r q h.1 h', any_eqF q h' t h.2]
theorem isNon_V (r : Rep K M H v d) : decide (v = .non) = isNon d := by cases r <;> rfl
end
section
variable {K : PySem.W.Frag}
abbrev rAddS : R2 := fun x y H Q => ∃ i j, x = .str i ∧ y = .str j ∧ i.length + j.length ≤ sizeLine ∧ Q (.str (i ++ j)) H
abbrev rAddD (K : PySem.W.Frag) : R2 := fun x y H Q => rI0 (fun i j => .int (i + j)) x y H Q ∨ rAddS x y H Q ∨ rCatA K x y H Q ∨ rCat x y H Q ∨ ∃ k j, x = .bl k ∧ y = .int j ∧ Q (.int (b2i k + j)) H
theorem od_add : OpD K (rAddD K) gAdd := by
  intro W σ M H S x y d1 d2 Q hs r1 r2 w
  unfold gAdd at w
  split at w
  · rename_i i j e1 e2
    exact .inl ⟨i, j, view_int r1 e1, view_int r2 e2, wp_val hs (.int _) w⟩
  · rename_i i j e1 e2
    split at w
    · rename_i hl
      exact .inr (.inl ⟨i, j, view_str r1 e1, view_str r2 e2, le_line hl, wp_val hs (.str _) w⟩)
    · exact w.elim
  · rename_i xs ys e1 e2
    split at w
    · rename_i hl
      have f1 := view_tup' r1 e1
      have f2 := view_tup' r2 e2
      obtain ⟨a, vs, rfl, h1, q1⟩ := view_tup r1 e1
      obtain ⟨b, ws, rfl, h2, q2⟩ := view_tup r2 e2
      refine .inr (.inr (.inl ⟨a, b, vs, ws, rfl, rfl, h1, h2, le_line (by rw [q1.length, q2.length]; exact hl), fun z => ?_, fun z z2 => ?_, fun _ _ => wp_newT hs (q1.append q2) w⟩))
      · subst z
        cases q1
        rw [List.nil_append, ← f2] at w
        exact wp_val hs r2 w
      · subst z2
        cases q2
        rw [List.append_nil, ← f1] at w
        exact wp_val hs r1 w
    · exact w.elim
  · rename_i xs ys e1 e2
    split at w
    · rename_i hl
      obtain ⟨a, vs, rfl, h1, q1⟩ := view_lst hs r1 e1
      obtain ⟨b, ws, rfl, h2, q2⟩ := view_lst hs r2 e2
      exact .inr (.inr (.inr (.inl ⟨a, b, vs, ws, rfl, rfl, h1, h2, le_line (by rw [q1.length, q2.length]; exact hl), wp_newL hs (q1.append q2) w⟩)))
    · exact w.elim
  · rename_i p j e1 e2
    exact .inr (.inr (.inr (.inr ⟨p, j, view_bl r1 e1, view_int r2 e2, wp_val hs (.int _) w⟩)))
  · exact w.elim
theorem op_addD {X : Cx} : OpR X (binaryOp .Add) (rAddD X.K) := OpR.or op_add (OpR.or op_add_str (OpR.or op_catA (OpR.or op_cat op_add_bi)))
theorem od_sub : OpD K (rI0 fun i j => .int (i - j)) gSub := by
  intro W σ M H S x y d1 d2 Q hs r1 r2 w
  unfold gSub at w
  split at w
  · rename_i i j e1 e2
    exact ⟨i, j, view_int r1 e1, view_int r2 e2, wp_val hs (.int _) w⟩
  · exact w.elim
abbrev rMulD (K : PySem.W.Frag) : R2 := fun x y H Q => rI CMulW (fun i j => .int (i * j)) x y H Q ∨ rRep x y H Q ∨ rRepT2 K x y H Q
theorem od_mul : OpD K (rMulD K) gMul := by
  intro W σ M H S x y d1 d2 Q hs r1 r2 w
  unfold gMul at w
  split at w
  · rename_i i j e1 e2
    split at w
    · rename_i hl
      exact .inl ⟨i, j, view_int r1 e1, view_int r2 e2, hl, wp_val hs (.int _) w⟩
    · exact w.elim
  · rename_i xs k e1 e2
    split at w
    · rename_i hl
      obtain ⟨a, vs, rfl, h1, q1⟩ := view_lst hs r1 e1
      have hb := Nat.le_of_ble_eq_true hl.1
      exact .inr (.inl ⟨a, k, vs, rfl, view_int r2 e2, h1, by omega, by omega, le_line (by rw [q1.length]; exact hl.2), wp_newL hs (q1.rep _) w⟩)
    · exact w.elim
  · rename_i xs k e1 e2
    split at w
    · rename_i hl
      have f := view_tup' r1 e1
      obtain ⟨a, vs, rfl, h1, q1⟩ := view_tup r1 e1
      refine .inr (.inr ⟨a, k, vs, rfl, view_int r2 e2, h1, hl.1, hl.2.1, by rw [q1.length]; exact hl.2.2, fun z => ?_, fun _ _ => wp_newT hs (q1.rep _) w⟩)
      have e : (List.replicate k.toNat xs).flatten = xs := by
        rcases z with z | z
        · subst z
          cases q1
          simp
        · subst z
          simp
      rw [e, ← f] at w
      exact wp_val hs r1 w
    · exact w.elim
  · exact w.elim
theorem op_mulD {X : Cx} : OpR X (binaryOp .Mult) (rMulD X.K) := OpR.or op_mulW (OpR.or op_rep op_repT2)
theorem od_div : OpD K (rI CDivW fun i j => .int (i / j)) gDiv := by
  intro W σ M H S x y d1 d2 Q hs r1 r2 w
  unfold gDiv at w
  split at w
  · rename_i i j e1 e2
    split at w
    · rename_i hl
      exact ⟨i, j, view_int r1 e1, view_int r2 e2, hl, wp_val hs (.int _) w⟩
    · exact w.elim
  · exact w.elim
theorem od_mod : OpD K (rI (fun _ j => 0 < j) fun i j => .int (i % j)) gMod := by
  intro W σ M H S x y d1 d2 Q hs r1 r2 w
  unfold gMod at w
  split at w
  · rename_i i j e1 e2
    split at w
    · rename_i hl
      exact ⟨i, j, view_int r1 e1, view_int r2 e2, hl, wp_val hs (.int _) w⟩
    · exact w.elim
  · exact w.elim
theorem od_pow : OpD K (rI CPow fun i j => .int (i ^ j.toNat)) gPow := by
  intro W σ M H S x y d1 d2 Q hs r1 r2 w
  unfold gPow at w
  split at w
  · rename_i i j e1 e2
    split at w
    · rename_i hl
      exact ⟨i, j, view_int r1 e1, view_int r2 e2, ⟨hl.1, by omega, hl.2.2⟩, wp_val hs (.int _) w⟩
    · exact w.elim
  · exact w.elim
theorem od_I2 {p : Int → Int → Bool} : OpD K (rI0 fun i j => .bl (p i j)) (gI2 p) := by
  intro W σ M H S x y d1 d2 Q hs r1 r2 w
  unfold gI2 at w
  split at w
  · rename_i i j e1 e2
    exact ⟨i, j, view_int r1 e1, view_int r2 e2, wp_val hs (.bl _) w⟩
  · exact w.elim
theorem od_eq : OpD K (rEqD K) gEq := by
  intro W σ M H S x y d1 d2 Q hs r1 r2 w
  unfold gEq gEqB at w
  split at w
  · rename_i p q e1 e2
    split at w
    · rename_i hl
      exact ⟨p, q, vdp hs r1 e1, vdp hs r2 e2, hl.1, hl.2, wp_val hs (.bl _) w⟩
    · exact w.elim
  · exact w.elim
theorem od_ne : OpD K (rNeD K) gNe := by
  intro W σ M H S x y d1 d2 Q hs r1 r2 w
  unfold gNe gEqB at w
  split at w
  · rename_i p q e1 e2
    split at w
    · rename_i hl
      exact ⟨p, q, vdp hs r1 e1, vdp hs r2 e2, hl.1, hl.2, wp_val hs (.bl _) w⟩
    · exact w.elim
  · exact w.elim
theorem od_isN : OpD K (fun x y H Q => y = .non ∧ Q (.bl (decide (x = .non))) H) gIsN := by
  intro W σ M H S x y d1 d2 Q hs r1 r2 w
  unfold gIsN at w
  split at w
  · cases r2
    refine ⟨rfl, ?_⟩
    rw [isNon_V r1]
    exact wp_val hs (.bl _) w
  · exact w.elim
theorem od_notN : OpD K (fun x y H Q => y = .non ∧ Q (.bl (!decide (x = .non))) H) gNotN := by
  intro W σ M H S x y d1 d2 Q hs r1 r2 w
  unfold gNotN at w
  split at w
  · cases r2
    refine ⟨rfl, ?_⟩
    rw [isNon_V r1]
    exact wp_val hs (.bl _) w
  · exact w.elim
abbrev rInA (K : PySem.W.Frag) : R2 := fun x y H Q => rIn K false x y H Q ∨ rInD K x y H Q
abbrev rNotInA (K : PySem.W.Frag) : R2 := fun x y H Q => rIn K true x y H Q ∨ rNotInD K x y H Q
theorem od_in : OpD K (rInA K) gIn := by
  intro W σ M H S x y d1 d2 Q hs r1 r2 w
  unfold gIn gInB at w
  split at w
  · rename_i xs e2
    obtain ⟨a, vs, rfl, h1, q1⟩ := view_lst hs r2 e2
    split at w
    · rename_i hl
      rw [Bool.and_eq_true] at hl
      refine .inl ⟨a, vs, rfl, .inl (SqL.of h1), r1.flat hl.1, q1.flat hl.2, ?_⟩
      have z := any_eqF r1 hl.1 q1 hl.2
      rw [if_neg Bool.false_ne_true]
      unfold inV
      rw [z]
      exact wp_val hs (.bl _) w
    · split at w
      · rename_i p ps e3 e4
        split at w
        · rename_i hl
          rw [Bool.and_eq_true] at hl
          refine .inr ⟨p, ps, r1.dp e3, vdp (d := d2) hs r2 (by rw [e2]; exact e4), hl.1, hl.2, ?_⟩
          exact wp_val hs (.bl _) w
        · exact w.elim
      · exact w.elim
  · rename_i xs e2
    obtain ⟨a, vs, rfl, h1, q1⟩ := view_tup r2 e2
    split at w
    · rename_i hl
      rw [Bool.and_eq_true] at hl
      refine .inl ⟨a, vs, rfl, .inr h1, r1.flat hl.1, q1.flat hl.2, ?_⟩
      have z := any_eqF r1 hl.1 q1 hl.2
      rw [if_neg Bool.false_ne_true]
      unfold inV
      rw [z]
      exact wp_val hs (.bl _) w
    · exact w.elim
  · exact w.elim
theorem od_notIn : OpD K (rNotInA K) gNotIn := by
  intro W σ M H S x y d1 d2 Q hs r1 r2 w
  unfold gNotIn gInB at w
  split at w
  · rename_i xs e2
    obtain ⟨a, vs, rfl, h1, q1⟩ := view_lst hs r2 e2
    split at w
    · rename_i hl
      rw [Bool.and_eq_true] at hl
      refine .inl ⟨a, vs, rfl, .inl (SqL.of h1), r1.flat hl.1, q1.flat hl.2, ?_⟩
      have z := any_eqF r1 hl.1 q1 hl.2
      rw [if_pos rfl]
      unfold inV
      rw [z]
      exact wp_val hs (.bl _) w
    · split at w
      · rename_i p ps e3 e4
        split at w
        · rename_i hl
          rw [Bool.and_eq_true] at hl
          refine .inr ⟨p, ps, r1.dp e3, vdp (d := d2) hs r2 (by rw [e2]; exact e4), hl.1, hl.2, ?_⟩
          exact wp_val hs (.bl _) w
        · exact w.elim
      · exact w.elim
  · rename_i xs e2
    obtain ⟨a, vs, rfl, h1, q1⟩ := view_tup r2 e2
    split at w
    · rename_i hl
      rw [Bool.and_eq_true] at hl
      refine .inl ⟨a, vs, rfl, .inr h1, r1.flat hl.1, q1.flat hl.2, ?_⟩
      have z := any_eqF r1 hl.1 q1 hl.2
      rw [if_pos rfl]
      unfold inV
      rw [z]
      exact wp_val hs (.bl _) w
    · exact w.elim
  · exact w.elim
end

/-! ### the same as rules -/
section
variable {X : Cx} {W : WX} {pos : Pos} {a b c : Expr} {fa fb fc : Ee}
theorem de_add (ha : DE X W a fa) (hb : DE X W b fb) : DE X W (.BinOp a .Add b pos) (eBin gAdd fa fb) := de_bin op_addD od_add ha hb
theorem de_sub (ha : DE X W a fa) (hb : DE X W b fb) : DE X W (.BinOp a .Sub b pos) (eBin gSub fa fb) := de_bin op_sub od_sub ha hb
theorem de_mul (ha : DE X W a fa) (hb : DE X W b fb) : DE X W (.BinOp a .Mult b pos) (eBin gMul fa fb) := de_bin op_mulD od_mul ha hb
theorem de_div (ha : DE X W a fa) (hb : DE X W b fb) : DE X W (.BinOp a .FloorDiv b pos) (eBin gDiv fa fb) := de_bin op_fdivW od_div ha hb
theorem de_mod (ha : DE X W a fa) (hb : DE X W b fb) : DE X W (.BinOp a .Mod b pos) (eBin gMod fa fb) := de_bin op_mod od_mod ha hb
theorem de_pow (ha : DE X W a fa) (hb : DE X W b fb) : DE X W (.BinOp a .Pow b pos) (eBin gPow fa fb) := de_bin op_pow od_pow ha hb
/-- a one-place minus -/
def eNeg (a : Ee) : Ee := fun ρ S => (a ρ S).bind fun x S1 => match view S1 x with
  | .int i => .ok (.int (-i)) S1
  | _ => .bad
theorem de_neg (ha : DE X W a fa) : DE X W (.UnaryOp .USub a pos) (eNeg fa) := peI (pe_un un_neg ha) fun σ H Q ⟨M, ρ, S, hr, hs, w⟩ => ⟨M, ρ, S, hr, hs, wpG.bind w fun M1 x H1 d1 S1 e1 r1 hs1 w1 => by
  split at w1
  · rename_i i e
    exact ⟨i, view_int r1 e, wp_val hs1 (.int _) w1⟩
  · exact w1.elim⟩
/-- truth -/
def gTru (S : Sto) (d : D) : Option Bool := match view S d with
  | .non => some false
  | .bl b => some b
  | .int i => some (i != 0)
  | .str y => if y.length ≤ 16777216 then some ((y.length : Int) != 0) else none
  | .tup xs => some (!xs.isEmpty)
  | .lst xs => some (!xs.isEmpty)
  | _ => none
theorem Reps.empty {K : PySem.W.Frag} {M : Mp} {H : Hp} {vs : List V} {ds : List D} (r : Reps K M H vs ds) : (!vs.isEmpty) = !ds.isEmpty := by cases r <;> rfl
theorem tru_of {K : PySem.W.Frag} {M : Mp} {H : Hp} {S : Sto} {v : V} {d : D} {k : Bool} (hs : HS K M S H) (r : Rep K M H v d) (e : gTru S d = some k) : TruV K v H k := by
  unfold gTru at e
  split at e
  · rename_i q; rw [view_non r q]; exact (Option.some.inj e).symm
  · rename_i b q; rw [view_bl r q]; exact (Option.some.inj e).symm
  · rename_i i q; rw [view_int r q]; exact (Option.some.inj e).symm
  · rename_i y q
    split at e
    · rename_i hl; rw [view_str r q]; exact ⟨le_line hl, (Option.some.inj e).symm⟩
    · cases e
  · rename_i xs q
    obtain ⟨p, vs, rfl, h1, h2⟩ := view_tup r q
    exact .inr (.inl ⟨vs, h1, by rw [h2.empty]; exact (Option.some.inj e).symm⟩)
  · rename_i xs q
    obtain ⟨p, vs, rfl, h1, h2⟩ := view_lst hs r q
    exact .inl ⟨vs, SqL.of h1, by rw [h2.empty]; exact (Option.some.inj e).symm⟩
  · cases e
def eTr (a : Ee) : Et := fun ρ S => (a ρ S).bind fun x S1 => match gTru S1 x with
  | some k => .ok k S1
  | none => .bad
theorem dt_truth (ha : DE X W a fa) (he : ∀ whole, isTrue a X.env whole = (do let v ← whole; standAt a.pos; holding [v] (truthy v))) : DT X W a (eTr fa) := ptI (pt_truth ha he) fun σ H Q ⟨M, ρ, S, hr, hs, w⟩ => ⟨M, ρ, S, hr, hs, wpG.bind w fun M1 x H1 d1 S1 e1 r1 hs1 w1 => by
  split at w1
  · rename_i k e
    exact ⟨k, tru_of hs1 r1 e, w1 M1 k H1 (Ext.refl hs1) rfl hs1⟩
  · exact w1.elim⟩
theorem dt_tb {t : Et} (ha : DT X W a t) : DT X W a t := ha
def eNotT (t : Et) : Et := fun ρ S => (t ρ S).bind fun k S1 => .ok (!k) S1
theorem dt_not {t : Et} (ha : DT X W a t) : DT X W (.UnaryOp .Not a pos) (eNotT t) := ptI (pt_not ha) fun σ H Q ⟨M, ρ, S, hr, hs, w⟩ => ⟨M, ρ, S, hr, hs, wpG.bind w fun M1 x H1 d1 S1 e1 r1 hs1 w1 => by
  subst r1
  exact w1 M1 _ H1 (Ext.refl hs1) rfl hs1⟩
def eNot (a : Ee) : Ee := fun ρ S => (a ρ S).bind fun x S1 => match gTru S1 x with
  | some k => .ok (.bl (!k)) S1
  | none => .bad
theorem de_not (ha : DE X W a fa) : DE X W (.UnaryOp .Not a pos) (eNot fa) := peI (pe_notT ha) fun σ H Q ⟨M, ρ, S, hr, hs, w⟩ => ⟨M, ρ, S, hr, hs, wpG.bind w fun M1 x H1 d1 S1 e1 r1 hs1 w1 => by
  split at w1
  · rename_i k e
    exact ⟨k, tru_of hs1 r1 e, wp_val hs1 (.bl _) w1⟩
  · exact w1.elim⟩
variable {rest : List Expr}
def eAnd (a b : Ee) : Ee := fun ρ S => (a ρ S).bind fun x S1 => match gTru S1 x with
  | some true => b ρ S1
  | some false => .ok x S1
  | none => .bad
def eOr (a b : Ee) : Ee := fun ρ S => (a ρ S).bind fun x S1 => match gTru S1 x with
  | some true => .ok x S1
  | some false => b ρ S1
  | none => .bad
theorem de_one {op} (h : DE X W a fa) : DE X W (.BoolOp op [a] pos) fa := pe_one h
theorem de_and (ha : DE X W a fa) (hb : DE X W (.BoolOp .And (b :: rest) pos) fb) : DE X W (.BoolOp .And (a :: b :: rest) pos) (eAnd fa fb) := peI (pe_andT ha hb) fun σ H Q ⟨M, ρ, S, hr, hs, w⟩ => ⟨M, ρ, S, hr, hs, wpG.bind w fun M1 x H1 d1 S1 e1 r1 hs1 w1 => by
  split at w1
  · rename_i e
    exact ⟨true, tru_of hs1 r1 e, by rw [if_pos rfl]; exact ⟨M1, ρ, S1, hr.mono e1, hs1, w1⟩⟩
  · rename_i e
    exact ⟨false, tru_of hs1 r1 e, by rw [if_neg Bool.false_ne_true]; exact wp_val hs1 r1 w1⟩
  · exact w1.elim⟩
theorem de_or (ha : DE X W a fa) (hb : DE X W (.BoolOp .Or (b :: rest) pos) fb) : DE X W (.BoolOp .Or (a :: b :: rest) pos) (eOr fa fb) := peI (pe_orT ha hb) fun σ H Q ⟨M, ρ, S, hr, hs, w⟩ => ⟨M, ρ, S, hr, hs, wpG.bind w fun M1 x H1 d1 S1 e1 r1 hs1 w1 => by
  split at w1
  · rename_i e
    exact ⟨true, tru_of hs1 r1 e, by rw [if_pos rfl]; exact wp_val hs1 r1 w1⟩
  · rename_i e
    exact ⟨false, tru_of hs1 r1 e, by rw [if_neg Bool.false_ne_true]; exact ⟨M1, ρ, S1, hr.mono e1, hs1, w1⟩⟩
  · exact w1.elim⟩
/-- and, or as tests -/
abbrev DW (X : Cx) (W : WX) (e : Expr) (f : Et) : Prop := PW X e (tDT X.K W f)
def eAndT (t u : Et) : Et := fun ρ S => (t ρ S).bind fun k S1 => match k with
  | true => u ρ S1
  | false => .ok false S1
def eOrT (t u : Et) : Et := fun ρ S => (t ρ S).bind fun k S1 => match k with
  | true => .ok true S1
  | false => u ρ S1
variable {t u : Et}
theorem dw_and1 (ha : DT X W a t) : DW X W (.BoolOp .And [a] pos) t := pw_and1 ha
theorem dw_or1 (ha : DT X W a t) : DW X W (.BoolOp .Or [a] pos) t := pw_or1 ha
theorem dw_and (ha : DT X W a t) (hb : DW X W (.BoolOp .And (b :: rest) pos) u) : DW X W (.BoolOp .And (a :: b :: rest) pos) (eAndT t u) := pwI (pw_and ha hb) fun σ H Q ⟨M, ρ, S, hr, hs, w⟩ => ⟨M, ρ, S, hr, hs, wpG.bind w fun M1 x H1 d1 S1 e1 r1 hs1 w1 => by
  subst r1
  cases x with
  | true => rw [if_pos rfl]; exact ⟨M1, ρ, S1, hr.mono e1, hs1, w1⟩
  | false => rw [if_neg Bool.false_ne_true]; exact w1 M1 _ H1 (Ext.refl hs1) rfl hs1⟩
theorem dw_or (ha : DT X W a t) (hb : DW X W (.BoolOp .Or (b :: rest) pos) u) : DW X W (.BoolOp .Or (a :: b :: rest) pos) (eOrT t u) := pwI (pw_or ha hb) fun σ H Q ⟨M, ρ, S, hr, hs, w⟩ => ⟨M, ρ, S, hr, hs, wpG.bind w fun M1 x H1 d1 S1 e1 r1 hs1 w1 => by
  subst r1
  cases x with
  | true => rw [if_pos rfl]; exact w1 M1 _ H1 (Ext.refl hs1) rfl hs1
  | false => rw [if_neg Bool.false_ne_true]; exact ⟨M1, ρ, S1, hr.mono e1, hs1, w1⟩⟩
theorem dt_w (h : DW X W a t) : DT X W a t := PW.pt h
def eIf (t : Et) (a b : Ee) : Ee := fun ρ S => (t ρ S).bind fun k S1 => match k with
  | true => a ρ S1
  | false => b ρ S1
theorem de_if (hc : DT X W c t) (ha : DE X W a fa) (hb : DE X W b fb) : DE X W (.IfExp c a b pos) (eIf t fa fb) := peI (pe_ifExp hc ha hb) fun σ H Q ⟨M, ρ, S, hr, hs, w⟩ => ⟨M, ρ, S, hr, hs, wpG.bind w fun M1 x H1 d1 S1 e1 r1 hs1 w1 => by
  subst r1
  cases x with
  | true => rw [if_pos rfl]; exact ⟨M1, ρ, S1, hr.mono e1, hs1, w1⟩
  | false => rw [if_neg Bool.false_ne_true]; exact ⟨M1, ρ, S1, hr.mono e1, hs1, w1⟩⟩
end
end DL
namespace DL
open PySem PySem.Spec PyProof.Rows L2

section
variable {α β γ δ : Type} {rel : Mp → Hp → β → α → Prop} {rel2 : Mp → Hp → δ → γ → Prop} {K : PySem.W.Frag} {W : WX} {σ : L2.St} {M M' : Mp} {H H' : Hp} {S S' : Sto} {ρ : Rho}
theorem wpG.bind' {r : R α} {k : α → Sto → R γ} {Q : δ → Hp → Prop} {Q1 : β → Hp → Prop} (h : wpG rel2 K W σ M H (r.bind k) Q)
    (q : ∀ M1 v H1 a S1, r = .ok a S1 → Ext M H M1 H1 → rel M1 H1 v a → HS K M1 S1 H1 → wpG rel2 K W σ M1 H1 (k a S1) Q → Q1 v H1) : wpG rel K W σ M H r Q1 := by
  cases r with
  | ok a S' => exact fun M1 v H1 e r hs => q M1 v H1 a S' rfl e r hs (wpG.ext e h)
  | ex x S' => exact h
  | bad => exact h
end

/-! ### arguments, displays -/
def eArgs : List Ee → Ea
  | [] => fun _ S => .ok [] S
  | f :: fs => fun ρ S => (f ρ S).bind fun x S1 => (eArgs fs ρ S1).bind fun xs S2 => .ok (x :: xs) S2
theorem eArgs_len : ∀ {fs : List Ee} {ρ : Rho} {S S' : Sto} {xs : List D}, eArgs fs ρ S = .ok xs S' → xs.length = fs.length
  | [], _, _, _, _, h => by simp only [eArgs] at h; cases h; rfl
  | f :: fs, ρ, S, S', xs, h => by
    simp only [eArgs] at h
    cases h1 : f ρ S with
    | ok x S1 =>
      rw [h1, R.bind_ok] at h
      cases h2 : eArgs fs ρ S1 with
      | ok ys S2 => rw [h2, R.bind_ok] at h; cases h; rw [List.length_cons, List.length_cons, eArgs_len h2]
      | ex e S2 => rw [h2, R.bind_ex] at h; cases h
      | bad => rw [h2, R.bind_bad] at h; cases h
    | ex e S2 => rw [h1, R.bind_ex] at h; cases h
    | bad => rw [h1, R.bind_bad] at h; cases h
section
variable {X : Cx} {W : WX} {pos : Pos} {a b c e : Expr} {es : List Expr} {fa fb fc f : Ee} {fs : List Ee}
theorem da_nil : DA X W [] (eArgs []) := paI pa_nil fun σ H Q ⟨M, ρ, S, hr, hs, w⟩ => w M [] H (Ext.refl hs) .nil hs
theorem da_cons (h : DE X W e f) (r : DA X W es (eArgs fs)) (hs : starEach (e :: es) X.env = (false, eval e X.env) :: starEach es X.env := by rfl) : DA X W (e :: es) (eArgs (f :: fs)) :=
  paI (pa_cons h r hs) fun σ H Q ⟨M, ρ, S, hr, hs, w⟩ => ⟨M, ρ, S, hr, hs, wpG.bind w fun M1 x H1 d1 S1 e1 r1 hs1 w1 =>
    ⟨M1, ρ, S1, hr.mono e1, hs1, wpG.bind w1 fun M2 xs H2 ds S2 e2 r2 hs2 w2 => w2 M2 (x :: xs) H2 (Ext.refl hs2) (.cons (r1.mono e2) r2) hs2⟩⟩
def eTup (fs : List Ee) : Ee := fun ρ S => (eArgs fs ρ S).bind fun xs S1 => .ok (.tup xs) S1
def eLst (fs : List Ee) : Ee := fun ρ S => (eArgs fs ρ S).bind fun xs S1 => .ok (.lst xs) S1
/-- a list that will be changed -/
def eNewL (fs : List Ee) : Ee := fun ρ S => (eArgs fs ρ S).bind fun xs S1 => .ok (.obj S1.length) (S1 ++ [.lst xs])
theorem de_tup {x1} (h : DA X W es (eArgs fs)) (hl : fs.length ≤ 16777216 := by exact Nat.le_of_ble_eq_true rfl) : DE X W (.Tuple es x1 pos) (eTup fs) := peI (pe_tup h) fun σ H Q ⟨M, ρ, S, hr, hs, w⟩ => ⟨M, ρ, S, hr, hs, wpG.bind' w fun M1 xs H1 ds S1 e0 e1 r1 hs1 w1 =>
  ⟨le_line (by rw [r1.length, eArgs_len e0]; exact hl), wp_newT hs1 r1 w1⟩⟩
theorem de_lst (h : DA X W es (eArgs fs)) (hl : fs.length ≤ 16777216 := by exact Nat.le_of_ble_eq_true rfl) : DE X W (.List es pos) (eLst fs) := peI (pe_lst h) fun σ H Q ⟨M, ρ, S, hr, hs, w⟩ => ⟨M, ρ, S, hr, hs, wpG.bind' w fun M1 xs H1 ds S1 e0 e1 r1 hs1 w1 =>
  ⟨le_line (by rw [r1.length, eArgs_len e0]; exact hl), wp_newL hs1 r1 w1⟩⟩
theorem de_newL (h : DA X W es (eArgs fs)) (hl : fs.length ≤ 16777216 := by exact Nat.le_of_ble_eq_true rfl) : DE X W (.List es pos) (eNewL fs) := peI (pe_lst h) fun σ H Q ⟨M, ρ, S, hr, hs, w⟩ => ⟨M, ρ, S, hr, hs, wpG.bind' w fun M1 xs H1 ds S1 e0 e1 r1 hs1 w1 =>
  ⟨le_line (by rw [r1.length, eArgs_len e0]; exact hl), fun p hp => by
    have e2 : Ext M1 H1 (M1.add p) (upd H1 p (.lst xs)) := hs1.ext_join hp
    exact w1 _ _ _ e2 (.obj (by show (M1.o ++ [p])[_]? = _; rw [← hs1.len, List.getElem?_append_right (Nat.le_refl _)]; simp)) (hs1.join (o := .lst xs) (mo := .lst ds) hp ⟨xs, upd_same, r1.mono e2⟩)⟩⟩

/-! ### subscripts -/
theorem atI_rep {K : PySem.W.Frag} {M : Mp} {H : Hp} {vs : List V} {ds : List D} {i : Int} {d : D} (r : Reps K M H vs ds) (h : atI ds i = some d) : ∃ v, atI vs i = some v ∧ Rep K M H v d := by
  unfold atI at h ⊢
  rw [r.length]
  cases e : ixN ds.length i with
  | none => rw [e] at h; cases h
  | some j =>
    rw [e] at h
    exact r.get' h
def gIdx (d1 d2 : D) (S : Sto) : R D := match view S d1, d2 with
  | .lst xs, .int i => match atI xs i with
    | some d => .ok d S
    | none => .bad
  | .tup xs, .int i => match atI xs i with
    | some d => .ok d S
    | none => .bad
  | .frz xs, .int i => match atI xs i with
    | some d => .ok d S
    | none => .bad
  | .str z, .int i => if z.length ≤ 16777216 then match atI z.cps.toList i with
    | some c => .ok (.str ⟨#[c]⟩) S
    | none => .bad else .bad
  | _, _ => .bad
theorem od_idx {K : PySem.W.Frag} : OpD K (rIx K) gIdx := by
  intro W σ M H S x y d1 d2 Q hs r1 r2 w
  unfold gIdx at w
  split at w
  · rename_i xs i e1
    cases r2
    split at w
    · rename_i d h
      obtain ⟨a, vs, rfl, h1, q1⟩ := view_lst hs r1 e1
      obtain ⟨v, h2, r⟩ := atI_rep q1 h
      exact .inl ⟨a, vs, _, v, rfl, rfl, SqL.of h1, h2, wp_val hs r w⟩
    · exact w.elim
  · rename_i xs i e1
    cases r2
    split at w
    · rename_i d h
      obtain ⟨a, vs, rfl, h1, q1⟩ := view_tup r1 e1
      obtain ⟨v, h2, r⟩ := atI_rep q1 h
      exact .inr (.inl ⟨a, vs, _, v, rfl, rfl, h1, h2, wp_val hs r w⟩)
    · exact w.elim
  · rename_i xs i e1
    cases r2
    split at w
    · rename_i d h
      obtain ⟨a, vs, rfl, h1, q1⟩ := view_frz r1 e1
      obtain ⟨v, h2, r⟩ := atI_rep q1 h
      exact .inl ⟨a, vs, _, v, rfl, rfl, h1, h2, wp_val hs r w⟩
    · exact w.elim
  · rename_i z i e1
    cases r2
    split at w
    · rename_i hl
      split at w
      · rename_i c h
        exact .inr (.inr ⟨z, _, c, view_str r1 e1, rfl, le_line hl, h, wp_val hs (.str _) w⟩)
      · exact w.elim
    · exact w.elim
  · exact w.elim
theorem de_idx (ha : DE X W a fa) (hb : DE X W b fb) (hs : PlainIx b := by exact fun _ _ => rfl) : DE X W (.Subscript a b pos) (eBin gIdx fa fb) := peI (pe_ix ix_seq ha hb hs) (tD_op od_idx)
/-- a slice's part -/
abbrev Eo := Rho → Sto → R (Option Int)
def tDO (K : PySem.W.Frag) (W : WX) (f : Eo) : TO := fun σ H Q => ∃ M ρ S, RepE K M H σ ρ ∧ HS K M S H ∧ wpG (fun _ _ (b c : Option Int) => b = c) K W σ M H (f ρ S) Q
abbrev DO (X : Cx) (W : WX) (e : Option Expr) (f : Eo) : Prop := PO X e (tDO X.K W f)
def eNo : Eo := fun _ S => .ok none S
def ePart (a : Ee) : Eo := fun ρ S => (a ρ S).bind fun x S1 => match view S1 x with
  | .int i => .ok (some i) S1
  | _ => .bad
theorem do_none : DO X W none eNo := poI po_none fun σ H Q ⟨M, ρ, S, hr, hs, w⟩ => w M none H (Ext.refl hs) rfl hs
theorem do_some (ha : DE X W a fa) : DO X W (some a) (ePart fa) := poI (po_some ha) fun σ H Q ⟨M, ρ, S, hr, hs, w⟩ => ⟨M, ρ, S, hr, hs, wpG.bind w fun M1 x H1 d1 S1 e1 r1 hs1 w1 => by
  split at w1
  · rename_i i e
    exact ⟨i, view_int r1 e, w1 M1 _ H1 (Ext.refl hs1) rfl hs1⟩
  · exact w1.elim⟩
def cutD (xs : List D) (lo hi : Option Int) : List D := (xs.drop (HT.sIx xs.length 0 lo)).take (HT.sIx xs.length xs.length hi - HT.sIx xs.length 0 lo)
def gCut (d : D) (lo hi : Option Int) (S : Sto) : R D := match view S d with
  | .lst xs => .ok (.lst (cutD xs lo hi)) S
  | .tup xs => .ok (.tup (cutD xs lo hi)) S
  | .str z => if z.length ≤ 16777216 then .ok (.str (cutS z lo hi)) S else .bad
  | _ => .bad
def eSl (a : Ee) (lo hi : Eo) : Ee := fun ρ S => (a ρ S).bind fun x S1 => (lo ρ S1).bind fun l S2 => (hi ρ S2).bind fun u S3 => gCut x l u S3
theorem cut_rep {K : PySem.W.Frag} {M : Mp} {H : Hp} {vs : List V} {ds : List D} (r : Reps K M H vs ds) (lo hi : Option Int) : Reps K M H (cutV vs lo hi) (cutD ds lo hi) := by
  unfold cutV cutD
  rw [r.length]
  exact (r.drop _).take _
theorem cut_whole {ds : List D} {lo hi : Option Int} (h : HT.sIx ds.length 0 lo = 0 ∧ HT.sIx ds.length ds.length hi = ds.length) : cutD ds lo hi = ds := by
  unfold cutD
  rw [h.1, h.2, List.drop_zero, Nat.sub_zero, List.take_length]
abbrev rSlAll (K : PySem.W.Frag) : V → Option Int → Option Int → Hp → VK → Prop := fun x lo hi H Q => rSlL K x lo hi H Q ∨ rSlA K x lo hi H Q ∨ rSlS x lo hi H Q
theorem de_slice {p2} {lo hi : Option Expr} {fl fh : Eo} (ha : DE X W a fa) (hl : DO X W lo fl) (hh : DO X W hi fh) : DE X W (.Subscript a (.Slice lo hi none p2) pos) (eSl fa fl fh) :=
  peI (pe_slice (r := rSlAll X.K) (SlR.or sl_list (SlR.or sl_tupA sl_str)) ha hl hh) fun σ H Q ⟨M, ρ, S, hr, hs, w⟩ => ⟨M, ρ, S, hr, hs, wpG.bind w fun M1 x H1 d1 S1 e1 r1 hs1 w1 =>
    ⟨M1, ρ, S1, hr.mono e1, hs1, wpG.bind w1 fun M2 l H2 d2 S2 e2 r2 hs2 w2 => ⟨M2, ρ, S2, (hr.mono e1).mono e2, hs2, wpG.bind w2 fun M3 u H3 d3 S3 e3 r3 hs3 w3 => by
      subst r2
      subst r3
      have r4 := (r1.mono e2).mono e3
      unfold gCut at w3
      split at w3
      · rename_i xs e
        obtain ⟨p, vs, rfl, h1, q1⟩ := view_lst hs3 r4 e
        exact .inl ⟨p, vs, rfl, SqL.of h1, wp_newL hs3 (cut_rep q1 _ _) w3⟩
      · rename_i xs e
        have f := view_tup' r4 e
        obtain ⟨p, vs, rfl, h1, q1⟩ := view_tup r4 e
        refine .inr (.inl ⟨p, vs, rfl, h1, fun z => ?_, fun z => wp_newT hs3 (cut_rep q1 _ _) w3⟩)
        rw [q1.length] at z
        rw [cut_whole z, ← f] at w3
        exact wp_val hs3 r4 w3
      · rename_i z e
        split at w3
        · rename_i hl
          exact .inr (.inr ⟨z, view_str r4 e, le_line hl, wp_val hs3 (.str _) w3⟩)
        · exact w3.elim
      · exact w3.elim⟩⟩⟩

/-! ### built-in calls by values -/
abbrev Gc := List D → Sto → R D
def CallD (K : PySem.W.Frag) (r : List V → Hp → VK → Prop) (g : Gc) : Prop := ∀ (W : WX) (σ : L2.St) (M : Mp) (H : Hp) (S : Sto) (xs : List V) (ds : List D) (Q : VK), HS K M S H → Reps K M H xs ds → wpG (Rep K) K W σ M H (g ds S) Q → r xs H Q
def eCall (g : Gc) (fs : List Ee) : Ee := fun ρ S => (eArgs fs ρ S).bind fun xs S1 => g xs S1
theorem tD_call {K : PySem.W.Frag} {r : List V → Hp → VK → Prop} {g : Gc} (hg : CallD K r g) : ∀ σ H Q, tD K W (eCall g fs) σ H Q → tCB r (tDA K W (eArgs fs)) σ H Q := fun σ H Q ⟨M, ρ, S, hr, hs, w⟩ =>
  ⟨M, ρ, S, hr, hs, wpG.bind w fun M1 xs H1 ds S1 e1 r1 hs1 w1 => hg W σ M1 H1 S1 xs ds Q hs1 r1 w1⟩
theorem de_callB {x : Str} {p : Pos} {id : String} {r : List V → Hp → VK → Prop} {g : Gc} (hc : CallR X (.builtin id) r) (hg : CallD X.K r g) (hgl : Gl X x) (hm : X.mg x = none) (hv : bootBuiltins x = some (.builtin id)) (ha : DA X W (e :: es) (eArgs fs)) (hn : x ≠ "__name__" := by decide) (hdb : (x == ("__debug__" : Str)) = false := by decide)
    (he : starEach (e :: es) X.env = (false, eval e X.env) :: starEach es X.env := by rfl) (hpl : (backTo pos (starEach es X.env)).any (·.1) = false := by rfl) : DE X W (.Call (.Name x p) (e :: es) [] pos) (eCall g fs) :=
  peI (pe_callB hc hgl hm hv ha hn hdb he hpl) (tD_call hg)
theorem de_callTy {x : Str} {p : Pos} {id : String} {r : List V → Hp → VK → Prop} {g : Gc} (hc : CallR X (.type id) r) (hg : CallD X.K r g) (hgl : Gl X x) (hm : X.mg x = none) (hv : bootBuiltins x = some (.type id)) (ha : DA X W (e :: es) (eArgs fs)) (hn : x ≠ "__name__" := by decide) (hdb : (x == ("__debug__" : Str)) = false := by decide)
    (he : starEach (e :: es) X.env = (false, eval e X.env) :: starEach es X.env := by rfl) (hpl : (backTo pos (starEach es X.env)).any (·.1) = false := by rfl) : DE X W (.Call (.Name x p) (e :: es) [] pos) (eCall g fs) :=
  peI (pe_callTy hc hgl hm hv ha hn hdb he hpl) (tD_call hg)
end
theorem reps1 {K : PySem.W.Frag} {M : Mp} {H : Hp} {vs : List V} {d : D} (r : Reps K M H vs [d]) : ∃ v, vs = [v] ∧ Rep K M H v d := by
  cases r with
  | cons r t => cases t; exact ⟨_, rfl, r⟩
theorem reps2 {K : PySem.W.Frag} {M : Mp} {H : Hp} {vs : List V} {d e : D} (r : Reps K M H vs [d, e]) : ∃ v w, vs = [v, w] ∧ Rep K M H v d ∧ Rep K M H w e := by
  cases r with
  | cons r t =>
    obtain ⟨w, rfl, q⟩ := reps1 t
    exact ⟨_, _, rfl, r, q⟩
def gLen : Gc := fun ds S => match ds with
  | [d] => match view S d with
    | .lst xs => .ok (.int xs.length) S
    | .tup xs => .ok (.int xs.length) S
    | .frz xs => .ok (.int xs.length) S
    | .str z => if z.length ≤ 16777216 then .ok (.int z.length) S else .bad
    | _ => .bad
  | _ => .bad
def gAbs : Gc := fun ds S => match ds with
  | [.int i] => .ok (.int (if i < 0 then -i else i)) S
  | _ => .bad
def gInt : Gc := fun ds S => match ds with
  | [.int i] => .ok (.int i) S
  | [.bl k] => .ok (.int (if k then 1 else 0)) S
  | _ => .bad
def gBool : Gc := fun ds S => match ds with
  | [.int i] => .ok (.bl (i != 0)) S
  | [.bl k] => .ok (.bl k) S
  | _ => .bad
def intsOf : List D → Option (List Int)
  | [] => some []
  | .int i :: r => match intsOf r with
    | some l => some (i :: l)
    | none => none
  | _ :: _ => none
def blsOf : List D → Option (List Bool)
  | [] => some []
  | .bl i :: r => match blsOf r with
    | some l => some (i :: l)
    | none => none
  | _ :: _ => none
def maxL : Int → List Int → Int
  | a, [] => a
  | a, b :: r => maxL (if a < b then b else a) r
def minL : Int → List Int → Int
  | a, [] => a
  | a, b :: r => minL (if b < a then b else a) r
def gMax : Gc := fun ds S => match ds with
  | [.int i, .int j] => .ok (.int (if j > i then j else i)) S
  | [d] => match view S d with
    | .lst xs => match intsOf xs with
      | some (i :: l) => .ok (.int (maxL i l)) S
      | _ => .bad
    | _ => .bad
  | _ => .bad
def gMin : Gc := fun ds S => match ds with
  | [.int i, .int j] => .ok (.int (if j < i then j else i)) S
  | [d] => match view S d with
    | .lst xs => match intsOf xs with
      | some (i :: l) => .ok (.int (minL i l)) S
      | _ => .bad
    | _ => .bad
  | _ => .bad
def gAll : Gc := fun ds S => match ds with
  | [d] => match view S d with
    | .lst xs => match blsOf xs with
      | some l => .ok (.bl (l.all id)) S
      | _ => .bad
    | _ => .bad
  | _ => .bad
def gTuple : Gc := fun ds S => match ds with
  | [d] => match view S d with
    | .lst xs => .ok (.tup xs) S
    | .tup xs => .ok (.tup xs) S
    | _ => .bad
  | _ => .bad
def gList : Gc := fun ds S => match ds with
  | [d] => match view S d with
    | .lst xs => .ok (.lst xs) S
    | .tup xs => .ok (.lst xs) S
    | _ => .bad
  | _ => .bad
section
variable {K : PySem.W.Frag}
theorem Reps.intsV {M : Mp} {H : Hp} : ∀ {vs : List V} {ds : List D} {l : List Int}, Reps K M H vs ds → intsOf ds = some l → vs = l.map V.int
  | _, _, _, .nil, h => by simp only [intsOf] at h; cases h; rfl
  | _, _, _, .cons (d := d) r t, h => by
    cases r with
    | int i =>
      simp only [intsOf] at h
      split at h
      · rename_i l hl; cases h; rw [Reps.intsV t hl]; rfl
      · cases h
    | _ => simp only [intsOf] at h; cases h
theorem Reps.blsV {M : Mp} {H : Hp} : ∀ {vs : List V} {ds : List D} {l : List Bool}, Reps K M H vs ds → blsOf ds = some l → vs = l.map V.bl
  | _, _, _, .nil, h => by simp only [blsOf] at h; cases h; rfl
  | _, _, _, .cons (d := d) r t, h => by
    cases r with
    | bl i =>
      simp only [blsOf] at h
      split at h
      · rename_i l hl; cases h; rw [Reps.blsV t hl]; rfl
      · cases h
    | _ => simp only [blsOf] at h; cases h
theorem intsOf_map : ∀ (l : List Int), intsOf (l.map D.int) = some l
  | [] => rfl
  | i :: r => by simp only [List.map_cons, intsOf, intsOf_map r]
theorem blsOf_map : ∀ (l : List Bool), blsOf (l.map D.bl) = some l
  | [] => rfl
  | i :: r => by simp only [List.map_cons, blsOf, blsOf_map r]
theorem maxL_mem : ∀ (l : List Int) (a : Int), maxL a l = a ∨ maxL a l ∈ l
  | [], a => .inl rfl
  | b :: r, a => by
    unfold maxL
    by_cases c : a < b
    · rw [if_pos c]
      rcases maxL_mem r b with h | h
      · exact .inr (by rw [h]; exact List.mem_cons_self)
      · exact .inr (List.mem_cons_of_mem _ h)
    · rw [if_neg c]
      rcases maxL_mem r a with h | h
      · exact .inl h
      · exact .inr (List.mem_cons_of_mem _ h)
theorem maxL_le : ∀ (l : List Int) (a : Int), a ≤ maxL a l ∧ ∀ x ∈ l, x ≤ maxL a l
  | [], a => ⟨Int.le_refl a, fun _ h => nomatch h⟩
  | b :: r, a => by
    unfold maxL
    have ih := maxL_le r (if a < b then b else a)
    refine ⟨?_, fun x hx => ?_⟩
    · have := ih.1; split at this <;> split <;> omega
    · rcases List.mem_cons.mp hx with h | h
      · subst h; have := ih.1; split at this <;> split <;> omega
      · exact ih.2 x h
theorem minL_mem : ∀ (l : List Int) (a : Int), minL a l = a ∨ minL a l ∈ l
  | [], a => .inl rfl
  | b :: r, a => by
    unfold minL
    by_cases c : b < a
    · rw [if_pos c]
      rcases minL_mem r b with h | h
      · exact .inr (by rw [h]; exact List.mem_cons_self)
      · exact .inr (List.mem_cons_of_mem _ h)
    · rw [if_neg c]
      rcases minL_mem r a with h | h
      · exact .inl h
      · exact .inr (List.mem_cons_of_mem _ h)
theorem minL_le : ∀ (l : List Int) (a : Int), minL a l ≤ a ∧ ∀ x ∈ l, minL a l ≤ x
  | [], a => ⟨Int.le_refl a, fun _ h => nomatch h⟩
  | b :: r, a => by
    unfold minL
    have ih := minL_le r (if b < a then b else a)
    refine ⟨?_, fun x hx => ?_⟩
    · have := ih.1; split at this <;> split <;> omega
    · rcases List.mem_cons.mp hx with h | h
      · subst h; have := ih.1; split at this <;> split <;> omega
      · exact ih.2 x h
theorem cd_len : CallD K (fun xs H Q => ∃ x n, xs = [x] ∧ LenV K x H n ∧ Q (.int n) H) gLen := by
  intro W σ M H S xs ds Q hs r w
  unfold gLen at w
  split at w
  · rename_i d
    obtain ⟨v, rfl, r1⟩ := reps1 r
    split at w
    · rename_i ys e
      obtain ⟨p, vs, rfl, h1, q1⟩ := view_lst hs r1 e
      exact ⟨_, ys.length, rfl, .inl ⟨vs, SqL.of h1, q1.length.symm⟩, wp_val hs (.int _) w⟩
    · rename_i ys e
      obtain ⟨p, vs, rfl, h1, q1⟩ := view_tup r1 e
      exact ⟨_, ys.length, rfl, .inr ⟨vs, h1, q1.length.symm⟩, wp_val hs (.int _) w⟩
    · rename_i ys e
      obtain ⟨p, vs, rfl, h1, q1⟩ := view_frz r1 e
      exact ⟨_, ys.length, rfl, .inl ⟨vs, h1, q1.length.symm⟩, wp_val hs (.int _) w⟩
    · rename_i z e
      split at w
      · rename_i hl
        exact ⟨_, z.length, rfl, by rw [view_str r1 e]; exact ⟨le_line hl, rfl⟩, wp_val hs (.int _) w⟩
      · exact w.elim
    · exact w.elim
  · exact w.elim
theorem cd_abs : CallD K (fun xs H Q => ∃ i, xs = [.int i] ∧ Q (.int (if i < 0 then -i else i)) H) gAbs := by
  intro W σ M H S xs ds Q hs r w
  unfold gAbs at w
  split at w
  · obtain ⟨v, rfl, r1⟩ := reps1 r
    cases r1
    exact ⟨_, rfl, wp_val hs (.int _) w⟩
  · exact w.elim
theorem cd_int : CallD K (fun xs H Q => (∃ i, xs = [.int i] ∧ Q (.int i) H) ∨ ∃ k, xs = [.bl k] ∧ Q (.int (if k then 1 else 0)) H) gInt := by
  intro W σ M H S xs ds Q hs r w
  unfold gInt at w
  split at w
  · obtain ⟨v, rfl, r1⟩ := reps1 r
    cases r1
    exact .inl ⟨_, rfl, wp_val hs (.int _) w⟩
  · obtain ⟨v, rfl, r1⟩ := reps1 r
    cases r1
    exact .inr ⟨_, rfl, wp_val hs (.int _) w⟩
  · exact w.elim
theorem cd_bool : CallD K (fun xs H Q => (∃ i, xs = [.int i] ∧ Q (.bl (i != 0)) H) ∨ ∃ k, xs = [.bl k] ∧ Q (.bl k) H) gBool := by
  intro W σ M H S xs ds Q hs r w
  unfold gBool at w
  split at w
  · obtain ⟨v, rfl, r1⟩ := reps1 r
    cases r1
    exact .inl ⟨_, rfl, wp_val hs (.bl _) w⟩
  · obtain ⟨v, rfl, r1⟩ := reps1 r
    cases r1
    exact .inr ⟨_, rfl, wp_val hs (.bl _) w⟩
  · exact w.elim
abbrev rMax2 : List V → Hp → VK → Prop := fun xs H Q => ∃ i j, xs = [.int i, .int j] ∧ Q (.int (if j > i then j else i)) H
abbrev rMin2 : List V → Hp → VK → Prop := fun xs H Q => ∃ i j, xs = [.int i, .int j] ∧ Q (.int (if j < i then j else i)) H
theorem cd_max : CallD K (fun xs H Q => rMax2 xs H Q ∨ rMax K xs H Q) gMax := by
  intro W σ M H S xs ds Q hs r w
  unfold gMax at w
  split at w
  · obtain ⟨v, v2, rfl, r1, r2⟩ := reps2 r
    cases r1
    cases r2
    exact .inl ⟨_, _, rfl, wp_val hs (.int _) w⟩
  · obtain ⟨v, rfl, r1⟩ := reps1 r
    split at w
    · rename_i ys e
      obtain ⟨p, vs, rfl, h1, q1⟩ := view_lst hs r1 e
      split at w
      · rename_i i l hl
        rw [q1.intsV hl] at h1
        refine .inr ⟨p, i :: l, rfl, SqL.of h1, by simp, fun m hm hle => ?_⟩
        have e1 : m = maxL i l := by
          have a1 := maxL_le l i
          have a2 : m ≤ maxL i l := by
            rcases List.mem_cons.mp hm with h | h
            · rw [h]; exact a1.1
            · exact a1.2 m h
          have a3 : maxL i l ≤ m := by
            rcases maxL_mem l i with h | h
            · rw [h]; exact hle i List.mem_cons_self
            · exact hle _ (List.mem_cons_of_mem _ h)
          omega
        rw [e1]
        exact wp_val hs (.int _) w
      · exact w.elim
    · exact w.elim
  · exact w.elim
theorem cd_min : CallD K (fun xs H Q => rMin2 xs H Q ∨ rMin K xs H Q) gMin := by
  intro W σ M H S xs ds Q hs r w
  unfold gMin at w
  split at w
  · obtain ⟨v, v2, rfl, r1, r2⟩ := reps2 r
    cases r1
    cases r2
    exact .inl ⟨_, _, rfl, wp_val hs (.int _) w⟩
  · obtain ⟨v, rfl, r1⟩ := reps1 r
    split at w
    · rename_i ys e
      obtain ⟨p, vs, rfl, h1, q1⟩ := view_lst hs r1 e
      split at w
      · rename_i i l hl
        rw [q1.intsV hl] at h1
        refine .inr ⟨p, i :: l, rfl, SqL.of h1, by simp, fun m hm hle => ?_⟩
        have e1 : m = minL i l := by
          have a1 := minL_le l i
          have a2 : minL i l ≤ m := by
            rcases List.mem_cons.mp hm with h | h
            · rw [h]; exact a1.1
            · exact a1.2 m h
          have a3 : m ≤ minL i l := by
            rcases minL_mem l i with h | h
            · rw [h]; exact hle i List.mem_cons_self
            · exact hle _ (List.mem_cons_of_mem _ h)
          omega
        rw [e1]
        exact wp_val hs (.int _) w
      · exact w.elim
    · exact w.elim
  · exact w.elim
theorem cd_all : CallD K (rAll K) gAll := by
  intro W σ M H S xs ds Q hs r w
  unfold gAll at w
  split at w
  · obtain ⟨v, rfl, r1⟩ := reps1 r
    split at w
    · rename_i ys e
      obtain ⟨p, vs, rfl, h1, q1⟩ := view_lst hs r1 e
      split at w
      · rename_i l hl
        rw [q1.blsV hl] at h1
        exact ⟨p, l, rfl, SqL.of h1, wp_val hs (.bl _) w⟩
      · exact w.elim
    · exact w.elim
  · exact w.elim
theorem cd_tuple : CallD K (fun xs H Q => ∃ p ys, xs = [.ref p] ∧ ((SqL K H p ys ∧ ∀ l, H l = none → Q (.ref l) (upd H l (.tup ys))) ∨ (SqT K H p ys ∧ Q (.ref p) H))) gTuple := by
  intro W σ M H S xs ds Q hs r w
  unfold gTuple at w
  split at w
  · obtain ⟨v, rfl, r1⟩ := reps1 r
    split at w
    · rename_i ys e
      obtain ⟨p, vs, rfl, h1, q1⟩ := view_lst hs r1 e
      exact ⟨p, vs, rfl, .inl ⟨SqL.of h1, wp_newT hs q1 w⟩⟩
    · rename_i ys e
      have f := view_tup' r1 e
      obtain ⟨p, vs, rfl, h1, q1⟩ := view_tup r1 e
      rw [← f] at w
      exact ⟨p, vs, rfl, .inr ⟨h1, wp_val hs r1 w⟩⟩
    · exact w.elim
  · exact w.elim
theorem cd_list : CallD K (fun xs H Q => ∃ p ys, xs = [.ref p] ∧ (SqL K H p ys ∨ SqT K H p ys) ∧ ∀ l, H l = none → Q (.ref l) (upd H l (.lst ys))) gList := by
  intro W σ M H S xs ds Q hs r w
  unfold gList at w
  split at w
  · obtain ⟨v, rfl, r1⟩ := reps1 r
    split at w
    · rename_i ys e
      obtain ⟨p, vs, rfl, h1, q1⟩ := view_lst hs r1 e
      exact ⟨p, vs, rfl, .inl (SqL.of h1), wp_newL hs q1 w⟩
    · rename_i ys e
      obtain ⟨p, vs, rfl, h1, q1⟩ := view_tup r1 e
      exact ⟨p, vs, rfl, .inr h1, wp_newL hs q1 w⟩
    · exact w.elim
  · exact w.elim
end
theorem b_len : bootBuiltins "len" = some (.builtin "len") := by decide +kernel
theorem b_abs : bootBuiltins "abs" = some (.builtin "abs") := by decide +kernel
theorem b_max : bootBuiltins "max" = some (.builtin "max") := by decide +kernel
theorem b_min : bootBuiltins "min" = some (.builtin "min") := by decide +kernel
theorem b_all : bootBuiltins "all" = some (.builtin "all") := by decide +kernel
theorem b_sum : bootBuiltins "sum" = some (.builtin "sum") := by decide +kernel
theorem b_isinstance : bootBuiltins "isinstance" = some (.builtin "isinstance") := by decide +kernel
theorem b_int : bootBuiltins "int" = some (.type "int") := by decide +kernel
theorem b_bool : bootBuiltins "bool" = some (.type "bool") := by decide +kernel
theorem b_tuple : bootBuiltins "tuple" = some (.type "tuple") := by decide +kernel
theorem b_list : bootBuiltins "list" = some (.type "list") := by decide +kernel
theorem b_str : bootBuiltins "str" = some (.type "str") := by decide +kernel
section
variable {X : Cx}
theorem call_maxD (hc : X.calm = true) : CallR X (.builtin "max") (fun xs H Q => rMax2 xs H Q ∨ rMax X.K xs H Q) := CallR.or (call_max2 hc) (cr_max hc)
theorem call_minD (hc : X.calm = true) : CallR X (.builtin "min") (fun xs H Q => rMin2 xs H Q ∨ rMin X.K xs H Q) := CallR.or (call_min2 hc) (cr_min hc)
end
end DL
namespace DL
open PySem PySem.Spec PyProof.Rows L2

/-! ### statements -/
def F.ofR {α : Type} (r : R α) (ρ : Rho) (k : α → Sto → F) : F := match r with
  | .ok a S => k a S
  | .ex e S => .ex e ρ S
  | .bad => .bad
@[simp] theorem F.ofR_ok {α : Type} (a : α) (S : Sto) (ρ : Rho) (k : α → Sto → F) : F.ofR (.ok a S) ρ k = k a S := rfl
@[simp] theorem F.ofR_ex {α : Type} (e : Exn) (S : Sto) (ρ : Rho) (k : α → Sto → F) : F.ofR (.ex e S : R α) ρ k = .ex e ρ S := rfl
@[simp] theorem F.ofR_bad {α : Type} (ρ : Rho) (k : α → Sto → F) : F.ofR (.bad : R α) ρ k = .bad := rfl
def F.seq (r : F) (k : Sm) : F := match r with
  | .nx ρ S => k ρ S
  | r => r
@[simp] theorem F.seq_nx (ρ : Rho) (S : Sto) (k : Sm) : (F.nx ρ S).seq k = k ρ S := rfl
@[simp] theorem F.seq_rt (d : D) (S : Sto) (k : Sm) : (F.rt d S).seq k = .rt d S := rfl
@[simp] theorem F.seq_bk (ρ : Rho) (S : Sto) (k : Sm) : (F.bk ρ S).seq k = .bk ρ S := rfl
@[simp] theorem F.seq_ct (ρ : Rho) (S : Sto) (k : Sm) : (F.ct ρ S).seq k = .ct ρ S := rfl
@[simp] theorem F.seq_ex (e : Exn) (ρ : Rho) (S : Sto) (k : Sm) : (F.ex e ρ S).seq k = .ex e ρ S := rfl
@[simp] theorem F.seq_bad (k : Sm) : F.bad.seq k = .bad := rfl
def wpS (K : PySem.W.Frag) (W : WX) (M : Mp) (H : Hp) (r : F) (Dd : Ends) : Prop := match r with
  | .nx ρ' S' => ∀ M' σ' H', Ext M H M' H' → RepE K M' H' σ' ρ' → HS K M' S' H' → Dd.nx σ' H'
  | .rt d S' => ∀ M' v H', Ext M H M' H' → Rep K M' H' v d → HS K M' S' H' → Dd.rt v H'
  | .bk ρ' S' => ∀ M' σ' H', Ext M H M' H' → RepE K M' H' σ' ρ' → HS K M' S' H' → Dd.bk σ' H'
  | .ct ρ' S' => ∀ M' σ' H', Ext M H M' H' → RepE K M' H' σ' ρ' → HS K M' S' H' → Dd.ct σ' H'
  | .ex e ρ' S' => ∀ M' σ' H' cls dd, Ext M H M' H' → RepE K M' H' σ' ρ' → HS K M' S' H' → ExR K M' H' e cls dd → W cls dd σ' H'
  | .bad => False
section
variable {α β : Type} {rel : Mp → Hp → β → α → Prop} {K : PySem.W.Frag} {W : WX} {σ : L2.St} {M M' : Mp} {H H' : Hp} {S S' : Sto} {ρ : Rho} {r : F} {Dd D2 : Ends}
theorem wpS.ext (e : Ext M H M' H') (h : wpS K W M H r Dd) : wpS K W M' H' r Dd := by
  cases r with
  | nx ρ' S' => exact fun M2 s H2 e2 r hs => h M2 s H2 (e.trans e2) r hs
  | rt d S' => exact fun M2 s H2 e2 r hs => h M2 s H2 (e.trans e2) r hs
  | bk ρ' S' => exact fun M2 s H2 e2 r hs => h M2 s H2 (e.trans e2) r hs
  | ct ρ' S' => exact fun M2 s H2 e2 r hs => h M2 s H2 (e.trans e2) r hs
  | ex x ρ' S' => exact fun M2 s H2 cls dd e2 r hs => h M2 s H2 cls dd (e.trans e2) r hs
  | bad => exact h
theorem wpS.ofR {r : R α} {k : α → Sto → F} {Q1 : β → Hp → Prop} (hr : RepE K M H σ ρ) (h : wpS K W M H (F.ofR r ρ k) Dd)
    (q : ∀ M1 v H1 a S1, Ext M H M1 H1 → rel M1 H1 v a → HS K M1 S1 H1 → wpS K W M1 H1 (k a S1) Dd → Q1 v H1) : wpG rel K W σ M H r Q1 := by
  cases r with
  | ok a S' => exact fun M1 v H1 e r hs => q M1 v H1 a S' e r hs (wpS.ext e h)
  | ex x S' => exact fun M2 H2 cls dd e2 hs q => h M2 σ H2 cls dd e2 (hr.mono e2) hs q
  | bad => exact h
theorem wpS.seq {k : Sm} (h : wpS K W M H (r.seq k) Dd) (nx : ∀ M1 σ1 H1 ρ1 S1, Ext M H M1 H1 → RepE K M1 H1 σ1 ρ1 → HS K M1 S1 H1 → wpS K W M1 H1 (k ρ1 S1) Dd → D2.nx σ1 H1)
    (h1 : D2.rt = Dd.rt) (h2 : D2.bk = Dd.bk) (h3 : D2.ct = Dd.ct) : wpS K W M H r D2 := by
  cases r with
  | nx ρ' S' => exact fun M2 s H2 e2 r hs => nx M2 s H2 ρ' S' e2 r hs (wpS.ext e2 h)
  | rt d S' => intro M2 s H2 e2 r hs; rw [h1]; exact h M2 s H2 e2 r hs
  | bk ρ' S' => intro M2 s H2 e2 r hs; rw [h2]; exact h M2 s H2 e2 r hs
  | ct ρ' S' => intro M2 s H2 e2 r hs; rw [h3]; exact h M2 s H2 e2 r hs
  | ex x ρ' S' => exact h
  | bad => exact h
end
def tDS (K : PySem.W.Frag) (W : WX) (f : Sm) : TS := fun Dd σ H => ∃ M ρ S, RepE K M H σ ρ ∧ HS K M S H ∧ wpS K W M H (f ρ S) Dd
abbrev DS (X : Cx) (W : WX) (st : Stmt) (f : Sm) : Prop := PS X st (tDS X.K W f)
abbrev DSs (X : Cx) (W : WX) (st : List Stmt) (f : Sm) : Prop := PSs X st (tDS X.K W f)
def sNx : Sm := fun ρ S => .nx ρ S
def sSeq (f g : Sm) : Sm := fun ρ S => (f ρ S).seq g
def sBad : Sm := fun _ _ => .bad
def sEx (e : Ee) : Sm := fun ρ S => F.ofR (e ρ S) ρ fun _ S1 => .nx ρ S1
def sRt (e : Ee) : Sm := fun ρ S => F.ofR (e ρ S) ρ fun d S1 => .rt d S1
def sRtN : Sm := fun _ S => .rt .non S
def sIf (t : Et) (a b : Sm) : Sm := fun ρ S => F.ofR (t ρ S) ρ fun k S1 => match k with
  | true => a ρ S1
  | false => b ρ S1
def sBk : Sm := fun ρ S => .bk ρ S
def sCt : Sm := fun ρ S => .ct ρ S
section
variable {X : Cx} {W : WX} {pos : Pos} {e c : Expr} {st : Stmt} {rest p q : List Stmt} {f g : Sm} {fe : Ee} {t : Et}
theorem dss_nil : DSs X W [] sNx := pssI pss_nil fun Dd σ H ⟨M, ρ, S, hr, hs, w⟩ => w M σ H (Ext.refl hs) hr hs
theorem dss_cons (h1 : DS X W st f) (h2 : DSs X W rest g) : DSs X W (st :: rest) (sSeq f g) := pssI (pss_cons h1 h2) fun Dd σ H ⟨M, ρ, S, hr, hs, w⟩ => ⟨M, ρ, S, hr, hs, wpS.seq w (fun M1 σ1 H1 ρ1 S1 e1 r1 hs1 w1 => ⟨M1, ρ1, S1, r1, hs1, w1⟩) rfl rfl rfl⟩
theorem dss_one (h1 : DS X W st f) : DSs X W [st] f := pss_one h1
theorem ds_bad : DS X W st sBad := psI ps_never fun Dd σ H ⟨M, ρ, S, hr, hs, w⟩ => w
theorem ds_pass : DS X W (.Pass pos) sNx := psI ps_pass fun Dd σ H ⟨M, ρ, S, hr, hs, w⟩ => w M σ H (Ext.refl hs) hr hs
theorem ds_break : DS X W (.Break pos) sBk := psI ps_break fun Dd σ H ⟨M, ρ, S, hr, hs, w⟩ => w M σ H (Ext.refl hs) hr hs
theorem ds_cont : DS X W (.Continue pos) sCt := psI ps_continue fun Dd σ H ⟨M, ρ, S, hr, hs, w⟩ => w M σ H (Ext.refl hs) hr hs
theorem ds_doc {x j pos pos'} : DS X W (.Expr (.Constant (.str x) j pos) pos') sNx := psI ps_doc fun Dd σ H ⟨M, ρ, S, hr, hs, w⟩ => w M σ H (Ext.refl hs) hr hs
theorem ds_expr (he : DE X W e fe) (hs : swapsWith e none pos.line X.env = pure false := by rfl) : DS X W (.Expr e pos) (sEx fe) := psI (ps_expr he hs) fun Dd σ H ⟨M, ρ, S, hr, hs, w⟩ => ⟨M, ρ, S, hr, hs, wpS.ofR hr w fun M1 v H1 a S1 e1 r1 hs1 w1 => w1 M1 σ H1 (Ext.refl hs1) (hr.mono e1) hs1⟩
theorem ds_ret (he : DE X W e fe) : DS X W (.Return (some e) pos) (sRt fe) := psI (ps_ret he) fun Dd σ H ⟨M, ρ, S, hr, hs, w⟩ => ⟨M, ρ, S, hr, hs, wpS.ofR hr w fun M1 v H1 a S1 e1 r1 hs1 w1 => w1 M1 v H1 (Ext.refl hs1) r1 hs1⟩
theorem ds_retN : DS X W (.Return none pos) sRtN := psI ps_retN fun Dd σ H ⟨M, ρ, S, hr, hs, w⟩ => w M .non H (Ext.refl hs) .non hs
theorem ds_if (hc : DT X W c t) (ha : DSs X W p f) (hb : DSs X W q g) : DS X W (.If c p q pos) (sIf t f g) := psI (ps_if hc ha hb) fun Dd σ H ⟨M, ρ, S, hr, hs, w⟩ => ⟨M, ρ, S, hr, hs, wpS.ofR hr w fun M1 k H1 k' S1 e1 r1 hs1 w1 => by
  subst r1
  cases k with
  | true => rw [if_pos rfl]; exact ⟨M1, ρ, S1, hr.mono e1, hs1, w1⟩
  | false => rw [if_neg Bool.false_ne_true]; exact ⟨M1, ρ, S1, hr.mono e1, hs1, w1⟩⟩
end

/-! ### targets -/
/-- a store of a value -/
abbrev Tg := D → Rho → Sto → F
def tDG (K : PySem.W.Frag) (W : WX) (g : Tg) : TG := fun v σ H Q => ∃ M ρ S d, RepE K M H σ ρ ∧ HS K M S H ∧ Rep K M H v d ∧ wpS K W M H (g d ρ S) { nx := Q, rt := fun _ _ => False }
abbrev DG (X : Cx) (W : WX) (tg : Expr) (g : Tg) : Prop := PG X tg (tDG X.K W g)
abbrev Tgs := List D → Rho → Sto → F
def tDGs (K : PySem.W.Frag) (W : WX) (g : Tgs) : TGs := fun vs σ H Q => ∃ M ρ S ds, RepE K M H σ ρ ∧ HS K M S H ∧ Reps K M H vs ds ∧ wpS K W M H (g ds ρ S) { nx := Q, rt := fun _ _ => False }
abbrev DGs (X : Cx) (W : WX) (tgs : List Expr) (g : Tgs) : Prop := PGs X tgs (tDGs X.K W g)
def gNm (i : Nat) : Tg := fun d ρ S => .nx (ρ.set i (some d)) S
def gsNil : Tgs := fun ds ρ S => match ds with
  | [] => .nx ρ S
  | _ => .bad
def gsCons (g : Tg) (h : Tgs) : Tgs := fun ds ρ S => match ds with
  | d :: r => (g d ρ S).seq (h r)
  | _ => .bad
def gTp (n : Nat) (h : Tgs) : Tg := fun d ρ S => match d with
  | .tup xs => if xs.length = n then h xs ρ S else .bad
  | _ => .bad
def sAs (e : Ee) (g : Tg) : Sm := fun ρ S => F.ofR (e ρ S) ρ fun d S1 => g d ρ S1
section
variable {X : Cx} {W : WX} {pos : Pos} {tg e : Expr} {es : List Expr} {g : Tg} {h : Tgs} {fe : Ee}
theorem pgI {t t' : TG} (h : PG X tg t) (w : ∀ v σ H Q, t' v σ H Q → t v σ H Q) : PG X tg t' := ⟨fun pins s σ H v u Q I r q => h.run pins s σ H v u Q I r (w v σ H Q q)⟩
theorem pgsI {t t' : TGs} (h : PGs X es t) (w : ∀ v σ H Q, t' v σ H Q → t v σ H Q) : PGs X es t' := ⟨fun pins s σ H v u Q I r q => h.run pins s σ H v u Q I r (w v σ H Q q)⟩
theorem dg_name {i : Nat} {x : Str} (hN : X.N.Nodup) (hi : X.N[i]? = some x := by rfl) (hx : Loc X.env.scope x := by first | exact Or.inl rfl | exact Or.inr rfl) (hf : X.fn x = true ∨ X.env.scope.names.lookup x = some .local := by first | exact .inl rfl | exact .inr rfl | assumption) : DG X W (.Name x pos) (gNm i) :=
  pgI (pg_name hN hi hx hf) fun v σ H Q ⟨M, ρ, S, d, hr, hs, r, w⟩ => w M _ H (Ext.refl hs) (hr.set r) hs
theorem dgs_nil : DGs X W [] gsNil := pgsI pgs_nil fun v σ H Q ⟨M, ρ, S, ds, hr, hs, r, w⟩ => by
  cases r with
  | nil => exact ⟨rfl, w M σ H (Ext.refl hs) hr hs⟩
  | cons => exact w.elim
theorem dgs_cons (h1 : DG X W e g) (h2 : DGs X W es h) (hs : (assignEach (e :: es) X.env).map (·.2) = assign e X.env :: (assignEach es X.env).map (·.2) := by rfl) : DGs X W (e :: es) (gsCons g h) :=
  pgsI (pgs_cons h1 h2 hs) fun v σ H Q ⟨M, ρ, S, ds, hr, hs, r, w⟩ => by
    cases r with
    | nil => exact w.elim
    | @cons v vs d ds r t =>
      refine ⟨v, vs, rfl, M, ρ, S, d, hr, hs, r, wpS.seq w (fun M1 σ1 H1 ρ1 S1 e1 r1 hs1 w1 => ⟨M1, ρ1, S1, ds, r1, hs1, t.mono e1, w1⟩) rfl rfl rfl⟩
theorem dg_tup {k : Nat} {n : Nat} (hc : X.calm = true) (h1 : DGs X W es h)
    (hn : (assignEach es X.env).length = n := by rfl) (hst : (assignEach es X.env).findIdx? (·.1) = none := by rfl) : DG X W (.Tuple es k pos) (gTp n h) := pgI (pg_tup hc h1 hn hst) fun v σ H Q ⟨M, ρ, S, d, hr, hs, r, w⟩ => by
  unfold gTp at w
  cases d with
  | tup xs =>
    cases r with
    | tup q r =>
      simp only at w
      split at w
      · rename_i hl
        exact ⟨_, _, rfl, q.seq, by rw [r.length]; exact hl, M, ρ, S, xs, hr, hs, r, w⟩
      · exact w.elim
  | _ => exact w.elim
/-- a target's flow: on, or nothing -/
def F.on : F → F
  | .nx ρ S => .nx ρ S
  | .ex e ρ S => .ex e ρ S
  | _ => .bad
theorem wpS.on {K : PySem.W.Frag} {M : Mp} {H : Hp} {r : F} {Dd : Ends} (h : wpS K W M H r.on Dd) : wpS K W M H r { nx := Dd.nx, rt := fun _ _ => False } := by
  cases r <;> first | exact h | exact h.elim
def sSt (e : Ee) (g : Tg) : Sm := fun ρ S => F.ofR (e ρ S) ρ fun d S1 => (g d ρ S1).on
theorem ds_asg (he : DE X W e fe) (hg : DG X W tg g) (hs : swapsWithSole [tg] e pos.line X.env = pure false := by rfl) (hw : swappedStores [tg] e X.env = pure none := by rfl)
    (h1 : (assignEach [tg] X.env).map (·.2) = [assign tg X.env] := by rfl) : DS X W (.Assign [tg] e pos) (sSt fe g) := psI (ps_asg he hg hs hw h1) fun Dd σ H ⟨M, ρ, S, hr, hs, w⟩ =>
  ⟨M, ρ, S, hr, hs, wpS.ofR hr w fun M1 v H1 a S1 e1 r1 hs1 w1 => ⟨M1, ρ, S1, a, hr.mono e1, hs1, r1, wpS.on w1⟩⟩
def sSet (i : Nat) (e : Ee) : Sm := fun ρ S => F.ofR (e ρ S) ρ fun d S1 => .nx (ρ.set i (some d)) S1
theorem ds_set {i : Nat} {x : Str} {pos' : Pos} (hN : X.N.Nodup) (he : DE X W e fe) (hi : X.N[i]? = some x := by rfl) (hx : Loc X.env.scope x := by first | exact Or.inl rfl | exact Or.inr rfl) (hs : swapsWith e (some (.Name x pos')) pos.line X.env = pure false := by rfl) (hf : X.fn x = true ∨ X.env.scope.names.lookup x = some .local := by first | exact .inl rfl | exact .inr rfl | assumption) :
    DS X W (.Assign [.Name x pos'] e pos) (sSet i fe) := psI (ps_set hN hi hx he hs hf) fun Dd σ H ⟨M, ρ, S, hr, hs, w⟩ =>
  ⟨M, ρ, S, hr, hs, wpS.ofR hr w fun M1 v H1 a S1 e1 r1 hs1 w1 => w1 M1 _ H1 (Ext.refl hs1) ((hr.mono e1).set r1) hs1⟩
/-- a, b = e1, e2 -/
def sPar (i j : Nat) (a b : Ee) : Sm := fun ρ S => F.ofR (a ρ S) ρ fun x S1 => F.ofR (b ρ S1) ρ fun y S2 => .nx ((ρ.set i (some x)).set j (some y)) S2
theorem ds_par {i j : Nat} {x y : Str} {a b : Expr} {fa fb : Ee} {px py pt : Pos} {kt k2 pt2} (hc : X.calm = true) (hN : X.N.Nodup) (ha : DE X W a fa) (hb : DE X W b fb) (hi : X.N[i]? = some x := by rfl) (hj : X.N[j]? = some y := by rfl) (hij : i ≠ j := by decide)
    (hx : X.env.scope.names.lookup x = some .local := by rfl) (hy : X.env.scope.names.lookup y = some .local := by rfl)
    (hw : swappedStores [.Tuple [.Name x px, .Name y py] kt pt] (.Tuple [a, b] k2 pt2) X.env = pure (some [x, y]) := by rfl)
    (hs : swapsWithSole [.Tuple [.Name x px, .Name y py] kt pt] (.Tuple [a, b] k2 pt2) pos.line X.env = pure false := by rfl)
    (he1 : starEach (a :: [b]) X.env = (false, eval a X.env) :: starEach [b] X.env := by rfl) (he2 : starEach (b :: []) X.env = (false, eval b X.env) :: starEach [] X.env := by rfl) :
    DS X W (.Assign [.Tuple [.Name x px, .Name y py] kt pt] (.Tuple [a, b] k2 pt2) pos) (sPar i j fa fb) :=
  psI (ps_par hc hN hi hj hij hx hy (da_cons ha (da_cons hb da_nil he2) he1) hw hs) fun Dd σ H ⟨M, ρ, S, hr, hs, w⟩ => ⟨M, ρ, S, hr, hs, by
    simp only [eArgs]
    refine wpG.imp (Q := fun vs H1 => ∃ v w, vs = [v, w] ∧ Dd.nx ((σ.set i (some v)).set j (some w)) H1) ?_ (fun _ _ h => h)
    unfold sPar at w
    cases ea : fa ρ S with
    | bad => rw [ea] at w; exact w.elim
    | ex x S1 => rw [ea] at w; exact fun M2 H2 cls dd e2 hs q => w M2 σ H2 cls dd e2 (hr.mono e2) hs q
    | ok d1 S1 =>
      rw [ea] at w
      simp only [F.ofR_ok, R.bind_ok] at w ⊢
      cases eb : fb ρ S1 with
      | bad => rw [eb] at w; exact w.elim
      | ex x S2 => rw [eb] at w; exact fun M2 H2 cls dd e2 hs q => w M2 σ H2 cls dd e2 (hr.mono e2) hs q
      | ok d2 S2 =>
        rw [eb] at w
        simp only [F.ofR_ok, R.bind_ok] at w ⊢
        intro M' vs H' e r hs'
        obtain ⟨v1, v2, rfl, r1, r2⟩ := reps2 r
        exact ⟨v1, v2, rfl, w M' _ H' e (((hr.mono e).set r1).set r2) hs'⟩⟩
/-- o[i] = e, o a list that is changed -/
def sIx (e o i : Ee) : Sm := fun ρ S => F.ofR (e ρ S) ρ fun x S1 => F.ofR (o ρ S1) ρ fun l S2 => F.ofR (i ρ S2) ρ fun k S3 => match l, k with
  | .obj n, .int k => match S3[n]? with
    | some (.lst xs) => match ixN xs.length k with
      | some j => .nx ρ (S3.set n (.lst (xs.set j x)))
      | none => .bad
    | _ => .bad
  | _, _ => .bad
theorem ds_ix {o i : Expr} {fo fi : Ee} {pos' : Pos} (he : DE X W e fe) (ho : DE X W o fo) (hi : DE X W i fi) (hs : swapsWithSole [.Subscript o i pos'] e pos.line X.env = pure false := by rfl) (hw : swappedStores [.Subscript o i pos'] e X.env = pure none := by rfl)
    (h1 : (assignEach [.Subscript o i pos'] X.env).map (·.2) = [assign (.Subscript o i pos') X.env] := by rfl) (ha : ∀ v, assign (.Subscript o i pos') X.env v = (do
      let ov ← holding [v] (eval o X.env)
      let iv ← holding [v, ov] (eval i X.env)
      standAt pos'
      holding [v, ov, iv] (setItem ov iv v)
      release [v, ov, iv] []) := by intro _; rfl) : DS X W (.Assign [.Subscript o i pos'] e pos) (sIx fe fo fi) :=
  psI (ps_asg he (pg_sub ho hi set_list ha) hs hw h1) fun Dd σ H ⟨M, ρ, S, hr, hs, w⟩ => ⟨M, ρ, S, hr, hs, wpS.ofR hr w fun M1 v H1 a S1 e1 r1 hs1 w1 =>
    ⟨M1, ρ, S1, hr.mono e1, hs1, wpS.ofR (hr.mono e1) w1 fun M2 l H2 d2 S2 e2 r2 hs2 w2 => ⟨M2, ρ, S2, (hr.mono e1).mono e2, hs2, wpS.ofR ((hr.mono e1).mono e2) w2 fun M3 k H3 d3 S3 e3 r3 hs3 w3 => by
      have r1' := (r1.mono e2).mono e3
      have r2' := r2.mono e3
      split at w3
      · rename_i n k
        cases r3
        cases r2' with
        | @obj n a hn =>
          split at w3
          · rename_i xs hx
            split at w3
            · rename_i j hj
              obtain ⟨vs, h1, q1⟩ := hs3.at n a _ hn hx
              have e4 : Ext M3 H3 M3 (upd H3 a (.lst (vs.set j v))) := hs3.ext_write hn
              refine ⟨a, vs, k, j, rfl, rfl, h1, by rw [q1.length]; exact hj, ?_⟩
              exact w3 M3 σ _ e4 ((((hr.mono e1).mono e2).mono e3).mono e4) (hs3.write hn ⟨_, upd_same, Reps.set (r1'.mono e4) j (q1.mono e4)⟩)
            · exact w3.elim
          · exact w3.elim
      · exact w3.elim⟩⟩⟩
/-- x op= e, x a name -/
def sAug (i : Nat) (g : D → D → Sto → R D) (e : Ee) : Sm := fun ρ S => F.ofR (eVar i ρ S) ρ fun x S1 => F.ofR (e ρ S1) ρ fun y S2 => F.ofR (g x y S2) ρ fun z S3 => .nx (ρ.set i (some z)) S3
end
end DL
/-! enumerate over a tuple -/
namespace DL
open PySem PySem.Spec PyProof.Rows L2
theorem meets_enumerate_newT (l : Addr) (items : Array Value) :
    Meets (Builtin.«enumerate.__new__» ⟨[.type "enumerate", .ref l], []⟩) (fun _ R s => s.heap.IsTuple l items ∧
      R (.ok (.ret (.ref (s.heap.push { cls := .type "tuple_iterator", data := .fields #[.ref l, .int 0 0] }).objs.size)))
        { s with heap := (s.heap.push { cls := .type "tuple_iterator", data := .fields #[.ref l, .int 0 0] }).push { cls := .type "enumerate", data := .fields #[.none, .bool false, .ref s.heap.objs.size, rawInt 0, .none, .none] } }) :=
  .of_wp fun prog w A R s h => by
    obtain ⟨hp, g, d, tk, os⟩ := s; obtain ⟨hl, h⟩ := h
    have hsub := sub_enumerate
    have hL : Heap.IsTuple (Shared.heap ⟨hp, g, d, tk, os⟩) l items := hl
    have q1 : ∀ {A' : Around} {E : Value → Shared → Prop} {Q : Value → Shared → Prop}, Q (.ref hp.objs.size) ⟨hp.push { cls := .type "tuple_iterator", data := .fields #[.ref l, .int 0 0] }, g, d, tk, os⟩ → wpAny (model prog w) A' (pyIter (.ref l)) Q E ⟨hp, g, d, tk, os⟩ :=
      fun q => (begins_tuple l items).iter prog w _ _ ⟨hp, g, d, tk, os⟩ _ hL q
    wp_walk using q1
    refine wpAny_stack_any fun st => wpAny_pure ?_
    split
    · rename_i c _ _ _ _ _
      cases (c == Value.type "enumerate")
      · wp_walk using q1
        exact ⟨_, rfl, h⟩
      · wp_walk using q1
        exact ⟨_, rfl, h⟩
    · wp_walk using q1
      exact ⟨_, rfl, h⟩
section
variable {prog : Program} {w : World} {A : Around} {E : Value → Shared → Prop} {s : Shared}
theorem call_enumerate_tup {l : Addr} {items : Array Value} {Q : Value → Shared → Prop} (hL : s.heap.IsTuple l items)
    (h : ∀ h', IsEnum h' (s.heap.objs.size + 1) s.heap.objs.size 0 .none → h'.IsTupleIter s.heap.objs.size l 0 → h'.objs.size = s.heap.objs.size + 2 →
      (∀ b o, s.heap.get? b = some o → h'.get? b = some o) → Q (.ref (s.heap.objs.size + 1)) { s with heap := h' }) :
    wpAny (model prog w) A (call (.type "enumerate") [.ref l]) Q E s := by
  refine callType_new F.called_enumerate (by decide) (F.typeCall_enumerate_1 _) (F.newCall_enumerate_1 _) (fun obj => F.args_object_init_2 obj _) F.entry_enumerate_new
    (meets_enumerate_newT l items) ⟨hL, ?_⟩
  have hz : (s.heap.push { cls := .type "tuple_iterator", data := .fields #[.ref l, .int 0 0] }).objs.size = s.heap.objs.size + 1 := Heap.size_push ..
  show _ ∧ _
  rw [hz]
  have he : IsEnum ((s.heap.push { cls := .type "tuple_iterator", data := .fields #[.ref l, .int 0 0] }).push
      { cls := .type "enumerate", data := .fields #[.none, .bool false, .ref s.heap.objs.size, rawInt 0, .none, .none] }) (s.heap.objs.size + 1) s.heap.objs.size 0 .none := by
    have := Heap.get?_push_size (s.heap.push { cls := .type "tuple_iterator", data := .fields #[.ref l, .int 0 0] })
      (o := { cls := .type "enumerate", data := .fields #[.none, .bool false, .ref s.heap.objs.size, rawInt 0, .none, .none] }) rfl
    rw [hz] at this; exact this
  refine ⟨⟨_, he, rfl⟩, h _ he ⟨_, Heap.get?_push_of_some _ (Heap.get?_push_size _ rfl), rfl, rfl⟩ (by rw [Heap.size_push, hz]) fun b o x => Heap.get?_push_of_some _ (Heap.get?_push_of_some _ x)⟩
theorem wpAny_pyNext_enum_endT {e it t : Addr} {k : Nat} {items : Array Value} {i : Int} {old : Value} {Q : Option Value → Shared → Prop}
    (hh : A.in1.handled = none) (he : IsEnum s.heap e it i old) (hit : s.heap.IsTupleIter it t k) (ht : s.heap.IsTuple t items) (hx : items[k]? = none)
    (hQ : ∀ h', Heap.ExtBut it s.heap h' → Q none { s with heap := h' }) : wpAny (model prog w) A (pyNext (.ref e)) Q E s := by
  have hT : s.TypeIs (.ref e) "enumerate" := ⟨_, he, rfl⟩
  unfold pyNext
  refine wpAny_bind (wpAny_attempt (wpAny_callSpecial?_slot (name := Str.ofString "__next__") hT F.slot_enumerate_next
    (wpAny_call_entry F.slot_enumerate_next hT F.entry_enumerate_next ?_ (F.args_enumerate_next_1 _))))
  show wpAny _ _ (field (.ref e) 2 >>= _) _ _ _
  refine wpAny_bind (wpAny_field he rfl (x := .ref it) rfl ?_)
  refine wpAny_bind (wpAny_nextOf_tuple_end hh hit ht hx fun h' x he' hx' => ?_)
  obtain ⟨o, ho, hc⟩ := hx'
  refine wpAny_bind (wpAny_isInstance (T := "StopIteration") (b := true) ⟨o, ho, hc⟩ isSubtype_stop ?_)
  exact wpAny_pure (hQ _ he')
end
/-- the tuple at a, each item in a new pair -/
def Itet (K : PySem.W.Frag) (a : Addr) : It :=
  ⟨fun i H => ∃ (xs : List V) (x : V), SqT K H a xs ∧ xs[i]? = some x, fun i H v H' => ∃ T x, v = .ref T ∧ H T = none ∧ H' = upd H T (.tup [.int (i : Nat), x]) ∧ ∀ xs, SqT K H a xs → xs[i]? = some x, fun i H => ∃ xs : List V, SqT K H a xs ∧ xs.length ≤ i⟩
theorem turn_enumT {P : Program} {w : World} {K : PySem.W.Frag} {elts : List Expr} {kk : Nat} {tpos : Pos} (a e it : Addr) :
    Turn P w K (.Tuple elts kk tpos) (Itet K a) [e, it] e (fun i h => (∃ old, IsEnum h e it ((i : Nat) : Int) old) ∧ h.IsTupleIter it a i ∧ e ≠ it ∧ a ≠ it ∧ a ≠ e) where
  mem := by simp
  obj := fun i h st b hb => by
    obtain ⟨⟨old, he⟩, ⟨o, ho, hc, hd⟩, _⟩ := st
    have e' : b = e ∨ b = it := by simpa using hb
    rcases e' with z | z
    · rw [z]; exact ⟨_, he, fun v q => nomatch q⟩
    · rw [z]; exact ⟨o, ho, fun v q => by rw [hd] at q; cases q⟩
  keep := fun i h h' st k => let ⟨⟨old, he⟩, hi, hne⟩ := st; ⟨⟨old, k e (by simp) _ he⟩, hi.at fun o q => k it (by simp) o q, hne⟩
  item := by
    intro X hP hw hK hc i pins s σ H E I hf st hg
    subst hP hw hK
    obtain ⟨⟨old, he⟩, hit, hne, hai, hae⟩ := st
    obtain ⟨xs, x, hq, hx⟩ := hg
    obtain ⟨its, rv, p, hz⟩ := I.tuple hq
    obtain ⟨u, hu, ru⟩ := rv.get hx
    have hel : e < s.heap.objs.size := Heap.lt_size he
    have hil : it < s.heap.objs.size := by obtain ⟨_, q, _⟩ := hit; exact Heap.lt_size q
    have hlt : i < its.toArray.size := by
      have := (List.getElem?_eq_some_iff.mp hu).1
      simpa using this
    refine wpAny_pyNext_enum_itemD (Draws.tuple (A := X.A.in1) (show X.A.in1.handled = none from I.ok.hd hc) it a hai its.toArray) he ⟨hit, p⟩ hlt hne (by simp; exact ⟨hne, fun z => hae z.symm⟩) fun x1 h' tk hP1 ho hit' hT hsz hk => ?_
    have hxu : x1 = u := by
      have e1 : its.toArray[i]? = some x1 := hP1
      have e2 : its.toArray[i]? = some u := by simpa using hu
      rw [e1] at e2; exact Option.some.inj e2
    subst hxu
    refine ⟨_, rfl, wpAny_letOwnedTupleGo_enum (s := { s with heap := h', toks := tk + 1 }) ho fun h'' he' sb => ?_⟩
    have hT2 : h''.get? s.heap.objs.size = some { cls := .type "tuple", data := .seq #[.int i tk, x1] } := (sb.2 _ (Nat.ne_of_gt hel)).trans hT
    have new : ObjOk X.prog X.w (upd H s.heap.objs.size (.tup [.int (i : Nat), x])) h'' s.heap.objs.size (.tup [.int (i : Nat), x]) :=
      ⟨by show 2 ≤ sizeLine; decide, [.int i tk, x1], .cons ⟨_, rfl⟩ (.cons ru .nil), ⟨_, hT2, rfl, _, rfl⟩⟩
    have I1 : Inv X pins σ (upd H s.heap.objs.size (.tup [.int (i : Nat), x])) { s with heap := h'', toks := tk + 1 } :=
      I.turnedNew (ch := [e, it]) (fun b ob hb q => (sb.2 b (fun z => hb (by simp [z]))).trans (hk b ob (fun z => hb (by simp [z])) (fun z => hb (by simp [z])) q)) hf (Nat.le_refl _) new
    refine ⟨.ref s.heap.objs.size, _, I1, rfl, ⟨_, x, rfl, I.hok.fresh (Nat.le_refl _), rfl, fun ys hy => ?_⟩, ⟨⟨x1, ?_⟩, hit'.1.at fun o q => (sb.2 it (Ne.symm hne)).trans q, hne, hai, hae⟩, fun b hb => ?_⟩
    · rw [I.tuple_inj hy hq]; exact hx
    · have e1 : ((i + 1 : Nat) : Int) = (i : Int) + 1 := by omega
      rw [e1]; exact he'
    · have hb' : b < s.heap.objs.size := by
        have e' : b = e ∨ b = it := by simpa using hb
        rcases e' with z | z
        · rw [z]; exact hel
        · rw [z]; exact hil
      rw [upd_ne (Nat.ne_of_lt hb')]
      exact (hf b hb).1
  done := by
    intro X hP hw hK hc i pins s σ H E I hf st hg
    subst hP hw hK
    obtain ⟨⟨old, he⟩, hit, hne, hai, hae⟩ := st
    obtain ⟨xs, hq, hx⟩ := hg
    obtain ⟨its, rv, p, hz⟩ := I.tuple hq
    obtain ⟨f0, f1, f2, f3, f4, f5⟩ := hf it (by simp)
    have hl := rv.length
    exact wpAny_pyNext_enum_endT (I.ok.hd hc) he hit p (by simp; omega) fun h' eb => ⟨rfl, I.turned (t' := s.toks) (fun b o hb q => eb b o hb q) f0 f1 f3 f4 f5⟩
  self := fun A i s Q E st h => let ⟨⟨_, he⟩, _⟩ := st; wpAny_pyIter_enum he h
def iEnumA (K : PySem.W.Frag) (ta : TA) : TI := fun σ H R => ta σ H fun vs H1 => ∃ a, vs = [.ref a] ∧ ((∃ xs, SqL K H1 a xs ∧ R (Ite K a) H1) ∨ (∃ xs, SqT K H1 a xs ∧ R (Itet K a) H1))
theorem pi_enumA {X : Cx} {e : Expr} {ta : TA} {p pos tpos : Pos} {elts : List Expr} {kk : Nat} (hg : Gl X "enumerate") (hm : X.mg "enumerate" = none) (ha : PA X [e] ta) (hs : starEach [e] X.env = [(false, eval e X.env)] := by rfl) :
    PI X (.Tuple elts kk tpos) (.Call (.Name "enumerate" p) [e] [] pos) (iEnumA X.K ta) := by
  refine ⟨fun pins s σ H R I h => ?_⟩
  refine Call_ (ld_blt I hg hm boot_enumerate (PyProof.Rows.callWith_type1 (thn (ha.run pos pins s σ H _ I h) fun us s1 ⟨vs, H1, I1, r1, q1⟩ => ?_) hs rfl))
  obtain ⟨a, ex, hq⟩ := q1
  subst ex
  cases r1 with
  | cons r rr =>
    cases rr
    cases r
    have fp : ∀ b ∈ [s1.heap.objs.size + 1, s1.heap.objs.size], s1.heap.objs.size ≤ b := fun b hb => by
      have e' : b = s1.heap.objs.size + 1 ∨ b = s1.heap.objs.size := by simpa using hb
      rcases e' with z | z
      · rw [z]; exact Nat.le_add_right _ _
      · rw [z]; exact Nat.le_refl _
    rcases hq with ⟨xs, hq, q⟩ | ⟨xs, hq, q⟩
    · obtain ⟨its, rv, p', hz⟩ := I1.list hq
      refine call_enumerate_list p'.isList fun h' he hit hsz hk => wpAny_pyIter_enum he ?_
      have I2 : Inv X pins σ H1 { s1 with heap := h' } := I1.kept (t' := s1.toks) hk
      exact ⟨s1.heap.objs.size + 1, [s1.heap.objs.size + 1, s1.heap.objs.size], _, _, H1, rfl, I2, turn_enum a (s1.heap.objs.size + 1) s1.heap.objs.size, ⟨⟨.none, he⟩, hit, Nat.succ_ne_self _⟩, fun b hb => I1.fpOk (fp b hb) (I1.hok.fresh (fp b hb)), q⟩
    · obtain ⟨its, rv, p', hz⟩ := I1.tuple hq
      have hal : a < s1.heap.objs.size := by obtain ⟨_, z, _⟩ := p'; exact Heap.lt_size z
      refine call_enumerate_tup p' fun h' he hit hsz hk => wpAny_pyIter_enum he ?_
      have I2 : Inv X pins σ H1 { s1 with heap := h' } := I1.kept (t' := s1.toks) hk
      exact ⟨s1.heap.objs.size + 1, [s1.heap.objs.size + 1, s1.heap.objs.size], _, _, H1, rfl, I2, turn_enumT a (s1.heap.objs.size + 1) s1.heap.objs.size, ⟨⟨.none, he⟩, hit, Nat.succ_ne_self _, Nat.ne_of_lt hal, Nat.ne_of_lt (Nat.lt_succ_of_lt hal)⟩, fun b hb => I1.fpOk (fp b hb) (I1.hok.fresh (fp b hb)), q⟩
end DL
namespace DL
open PySem PySem.Spec PyProof.Rows L2

/-! ### while -/
/-- the flow of a turn: on, or out of the loop -/
def F.turn (r : F) (k : Sm) : F := match r with
  | .nx ρ S => k ρ S
  | .ct ρ S => k ρ S
  | .bk ρ S => .nx ρ S
  | r => r
@[simp] theorem F.turn_nx (ρ : Rho) (S : Sto) (k : Sm) : (F.nx ρ S).turn k = k ρ S := rfl
@[simp] theorem F.turn_ct (ρ : Rho) (S : Sto) (k : Sm) : (F.ct ρ S).turn k = k ρ S := rfl
@[simp] theorem F.turn_bk (ρ : Rho) (S : Sto) (k : Sm) : (F.bk ρ S).turn k = .nx ρ S := rfl
@[simp] theorem F.turn_rt (d : D) (S : Sto) (k : Sm) : (F.rt d S).turn k = .rt d S := rfl
@[simp] theorem F.turn_ex (e : Exn) (ρ : Rho) (S : Sto) (k : Sm) : (F.ex e ρ S).turn k = .ex e ρ S := rfl
@[simp] theorem F.turn_bad (k : Sm) : F.bad.turn k = .bad := rfl
section
variable {K : PySem.W.Frag} {W : WX} {M : Mp} {H : Hp} {r : F} {Dd : Ends}
theorem wpS.turn {k : Sm} {N : L2.St → Hp → Prop} (h : wpS K W M H (r.turn k) Dd)
    (nx : ∀ M1 σ1 H1 ρ1 S1, Ext M H M1 H1 → RepE K M1 H1 σ1 ρ1 → HS K M1 S1 H1 → wpS K W M1 H1 (k ρ1 S1) Dd → N σ1 H1) : wpS K W M H r { Dd with nx := N, ct := N, bk := Dd.nx } := by
  cases r with
  | nx ρ' S' => exact fun M2 s H2 e2 r hs => nx M2 s H2 ρ' S' e2 r hs (wpS.ext e2 h)
  | rt d S' => exact h
  | bk ρ' S' => exact h
  | ct ρ' S' => exact fun M2 s H2 e2 r hs => nx M2 s H2 ρ' S' e2 r hs (wpS.ext e2 h)
  | ex x ρ' S' => exact h
  | bad => exact h
end
def sWh : Nat → Et → Sm → Sm
  | 0, _, _ => fun _ _ => .bad
  | n + 1, t, b => fun ρ S => F.ofR (t ρ S) ρ fun k S1 => match k with
    | true => (b ρ S1).turn (sWh n t b)
    | false => .nx ρ S1
section
variable {X : Cx} {W : WX} {pos : Pos} {c : Expr} {body : List Stmt} {t : Et} {b : Sm}
theorem ds_while (n : Nat) (hp : PassesOwn (model X.prog X.w) X.A X.env X.xe) (hc : DT X W c t) (hb : DSs X W body b) : DS X W (.While c body [] pos) (sWh n t b) := psI (ps_while hp hc hb) fun Dd σ H ⟨M, ρ, S, hr, hs, w⟩ => by
  refine ⟨fun m σ H => ∃ M ρ S, RepE X.K M H σ ρ ∧ HS X.K M S H ∧ wpS X.K W M H (sWh m t b ρ S) Dd, ⟨n, M, ρ, S, hr, hs, w⟩, fun m σ H ⟨M, ρ, S, hr, hs, w⟩ => ?_⟩
  cases m with
  | zero => exact w.elim
  | succ m =>
    refine ⟨M, ρ, S, hr, hs, wpS.ofR hr w fun M1 k H1 k' S1 e1 r1 hs1 w1 => ?_⟩
    subst r1
    cases k with
    | true =>
      rw [if_pos rfl]
      exact ⟨fun σ' H' => ∃ M ρ S, RepE X.K M H' σ' ρ ∧ HS X.K M S H' ∧ wpS X.K W M H' (sWh m t b ρ S) Dd, fun σ' H' q => ⟨m, Nat.lt_succ_self m, q⟩, M1, ρ, S1, hr.mono e1, hs1, wpS.turn w1 fun M2 σ2 H2 ρ2 S2 e2 r2 hs2 w2 => ⟨M2, ρ2, S2, r2, hs2, w2⟩⟩
    | false =>
      rw [if_neg Bool.false_ne_true]
      exact w1 M1 σ H1 (Ext.refl hs1) (hr.mono e1) hs1
end

/-! ### what is walked -/
inductive Src where
  | it (d : D) | rng (lo : Int) (n : Nat) | en (d : D) | zp (a b : D) | st (x : Str)
def itsOf (S : Sto) (d : D) : Option (List D) := match view S d with
  | .lst xs => some xs
  | .tup xs => some xs
  | _ => none
def srcAt (S : Sto) (i : Nat) : Src → Option D
  | .it d => match itsOf S d with
    | some xs => xs[i]?
    | none => none
  | .rng lo n => if i < n then some (.int (lo + i)) else none
  | .en d => match itsOf S d with
    | some xs => match xs[i]? with
      | some x => some (.tup [.int i, x])
      | none => none
    | none => none
  | .zp a b => match itsOf S a, itsOf S b with
    | some xs, some ys => match xs[i]?, ys[i]? with
      | some x, some y => some (.tup [x, y])
      | _, _ => none
    | _, _ => none
  | .st x => match x.cps[i]? with
    | some c => some (.str ⟨#[c]⟩)
    | none => none
def srcLen (S : Sto) : Src → Option Nat
  | .it d => match itsOf S d with
    | some xs => some xs.length
    | none => none
  | .rng _ n => some n
  | .en d => match itsOf S d with
    | some xs => some xs.length
    | none => none
  | .zp a b => match itsOf S a, itsOf S b with
    | some xs, some ys => some (min xs.length ys.length)
    | _, _ => none
  | .st x => some x.cps.size
def isL : D → Bool
  | .lst _ => true
  | .obj _ => true
  | _ => false
/-- the library's walk J goes as the source says -/
inductive SrcIs (K : PySem.W.Frag) (M : Mp) (H : Hp) : It → Src → Prop
  | lst {a : Addr} {d : D} : isL d = true → Rep K M H (.ref a) d → SrcIs K M H (Itl K a) (.it d)
  | tup {a : Addr} {xs : List D} : Rep K M H (.ref a) (.tup xs) → SrcIs K M H (Itt K a) (.it (.tup xs))
  | rng (lo : Int) (n : Nat) : SrcIs K M H (Itr lo n) (.rng lo n)
  | en {a : Addr} {d : D} : isL d = true → Rep K M H (.ref a) d → SrcIs K M H (Ite K a) (.en d)
  | enT {a : Addr} {xs : List D} : Rep K M H (.ref a) (.tup xs) → SrcIs K M H (Itet K a) (.en (.tup xs))
  | zp {a b : Addr} {d e : D} : isL d = true → isL e = true → Rep K M H (.ref a) d → Rep K M H (.ref b) e → SrcIs K M H (Itz K a b) (.zp d e)
  | st (x : Str) : SrcIs K M H (Its x) (.st x)
theorem SrcIs.mono {K : PySem.W.Frag} {M M' : Mp} {H H' : Hp} {J : It} {s : Src} (h : SrcIs K M H J s) (e : Ext M H M' H') : SrcIs K M' H' J s := by
  cases h with
  | lst l r => exact .lst l (r.mono e)
  | tup r => exact .tup (r.mono e)
  | rng lo n => exact .rng lo n
  | en l r => exact .en l (r.mono e)
  | enT r => exact .enT (r.mono e)
  | zp l l2 r r2 => exact .zp l l2 (r.mono e) (r2.mono e)
  | st x => exact .st x
theorem SrcIs.hideNew {K : PySem.W.Frag} {M : Mp} {H : Hp} {J : It} {s : Src} {Dd : Addr} {o : HO} (h : SrcIs K M H J s) (hD : H Dd = none) : SrcIs K (M.hide Dd) (upd H Dd o) J s := by
  cases h with
  | lst l r => exact .lst l (r.hide hD).upd
  | tup r => exact .tup (r.hide hD).upd
  | rng lo n => exact .rng lo n
  | en l r => exact .en l (r.hide hD).upd
  | enT r => exact .enT (r.hide hD).upd
  | zp l l2 r r2 => exact .zp l l2 (r.hide hD).upd (r2.hide hD).upd
  | st x => exact .st x
theorem SrcIs.upd {K : PySem.W.Frag} {M : Mp} {H : Hp} {J : It} {s : Src} {Dd : Addr} {o : HO} (h : SrcIs K (M.hide Dd) H J s) : SrcIs K (M.hide Dd) (L2.upd H Dd o) J s := by
  cases h with
  | lst l r => exact .lst l r.upd
  | tup r => exact .tup r.upd
  | rng lo n => exact .rng lo n
  | en l r => exact .en l r.upd
  | enT r => exact .enT r.upd
  | zp l l2 r r2 => exact .zp l l2 r.upd r2.upd
  | st x => exact .st x
abbrev Es := Rho → Sto → R Src
def tDI (K : PySem.W.Frag) (W : WX) (f : Es) : TI := fun σ H Rr => ∃ M ρ S, RepE K M H σ ρ ∧ HS K M S H ∧ wpG (fun M H (J : It) s => SrcIs K M H J s) K W σ M H (f ρ S) Rr
abbrev DI (X : Cx) (W : WX) (tg iter : Expr) (f : Es) : Prop := PI X tg iter (tDI X.K W f)
section
variable {X : Cx} {W : WX} {pos p : Pos} {tg e a b : Expr} {es : List Expr} {f fa fb : Ee} {fs : List Ee}
theorem piI {t t' : TI} (h : PI X tg e t) (w : ∀ σ H Q, t' σ H Q → t σ H Q) : PI X tg e t' := ⟨fun pins s σ H R I q => h.run pins s σ H R I (w σ H R q)⟩
def eIt (f : Ee) : Es := fun ρ S => (f ρ S).bind fun d S1 => .ok (.it d) S1
def iSeq (K : PySem.W.Frag) (tl : TE) : TI := fun σ H R => tl σ H fun x H1 => ∃ a, x = .ref a ∧ ((∃ xs, SqL K H1 a xs ∧ R (Itl K a) H1) ∨ (∃ xs, SqT K H1 a xs ∧ R (Itt K a) H1))
theorem pi_seq {l : Expr} {tl : TE} (hl : PE X l tl) : PI X tg l (iSeq X.K tl) := by
  refine ⟨fun pins s σ H R I h => ?_⟩
  refine thn (hl.run pins s σ H _ I h) fun v s1 ⟨x, H1, I1, r1, q1⟩ => ?_
  obtain ⟨a, e, q⟩ := q1
  subst e
  cases r1
  rcases q with ⟨xs, hq, q⟩ | ⟨xs, hq, q⟩
  · obtain ⟨its, rv, p, hz⟩ := I1.list hq
    refine wpAny_pyIter_list p.isList ?_
    refine ⟨s1.heap.objs.size, [s1.heap.objs.size], _, _, H1, rfl, I1.kept (t' := s1.toks) fun b o e => Heap.get?_push_of_some _ e, turn_list a _, ⟨_, Heap.get?_push_size _ rfl, rfl, rfl⟩, fun b hb => ?_, q⟩
    have e : b = s1.heap.objs.size := by simpa using hb
    subst e
    exact I1.fpOk (Nat.le_refl _) (I1.hok.fresh (Nat.le_refl _))
  · obtain ⟨its, rv, p, hz⟩ := I1.tuple hq
    refine wpAny_pyIter_tuple (show s1.heap.IsTuple a its.toArray from p) ?_
    refine ⟨s1.heap.objs.size, [s1.heap.objs.size], _, _, H1, rfl, I1.kept (t' := s1.toks) fun b o e => Heap.get?_push_of_some _ e, turn_tuple a _, ⟨_, Heap.get?_push_size _ rfl, rfl, rfl⟩, fun b hb => ?_, q⟩
    have e : b = s1.heap.objs.size := by simpa using hb
    subst e
    exact I1.fpOk (Nat.le_refl _) (I1.hok.fresh (Nat.le_refl _))
theorem rep_ref {K : PySem.W.Frag} {M : Mp} {H : Hp} {S : Sto} {v : V} {d : D} {xs : List D} (hs : HS K M S H) (r : Rep K M H v d) (h : itsOf S d = some xs) :
    (∃ a vs, v = .ref a ∧ view S d = .lst xs ∧ H a = some (.lst vs) ∧ Reps K M H vs xs) ∨ (∃ a vs, v = .ref a ∧ view S d = .tup xs ∧ SqT K H a vs ∧ Reps K M H vs xs) := by
  unfold itsOf at h
  split at h
  · rename_i ys e
    cases h
    obtain ⟨a, vs, rfl, h1, h2⟩ := view_lst hs r e
    exact .inl ⟨a, vs, rfl, e, h1, h2⟩
  · rename_i ys e
    cases h
    obtain ⟨a, vs, rfl, h1, h2⟩ := view_tup r e
    exact .inr ⟨a, vs, rfl, e, h1, h2⟩
  · cases h
theorem isL_ref {K : PySem.W.Frag} {M : Mp} {H : Hp} {S : Sto} {a : Addr} {d : D} {xs : List D} (hs : HS K M S H) (l : isL d = true) (r : Rep K M H (.ref a) d) (h : itsOf S d = some xs) : ∃ vs, H a = some (.lst vs) ∧ Reps K M H vs xs := by
  rcases rep_ref hs r h with ⟨a', vs, ea, ev, h1, h2⟩ | ⟨a', vs, ea, ev, h1, h2⟩
  · cases ea; exact ⟨vs, h1, h2⟩
  · exfalso
    cases d with
    | lst ys => simp only [view] at ev; cases ev
    | obj n => rcases view_obj ev with ⟨_, h⟩ | h <;> cases h
    | _ => cases l
theorem SrcIs.ok {K : PySem.W.Frag} {M : Mp} {H : Hp} {S : Sto} {J : It} {s : Src} (h : SrcIs K M H J s) (hs : HS K M S H) :
    (∀ i x, srcAt S i s = some x → J.go i H ∧ ∀ v H', J.yld i H v H' → Ext M H M H' ∧ HS K M S H' ∧ Rep K M H' v x) ∧ (∀ i n, srcLen S s = some n → n ≤ i → J.stop i H) := by
  cases h with
  | @lst a d l r =>
    refine ⟨fun i x hx => ?_, fun i n hn hle => ?_⟩
    · simp only [srcAt] at hx
      split at hx
      · rename_i ys hy
        obtain ⟨vs, h1, h2⟩ := isL_ref hs l r hy
        obtain ⟨v, hv, rv⟩ := h2.get' hx
        refine ⟨⟨vs, v, SqL.of h1, hv⟩, fun w H' hq => ?_⟩
        obtain ⟨rfl, hq⟩ := hq
        have := hq vs (SqL.of h1)
        rw [hv] at this
        cases this
        exact ⟨Ext.refl hs, hs, rv⟩
      · cases hx
    · simp only [srcLen] at hn
      split at hn
      · rename_i ys hy
        cases hn
        obtain ⟨vs, h1, h2⟩ := isL_ref hs l r hy
        exact ⟨vs, SqL.of h1, by rw [h2.length]; exact hle⟩
      · cases hn
  | @tup a xs r =>
    cases r with
    | @tup _ vs _ q rs =>
      refine ⟨fun i x hx => ?_, fun i n hn hle => ?_⟩
      · simp only [srcAt, itsOf, view] at hx
        obtain ⟨v, hv, rv⟩ := rs.get' hx
        refine ⟨⟨vs, v, q.seq, hv⟩, fun w H' hq => ?_⟩
        obtain ⟨rfl, hq⟩ := hq
        have := hq vs q.seq
        rw [hv] at this
        cases this
        exact ⟨Ext.refl hs, hs, rv⟩
      · simp only [srcLen, itsOf, view] at hn
        cases hn
        exact ⟨vs, q.seq, by rw [rs.length]; exact hle⟩
  | rng lo n =>
    refine ⟨fun i x hx => ?_, fun i m hn hle => ?_⟩
    · simp only [srcAt] at hx
      split at hx
      · rename_i hi
        cases hx
        refine ⟨hi, fun w H' hq => ?_⟩
        obtain ⟨rfl, rfl⟩ := hq
        exact ⟨Ext.refl hs, hs, .int _⟩
      · cases hx
    · simp only [srcLen] at hn
      cases hn
      exact hle
  | @en a d l r =>
    refine ⟨fun i x hx => ?_, fun i n hn hle => ?_⟩
    · simp only [srcAt] at hx
      split at hx
      · rename_i ys hy
        split at hx
        · rename_i y hy2
          cases hx
          obtain ⟨vs, h1, h2⟩ := isL_ref hs l r hy
          obtain ⟨v, hv, rv⟩ := h2.get' hy2
          refine ⟨⟨vs, v, SqL.of h1, hv⟩, fun w H' hq => ?_⟩
          obtain ⟨T, y', rfl, hT, rfl, hq⟩ := hq
          have := hq vs (SqL.of h1)
          rw [hv] at this
          cases this
          exact ⟨Ext.same hs (Same.new hT), hs.same (Same.new hT), Rep.newT hs hT (.cons (.int _) (.cons rv .nil))⟩
        · cases hx
      · cases hx
    · simp only [srcLen] at hn
      split at hn
      · rename_i ys hy
        cases hn
        obtain ⟨vs, h1, h2⟩ := isL_ref hs l r hy
        exact ⟨vs, SqL.of h1, by rw [h2.length]; exact hle⟩
      · cases hn
  | @enT a xs r =>
    cases r with
    | @tup _ vs _ q rs =>
      refine ⟨fun i x hx => ?_, fun i n hn hle => ?_⟩
      · simp only [srcAt, itsOf, view] at hx
        split at hx
        · rename_i y hy2
          cases hx
          obtain ⟨v, hv, rv⟩ := rs.get' hy2
          refine ⟨⟨vs, v, q.seq, hv⟩, fun w H' hq => ?_⟩
          obtain ⟨T, y', rfl, hT, rfl, hq⟩ := hq
          have := hq vs q.seq
          rw [hv] at this
          cases this
          exact ⟨Ext.same hs (Same.new hT), hs.same (Same.new hT), Rep.newT hs hT (.cons (.int _) (.cons rv .nil))⟩
        · cases hx
      · simp only [srcLen, itsOf, view] at hn
        cases hn
        exact ⟨vs, q.seq, by rw [rs.length]; exact hle⟩
  | @zp a b d e l l2 r r2 =>
    refine ⟨fun i x hx => ?_, fun i n hn hle => ?_⟩
    · simp only [srcAt] at hx
      split at hx
      · rename_i xs ys hy hz
        split at hx
        · rename_i y z hy2 hz2
          cases hx
          obtain ⟨vs, h1, h2⟩ := isL_ref hs l r hy
          obtain ⟨ws, k1, k2⟩ := isL_ref hs l2 r2 hz
          obtain ⟨v, hv, rv⟩ := h2.get' hy2
          obtain ⟨w, hw, rw'⟩ := k2.get' hz2
          refine ⟨⟨vs, ws, v, w, SqL.of h1, SqL.of k1, hv, hw⟩, fun u H' hq => ?_⟩
          obtain ⟨T, y', z', rfl, hT, rfl, hq, hq2⟩ := hq
          have t1 := hq vs (SqL.of h1)
          rw [hv] at t1
          cases t1
          have t2 := hq2 ws (SqL.of k1)
          rw [hw] at t2
          cases t2
          exact ⟨Ext.same hs (Same.new hT), hs.same (Same.new hT), Rep.newT hs hT (.cons rv (.cons rw' .nil))⟩
        · cases hx
      · cases hx
    · simp only [srcLen] at hn
      split at hn
      · rename_i xs ys hy hz
        cases hn
        obtain ⟨vs, h1, h2⟩ := isL_ref hs l r hy
        obtain ⟨ws, k1, k2⟩ := isL_ref hs l2 r2 hz
        refine ⟨vs, ws, SqL.of h1, SqL.of k1, ?_⟩
        rw [h2.length, k2.length]
        omega
      · cases hn
  | st x =>
    refine ⟨fun i y hy => ?_, fun i m hn hle => ?_⟩
    · simp only [srcAt] at hy
      split at hy
      · rename_i c hc
        cases hy
        refine ⟨(Array.getElem?_eq_some_iff.mp hc).1, fun w H' hq => ?_⟩
        obtain ⟨rfl, c', hc', rfl⟩ := hq
        rw [hc] at hc'
        cases hc'
        exact ⟨Ext.refl hs, hs, .str _⟩
      · cases hy
    · simp only [srcLen] at hn
      cases hn
      exact hle
/-- .. of what can be walked -/
def eItS (f : Ee) : Es := fun ρ S => (f ρ S).bind fun d S1 => match itsOf S1 d with
  | some _ => .ok (.it d) S1
  | none => .bad
theorem view_isL {S : Sto} {d : D} {xs : List D} (h : view S d = .lst xs) : isL d = true := by
  cases d with
  | lst ys => rfl
  | obj n => rfl
  | _ => simp only [view] at h; cases h
theorem di_seq (h : DE X W e f) : DI X W tg e (eItS f) := piI (pi_seq h) fun σ H Rr ⟨M, ρ, S, hr, hs, w⟩ => ⟨M, ρ, S, hr, hs, wpG.bind w fun M1 v H1 d S1 e1 r1 hs1 w1 => by
  split at w1
  · rename_i xs hx
    rcases rep_ref hs1 r1 hx with ⟨a, vs, rfl, ev, h1, h2⟩ | ⟨a, vs, rfl, ev, h1, h2⟩
    · exact ⟨a, rfl, .inl ⟨vs, SqL.of h1, w1 M1 (Itl X.K a) H1 (Ext.refl hs1) (.lst (view_isL ev) r1) hs1⟩⟩
    · have ed := view_tup' r1 ev
      subst ed
      exact ⟨a, rfl, .inr ⟨vs, h1, w1 M1 (Itt X.K a) H1 (Ext.refl hs1) (.tup r1) hs1⟩⟩
  · exact w1.elim⟩
def smallI (i : Int) : Bool := Nat.ble i.natAbs 4611686018427387903
theorem smallI_of {i : Int} (h : smallI i = true) : -(2 ^ 62) ≤ i ∧ i < 2 ^ 62 := by
  have := Nat.le_of_ble_eq_true h
  omega
theorem smallI_mk {i : Int} (h : -4611686018427387904 < i) (h2 : i < 4611686018427387904) : smallI i = true := Nat.ble_eq_true_of_le (by omega)
def eRng1 (f : Ee) : Es := fun ρ S => (eArgs [f] ρ S).bind fun ds S1 => match ds with
  | [.int j] => if smallI j then .ok (.rng 0 j.toNat) S1 else .bad
  | _ => .bad
def eRng2 (f g : Ee) : Es := fun ρ S => (eArgs [f, g] ρ S).bind fun ds S1 => match ds with
  | [.int i, .int j] => if smallI i && smallI j then .ok (.rng i (j - i).toNat) S1 else .bad
  | _ => .bad
theorem di_rng1 (hg : Gl X "range") (hm : X.mg "range" = none) (ha : DA X W [a] (eArgs [fa])) (hs : starEach [a] X.env = [(false, eval a X.env)] := by rfl) : DI X W tg (.Call (.Name "range" p) [a] [] pos) (eRng1 fa) :=
  piI (pi_range1 hg hm ha hs) fun σ H Rr ⟨M, ρ, S, hr, hs, w⟩ => ⟨M, ρ, S, hr, hs, wpG.bind w fun M1 vs H1 ds S1 e1 r1 hs1 w1 => by
    split at w1
    · split at w1
      · rename_i j hj
        obtain ⟨v, rfl, r⟩ := reps1 r1
        cases r
        have := smallI_of hj
        exact ⟨_, rfl, this.1, this.2, w1 M1 _ H1 (Ext.refl hs1) (.rng 0 _) hs1⟩
      · exact w1.elim
    · exact w1.elim⟩
theorem di_rng2 (hg : Gl X "range") (hm : X.mg "range" = none) (ha : DA X W [a, b] (eArgs [fa, fb])) (hs : starEach [a, b] X.env = [(false, eval a X.env), (false, eval b X.env)] := by rfl) (hs2 : starEach [b] X.env = [(false, eval b X.env)] := by rfl) : DI X W tg (.Call (.Name "range" p) [a, b] [] pos) (eRng2 fa fb) :=
  piI (pi_range2 hg hm ha hs hs2) fun σ H Rr ⟨M, ρ, S, hr, hs, w⟩ => ⟨M, ρ, S, hr, hs, wpG.bind w fun M1 vs H1 ds S1 e1 r1 hs1 w1 => by
    split at w1
    · split at w1
      · rename_i i j hj
        obtain ⟨v, v2, rfl, r, r2⟩ := reps2 r1
        cases r
        cases r2
        rw [Bool.and_eq_true] at hj
        have h1 := smallI_of hj.1
        have h2 := smallI_of hj.2
        exact ⟨_, _, rfl, ⟨h1.1, h1.2, h2.1, h2.2⟩, w1 M1 _ H1 (Ext.refl hs1) (.rng _ _) hs1⟩
      · exact w1.elim
    · exact w1.elim⟩
def isLT : D → Bool
  | .lst _ => true
  | .obj _ => true
  | .tup _ => true
  | _ => false
@[simp] theorem isLT_lst (xs : List D) : isLT (.lst xs) = true := rfl
@[simp] theorem isLT_tup (xs : List D) : isLT (.tup xs) = true := rfl
@[simp] theorem isLT_obj (n : Nat) : isLT (.obj n) = true := rfl
def eEn (f : Ee) : Es := fun ρ S => (eArgs [f] ρ S).bind fun ds S1 => match ds with
  | [d] => if isLT d then match itsOf S1 d with
    | some _ => .ok (.en d) S1
    | none => .bad else .bad
  | _ => .bad
theorem di_enum {elts : List Expr} {kk : Nat} {tpos : Pos} (hg : Gl X "enumerate") (hm : X.mg "enumerate" = none) (ha : DA X W [a] (eArgs [fa])) (hs : starEach [a] X.env = [(false, eval a X.env)] := by rfl) : DI X W (.Tuple elts kk tpos) (.Call (.Name "enumerate" p) [a] [] pos) (eEn fa) :=
  piI (pi_enumA hg hm ha hs) fun σ H Rr ⟨M, ρ, S, hr, hs, w⟩ => ⟨M, ρ, S, hr, hs, wpG.bind w fun M1 vs H1 ds S1 e1 r1 hs1 w1 => by
    split at w1
    · rename_i d
      split at w1
      · rename_i hl
        split at w1
        · rename_i xs hx
          obtain ⟨v, rfl, r⟩ := reps1 r1
          rcases rep_ref hs1 r hx with ⟨a', us, rfl, ev, h1, h2⟩ | ⟨a', us, rfl, ev, h1, h2⟩
          · have hl2 : isL d = true := by
              cases d with
              | tup ys => simp only [view] at ev; cases ev
              | lst _ => rfl
              | obj _ => rfl
              | _ => cases hl
            exact ⟨a', rfl, .inl ⟨us, SqL.of h1, w1 M1 _ H1 (Ext.refl hs1) (.en hl2 r) hs1⟩⟩
          · cases d with
            | lst ys => simp only [view] at ev; cases ev
            | obj n => rcases view_obj ev with ⟨_, h⟩ | h <;> cases h
            | tup ys => exact ⟨a', rfl, .inr ⟨us, h1, w1 M1 _ H1 (Ext.refl hs1) (.enT r) hs1⟩⟩
            | _ => cases hl
        · exact w1.elim
      · exact w1.elim
    · exact w1.elim⟩
def eZp (f g : Ee) : Es := fun ρ S => (eArgs [f, g] ρ S).bind fun ds S1 => match ds with
  | [d, e] => if isL d && isL e then match itsOf S1 d, itsOf S1 e with
    | some _, some _ => .ok (.zp d e) S1
    | _, _ => .bad else .bad
  | _ => .bad
end

/-! ### for -/
def forLoop (s : Src) (g : Tg) (b : Sm) : Nat → Nat → Sm
  | 0, i => fun ρ S => match srcLen S s with
    | some n => if n ≤ i then .nx ρ S else .bad
    | none => .bad
  | k + 1, i => fun ρ S => match srcAt S i s with
    | some x => (g x ρ S).on.seq fun ρ1 S1 => (b ρ1 S1).turn (forLoop s g b k (i + 1))
    | none => .bad
def sFor (f : Es) (g : Tg) (b : Sm) : Sm := fun ρ S => F.ofR (f ρ S) ρ fun s S1 => match srcLen S1 s with
  | some n => forLoop s g b n 0 ρ S1
  | none => .bad
section
variable {X : Cx} {W : WX} {pos : Pos} {tg iter : Expr} {body : List Stmt} {f : Es} {g : Tg} {b : Sm}
theorem ds_for (hp : PassesOwn (model X.prog X.w) X.A X.env X.xe) (hc : X.calm = true) (hi : DI X W tg iter f) (hg : DG X W tg g) (hb : DSs X W body b)
    (hs : ∀ x, foldedSetIterable iter X.env x = pure x := by intro _; rfl) : DS X W (.For tg iter body [] pos) (sFor f g b) := psI (ps_for hp hc hi hg hb hs) fun Dd σ H ⟨M, ρ, S, hr, hs, w⟩ => by
  refine ⟨M, ρ, S, hr, hs, wpS.ofR hr w fun M1 J H1 s S1 e1 r1 hs1 w1 => ?_⟩
  cases hn : srcLen S1 s with
  | none => simp only [hn] at w1; exact w1.elim
  | some n =>
    simp only [hn] at w1
    refine ⟨fun i m σ H => ∃ M ρ S, RepE X.K M H σ ρ ∧ HS X.K M S H ∧ SrcIs X.K M H J s ∧ wpS X.K W M H (forLoop s g b m i ρ S) Dd, ⟨n, M1, ρ, S1, hr.mono e1, hs1, r1, w1⟩, fun i m σ H ⟨M, ρ, S, hr, hs, ok, w⟩ => ?_⟩
    obtain ⟨o1, o2⟩ := ok.ok hs
    cases m with
    | zero =>
      simp only [forLoop] at w
      split at w
      · rename_i n hn
        split at w
        · rename_i hle
          exact .inl ⟨o2 i n hn hle, w M σ H (Ext.refl hs) hr hs⟩
        · exact w.elim
      · exact w.elim
    | succ m =>
      simp only [forLoop] at w
      split at w
      · rename_i x hx
        obtain ⟨go, yl⟩ := o1 i x hx
        refine .inr ⟨go, fun σ' H' => ∃ M ρ S, RepE X.K M H' σ' ρ ∧ HS X.K M S H' ∧ SrcIs X.K M H' J s ∧ wpS X.K W M H' (forLoop s g b m (i + 1) ρ S) Dd, fun σ' H' q => ⟨m, Nat.lt_succ_self m, q⟩, fun v H' hy => ?_⟩
        obtain ⟨e2, hs2, rv⟩ := yl v H' hy
        refine ⟨M, ρ, S, x, hr.mono e2, hs2, rv, ?_⟩
        have w2 := wpS.ext e2 w
        have w3 : wpS X.K W M H' (g x ρ S).on { nx := fun σ2 H2 => tDS X.K W b { Dd with nx := fun σ' H' => ∃ M ρ S, RepE X.K M H' σ' ρ ∧ HS X.K M S H' ∧ SrcIs X.K M H' J s ∧ wpS X.K W M H' (forLoop s g b m (i + 1) ρ S) Dd, ct := fun σ' H' => ∃ M ρ S, RepE X.K M H' σ' ρ ∧ HS X.K M S H' ∧ SrcIs X.K M H' J s ∧ wpS X.K W M H' (forLoop s g b m (i + 1) ρ S) Dd, bk := Dd.nx } σ2 H2, rt := Dd.rt, bk := Dd.bk, ct := Dd.ct } :=
          wpS.seq w2 (fun M3 σ3 H3 ρ3 S3 e3 r3 hs3 w3 => ⟨M3, ρ3, S3, r3, hs3, wpS.turn w3 fun M4 σ4 H4 ρ4 S4 e4 r4 hs4 w4 => ⟨M4, ρ4, S4, r4, hs4, ((ok.mono e2).mono e3).mono e4, w4⟩⟩) rfl rfl rfl
        exact wpS.on w3
      · exact w.elim
end
end DL
namespace DL
open PySem PySem.Spec PyProof.Rows L2

/-! ### list comprehensions -/
def R.calm {α : Type} (r : R α) : R α := match r with
  | .ex _ _ => .bad
  | r => r
@[simp] theorem R.calm_ok {α : Type} (a : α) (S : Sto) : (R.ok a S).calm = .ok a S := rfl
@[simp] theorem R.calm_bad {α : Type} : (R.bad : R α).calm = .bad := rfl
abbrev W0 : WX := fun _ _ _ _ => False
theorem wpG.quiet {α β : Type} {rel : Mp → Hp → β → α → Prop} {K : PySem.W.Frag} {W W' : WX} {σ σ' : L2.St} {M : Mp} {H : Hp} {r : R α} {Q : β → Hp → Prop} (h : wpG rel K W σ M H r.calm Q) : wpG rel K W' σ' M H r Q := by
  cases r with
  | ok a S => exact h
  | ex e S => exact h.elim
  | bad => exact h.elim
theorem calm_bind {α β : Type} {rel : Mp → Hp → β → α → Prop} {γ δ : Type} {rel2 : Mp → Hp → δ → γ → Prop} {K : PySem.W.Frag} {W W' : WX} {σ σ' : L2.St} {M : Mp} {H : Hp} {r : R α} {k : α → Sto → R γ} {Q : δ → Hp → Prop} {Q1 : β → Hp → Prop}
    (h : wpG rel2 K W σ M H (r.calm.bind k) Q) (q : ∀ M1 v H1 a S1, Ext M H M1 H1 → rel M1 H1 v a → HS K M1 S1 H1 → wpG rel2 K W σ M1 H1 (k a S1) Q → Q1 v H1) : wpG rel K W' σ' M H r Q1 := by
  cases r with
  | ok a S' => exact fun M1 v H1 e r hs => q M1 v H1 a S' e r hs (wpG.ext e h)
  | ex x S' => exact h.elim
  | bad => exact h.elim
/-- targets of a comprehension: a name, names -/
inductive Ct where
  | nm (i : Nat) | tp (is : List Nat)
def Ct.put : Ct → D → Rho → Option Rho
  | .nm i, d, ρ => some (ρ.set i (some d))
  | .tp is, .tup xs, ρ => go is xs ρ
  | .tp _, _, _ => none
where go : List Nat → List D → Rho → Option Rho
  | [], [], ρ => some ρ
  | i :: is, x :: xs, ρ => go is xs (ρ.set i (some x))
  | _, _, _ => none
def Ct.slots : Ct → List Nat
  | .nm i => [i]
  | .tp is => is
/-- the library's reading of such a target -/
def Ct.rd (K : PySem.W.Frag) : Ct → TG
  | .nm i => gName i
  | .tp is => gTup K is.length (is.foldr (fun i t => gCons (gName i) t) gNil)
theorem set_wipe {i : Nat} {x : Option V} : ∀ {vs : List Nat} {σ : L2.St}, i ∈ vs → wipe (σ.set i x) vs = wipe σ vs
  | v :: vs, σ, h => by
    by_cases hv : i ∈ vs
    · show (wipe (σ.set i x) vs).set v none = (wipe σ vs).set v none
      rw [set_wipe hv]
    · have e : i = v := by
        rcases List.mem_cons.mp h with h | h
        · exact h
        · exact absurd h hv
      subst e
      show (wipe (σ.set i x) vs).set i none = (wipe σ vs).set i none
      have : ∀ (vs : List Nat) (σ : L2.St), i ∉ vs → wipe (σ.set i x) vs = (wipe σ vs).set i x := fun vs => by
        induction vs with
        | nil => intro σ _; rfl
        | cons w ws ih =>
          intro σ hn
          show (wipe (σ.set i x) ws).set w none = ((wipe σ ws).set w none).set i x
          rw [ih σ (fun z => hn (List.mem_cons_of_mem _ z)), List.set_comm]
          exact fun z => hn (z ▸ List.mem_cons_self)
      rw [this vs σ hv, List.set_set]
def wipeR (ρ : Rho) : List Nat → Rho
  | [] => ρ
  | v :: vs => (wipeR ρ vs).set v none
theorem wipeR_rep {K : PySem.W.Frag} {M : Mp} {H : Hp} {σ : L2.St} {ρ : Rho} (h : RepE K M H σ ρ) : ∀ vs : List Nat, RepE K M H (wipe σ vs) (wipeR ρ vs)
  | [] => h
  | v :: vs => by
    have ih := wipeR_rep h vs
    refine ⟨by show ((wipe σ vs).set v none).length = ((wipeR ρ vs).set v none).length; rw [List.length_set, List.length_set]; exact ih.len, fun i d e => ?_⟩
    have e : ((wipeR ρ vs).set v none)[i]? = some (some d) := e
    show ∃ x, ((wipe σ vs).set v none)[i]? = some (some x) ∧ _
    by_cases z : v = i
    · subst z
      by_cases hl : v < (wipeR ρ vs).length
      · rw [List.getElem?_set_self hl] at e; cases e
      · rw [List.getElem?_eq_none (by rw [List.length_set]; omega)] at e; cases e
    · rw [List.getElem?_set_ne z] at e ⊢
      exact ih.at i d e
theorem wipe_idem : ∀ {vs : List Nat} {σ : L2.St}, wipe (wipe σ vs) vs = wipe σ vs := by
  have key : ∀ (ws vs : List Nat) (σ : L2.St), (∀ w ∈ ws, w ∈ vs) → wipe (wipe σ vs) ws = wipe σ vs := by
    intro ws
    induction ws with
    | nil => intro vs σ _; rfl
    | cons w ws ih =>
      intro vs σ h
      show (wipe (wipe σ vs) ws).set w none = wipe σ vs
      rw [ih vs σ (fun z hz => h z (List.mem_cons_of_mem _ hz))]
      apply List.ext_getElem?
      intro j
      by_cases e : w = j
      · subst e
        by_cases hl : w < (wipe σ vs).length
        · rw [List.getElem?_set_self hl]
          have q : (wipe σ vs)[w]? = some (wipe σ vs)[w] := List.getElem?_eq_getElem hl
          cases z : (wipe σ vs)[w] with
          | none => rw [q, z]
          | some x =>
            rw [z] at q
            exact absurd (h w List.mem_cons_self) (wipe_some q).2
        · rw [List.getElem?_eq_none (by rw [List.length_set]; omega), List.getElem?_eq_none (by omega)]
      · rw [List.getElem?_set_ne e]
  exact fun {vs σ} => key vs vs σ fun _ h => h
theorem Ext.unhide {M M3 : Mp} {H H' : Hp} {Dd : Addr} (e : Ext (M.hide Dd) H M3 H') : ∃ M4 : Mp, M3 = M4.hide Dd ∧ Ext M H M4 H' :=
  ⟨⟨M3.o, M.p⟩, by have := e.priv; cases M3; simp only [Mp.hide] at this ⊢; rw [this], e.more, rfl, e.keep, e.stay⟩
theorem Ext.updNew {M M3 : Mp} {H H' : Hp} {Dd : Addr} {o : HO} (e : Ext M H M3 H') (hD : H Dd = none) : Ext M H M3 (upd H' Dd o) :=
  ⟨e.more, e.priv, fun b x hb q => by rw [upd_ne (ne_of_none q hD)]; exact e.keep b x hb q, fun b hb => by
    by_cases z : b = Dd
    · subst z; exact ⟨o, upd_same⟩
    · obtain ⟨x, q⟩ := e.stay b hb
      exact ⟨x, by rw [upd_ne z]; exact q⟩⟩
section
variable {K : PySem.W.Frag}
theorem ct_go {M : Mp} {H : Hp} : ∀ {is : List Nat} {vs : List V} {ds : List D} {σ : L2.St} {ρ ρ' : Rho} {Q : L2.St → Hp → Prop} {ws : List Nat}, RepE K M H σ ρ → Reps K M H vs ds → Ct.put.go is ds ρ = some ρ' → (∀ i ∈ is, i ∈ ws) →
    (∀ σ', RepE K M H σ' ρ' → wipe σ' ws = wipe σ ws → Q σ' H) → (is.foldr (fun i t => gCons (gName i) t) gNil) vs σ H Q
  | [], _, _, σ, ρ, ρ', Q, ws, hr, .nil, h, hw, q => by
    simp only [Ct.put.go] at h
    cases h
    exact ⟨rfl, q σ hr rfl⟩
  | i :: is, _, _, σ, ρ, ρ', Q, ws, hr, .cons (v := v) (d := d) r t, h, hw, q => by
    simp only [Ct.put.go] at h
    refine ⟨_, _, rfl, ?_⟩
    exact ct_go (ws := ws) (hr.set r) t h (fun j hj => hw j (List.mem_cons_of_mem _ hj)) fun σ' h1 h2 => q σ' h1 (h2.trans (set_wipe (hw i List.mem_cons_self)))
  | [], _, _, σ, ρ, ρ', Q, ws, hr, .cons r t, h, hw, q => by simp only [Ct.put.go] at h; cases h
  | i :: is, _, _, σ, ρ, ρ', Q, ws, hr, .nil, h, hw, q => by simp only [Ct.put.go] at h; cases h
theorem go_len : ∀ {is : List Nat} {ds : List D} {ρ ρ' : Rho}, Ct.put.go is ds ρ = some ρ' → ds.length = is.length
  | [], [], _, _, _ => rfl
  | i :: is, d :: ds, ρ, ρ', h => by simp only [Ct.put.go] at h; rw [List.length_cons, List.length_cons, go_len h]
  | [], _ :: _, _, _, h => by simp only [Ct.put.go] at h; cases h
  | _ :: _, [], _, _, h => by simp only [Ct.put.go] at h; cases h
theorem ct_put {M : Mp} {H : Hp} {c : Ct} {v : V} {d : D} {σ : L2.St} {ρ ρ' : Rho} {Q : L2.St → Hp → Prop} {ws : List Nat} (hr : RepE K M H σ ρ) (r : Rep K M H v d) (h : c.put d ρ = some ρ') (hw : ∀ i ∈ c.slots, i ∈ ws)
    (q : ∀ σ', RepE K M H σ' ρ' → wipe σ' ws = wipe σ ws → Q σ' H) : c.rd K v σ H Q := by
  cases c with
  | nm i =>
    simp only [Ct.put] at h
    cases h
    exact q _ (hr.set r) (set_wipe (hw i List.mem_cons_self))
  | tp is =>
    cases d with
    | tup xs =>
      simp only [Ct.put] at h
      cases r with
      | tup s rs => exact ⟨_, _, rfl, s.seq, by rw [rs.length, go_len h], ct_go hr rs h hw q⟩
    | _ => simp only [Ct.put] at h; cases h
end
def lcLoop (s : Src) (c : Ct) (t : Et) (e : Ee) : Nat → Nat → Rho → Sto → R (List D)
  | 0, i, _, S => match srcLen S s with
    | some n => if n ≤ i then .ok [] S else .bad
    | none => .bad
  | k + 1, i, ρ, S => match srcAt S i s with
    | some x => match c.put x ρ with
      | some ρ1 => (t ρ1 S).calm.bind fun b S2 => match b with
        | true => (e ρ1 S2).calm.bind fun y S3 => (lcLoop s c t e k (i + 1) ρ S3).bind fun ys S4 => .ok (y :: ys) S4
        | false => lcLoop s c t e k (i + 1) ρ S2
      | none => .bad
    | none => .bad
def eLc (f : Es) (c : Ct) (t : Et) (e : Ee) (ws : List Nat) : Ee := fun ρ S => (f ρ S).bind fun s S1 => match srcLen S1 s with
  | some n => if n ≤ 16777216 then (lcLoop s c t e n 0 (wipeR ρ ws) S1).calm.bind fun ys S2 => .ok (.lst ys) S2 else .bad
  | none => .bad
def tYesD : Et := fun _ S => .ok true S
section
variable {X : Cx} {W : WX} {pos : Pos} {tg iter elt : Expr} {ifs : List Expr} {f : Es} {c : Ct} {t : Et} {e : Ee} {own : List (Str × Nat)} {scope : Scope}
abbrev DTs (X : Cx) (W : WX) (ifs : List Expr) (f : Et) : Prop := PTs X ifs (tDT X.K W f)
theorem dts_nil : DTs X W [] tYesD := ⟨fun pins s σ H Q I ⟨M, ρ, S, hr, hs, w⟩ => (pts_nil (X := X)).run pins s σ H Q I (w M true H (Ext.refl hs) rfl hs)⟩
theorem dts_one {x : Expr} (h : DT X W x t) : DTs X W [x] t := pts_one h
theorem tLc_of (hw : ∀ i ∈ c.slots, i ∈ own.map (·.2)) : ∀ σ H Q, tD X.K W (eLc f c t e (own.map (·.2))) σ H Q → tLc (tDI X.K W f) (c.rd X.K) (tDT X.K W0 t) (tD X.K W0 e) (own.map (·.2)) σ H Q := by
  intro σ H Q ⟨M, ρ, S, hr, hs, w⟩
  refine ⟨M, ρ, S, hr, hs, wpG.bind w fun M1 J H1 s S1 e1 ok hs1 w1 => ?_⟩
  intro Dd hD
  cases hn : srcLen S1 s with
  | none => simp only [hn] at w1; exact w1.elim
  | some n =>
    simp only [hn] at w1
    split at w1
    · rename_i hN
      have hrw := wipeR_rep (hr.mono e1) (own.map (·.2))
      have e0 : Ext M1 H1 M1 (upd H1 Dd (.lst [])) := Ext.same hs1 (Same.new hD)
      have hf : ¬ M1.In Dd := hs1.fresh hD
      -- the state of the loop
      refine ⟨fun i m H2 => ∃ (M2 : Mp) (S2 : Sto) (av : List V) (ad : List D), i + m = n ∧ Ext M1 H1 M2 H2 ∧ HS X.K (M2.hide Dd) S2 H2 ∧ RepE X.K (M2.hide Dd) H2 (wipe σ (own.map (·.2))) (wipeR ρ (own.map (·.2))) ∧ SrcIs X.K (M2.hide Dd) H2 J s ∧
          H2 Dd = some (.lst av) ∧ av.length ≤ i ∧ Reps X.K (M2.hide Dd) H2 av ad ∧ wpG (Rep X.K) X.K W σ M1 H1 ((lcLoop s c t e m i (wipeR ρ (own.map (·.2))) S2).calm.bind fun ys S3 => .ok (.lst (ad ++ ys)) S3) Q, ?_, ?_⟩
      · refine ⟨n, M1, S1, [], [], Nat.zero_add n, e0, hs1.hideNew hD, ?_, ok.hideNew hD, upd_same, Nat.le_refl 0, .nil, w1⟩
        refine ⟨hrw.len, fun i d q => ?_⟩
        obtain ⟨v, a, b⟩ := hrw.at i d q
        exact ⟨v, a, (b.hide hD).upd⟩
      · intro i m H2 ⟨M2, S2, av, ad, him, e2, hs2, hr2, ok2, hDd, hlen, hav, w2⟩
        obtain ⟨o1, o2⟩ := ok2.ok hs2
        have hnD : Dd ∉ M2.o := (hs2.pv Dd List.mem_cons_self).1
        cases m with
        | zero =>
          simp only [lcLoop] at w2
          cases hl : srcLen S2 s with
          | none => simp only [hl] at w2; exact w2.elim
          | some n2 =>
            simp only [hl] at w2
            split at w2
            · rename_i hle
              refine .inl ⟨o2 i n2 hl hle, ?_⟩
              simp only [R.calm_ok, R.bind_ok, List.append_nil] at w2
              refine w2 M2 (.ref Dd) H2 e2 (.lst ⟨fun z => ?_, hDd⟩ hav.show_) hs2.show_
              rcases z with z | z
              · exact hnD z
              · rw [e2.priv] at z; exact hf (.inr z)
            · exact w2.elim
        | succ m =>
          simp only [lcLoop] at w2
          cases hx : srcAt S2 i s with
          | none => simp only [hx] at w2; exact w2.elim
          | some x =>
            simp only [hx] at w2
            cases hp : c.put x (wipeR ρ (own.map (·.2))) with
            | none => simp only [hp] at w2; exact w2.elim
            | some ρ1 =>
              simp only [hp] at w2
              obtain ⟨go, yl⟩ := o1 i x hx
              refine .inr ⟨go, fun H' => ∃ (M2 : Mp) (S2 : Sto) (av : List V) (ad : List D), (i + 1) + m = n ∧ Ext M1 H1 M2 H' ∧ HS X.K (M2.hide Dd) S2 H' ∧ RepE X.K (M2.hide Dd) H' (wipe σ (own.map (·.2))) (wipeR ρ (own.map (·.2))) ∧ SrcIs X.K (M2.hide Dd) H' J s ∧
                H' Dd = some (.lst av) ∧ av.length ≤ i + 1 ∧ Reps X.K (M2.hide Dd) H' av ad ∧ wpG (Rep X.K) X.K W σ M1 H1 ((lcLoop s c t e m (i + 1) (wipeR ρ (own.map (·.2))) S2).calm.bind fun ys S3 => .ok (.lst (ad ++ ys)) S3) Q, fun H' h => ⟨m, Nat.lt_succ_self m, h⟩, fun v H' hy => ?_⟩
              obtain ⟨a1, a2, a3⟩ := yl v H' hy
              refine ct_put (ws := own.map (·.2)) (hr2.mono a1) a3 hp hw fun σ' r1 hwp => ⟨hwp.trans wipe_idem, M2.hide Dd, ρ1, S2, r1, a2, ?_⟩
              cases ht : t ρ1 S2 with
              | bad => simp only [ht] at w2; exact w2.elim
              | ex x S3 => simp only [ht] at w2; exact w2.elim
              | ok b S3 =>
                simp only [ht, R.calm_ok, R.bind_ok] at w2
                intro M3 b' H3 e3 hb hs3
                subst hb
                obtain ⟨M4, rfl, e4⟩ := e3.unhide
                have hnd : ∀ o, H2 Dd = some o → H3 Dd = some o := fun o q => e3.keep Dd o hnD (a1.keep Dd o hnD q)
                have e24 : Ext M1 H1 M4 H3 := (e2.trans (show Ext M2 H2 M2 H' from ⟨a1.more, rfl, a1.keep, a1.stay⟩)).trans e4
                cases b' with
                | true =>
                  rw [if_pos rfl]
                  simp only at w2
                  refine ⟨M4.hide Dd, ρ1, S3, r1.mono e3, hs3, ?_⟩
                  cases he : e ρ1 S3 with
                  | bad => simp only [he] at w2; exact w2.elim
                  | ex x S4 => simp only [he] at w2; exact w2.elim
                  | ok y S4 =>
                    simp only [he, R.calm_ok, R.bind_ok] at w2
                    intro M5 yv H5 e5 ry hs5
                    obtain ⟨M6, rfl, e6⟩ := e5.unhide
                    have h5 : H5 Dd = some (.lst av) := e5.keep Dd _ (hs3.pv Dd List.mem_cons_self).1 (hnd _ hDd)
                    refine ⟨av, h5, lt_line (by omega), M6, S4, av ++ [yv], ad ++ [y], by omega, (e24.trans e6).updNew hD, hs5.upd, (((hr2.mono a1).mono e3).mono e5).upd, (((ok2.mono a1).mono e3).mono e5).upd, upd_same, by simp; omega,
                      (((((hav.mono a1).mono e3).mono e5).append (.cons ry .nil)).upd), ?_⟩
                    cases hz : lcLoop s c t e m (i + 1) (wipeR ρ (own.map (·.2))) S4 with
                    | bad => simp only [hz] at w2; exact w2.elim
                    | ex x S5 => simp only [hz] at w2; exact w2.elim
                    | ok ys S5 =>
                      simp only [hz, R.calm_ok, R.bind_ok] at w2 ⊢
                      rw [List.append_assoc]
                      exact w2
                | false =>
                  rw [if_neg Bool.false_ne_true]
                  simp only at w2
                  exact ⟨M4, S3, av, ad, by omega, e24, hs3, (hr2.mono a1).mono e3, (ok2.mono a1).mono e3, hnd _ hDd, by omega, (hav.mono a1).mono e3, w2⟩
    · exact w1.elim
theorem ct_rd (hc : X.calm = true) {i : Nat} {x : Str} (hN : X.N.Nodup) (hi : X.N[i]? = some x := by rfl) (hx : Loc X.env.scope x := by first | exact Or.inl rfl | exact Or.inr rfl) (hf : X.fn x = true ∨ X.env.scope.names.lookup x = some .local := by first | exact .inl rfl | exact .inr rfl | assumption) : PG X (.Name x pos) ((Ct.nm i).rd X.K) := pg_name hN hi hx hf
theorem de_lc (hc : X.calm = true) (hN : X.N.Nodup) (hi : DI X W tg iter f) (ok : BlkOk X.N X.env.scope scope own) (hw : ∀ i ∈ c.slots, i ∈ own.map (·.2))
    (hg : ∀ (s : Shared) (H : Hp) (C : Addr) (cl : List (Str × Addr)) (fp : List Addr), PG (X.blk s H scope (compEnvC scope cl C X.env) fp) tg (c.rd X.K)) (ht : ∀ (s : Shared) (H : Hp) (C : Addr) (cl : List (Str × Addr)) (fp : List Addr), DTs (X.blk s H scope (compEnvC scope cl C X.env) fp) W0 ifs t)
    (he : ∀ (s : Shared) (H : Hp) (C : Addr) (cl : List (Str × Addr)) (fp : List Addr), DE (X.blk s H scope (compEnvC scope cl C X.env) fp) W0 elt e) (hs : ∀ x, foldedSetIterable iter X.env x = pure x := by intro _; rfl) :
    DE X W (.ListComp elt [⟨tg, iter, ifs, 0⟩] scope pos) (eLc f c t e (own.map (·.2))) := peI (pe_lc hc hN hi ok hg ht he hs) (tLc_of hw)
theorem ds_setLc {i : Nat} {y : Str} {py : Pos} {spos : Pos} (hc : X.calm = true) (hN : X.N.Nodup) (hi : DI X W tg iter f) (ok : BlkOk X.N X.env.scope scope own) (hw : ∀ i ∈ c.slots, i ∈ own.map (·.2))
    (hg : ∀ (s : Shared) (H : Hp) (C : Addr) (cl : List (Str × Addr)) (fp : List Addr), PG (X.blk s H scope (compEnvC scope cl C X.env) fp) tg (c.rd X.K)) (ht : ∀ (s : Shared) (H : Hp) (C : Addr) (cl : List (Str × Addr)) (fp : List Addr), DTs (X.blk s H scope (compEnvC scope cl C X.env) fp) W0 ifs t)
    (he : ∀ (s : Shared) (H : Hp) (C : Addr) (cl : List (Str × Addr)) (fp : List Addr), DE (X.blk s H scope (compEnvC scope cl C X.env) fp) W0 elt e)
    (hy : X.N[i]? = some y := by rfl) (hyl : X.env.scope.names.lookup y = some .local := by rfl)
    (hsw : swapsWith (.ListComp elt [⟨tg, iter, ifs, 0⟩] scope pos) (some (.Name y py)) spos.line X.env = pure true := by exact sw_true rfl rfl rfl (by decide +kernel)) (hs : ∀ x, foldedSetIterable iter X.env x = pure x := by intro _; rfl) :
    DS X W (.Assign [.Name y py] (.ListComp elt [⟨tg, iter, ifs, 0⟩] scope pos) spos) (sSet i (eLc f c t e (own.map (·.2)))) :=
  psI (ps_setLc hc hN hy hyl hsw hi ok hg ht he hs) fun Dd σ H ⟨M, ρ, S, hr, hs, w⟩ => by
    refine tLc_of hw σ H _ ⟨M, ρ, S, hr, hs, wpS.ofR hr w fun M1 v H1 a S1 e1 r1 hs1 w1 => ?_⟩
    exact w1 M1 _ H1 (Ext.refl hs1) ((hr.mono e1).set r1) hs1
end
end DL
namespace DL
open PySem PySem.Spec PyProof.Rows L2
/-! ### comprehensions with two fors -/
def lc2Loop (s : Src) (c : Ct) (t : Et) (f1 : Es) (c1 : Ct) (t1 : Et) (e : Ee) (ws1 : List Nat) : Nat → Nat → Rho → Sto → R (List D)
  | 0, i, _, S => match srcLen S s with
    | some n => if n ≤ i then .ok [] S else .bad
    | none => .bad
  | k + 1, i, ρ, S => match srcAt S i s with
    | some x => match c.put x ρ with
      | some ρ1 => (t ρ1 S).calm.bind fun b S2 => match b with
        | true => (f1 ρ1 S2).calm.bind fun s1 S3 => match srcLen S3 s1 with
          | some n1 => if n1 ≤ 1000 then (lcLoop s1 c1 t1 e n1 0 (wipeR ρ1 ws1) S3).calm.bind fun ys S4 => (lc2Loop s c t f1 c1 t1 e ws1 k (i + 1) ρ S4).calm.bind fun zs S5 => .ok (ys ++ zs) S5 else .bad
          | none => .bad
        | false => lc2Loop s c t f1 c1 t1 e ws1 k (i + 1) ρ S2
      | none => .bad
    | none => .bad
def eLc2 (f : Es) (c : Ct) (t : Et) (f1 : Es) (c1 : Ct) (t1 : Et) (e : Ee) (ws ws1 : List Nat) : Ee := fun ρ S => (f ρ S).bind fun s S1 => match srcLen S1 s with
  | some n => if n ≤ 1000 then (lc2Loop s c t f1 c1 t1 e ws1 n 0 (wipeR ρ ws) S1).calm.bind fun ys S2 => .ok (.lst ys) S2 else .bad
  | none => .bad
section
variable {X : Cx} {W : WX} {pos : Pos} {tg iter elt tg1 iter1 : Expr} {ifs ifs1 : List Expr} {f f1 : Es} {c c1 : Ct} {t t1 : Et} {e : Ee} {own : List (Str × Nat)} {scope : Scope} {ws1 : List Nat}
theorem Ext.unh {M : Mp} {H H' : Hp} {Dd : Addr} (a : Ext (M.hide Dd) H (M.hide Dd) H') : Ext M H M H' := ⟨a.more, rfl, a.keep, a.stay⟩
theorem tLc2_of (hw : ∀ i ∈ c.slots, i ∈ own.map (·.2)) (hw1 : ∀ i ∈ c1.slots, i ∈ ws1) : ∀ σ H Q, tD X.K W (eLc2 f c t f1 c1 t1 e (own.map (·.2)) ws1) σ H Q →
    tLc2 (tDI X.K W f) (c.rd X.K) (tDT X.K W0 t) (tDI X.K W0 f1) (c1.rd X.K) (tDT X.K W0 t1) (tD X.K W0 e) (own.map (·.2)) ws1 σ H Q := by
  intro σ H Q ⟨M, ρ, S, hr, hs, w⟩
  refine ⟨M, ρ, S, hr, hs, wpG.bind w fun M1 J H1 s S1 e1 ok hs1 w1 => ?_⟩
  intro Dd hD
  cases hn : srcLen S1 s with
  | none => simp only [hn] at w1; exact w1.elim
  | some n =>
    simp only [hn] at w1
    split at w1
    · rename_i hN
      have hrw := wipeR_rep (hr.mono e1) (own.map (·.2))
      have e0 : Ext M1 H1 M1 (upd H1 Dd (.lst [])) := Ext.same hs1 (Same.new hD)
      have hf : ¬ M1.In Dd := hs1.fresh hD
      let Out : Nat → Nat → Hp → Prop := fun i m H2 => ∃ (M2 : Mp) (S2 : Sto) (av : List V) (ad : List D), i + m = n ∧ Ext M1 H1 M2 H2 ∧ HS X.K (M2.hide Dd) S2 H2 ∧ RepE X.K (M2.hide Dd) H2 (wipe σ (own.map (·.2))) (wipeR ρ (own.map (·.2))) ∧ SrcIs X.K (M2.hide Dd) H2 J s ∧
          H2 Dd = some (.lst av) ∧ av.length ≤ i * 1000 ∧ Reps X.K (M2.hide Dd) H2 av ad ∧ wpG (Rep X.K) X.K W σ M1 H1 ((lc2Loop s c t f1 c1 t1 e ws1 m i (wipeR ρ (own.map (·.2))) S2).calm.bind fun ys S3 => .ok (.lst (ad ++ ys)) S3) Q
      refine ⟨Out, ?_, ?_⟩
      · refine ⟨n, M1, S1, [], [], Nat.zero_add n, e0, hs1.hideNew hD, ?_, ok.hideNew hD, upd_same, Nat.le_refl 0, .nil, w1⟩
        refine ⟨hrw.len, fun i d q => ?_⟩
        obtain ⟨v, a, b⟩ := hrw.at i d q
        exact ⟨v, a, (b.hide hD).upd⟩
      · intro i m H2 ⟨M2, S2, av, ad, him, e2, hs2, hr2, ok2, hDd, hlen, hav, w2⟩
        obtain ⟨o1, o2⟩ := ok2.ok hs2
        have hnD : Dd ∉ M2.o := (hs2.pv Dd List.mem_cons_self).1
        cases m with
        | zero =>
          simp only [lc2Loop] at w2
          cases hl : srcLen S2 s with
          | none => simp only [hl] at w2; exact w2.elim
          | some n2 =>
            simp only [hl] at w2
            split at w2
            · rename_i hle
              refine .inl ⟨o2 i n2 hl hle, ?_⟩
              simp only [R.calm_ok, R.bind_ok, List.append_nil] at w2
              refine w2 M2 (.ref Dd) H2 e2 (.lst ⟨fun z => ?_, hDd⟩ hav.show_) hs2.show_
              rcases z with z | z
              · exact hnD z
              · rw [e2.priv] at z; exact hf (.inr z)
            · exact w2.elim
        | succ m =>
          simp only [lc2Loop] at w2
          cases hx : srcAt S2 i s with
          | none => simp only [hx] at w2; exact w2.elim
          | some x =>
            simp only [hx] at w2
            cases hp : c.put x (wipeR ρ (own.map (·.2))) with
            | none => simp only [hp] at w2; exact w2.elim
            | some ρ1 =>
              simp only [hp] at w2
              obtain ⟨go, yl⟩ := o1 i x hx
              refine .inr ⟨go, Out (i + 1) m, fun H' h => ⟨m, Nat.lt_succ_self m, h⟩, fun v H' hy => ?_⟩
              obtain ⟨a1, a2, a3⟩ := yl v H' hy
              refine ct_put (ws := own.map (·.2)) (hr2.mono a1) a3 hp hw fun σ' r1 hwp => ⟨hwp.trans wipe_idem, M2.hide Dd, ρ1, S2, r1, a2, ?_⟩
              cases ht : t ρ1 S2 with
              | bad => simp only [ht] at w2; exact w2.elim
              | ex x S3 => simp only [ht] at w2; exact w2.elim
              | ok b S3 =>
                simp only [ht, R.calm_ok, R.bind_ok] at w2
                intro M3 b' H3 e3 hb hs3
                subst hb
                obtain ⟨M4, rfl, e4⟩ := e3.unhide
                have e24 : Ext M1 H1 M4 H3 := (e2.trans a1.unh).trans e4
                have h3D : H3 Dd = some (.lst av) := e3.keep Dd _ hnD (a1.keep Dd _ hnD hDd)
                cases b' with
                | false =>
                  rw [if_neg Bool.false_ne_true]
                  simp only at w2
                  exact ⟨M4, S3, av, ad, by omega, e24, hs3, (hr2.mono a1).mono e3, (ok2.mono a1).mono e3, h3D, by omega, (hav.mono a1).mono e3, w2⟩
                | true =>
                  rw [if_pos rfl]
                  simp only at w2
                  refine ⟨M4.hide Dd, ρ1, S3, r1.mono e3, hs3, ?_⟩
                  cases hf1 : f1 ρ1 S3 with
                  | bad => simp only [hf1] at w2; exact w2.elim
                  | ex x S4 => simp only [hf1] at w2; exact w2.elim
                  | ok s1 S4 =>
                    simp only [hf1, R.calm_ok, R.bind_ok] at w2
                    intro M5 J1 H4 e5 ok4 hs4
                    obtain ⟨M6, rfl, e6⟩ := e5.unhide
                    have h4D : H4 Dd = some (.lst av) := e5.keep Dd _ (hs3.pv Dd List.mem_cons_self).1 h3D
                    cases hn1 : srcLen S4 s1 with
                    | none => simp only [hn1] at w2; exact w2.elim
                    | some n1 =>
                      simp only [hn1] at w2
                      split at w2
                      · rename_i hN1
                        have hrw1 := wipeR_rep ((r1.mono e3).mono e5) ws1
                        let In : Nat → Nat → Hp → Prop := fun j k H5 => ∃ (M7 : Mp) (S5 : Sto) (av : List V) (ad : List D), j + k = n1 ∧ Ext M1 H1 M7 H5 ∧ HS X.K (M7.hide Dd) S5 H5 ∧ RepE X.K (M7.hide Dd) H5 (wipe σ (own.map (·.2))) (wipeR ρ (own.map (·.2))) ∧ RepE X.K (M7.hide Dd) H5 (wipe σ' ws1) (wipeR ρ1 ws1) ∧ SrcIs X.K (M7.hide Dd) H5 J s ∧ SrcIs X.K (M7.hide Dd) H5 J1 s1 ∧
                          H5 Dd = some (.lst av) ∧ av.length ≤ i * 1000 + j ∧ Reps X.K (M7.hide Dd) H5 av ad ∧ wpG (Rep X.K) X.K W σ M1 H1 (((lcLoop s1 c1 t1 e k j (wipeR ρ1 ws1) S5).calm.bind fun ys S6 => (lc2Loop s c t f1 c1 t1 e ws1 m (i + 1) (wipeR ρ (own.map (·.2))) S6).calm.bind fun zs S7 => .ok (ys ++ zs) S7).calm.bind fun ys S3 => .ok (.lst (ad ++ ys)) S3) Q
                        refine ⟨In, ⟨n1, M6, S4, av, ad, Nat.zero_add n1, e24.trans e6, hs4, ((hr2.mono a1).mono e3).mono e5, hrw1, ((ok2.mono a1).mono e3).mono e5, ok4, h4D, by omega, ((hav.mono a1).mono e3).mono e5, w2⟩, ?_⟩
                        clear w2 hav hlen h4D h3D hDd
                        intro j k H5 ⟨M7, S5, av, ad, hjk, e7, hs5, hr5, hr6, ok5, ok6, h5D, hlen, hav, w2⟩
                        obtain ⟨p1, p2⟩ := ok6.ok hs5
                        have hnD7 : Dd ∉ M7.o := (hs5.pv Dd List.mem_cons_self).1
                        cases k with
                        | zero =>
                          simp only [lcLoop] at w2
                          cases hl : srcLen S5 s1 with
                          | none => simp only [hl] at w2; exact w2.elim
                          | some n2 =>
                            simp only [hl] at w2
                            split at w2
                            · rename_i hle
                              refine .inl ⟨p2 j n2 hl hle, M7, S5, av, ad, by omega, e7, hs5, hr5, ok5, h5D, by omega, hav, ?_⟩
                              simp only [R.calm_ok, R.bind_ok, List.nil_append] at w2
                              cases hz : lc2Loop s c t f1 c1 t1 e ws1 m (i + 1) (wipeR ρ (own.map (·.2))) S5 with
                              | bad => simp only [hz] at w2; exact w2.elim
                              | ex x S6 => simp only [hz] at w2; exact w2.elim
                              | ok zs S6 => simpa only [hz, R.calm_ok, R.bind_ok] using w2
                            · exact w2.elim
                        | succ k =>
                          simp only [lcLoop] at w2
                          cases hx1 : srcAt S5 j s1 with
                          | none => simp only [hx1] at w2; exact w2.elim
                          | some x1 =>
                            simp only [hx1] at w2
                            cases hp1 : c1.put x1 (wipeR ρ1 ws1) with
                            | none => simp only [hp1] at w2; exact w2.elim
                            | some ρ2 =>
                              simp only [hp1] at w2
                              obtain ⟨go1, yl1⟩ := p1 j x1 hx1
                              refine .inr ⟨go1, In (j + 1) k, fun H' h => ⟨k, Nat.lt_succ_self k, h⟩, fun v1 H6 hy1 => ?_⟩
                              obtain ⟨b1, b2, b3⟩ := yl1 v1 H6 hy1
                              refine ct_put (ws := ws1) (hr6.mono b1) b3 hp1 hw1 fun σ3 r3 hwp1 => ⟨hwp1.trans wipe_idem, M7.hide Dd, ρ2, S5, r3, b2, ?_⟩
                              cases ht1 : t1 ρ2 S5 with
                              | bad => simp only [ht1] at w2; exact w2.elim
                              | ex x S6 => simp only [ht1] at w2; exact w2.elim
                              | ok b S6 =>
                                simp only [ht1, R.calm_ok, R.bind_ok] at w2
                                intro M8 b' H7 e8 hb hs7
                                subst hb
                                obtain ⟨M9, rfl, e9⟩ := e8.unhide
                                have e79 : Ext M1 H1 M9 H7 := (e7.trans b1.unh).trans e9
                                have h7D : H7 Dd = some (.lst av) := e8.keep Dd _ hnD7 (b1.keep Dd _ hnD7 h5D)
                                cases b' with
                                | false =>
                                  rw [if_neg Bool.false_ne_true]
                                  simp only at w2
                                  exact ⟨M9, S6, av, ad, by omega, e79, hs7, (hr5.mono b1).mono e8, (hr6.mono b1).mono e8, (ok5.mono b1).mono e8, (ok6.mono b1).mono e8, h7D, by omega, (hav.mono b1).mono e8, w2⟩
                                | true =>
                                  rw [if_pos rfl]
                                  simp only at w2
                                  refine ⟨M9.hide Dd, ρ2, S6, r3.mono e8, hs7, ?_⟩
                                  cases he : e ρ2 S6 with
                                  | bad => simp only [he] at w2; exact w2.elim
                                  | ex x S7 => simp only [he] at w2; exact w2.elim
                                  | ok y S7 =>
                                    simp only [he, R.calm_ok, R.bind_ok] at w2
                                    intro M10 yv H8 e10 ry hs8
                                    obtain ⟨M11, rfl, e11⟩ := e10.unhide
                                    have h8 : H8 Dd = some (.lst av) := e10.keep Dd _ (hs7.pv Dd List.mem_cons_self).1 h7D
                                    have hi1000 : i * 1000 + 1000 ≤ 1000 * 1000 := by
                                      have : (i + 1) * 1000 ≤ 1000 * 1000 := Nat.mul_le_mul_right _ (by omega)
                                      rw [Nat.succ_mul] at this
                                      exact this
                                    refine ⟨av, h8, lt_line (by omega), M11, S7, av ++ [yv], ad ++ [y], by omega, (e79.trans e11).updNew hD, hs8.upd, (((hr5.mono b1).mono e8).mono e10).upd, (((hr6.mono b1).mono e8).mono e10).upd, (((ok5.mono b1).mono e8).mono e10).upd, (((ok6.mono b1).mono e8).mono e10).upd, upd_same, by simp; omega,
                                      (((((hav.mono b1).mono e8).mono e10).append (.cons ry .nil)).upd), ?_⟩
                                    cases hz : lcLoop s1 c1 t1 e k (j + 1) (wipeR ρ1 ws1) S7 with
                                    | bad => simp only [hz] at w2; exact w2.elim
                                    | ex x S8 => simp only [hz] at w2; exact w2.elim
                                    | ok ys S8 =>
                                      simp only [hz, R.calm_ok, R.bind_ok] at w2 ⊢
                                      cases hz2 : lc2Loop s c t f1 c1 t1 e ws1 m (i + 1) (wipeR ρ (own.map (·.2))) S8 with
                                      | bad => simp only [hz2] at w2; exact w2.elim
                                      | ex x S9 => simp only [hz2] at w2; exact w2.elim
                                      | ok zs S9 =>
                                        simp only [hz2, R.calm_ok, R.bind_ok] at w2 ⊢
                                        rw [List.append_assoc]
                                        exact w2
                      · exact w2.elim
    · exact w1.elim
theorem de_lc2 (hc : X.calm = true) (hN : X.N.Nodup) (hi : DI X W tg iter f) (ok : BlkOk X.N X.env.scope scope own) (hw : ∀ i ∈ c.slots, i ∈ own.map (·.2)) (hw1 : ∀ i ∈ c1.slots, i ∈ ws1) (hv : ∀ i ∈ ws1, i ∈ own.map (·.2))
    (hg : ∀ (s : Shared) (H : Hp) (C : Addr) (cl : List (Str × Addr)) (fp : List Addr), PG (X.blk s H scope (compEnvC scope cl C X.env) fp) tg (c.rd X.K)) (ht : ∀ (s : Shared) (H : Hp) (C : Addr) (cl : List (Str × Addr)) (fp : List Addr), DTs (X.blk s H scope (compEnvC scope cl C X.env) fp) W0 ifs t)
    (hi1 : ∀ (s : Shared) (H : Hp) (C : Addr) (cl : List (Str × Addr)) (fp : List Addr), DI (X.blk s H scope (compEnvC scope cl C X.env) fp) W0 tg1 iter1 f1)
    (hg1 : ∀ (s : Shared) (H : Hp) (C : Addr) (cl : List (Str × Addr)) (fp : List Addr), PG (X.blk s H scope (compEnvC scope cl C X.env) fp) tg1 (c1.rd X.K)) (ht1 : ∀ (s : Shared) (H : Hp) (C : Addr) (cl : List (Str × Addr)) (fp : List Addr), DTs (X.blk s H scope (compEnvC scope cl C X.env) fp) W0 ifs1 t1)
    (he : ∀ (s : Shared) (H : Hp) (C : Addr) (cl : List (Str × Addr)) (fp : List Addr), DE (X.blk s H scope (compEnvC scope cl C X.env) fp) W0 elt e) (hs : ∀ x, foldedSetIterable iter X.env x = pure x := by intro _; rfl) (hs1 : ∀ env x, foldedSetIterable iter1 env x = pure x := by intro _ _; rfl) :
    DE X W (.ListComp elt [⟨tg, iter, ifs, 0⟩, ⟨tg1, iter1, ifs1, 0⟩] scope pos) (eLc2 f c t f1 c1 t1 e (own.map (·.2)) ws1) := peI (pe_lc2 hc hN hi ok hv hg ht hi1 hg1 ht1 he hs hs1) (tLc2_of hw hw1)
theorem ds_setLc2 {i : Nat} {y : Str} {py : Pos} {spos : Pos} (hc : X.calm = true) (hN : X.N.Nodup) (hi : DI X W tg iter f) (ok : BlkOk X.N X.env.scope scope own) (hw : ∀ i ∈ c.slots, i ∈ own.map (·.2)) (hw1 : ∀ i ∈ c1.slots, i ∈ ws1) (hv : ∀ i ∈ ws1, i ∈ own.map (·.2))
    (hg : ∀ (s : Shared) (H : Hp) (C : Addr) (cl : List (Str × Addr)) (fp : List Addr), PG (X.blk s H scope (compEnvC scope cl C X.env) fp) tg (c.rd X.K)) (ht : ∀ (s : Shared) (H : Hp) (C : Addr) (cl : List (Str × Addr)) (fp : List Addr), DTs (X.blk s H scope (compEnvC scope cl C X.env) fp) W0 ifs t)
    (hi1 : ∀ (s : Shared) (H : Hp) (C : Addr) (cl : List (Str × Addr)) (fp : List Addr), DI (X.blk s H scope (compEnvC scope cl C X.env) fp) W0 tg1 iter1 f1)
    (hg1 : ∀ (s : Shared) (H : Hp) (C : Addr) (cl : List (Str × Addr)) (fp : List Addr), PG (X.blk s H scope (compEnvC scope cl C X.env) fp) tg1 (c1.rd X.K)) (ht1 : ∀ (s : Shared) (H : Hp) (C : Addr) (cl : List (Str × Addr)) (fp : List Addr), DTs (X.blk s H scope (compEnvC scope cl C X.env) fp) W0 ifs1 t1)
    (he : ∀ (s : Shared) (H : Hp) (C : Addr) (cl : List (Str × Addr)) (fp : List Addr), DE (X.blk s H scope (compEnvC scope cl C X.env) fp) W0 elt e)
    (hy : X.N[i]? = some y := by rfl) (hyl : X.env.scope.names.lookup y = some .local := by rfl)
    (hsw : swapsWith (.ListComp elt [⟨tg, iter, ifs, 0⟩, ⟨tg1, iter1, ifs1, 0⟩] scope pos) (some (.Name y py)) spos.line X.env = pure true := by exact sw_true rfl rfl rfl (by decide +kernel)) (hs : ∀ x, foldedSetIterable iter X.env x = pure x := by intro _; rfl) (hs1 : ∀ env x, foldedSetIterable iter1 env x = pure x := by intro _ _; rfl) :
    DS X W (.Assign [.Name y py] (.ListComp elt [⟨tg, iter, ifs, 0⟩, ⟨tg1, iter1, ifs1, 0⟩] scope pos) spos) (sSet i (eLc2 f c t f1 c1 t1 e (own.map (·.2)) ws1)) :=
  psI (ps_setLc2 hc hN hy hyl hsw hi ok hv hg ht hi1 hg1 ht1 he hs hs1) fun Dd σ H ⟨M, ρ, S, hr, hs, w⟩ => by
    refine tLc2_of hw hw1 σ H _ ⟨M, ρ, S, hr, hs, wpS.ofR hr w fun M1 v H1 a S1 e1 r1 hs1 w1 => ?_⟩
    exact w1 M1 _ H1 (Ext.refl hs1) ((hr.mono e1).set r1) hs1
end
end DL
namespace DL
open PySem PySem.Spec PyProof.Rows L2

/-! ### what a def makes for itself is let go at its end -/
mutual
def D.lim (k : Nat) : D → Bool
  | .tup xs => D.lims k xs
  | .lst xs => D.lims k xs
  | .frz xs => D.lims k xs
  | .obj n => decide (n < k)
  | _ => true
def D.lims (k : Nat) : List D → Bool
  | [] => true
  | d :: ds => D.lim k d && D.lims k ds
end
def MO.lim (k : Nat) : MO → Bool
  | .lst xs => D.lims k xs
  | .ins _ fs => fs.all fun p => D.lim k p.2
  | .dct fs => fs.all fun p => D.lim k p.2
  | .dead => true
/-- a new list of the def's own, handed back, is a list like any other -/
def unown (k : Nat) (S : Sto) (d : D) : D := match d with
  | .obj n => if k ≤ n then match S[n]? with
    | some (.lst ds) => .lst ds
    | _ => d
    else d
  | d => d
def popR (k : Nat) (r : R D) : R D := match r with
  | .ok d S' => if S'.length ≤ k then r else if D.lim k (unown k S' d) && (S'.take k).all (MO.lim k) then .ok (unown k S' d) (S'.take k) else .bad
  | .ex e S' => if S'.length ≤ k then r else if (e.fs.all fun p => D.lim k p.2) && (S'.take k).all (MO.lim k) then .ex e (S'.take k) else .bad
  | .bad => .bad
section
variable {K : PySem.W.Frag} {M M' : Mp} {H : Hp} {k : Nat}
/-- the map M of the first k objects of M' -/
structure Cut (k : Nat) (M M' : Mp) : Prop where
  «at» : ∀ n, n < k → M'.o[n]? = M.o[n]?
  sub : ∀ a, M.In a → M'.In a
mutual
theorem Rep.cut (c : Cut k M M') : ∀ {v : V} {d : D}, Rep K M' H v d → D.lim k d = true → Rep K M H v d
  | _, _, .non, _ => .non
  | _, _, .bl b, _ => .bl b
  | _, _, .int i, _ => .int i
  | _, _, .str x, _ => .str x
  | _, _, .tup h r, l => .tup (by
      rcases h with h | h
      · exact .inl ⟨fun z => h.1 (c.sub _ z), h.2⟩
      · exact .inr h) (Reps.cut c r (by simpa only [D.lim] using l))
  | _, _, .lst h r, l => .lst ⟨fun z => h.1 (c.sub _ z), h.2⟩ (Reps.cut c r (by simpa only [D.lim] using l))
  | _, _, .obj (n := n) h, l => .obj (by
      have hn : n < k := by simpa only [D.lim, decide_eq_true_eq] using l
      rw [← c.at n hn]; exact h)
  | _, _, .ref a, _ => .ref a
  | _, _, .frz h r, l => .frz (by
      rcases h with h | h
      · exact .inl ⟨fun z => h.1 (c.sub _ z), h.2⟩
      · exact .inr h) (Reps.cut c r (by simpa only [D.lim] using l))
theorem Reps.cut (c : Cut k M M') : ∀ {vs : List V} {ds : List D}, Reps K M' H vs ds → D.lims k ds = true → Reps K M H vs ds
  | _, _, .nil, _ => .nil
  | _, _, .cons r t, l => by
    simp only [D.lims, Bool.and_eq_true] at l
    exact .cons (Rep.cut c r l.1) (Reps.cut c t l.2)
end
theorem RepF.cut (c : Cut k M M') : ∀ {vs : List (Str × V)} {ds : List (Str × D)}, RepF K M' H vs ds → (ds.all fun p => D.lim k p.2) = true → RepF K M H vs ds
  | _, _, .nil, _ => .nil
  | _, _, .cons r t, l => by
    rw [List.all_cons, Bool.and_eq_true] at l
    exact .cons (r.cut c l.1) (RepF.cut c t l.2)
theorem RepK.cut (c : Cut k M M') : ∀ {vs : List (Key × V)} {ds : List (Key × D)}, RepK K M' H vs ds → (ds.all fun p => D.lim k p.2) = true → RepK K M H vs ds
  | _, _, .nil, _ => .nil
  | _, _, .cons r t, l => by
    rw [List.all_cons, Bool.and_eq_true] at l
    exact .cons (r.cut c l.1) (RepK.cut c t l.2)
theorem HS.cut {S' : Sto} {H0 : Hp} {S : Sto} (hs0 : HS K M S H0) (hs : HS K M' S' H) (e : Ext M H0 M' H) (l : (S'.take M.o.length).all (MO.lim M.o.length) = true) : Cut M.o.length M M' ∧ HS K M (S'.take M.o.length) H ∧ Ext M H0 M H := by
  obtain ⟨m, em, hm⟩ := e.more
  have c : Cut M.o.length M M' := ⟨fun n hn => by rw [em, List.getElem?_append_left hn], fun a z => z.imp (fun z => by rw [em]; exact List.mem_append_left _ z) (fun z => by rw [e.priv]; exact z)⟩
  refine ⟨c, ⟨?_, hs0.nd, fun b hb => ?_, fun n a mo h1 h2 => ?_⟩, ⟨⟨[], (List.append_nil _).symm, fun _ h => nomatch h⟩, rfl, e.keep, e.stay⟩⟩
  · rw [List.length_take, ← hs.len, em, List.length_append]; omega
  · obtain ⟨h1, o, h2⟩ := hs0.pv b hb
    exact ⟨h1, o, e.keep b o h1 h2⟩
  · have hn : n < M.o.length := (List.getElem?_eq_some_iff.mp h1).1
    have h3 : S'[n]? = some mo := by rw [List.getElem?_take_of_lt hn] at h2; exact h2
    have q := hs.at n a mo (by rw [c.at n hn]; exact h1) h3
    have lm : MO.lim M.o.length mo = true := List.all_eq_true.mp l mo (List.mem_of_getElem? h2)
    cases mo with
    | lst ds => obtain ⟨xs, q, r⟩ := q; exact ⟨xs, q, r.cut c (by simpa only [MO.lim] using lm)⟩
    | ins C fs => obtain ⟨dx, vs, q, r⟩ := q; exact ⟨dx, vs, q, r.cut c (by simpa only [MO.lim] using lm)⟩
    | dct kvs => obtain ⟨vs, q, r⟩ := q; exact ⟨vs, q, r.cut c (by simpa only [MO.lim] using lm)⟩
    | dead => exact q
theorem unown_rep {S S' : Sto} {H0 : Hp} {v : V} {d : D} (hs0 : HS K M S H0) (hs : HS K M' S' H) (e : Ext M H0 M' H) (c : Cut M.o.length M M') (r : Rep K M' H v d) (l : D.lim M.o.length (unown M.o.length S' d) = true) : Rep K M H v (unown M.o.length S' d) := by
  cases d with
  | obj n =>
    unfold unown at l ⊢
    simp only at l ⊢
    split
    · rename_i hn
      rw [if_pos hn] at l
      split
      · rename_i ds hx
        simp only [hx] at l
        cases r with
        | @obj _ a ha =>
          obtain ⟨xs, h1, h2⟩ := hs.at n a _ ha hx
          refine .lst ⟨fun z => ?_, h1⟩ (h2.cut c (by simpa only [D.lim] using l))
          rcases z with z | z
          · obtain ⟨j, hj, ej⟩ := List.getElem_of_mem z
            have e1 : M'.o[j]? = some a := by rw [c.at j hj, List.getElem?_eq_getElem hj, ej]
            have := nd_ix hs.nd e1 ha
            omega
          · exact (hs.pv a (by rw [e.priv]; exact z)).1 (List.mem_of_getElem? ha)
      · rename_i hx
        exfalso
        have : D.lim M.o.length (.obj n) = true := by
          split at l
          · rename_i ds q; exact absurd q (hx ds)
          · exact l
        simp only [D.lim, decide_eq_true_eq] at this
        omega
    · rename_i hn
      rw [if_neg hn] at l
      exact r.cut c l
  | _ => exact r.cut c (by simpa only [unown] using l)
theorem popR_ok {W : WX} {σ : L2.St} {S : Sto} {r : R D} {Q : VK} (hs : HS K M S H) (h : wpG (Rep K) K W σ M H (popR M.o.length r) Q) : wpG (Rep K) K W σ M H r Q := by
  cases r with
  | bad => exact h
  | ok d S' =>
    unfold popR at h
    simp only at h
    split at h
    · exact h
    · split at h
      · rename_i l
        rw [Bool.and_eq_true] at l
        intro M' v H' e r hs'
        obtain ⟨c, hs2, e2⟩ := HS.cut hs hs' e l.2
        exact h M v H' e2 (unown_rep hs hs' e c r l.1) hs2
      · exact h.elim
  | ex x S' =>
    unfold popR at h
    simp only at h
    split at h
    · exact h
    · split at h
      · rename_i l
        rw [Bool.and_eq_true] at l
        intro M' H' cls dd e hs' q
        obtain ⟨c, hs2, e2⟩ := HS.cut hs hs' e l.2
        refine h M H' cls dd e2 hs2 ⟨q.1, ?_⟩
        rcases q.2 with q | ⟨d, vs, q1, q2, q3, q4⟩
        · exact .inl q
        · exact .inr ⟨d, vs, q1, fun z => q2 (c.sub _ z), q3, q4.cut c l.1⟩
      · exact h.elim
end

/-! ### defs -/
def spD (K : PySem.W.Frag) (n : Nat) (g : Fn) : Sp := fun vs H Q E => vs.length = n ∧ ∃ M ds S, Reps K M H vs ds ∧ HS K M S H ∧ wpG (Rep K) K (fun cls d _ H => E cls d H) [] M H (g ds S) Q
structure DFn (P : Program) (w : World) (K : PySem.W.Frag) (mg : Str → Option Value) (base : Heap) (x : Str) (ps : List Str) (k : Nat) (g : Fn) : Prop where
  ex : ∃ f fd, mg x = some (.ref f) ∧ PySem.W.keepIn K (.ref f) = true ∧ Binds K fd ps [] ∧ FnOk P w K mg base (L2.CX P w) k f fd ps (spD K ps.length g)
section
variable {X : Cx} {W : WX} {pos p : Pos} {e : Expr} {es : List Expr} {f : Ee} {fs : List Ee} {x : Str} {ps : List Str} {k : Nat} {g : Fn}
theorem de_call (F : DFn X.prog X.w X.K X.mg X.base x ps k g) (hr : Room k X.A) (tk : Takes X W) (ha : DA X W (e :: es) (eArgs fs)) (hl : fs.length = ps.length := by rfl) (hg : Gl X x := by rfl) (hdb : (x == ("__debug__" : Str)) = false := by decide)
    (he : starEach (e :: es) X.env = (false, eval e X.env) :: starEach es X.env := by rfl) (hpl : (backTo pos (starEach es X.env)).any (·.1) = false := by rfl) : DE X W (.Call (.Name x p) (e :: es) [] pos) (eCall g fs) := by
  obtain ⟨a, fd, hm, hk, hb, F⟩ := F.ex
  exact peI (pe_callS F hr hg hm hk hb (fun σ => passAt tk σ) ha hdb he hpl) fun σ H Q ⟨M, ρ, S, hr, hs, w⟩ => ⟨M, ρ, S, hr, hs, wpG.bind' w fun M1 vs H1 ds S1 e0 e1 r1 hs1 w1 =>
    ⟨by rw [r1.length, eArgs_len e0, hl], M1, ds, S1, r1, hs1, w1⟩⟩
theorem de_call0 {W1 : XK} (F : DFn X.prog X.w X.K X.mg X.base x [] k g) (hr : Room k X.A) (tk : Takes X (fun c d _ H => W1 c d H)) (hg : Gl X x := by rfl) (hdb : (x == ("__debug__" : Str)) = false := by decide) : DE X (fun c d _ H => W1 c d H) (.Call (.Name x p) [] [] pos) (eCall g []) := by
  obtain ⟨a, fd, hm, hk, hb, F⟩ := F.ex
  exact peI (pe_call0 (dvs := []) F hr hg hm hk hb .nil (E := W1) (passes_call tk fun _ _ _ _ h => h) hdb) fun σ H Q ⟨M, ρ, S, hr, hs, w⟩ => ⟨rfl, M, [], S, .nil, hs, w⟩
end
/-- a def by its body: n parameters, N names -/
def fnP (n N : Nat) (body : Sm) : Fn := fun ds S => popR S.length (match body (ds.map some ++ List.replicate (N - n) none) S with
  | .nx _ S' => .ok .non S'
  | .rt d S' => .ok d S'
  | .ex e _ S' => .ex e S'
  | _ => .bad)
/-- .. that hands back what will be changed -/
def fnQ (n N : Nat) (body : Sm) : Fn := fun ds S => match body (ds.map some ++ List.replicate (N - n) none) S with
  | .nx _ S' => .ok .non S'
  | .rt d S' => .ok d S'
  | .ex e _ S' => .ex e S'
  | _ => .bad
section
variable {P : Program} {w : World} {K : PySem.W.Frag} {mg : Str → Option Value} {base : Heap} {x : Str} {ps N : List Str} {k : Nat} {st : Stmt} {f : Addr} {fd : FuncData} {body : Sm}
theorem start_rep {M : Mp} {H : Hp} {vs : List V} {ds : List D} (r : Reps K M H vs ds) (n : Nat) (hl : vs.length = n) : RepE K M H (L2.start N vs) (ds.map some ++ List.replicate (N.length - n) none) := by
  subst hl
  refine ⟨by simp [L2.start, r.length], fun i d h => ?_⟩
  by_cases hi : i < ds.length
  · rw [List.getElem?_append_left (by simpa using hi)] at h
    rw [List.getElem?_map] at h
    cases q : ds[i]? with
    | none => rw [q] at h; cases h
    | some d' =>
      rw [q] at h
      cases h
      obtain ⟨v, hv, rv⟩ := r.get' q
      refine ⟨v, ?_, rv⟩
      unfold L2.start
      rw [List.getElem?_append_left (by simpa [r.length] using hi), List.getElem?_map, hv]
      rfl
  · rw [List.getElem?_append_right (by simpa using Nat.le_of_not_lt hi)] at h
    rw [List.getElem?_replicate] at h
    split at h <;> cases h
theorem fnQ_fn (Ff : Fun K x x st f fd) (S : FnScope N ps (defScope st))
    (h : ∀ (cdv : Value) (A : Around) (outer : List Env) (s : Shared) (H : Hp) (E : XK), Room k (A.deeper (envOfC x (defScope st) s.heap.objs.size f cdv)) → DSs (cxOf (L2.CX P w) P w K mg base N x (defScope st) f cdv A outer s H E) (fun cls d _ H => E cls d H) (defBody st) body) :
    FnOk P w K mg base (L2.CX P w) (k + 1) f fd ps (spD K ps.length (fnQ ps.length N.length body)) := Ff.okX S (fun vs H Q E h => h.1) (fun cdv A outer s H vs Q E hr q => by
    obtain ⟨hl, M, ds, S0, r, hs, w⟩ := q
    refine ⟨_, h cdv A outer s H E hr, M, _, S0, start_rep r ps.length hl, hs, ?_⟩
    unfold fnQ at w
    split at w
    · rename_i ρ S' e
      rw [e]
      exact fun M' σ' H' e1 r1 hs1 => w M' .non H' e1 .non hs1
    · rename_i d S' e
      rw [e]
      exact w
    · rename_i e ρ S' q
      rw [q]
      exact fun M' σ' H' cls dd e1 r1 hs1 q => w M' H' cls dd e1 hs1 q
    · exact w.elim)
theorem fnQ_ok (hm : mg x = some (.ref f)) (Ff : Fun K x x st f fd) (hb : Binds K fd ps []) (S : FnScope N ps (defScope st))
    (h : ∀ (cdv : Value) (A : Around) (outer : List Env) (s : Shared) (H : Hp) (E : XK), Room k (A.deeper (envOfC x (defScope st) s.heap.objs.size f cdv)) → DSs (cxOf (L2.CX P w) P w K mg base N x (defScope st) f cdv A outer s H E) (fun cls d _ H => E cls d H) (defBody st) body) :
    DFn P w K mg base x ps (k + 1) (fnQ ps.length N.length body) := ⟨f, fd, hm, Ff.kp, hb, fnQ_fn Ff S h⟩
theorem fn_imp {CX : CXT} {g g' : Fn} {n : Nat} (F : FnOk P w K mg base CX k f fd ps (spD K n g)) (h : ∀ (W : WX) (M : Mp) (H : Hp) (S : Sto) (ds : List D) (Q : VK), HS K M S H → wpG (Rep K) K W [] M H (g' ds S) Q → wpG (Rep K) K W [] M H (g ds S) Q) : FnOk P w K mg base CX k f fd ps (spD K n g') :=
  F.imp fun vs H Q E ⟨hl, M, ds, S, r, hs, w⟩ => ⟨hl, M, ds, S, r, hs, h _ M H S ds Q hs w⟩
theorem fnP_fn (Ff : Fun K x x st f fd) (S : FnScope N ps (defScope st))
    (h : ∀ (cdv : Value) (A : Around) (outer : List Env) (s : Shared) (H : Hp) (E : XK), Room k (A.deeper (envOfC x (defScope st) s.heap.objs.size f cdv)) → DSs (cxOf (L2.CX P w) P w K mg base N x (defScope st) f cdv A outer s H E) (fun cls d _ H => E cls d H) (defBody st) body) :
    FnOk P w K mg base (L2.CX P w) (k + 1) f fd ps (spD K ps.length (fnP ps.length N.length body)) := fn_imp (fnQ_fn Ff S h) fun W M H S ds Q hs w => by
    unfold fnP at w
    rw [← hs.len] at w
    exact popR_ok hs w
theorem DFn.imp {g g' : Fn} (F : DFn P w K mg base x ps k g) (h : ∀ (W : WX) (M : Mp) (H : Hp) (S : Sto) (ds : List D) (Q : VK), HS K M S H → wpG (Rep K) K W [] M H (g' ds S) Q → wpG (Rep K) K W [] M H (g ds S) Q) : DFn P w K mg base x ps k g' := by
  obtain ⟨f, fd, hm, hk, hb, F⟩ := F.ex
  exact ⟨f, fd, hm, hk, hb, F.imp fun vs H Q E ⟨hl, M, ds, S, r, hs, w⟩ => ⟨hl, M, ds, S, r, hs, h _ M H S ds Q hs w⟩⟩
theorem fnP_ok (hm : mg x = some (.ref f)) (Ff : Fun K x x st f fd) (hb : Binds K fd ps []) (S : FnScope N ps (defScope st))
    (h : ∀ (cdv : Value) (A : Around) (outer : List Env) (s : Shared) (H : Hp) (E : XK), Room k (A.deeper (envOfC x (defScope st) s.heap.objs.size f cdv)) → DSs (cxOf (L2.CX P w) P w K mg base N x (defScope st) f cdv A outer s H E) (fun cls d _ H => E cls d H) (defBody st) body) :
    DFn P w K mg base x ps (k + 1) (fnP ps.length N.length body) := ⟨f, fd, hm, Ff.kp, hb, fnP_fn Ff S h⟩
theorem DFn.mono {g : Fn} {j : Nat} (F : DFn P w K mg base x ps j g) (h : j ≤ k) : DFn P w K mg base x ps k g := by
  obtain ⟨f, fd, hm, hk, hb, F⟩ := F.ex
  exact ⟨f, fd, hm, hk, hb, F.mono h⟩
end
end DL
/-! list(range(a, b)) with great bounds -/
namespace DL
open PySem PySem.Spec PyProof.Rows L2
/-! facts of longrange_iterator -/
theorem lr_owner : Manifest.owners.lookup (String.ofList ['r', 'o', 't', 'a', 'r', 'e', 't', 'i', '_', 'e', 'g', 'n', 'a', 'r', 'g', 'n', 'o', 'l'].reverse) = some Manifest.sig_longrange_iterator := by kernel_rfl
theorem lr_slot_next : Slot "longrange_iterator" "__next__" "longrange_iterator.__next__" :=
  .of (owner := "longrange_iterator") (n := "__next__") (by rw [typeLookup_type, builtinLookup_eq_fast]; kernel_rfl) (by decide +kernel) (by decide +kernel) (by decide +kernel)
    (by first | exact .inl (by decide +kernel) | exact .inr (by decide +kernel)) (by rw [isSubtype_type]; kernel_rfl)
theorem lr_entry_next : entryFor table "longrange_iterator.__next__" = some Builtin.«longrange_iterator.__next__» := entryFor_of_tree (by kernel_rfl)
theorem lr_sig : Manifest.signature? "longrange_iterator.__next__" = some ⟨.exact, "wrapper __next__", "", .self, []⟩ := by
  rw [signature?_of (id := "longrange_iterator.__next__") (n := ['_', '_', 't', 'x', 'e', 'n', '_', '_']) (o := ['r', 'o', 't', 'a', 'r', 'e', 't', 'i', '_', 'e', 'g', 'n', 'a', 'r', 'g', 'n', 'o', 'l']) (by kernel_rfl) lr_owner]; kernel_rfl
theorem lr_args_next (a : Value) : argsOk "longrange_iterator.__next__" ⟨[a], []⟩ := by
  unfold argsOk; rw [lr_sig]; kernel_rfl
theorem lr_slot_iter : Slot "longrange_iterator" "__iter__" "longrange_iterator.__iter__" :=
  .of (owner := "longrange_iterator") (n := "__iter__") (by rw [typeLookup_type, builtinLookup_eq_fast]; kernel_rfl) (by decide +kernel) (by decide +kernel) (by decide +kernel)
    (by first | exact .inl (by decide +kernel) | exact .inr (by decide +kernel)) (by rw [isSubtype_type]; kernel_rfl)
theorem lr_entry_iter : entryFor table "longrange_iterator.__iter__" = some Builtin.«dict_keyiterator.__iter__» :=
  entryFor_alias (id' := "dict_keyiterator.__iter__") (by kernel_rfl) (by first | rfl | decide +kernel | (unfold String.splitOn; simp +decide [String.splitOnAux])) (by decide +kernel) (by kernel_rfl)
theorem lr_args_iter (a : Value) : argsOk "longrange_iterator.__iter__" ⟨[a], []⟩ := by
  unfold argsOk; rw [signature?_of (id := "longrange_iterator.__iter__") (n := ['_', '_', 'r', 'e', 't', 'i', '_', '_']) (o := ['r', 'o', 't', 'a', 'r', 'e', 't', 'i', '_', 'e', 'g', 'n', 'a', 'r', 'g', 'n', 'o', 'l']) (by kernel_rfl) lr_owner]; kernel_rfl
theorem lr_bound (a : Value) : bound "longrange_iterator.__next__" ⟨[a], []⟩ = pure #[some a] := by
  unfold bound
  rw [lr_sig]
  first | rfl | kernel_rfl
/-- the iterator of a great range -/
abbrev IsLong (h : Heap) (it : Addr) (x left : Int) : Prop := h.get? it = some { cls := .type "longrange_iterator", dict := none, data := .fields #[rawInt x, rawInt left, rawInt 1], slots := #[] }
section
variable {prog : Program} {w : World} {A : Around} {E : Value → Shared → Prop} {s : Shared}
theorem lr_next_item {it : Addr} {x left : Int} {Q : Option Value → Shared → Prop} (hit : IsLong s.heap it x left) (hl : 0 < left)
    (hQ : ∀ h', IsLong h' it (x + 1) (left - 1) → Heap.SameBut it s.heap h' → Q (some (.int x s.toks)) { s with heap := h', toks := s.toks + 1 }) : wpAny (model prog w) A (pyNext (.ref it)) Q E s := by
  have hT : s.TypeIs (.ref it) "longrange_iterator" := ⟨_, hit, rfl⟩
  unfold pyNext
  refine wpAny_bind (wpAny_attempt (wpAny_callSpecial?_slot (name := Str.ofString "__next__") hT lr_slot_next (wpAny_call_entry lr_slot_next hT lr_entry_next ?_ (lr_args_next _))))
  unfold Builtin.«longrange_iterator.__next__»
  refine wpAny_bind (wpAny_of_eq (lr_bound _) ?_)
  show wpAny _ _ (Builtin.Iterators_pickling.intField _ (.ref it) 0 >>= _) _ _ s
  unfold Builtin.Iterators_pickling.intField
  refine wpAny_bind (wpAny_bind (wpAny_field hit rfl (x := rawInt x) rfl (wpAny_pure ?_)))
  refine wpAny_bind (wpAny_bind (wpAny_field hit rfl (x := rawInt left) rfl (wpAny_pure ?_)))
  refine wpAny_bind (wpAny_bind (wpAny_field hit rfl (x := rawInt 1) rfl (wpAny_pure ?_)))
  show wpAny _ _ (if left ≤ 0 then _ else _) _ _ s
  rw [if_neg (by omega)]
  refine wpAny_bind (wpAny_setField_rec hit (by simp) fun h1 hit1 hs1 => ?_)
  refine wpAny_bind (wpAny_setField_rec hit1 (by simp) fun h2 hit2 hs2 => ?_)
  refine wpAny_bind (wpAny_mkInt ?_)
  exact wpAny_pure ⟨_, rfl, wpAny_pure (hQ h2 hit2 (Heap.SameBut.trans hs1 hs2))⟩
theorem lr_next_end {it : Addr} {x left : Int} {Q : Option Value → Shared → Prop} (hh : A.in1.handled = none) (hit : IsLong s.heap it x left) (hl : left ≤ 0)
    (hQ : ∀ h', Heap.ExtBut it s.heap h' → Q none { s with heap := h' }) : wpAny (model prog w) A (pyNext (.ref it)) Q E s := by
  have hT : s.TypeIs (.ref it) "longrange_iterator" := ⟨_, hit, rfl⟩
  unfold pyNext
  refine wpAny_bind (wpAny_attempt (wpAny_callSpecial?_slot (name := Str.ofString "__next__") hT lr_slot_next (wpAny_call_entry lr_slot_next hT lr_entry_next ?_ (lr_args_next _))))
  unfold Builtin.«longrange_iterator.__next__»
  refine wpAny_bind (wpAny_of_eq (lr_bound _) ?_)
  show wpAny _ _ (Builtin.Iterators_pickling.intField _ (.ref it) 0 >>= _) _ _ s
  unfold Builtin.Iterators_pickling.intField
  refine wpAny_bind (wpAny_bind (wpAny_field hit rfl (x := rawInt x) rfl (wpAny_pure ?_)))
  refine wpAny_bind (wpAny_bind (wpAny_field hit rfl (x := rawInt left) rfl (wpAny_pure ?_)))
  refine wpAny_bind (wpAny_bind (wpAny_field hit rfl (x := rawInt 1) rfl (wpAny_pure ?_)))
  show wpAny _ _ (if left ≤ 0 then _ else _) _ _ s
  rw [if_pos hl]
  refine wpAny_bind (wpAny_rule ?_)
  refine wpAny_bind ?_
  simp only [newExc, newTuple]
  refine wpAny_bind (wpAny_newObj_type ?_ (by size_fits))
  refine wpAny_bind (m := firstArgMember _ _) (wpAny_of_eq (a := Value.none) (by first | rfl | (simp only [firstArgMember]; rfl)) ?_)
  refine wpAny_newObj_type ?_ (by size_fits)
  refine wpAny_bind ?_
  simp only [raiseNew]
  refine wpAny_bind (wpAny_handled ?_)
  rw [hh]
  refine wpAny_bind (wpAny_pure (wpAny_throw ?_))
  refine wpAny_bind (wpAny_isInstance (T := "StopIteration") (b := true) ⟨_, Heap.get?_push_size _ rfl, rfl⟩ isSubtype_stop ?_)
  exact wpAny_pure (hQ _ (((Heap.ExtBut.refl it s.heap).push _).push _))
theorem lr_walks (hh : A.handled = none) (I : Addr) (a : Int) (n : Nat) :
    Walks prog w A I [I] [I] n (fun i v => ∃ t, v = .int (a + i * 1) t) (fun i h => IsLong h I (a + (i : Nat) * 1) ((n : Int) - (i : Nat))) where
  sub := fun _ hb => hb
  frame := fun _ _ _ st hk => hk I (by simp) _ st
  item := fun i s Q E hi st hQ => by
    refine lr_next_item st (by omega) fun h' hit' hs' => ?_
    refine hQ _ h' _ ⟨_, rfl⟩ ?_ fun b o hb e => hs'.extBut b o (fun h => hb (by simp [h])) e
    have e1 : a + ((i + 1 : Nat) : Int) * 1 = a + (i : Int) * 1 + 1 := by omega
    have e2 : (n : Int) - ((i + 1 : Nat) : Int) = (n : Int) - (i : Int) - 1 := by omega
    rw [e1, e2]; exact hit'
  done := fun s Q E st hQ => lr_next_end (show A.in1.handled = none from hh) st (by omega) fun h' he' => hQ h' s.toks fun b o hb e => he' b o (fun h => hb (by simp [h])) e
  self := fun _ s _ _ st hQ => by
    have hT : s.TypeIs (.ref I) "longrange_iterator" := ⟨_, st, rfl⟩
    refine wpAny_pyIter_slot hT lr_slot_iter (wpAny_call_entry lr_slot_iter hT lr_entry_iter ?_ (lr_args_iter _))
    exact wpAny_pure ⟨_, rfl, "longrange_iterator", _, hT, lr_slot_next.lookup, hQ⟩
/-- iter of a great range -/
theorem lr_iter {r : Addr} {a b : Int} {t u v : Tok} {Q : Value → Shared → Prop} (hr : IsRange s.heap r a b 1 t u v) (hbig : Builtin.Range.small a b 1 = false)
    (hQ : Q (.ref s.heap.objs.size) { s with heap := s.heap.push { cls := .type "longrange_iterator", data := .fields #[rawInt a, rawInt (Builtin.Range.rangeSize a b 1), rawInt 1] } }) :
    wpAny (model prog w) A (pyIter (.ref r)) Q E s := by
  have hT : s.TypeIs (.ref r) "range" := ⟨_, hr, rfl⟩
  unfold Builtin.Range.small at hbig
  refine wpAny_pyIter_slot hT F.slot_range_iter (call_meets F.slot_range_iter hT F.entry_range_iter (F.args_range_iter_1 _)
    (AutoRange.range___iter___range_0 r a b 1 t u v (by simp only [hbig]; rfl)) ⟨hr, ?_⟩)
  simp only [hbig]
  exact ⟨"longrange_iterator", _, ⟨_, Heap.get?_push_size _ rfl, rfl⟩, lr_slot_next.lookup, hQ⟩
/-- what stands at S goes through a great range -/
theorem lr_extend {R : Result → Shared → Prop} {r : Addr} {a b : Int} {t u v : Tok} {n : Nat} (hh : A.handled = none) (hr : IsRange s.heap r a b 1 t u v) (hbig : Builtin.Range.small a b 1 = false)
    (hn : Builtin.Range.rangeSize a b 1 = n) (hlen : n ≤ 2 ^ 24) (S : Addr) (res : Value) (c₀ : Nat) (hS : s.heap.get? S = some { cls := .type "list", data := .seq #[] c₀ })
    (hR : ∀ h' tk acc' c', (∀ b o, b ≠ S → s.heap.get? b = some o → h'.get? b = some o) → h'.get? S = some { cls := .type "list", dict := none, data := .seq acc' c', slots := #[] } →
      ItemsOf (fun i v => ∃ t, v = .int (a + i * 1) t) acc' n → R (.ok (.ret res)) { s with heap := h', toks := tk }) :
    wpAny (model prog w) A.in1 (Builtin.List.listExtendWith (.ref S) (.ref r) res)
      (fun fin s' => match fin with | .done f => R (.ok f) s' | .again c' => c'.quiet = true ∧ codeAny (model prog w) A c' R s') (fun e s' => R (.error e) s') s := by
  have hSr : S ≠ r := fun e => by rw [e, hr] at hS; simp at hS
  have hSI : S ≠ s.heap.objs.size := Nat.ne_of_lt (Heap.lt_size hS)
  have hSf : S ∉ [s.heap.objs.size] := fun hm => hSI (List.mem_singleton.mp hm)
  have W := (lr_walks (prog := prog) (w := w) (A := A.in1) hh s.heap.objs.size a n).toS
  have key : ∀ (h : Heap) (c₁ tk : Nat), IsLong h s.heap.objs.size (a + ((0 : Nat) : Int) * 1) ((n : Int) - ((0 : Nat) : Int)) → (∀ b o, b ≠ S → s.heap.get? b = some o → h.get? b = some o) →
      h.get? S = some { cls := .type "list", data := .seq #[] c₁ } → codeAny (model prog w) A (.builtin "list.extend.loop" ⟨[.ref S, .ref s.heap.objs.size, res], []⟩) R { s with heap := h, toks := tk } := by
    intro h c₁ tk hit hk hS₁
    refine codeAny_extend_loopS W (by rw [sizeLine_eq]; omega) S hSf res n 0 _ #[] c₁ rfl (Nat.zero_le _) hit hS₁ (ItemsOf.nil _) fun s' acc' c' hm hS' hacc => ?_
    rw [Moved.eq_with hm]
    refine hR s'.heap s'.toks acc' c' (fun b o hb e => hm.heap b o (fun hmem => ?_) (hk b o hb e)) hS' hacc
    rcases List.mem_cons.mp hmem with e' | hmem
    · exact hb e'
    · exact absurd (Heap.lt_size e) (by rw [List.mem_singleton.mp hmem]; exact Nat.lt_irrefl _)
  unfold Builtin.List.listExtendWith
  refine wpAny_bind (wpAny_typeOf (T := "range") ⟨_, hr, rfl⟩ ?_)
  have h1 : Builtin.List.listSameRef (.ref S) (.ref r) = false := by simp [Builtin.List.listSameRef, hSr]
  have h2 : (Value.type "range" == Value.type "list") = false := by decide
  have h3 : (Value.type "range" == Value.type "tuple") = false := by decide
  simp only [h1, h2, h3, Bool.or_false, Bool.false_eq_true, if_false]
  refine wpAny_bind (lr_iter hr hbig ?_)
  refine wpAny_bind (wpAny_holding (wpAny_hint_range (n := n) (Heap.get?_push_of_some _ hr) hn hlen ?_))
  have hit₁ : IsLong (s.heap.push { cls := .type "longrange_iterator", data := .fields #[rawInt a, rawInt (Builtin.Range.rangeSize a b 1), rawInt 1] }) s.heap.objs.size (a + ((0 : Nat) : Int) * 1) ((n : Int) - ((0 : Nat) : Int)) := by
    show IsLong _ _ _ _; rw [hn]; simpa using Heap.get?_push_size _ rfl
  have hS₁ := Heap.get?_push_of_some { cls := .type "longrange_iterator", data := .fields #[rawInt a, rawInt (Builtin.Range.rangeSize a b 1), rawInt 1] } hS
  refine wpAny_ite_split (fun _ => ?_) (fun _ => wpAny_pure ⟨plainId_quiet F.plain_extend_loop _, key _ c₀ _ hit₁ (fun b o _ e => Heap.get?_push_of_some _ e) hS₁⟩)
  refine wpAny_bind (wpAny_rule ?_)
  refine wpAny_bind ?_
  show wpAny _ _ (updateSeq S (·.push .none) >>= fun _ => updateSeq S (·.pop)) _ _ _
  refine wpAny_bind (wpAny_updateSeq hS₁ rfl ?_)
  have hS₂ := Heap.get?_update_self (Obj.mapSeq (·.push Value.none)) hS₁ rfl
  refine wpAny_updateSeq (hz := by seq_fits) hS₂ rfl ?_
  have hS₃ := Heap.get?_update_self (Obj.mapSeq (·.pop)) hS₂ rfl
  refine wpAny_pure ⟨plainId_quiet F.plain_extend_loop _, key _ _ _ ?_ (fun b o hb e => ?_) hS₃⟩
  · exact (Heap.get?_update_other _ _ hSI).trans ((Heap.get?_update_other _ _ hSI).trans hit₁)
  · exact (Heap.get?_update_other _ _ (Ne.symm hb)).trans ((Heap.get?_update_other _ _ (Ne.symm hb)).trans (Heap.get?_push_of_some _ e))
theorem lr_init {R : Result → Shared → Prop} {r : Addr} {a b : Int} {t u v : Tok} {n : Nat} (hh : A.handled = none) (hr : IsRange s.heap r a b 1 t u v) (hbig : Builtin.Range.small a b 1 = false)
    (hn : Builtin.Range.rangeSize a b 1 = n) (hlen : n ≤ 2 ^ 24) (S : Addr) (hS : s.heap.get? S = some { cls := .type "list", data := .seq #[] })
    (hR : ∀ h' tk acc' c', (∀ b o, b ≠ S → s.heap.get? b = some o → h'.get? b = some o) → h'.get? S = some { cls := .type "list", dict := none, data := .seq acc' c', slots := #[] } →
      ItemsOf (fun i v => ∃ t, v = .int (a + i * 1) t) acc' n → R (.ok (.ret .none)) { s with heap := h', toks := tk }) :
    wpAny (model prog w) A.in1 (Builtin.«list.__init__» ⟨[.ref S, .ref r], []⟩)
      (fun fin s' => match fin with | .done f => R (.ok f) s' | .again c' => c'.quiet = true ∧ codeAny (model prog w) A c' R s') (fun e s' => R (.error e) s') s := by
  have hSr : S ≠ r := fun e => by rw [e, hr] at hS; simp at hS
  show wpAny _ _ (do let old ← Builtin.List.listItems (.ref S); Builtin.List.listUpdate (.ref S) (fun _ => #[]); letGo old.toList.reverse; Builtin.List.listExtendWith (.ref S) (.ref r) .none) _ _ s
  refine wpAny_bind ?_
  unfold Builtin.List.listItems
  refine wpAny_bind (wpAny_seqItems hS rfl (wpAny_pure ?_))
  show wpAny _ _ (updateSeq S (fun _ => #[]) >>= fun _ => letGo (#[] : Array Value).toList.reverse >>= fun _ => Builtin.List.listExtendWith (.ref S) (.ref r) .none) _ _ s
  refine wpAny_bind (wpAny_updateSeq hS rfl ?_)
  have hS₂ := Heap.get?_update_self (Obj.mapSeq (fun _ => (#[] : Array Value))) hS rfl
  have oth : ∀ b o, b ≠ S → s.heap.get? b = some o → (s.heap.update S (Obj.mapSeq (fun _ => (#[] : Array Value)))).get? b = some o :=
    fun b o hb e => (Heap.get?_update_other _ _ (Ne.symm hb)).trans e
  refine wpAny_bind (wpAny_letGo ?_)
  refine lr_extend hh (oth r _ (Ne.symm hSr) hr) hbig hn hlen S .none _ hS₂ fun h' tk acc' c' hk hS' hacc => ?_
  exact hR h' tk acc' c' (fun b o hb e => hk b o hb (oth b o hb e)) hS' hacc
theorem lr_call {Q : Value → Shared → Prop} {r : Addr} {a b : Int} {t u v : Tok} {n : Nat} (hh : A.handled = none) (hr : IsRange s.heap r a b 1 t u v) (hbig : Builtin.Range.small a b 1 = false)
    (hn : Builtin.Range.rangeSize a b 1 = n) (hlen : n ≤ 2 ^ 24)
    (hQ : ∀ h' tk acc' c', (∀ b o, s.heap.get? b = some o → h'.get? b = some o) →
      h'.get? s.heap.objs.size = some { cls := .type "list", dict := none, data := .seq acc' c', slots := #[] } → ItemsOf (fun i v => ∃ t, v = .int (a + i * 1) t) acc' n → Q (.ref s.heap.objs.size) { s with heap := h', toks := tk }) :
    wpAny (model prog w) A (call (.type "list") [.ref r]) Q E s := by
  refine callType_codes (Q₁ := fun obj s₁ => obj = .ref s.heap.objs.size ∧ s₁ = { s with heap := s.heap.push { cls := .type "list", data := .seq #[] } }) F.called_list (F.typeCall_list_1 _) F.entry_list_init
    (code_list_new _ ⟨rfl, rfl⟩) fun obj s₁ h₁ => ?_
  obtain ⟨rfl, rfl⟩ := h₁
  have hS : (s.heap.push { cls := .type "list", data := .seq #[] }).get? s.heap.objs.size = some { cls := .type "list", data := .seq #[] } := Heap.get?_push_size _ rfl
  refine ⟨⟨_, hS, rfl⟩, F.args_list_init_2 _ _, lr_init (A := A.in1) hh (Heap.get?_push_of_some _ hr) hbig hn hlen _ hS fun h' tk acc' c' hk hS' hacc => ?_⟩
  exact ⟨rfl, hQ h' tk acc' c' (fun b o e => hk b o (Nat.ne_of_lt (Heap.lt_size e)) (Heap.get?_push_of_some _ e)) hS' hacc⟩
end
section
variable {X : Cx} {e : Expr} {te : L2.St → Hp → (Int → Int → Hp → Prop) → Prop}
def tLstRgA (te : L2.St → Hp → (Int → Int → Hp → Prop) → Prop) : TE := fun σ H Q => te σ H fun a b H1 => (b - a).toNat ≤ 2 ^ 24 ∧ ∀ q, H1 q = none → Q (.ref q) (upd H1 q (.lst (rgV a b)))
theorem pe_listRgA {p pos : Pos} (hc : X.calm = true) (hg : Gl X "list") (hm : X.mg "list" = none) (he : PRg X e te) (na : starEach [e] X.env = (false, eval e X.env) :: starEach [] X.env := by rfl) : PE X (.Call (.Name "list" p) [e] [] pos) (tLstRgA te) := by
  refine ⟨fun pins s σ H Q I h => ?_⟩
  refine Call_ (ld_blt I hg hm boot_list (PyProof.Rows.callWith_type1 (args_cons (thn (he pins s σ H _ I h) fun x s1 ⟨r, a, b, t, u, v, H1, ex, hr, I1, b5, q⟩ => args_nil ?_) na) na))
  subst ex
  have fin : ∀ (h' : Heap) (tk : Nat) (acc : Array Value) (c' : Nat), (∀ b o, s1.heap.get? b = some o → h'.get? b = some o) → h'.get? s1.heap.objs.size = some { cls := .type "list", dict := none, data := .seq acc c', slots := #[] } → ItemsOf (fun i v => ∃ t, v = .int (a + i * 1) t) acc (b - a).toNat →
      EP X pins σ Q (.ref s1.heap.objs.size) { s1 with heap := h', toks := tk } := fun h' tk acc c' hk e' hi => by
    refine ⟨.ref s1.heap.objs.size, upd H1 s1.heap.objs.size (.lst (rgV a b)), I1.laid hk (Nat.le_refl _) (show ObjOk X.prog X.w _ _ _ (.lst (rgV a b)) from ⟨?_, acc.toList, c', vals_rg hi, ?_⟩), rfl, q _ (I1.hok.fresh (Nat.le_refl _))⟩
    · rw [rgV_length, sizeLine_eq]; omega
    · rw [Array.toArray_toList]; exact e'
  cases hs : Builtin.Range.small a b 1 with
  | true => exact call_list_range (n := (b - a).toNat) (I1.ok.hd hc) hr hs (rangeSize_nat a b) b5 fin
  | false => exact lr_call (n := (b - a).toNat) (I1.ok.hd hc) hr hs (rangeSize_nat a b) b5 fin
end
end DL
namespace DL
open PySem PySem.Spec PyProof.Rows L2

/-! ### sum, max, min of a tuple of ints -/
section
variable {prog : Program} {w : World} {A : Around} {E : Value → Shared → Prop} {s : Shared} {l : Addr} {xs : Array (Int × Tok)}
theorem iter_intTup {Q : Value → Shared → Prop} (hl : s.heap.IsTuple l (intItems xs))
    (h : ∀ s₂ : Shared, s₂ = { s with heap := s.heap.push { cls := .type "tuple_iterator", data := .fields #[.ref l, .int 0 0] } } →
      (s₂.heap.IsTupleIter s.heap.objs.size l 0 ∧ s₂.heap.IsTuple l (intItems xs)) → (∀ c ∈ [s.heap.objs.size, l], c < s₂.heap.objs.size) → l ≠ s.heap.objs.size → Q (.ref s.heap.objs.size) s₂) : wpAny (model prog w) A (pyIter (.ref l)) Q E s := by
  have hlt : l < s.heap.objs.size := by obtain ⟨_, e, _⟩ := hl; exact Heap.lt_size e
  refine wpAny_pyIter_tuple hl (h _ rfl ⟨⟨_, Heap.get?_push_size _ rfl, rfl, rfl⟩, hl.push _⟩ (fun c hc => ?_) (Nat.ne_of_lt hlt))
  show c < (s.heap.push _).objs.size
  rw [Heap.size_push]
  rcases List.mem_cons.mp hc with rfl | hc
  · exact Nat.lt_succ_self _
  · rcases List.mem_cons.mp hc with rfl | hc
    · exact Nat.lt_succ_of_lt hlt
    · cases hc
theorem old_keptT {h' : Heap} (hk : ∀ b o, b ∉ [s.heap.objs.size] → (s.heap.push { cls := .type "tuple_iterator", data := .fields #[.ref l, .int 0 0] }).get? b = some o → h'.get? b = some o) :
    ∀ b o, s.heap.get? b = some o → h'.get? b = some o := fun b o e => by
  refine hk b o (fun hm => ?_) (Heap.get?_push_of_some _ e)
  rcases List.mem_cons.mp hm with e1 | hm
  · exact absurd (e1 ▸ Heap.lt_size e) (Nat.lt_irrefl _)
  · cases hm
theorem sum_intTup {Q : Value → Shared → Prop} (hh : A.handled = none) (hl : s.heap.IsTuple l (intItems xs))
    (h : ∀ h' tk t', (∀ b o, s.heap.get? b = some o → h'.get? b = some o) → Q (.int (preSum (numAt xs) xs.size) t') { s with heap := h', toks := tk }) :
    wpAny (model prog w) A (call (.builtin "sum") [.ref l]) Q E s := by
  refine call_sum_walkG (iter_intTup hl fun s₂ e st hfp hlI => ?_)
  subst e
  refine ⟨_, _, _, _, _, _, numAt xs, rfl, Walks.tuple (A := A.in1) hh _ l hlI (intItems xs), st, hfp, (fun _ _ => intItems_at), fun h' tk t' hk => ?_⟩
  have := h h' tk t' (old_keptT hk)
  simpa [intItems] using this
end

section
variable {X : Cx}
def rSumT (K : PySem.W.Frag) : List V → Hp → VK → Prop := fun vs H Q => ∃ (a : Addr) (ns : List Int), vs = [V.ref a] ∧ SqT K H a (ns.map V.int) ∧ Q (.int ns.sum) H
theorem cr_sumT (hc : X.calm = true) : CallR X (.builtin "sum") (rSumT X.K) := by
  intro pins s σ H vs us Q I r h
  obtain ⟨a, ns, rfl, hs, q⟩ := h
  obtain ⟨its, rv, hl, _⟩ := I.tuple hs
  rw [Vals.ref1 r]
  have hi := rv.ints
  obtain ⟨xs, e⟩ := hi.allInts.items
  have hn : numsOf (intItems xs).toList = ns := by rw [← e]; exact hi.numsOf
  rw [nums_intItems] at hn
  rw [e] at hl
  refine sum_intTup (I.ok.hd hc) hl fun h' tk t' hk => ?_
  rw [preSum_eq, List.take_of_length_le (by simp), hn]
  exact ⟨.int _, H, I.kept hk, ⟨_, rfl⟩, q⟩
end
def gSum : Gc := fun ds S => match ds with
  | [d] => match view S d with
    | .lst xs => match intsOf xs with
      | some l => .ok (.int l.sum) S
      | none => .bad
    | .tup xs => match intsOf xs with
      | some l => .ok (.int l.sum) S
      | none => .bad
    | _ => .bad
  | _ => .bad
theorem cd_sum {K : PySem.W.Frag} : CallD K (fun xs H Q => rSum K xs H Q ∨ rSumT K xs H Q) gSum := by
  intro W σ M H S xs ds Q hs r w
  unfold gSum at w
  split at w
  · obtain ⟨v, rfl, r1⟩ := reps1 r
    split at w
    · rename_i ys e
      obtain ⟨p, vs, rfl, h1, q1⟩ := view_lst hs r1 e
      split at w
      · rename_i l hl
        rw [q1.intsV hl] at h1
        exact .inl ⟨p, l, rfl, SqL.of h1, wp_val hs (.int _) w⟩
      · exact w.elim
    · rename_i ys e
      obtain ⟨p, vs, rfl, h1, q1⟩ := view_tup r1 e
      split at w
      · rename_i l hl
        rw [q1.intsV hl] at h1
        exact .inr ⟨p, l, rfl, h1, wp_val hs (.int _) w⟩
      · exact w.elim
    · exact w.elim
  · exact w.elim
theorem call_sumD {X : Cx} (hc : X.calm = true) : CallR X (.builtin "sum") (fun xs H Q => rSum X.K xs H Q ∨ rSumT X.K xs H Q) := CallR.or (cr_sum hc) (cr_sumT hc)

/-! ### isinstance of a built-in type -/
def tyN : Nat → String
  | 0 => "NoneType" | 1 => "bool" | 2 => "int" | 3 => "str" | 4 => "tuple" | _ => "list"
def isiN (i k : Nat) : Bool := i == k || (i == 1 && k == 2)
theorem isi_kit : ∀ i, i < 6 → ∀ k, k < 6 → kitB (tyN i) (tyN k) = some (isiN i k) := by decide +kernel
def tag (S : Sto) : D → Option Nat
  | .non => some 0
  | .bl _ => some 1
  | .int _ => some 2
  | .str _ => some 3
  | .tup _ => some 4
  | .lst _ => some 5
  | .obj n => match S[n]? with
    | some (.lst _) => some 5
    | _ => none
  | _ => none
theorem tag_lt {S : Sto} {d : D} {n : Nat} (h : tag S d = some n) : n < 6 := by
  unfold tag at h
  split at h <;> first | (cases h; decide) | skip
  · split at h <;> first | (cases h; decide) | cases h
  · cases h
theorem tag_ty {K : PySem.W.Frag} {M : Mp} {H : Hp} {S : Sto} {v : V} {d : D} {n : Nat} (hs : HS K M S H) (r : Rep K M H v d) (h : tag S d = some n) : TyX K H v (.type (tyN n)) := by
  cases r with
  | non => simp only [tag] at h; cases h; exact .base .non
  | bl b => simp only [tag] at h; cases h; exact .base (.bl b)
  | int i => simp only [tag] at h; cases h; exact .base (.int i)
  | str x => simp only [tag] at h; cases h; exact .base (.str x)
  | tup q _ =>
    simp only [tag] at h; cases h
    rcases q with q | ⟨o, its, m, q1, q2, _⟩
    · exact .base (.tup q.2)
    · exact .kTuple q1 q2
  | lst q _ => simp only [tag] at h; cases h; exact .base (.lst q.2)
  | @obj m a q =>
    simp only [tag] at h
    split at h
    · rename_i ds e
      cases h
      obtain ⟨xs, q1, _⟩ := hs.at m a _ q e
      exact .base (.lst q1)
    · cases h
  | ref a => simp only [tag] at h; cases h
  | frz _ _ => simp only [tag] at h; cases h
def eIsi (k : Nat) (f : Ee) : Ee := fun ρ S => (f ρ S).bind fun d S1 => match tag S1 d with
  | some n => .ok (.bl (isiN n k)) S1
  | none => .bad
section
variable {X : Cx} {W : WX} {pos p : Pos} {e a b : Expr} {es : List Expr} {f fa fb : Ee} {fs : List Ee}
theorem de_isi (k : Nat) {x : Str} {px : Pos} (hk : k < 6) (hv : bootBuiltins x = some (.type (tyN k))) (hm : X.mg "isinstance" = none) (hmx : X.mg x = none) (h : DE X W e f) (hg : Gl X "isinstance" := by rfl) (hgx : Gl X x := by rfl)
    (hn : x ≠ "__name__" := by decide) (hd : (x == ("__debug__" : Str)) = false := by decide)
    (he : starEach (e :: [.Name x px]) X.env = (false, eval e X.env) :: starEach [.Name x px] X.env := by rfl) (hpl : (backTo pos (starEach [.Name x px] X.env)).any (·.1) = false := by rfl) :
    DE X W (.Call (.Name "isinstance" p) [e, .Name x px] [] pos) (eIsi k f) :=
  peI (pe_callB call_isi hg hm b_isinstance (pa_cons h (pa_cons (pe_bltn (v := .ty (tyN k)) hgx hmx hv rfl hn hd) pa_nil) he) (by decide) (by decide) he hpl) fun σ H Q ⟨M, ρ, S, hr, hs, w⟩ => ⟨M, ρ, S, hr, hs, wpG.bind w fun M1 v H1 d S1 e1 r1 hs1 w1 => by
    split at w1
    · rename_i n hn
      exact ⟨v, .ty (tyN k), _, _, isiN n k, rfl, .ty _, tag_ty hs1 r1 hn, kit_ty (isi_kit n (tag_lt hn) k hk), wp_val hs1 (.bl _) w1⟩
    · exact w1.elim⟩

/-! ### list(range(..)) -/
def rgD (a b : Int) : List D := (List.range (b - a).toNat).map fun i => D.int (a + (i : Nat))
theorem rg_rep {K : PySem.W.Frag} {M : Mp} {H : Hp} (a b : Int) : Reps K M H (rgV a b) (rgD a b) := by
  unfold rgV rgD
  induction List.range (b - a).toNat with
  | nil => exact .nil
  | cons i l ih => exact .cons (.int _) ih
def rgOk (a b : Int) : Bool := smallI a && smallI b && decide ((b - a).toNat ≤ 16777216)
theorem rgOk_of {a b : Int} (h : rgOk a b = true) : RgOk a b := by
  unfold rgOk at h
  rw [Bool.and_eq_true, Bool.and_eq_true, decide_eq_true_eq] at h
  have h1 := smallI_of h.1.1
  have h2 := smallI_of h.1.2
  exact ⟨h1.1, h1.2, h2.1, h2.2, h.2⟩
def eListRg1 (f : Ee) : Ee := fun ρ S => (f ρ S).bind fun x S1 => match x with
  | .int j => if rgOk 0 j then .ok (.lst (rgD 0 j)) S1 else .bad
  | _ => .bad
def eListRg2 (f g : Ee) : Ee := fun ρ S => (f ρ S).bind fun x S1 => (g ρ S1).bind fun y S2 => match x, y with
  | .int i, .int j => if rgOk i j then .ok (.lst (rgD i j)) S2 else if (j - i).toNat ≤ 16777216 then .ok (.lst (rgD i j)) S2 else .bad
  | _, _ => .bad
theorem de_listRg1 {p2 pos2 : Pos} (hc : X.calm = true) (hml : X.mg "list" = none) (hmr : X.mg "range" = none) (ha : DE X W a fa) (hgl : Gl X "list" := by rfl) (hgr : Gl X "range" := by rfl) (na : starEach [a] X.env = (false, eval a X.env) :: starEach [] X.env := by rfl)
    (nl : starEach [.Call (.Name "range" p2) [a] [] pos2] X.env = (false, eval (.Call (.Name "range" p2) [a] [] pos2) X.env) :: starEach [] X.env := by rfl) :
    DE X W (.Call (.Name "list" p) [.Call (.Name "range" p2) [a] [] pos2] [] pos) (eListRg1 fa) := peI (pe_listRg hc hgl hml (prg_1 hgr hmr ha na) nl) fun σ H Q ⟨M, ρ, S, hr, hs, w⟩ => ⟨M, ρ, S, hr, hs, wpG.bind w fun M1 v H1 d S1 e1 r1 hs1 w1 => by
    split at w1
    · split at w1
      · rename_i j hj
        cases r1
        exact ⟨_, rfl, rgOk_of hj, wp_newL hs1 (rg_rep _ _) w1⟩
      · exact w1.elim
    · exact w1.elim⟩
theorem de_listRg2 {p2 pos2 : Pos} (hc : X.calm = true) (hml : X.mg "list" = none) (hmr : X.mg "range" = none) (ha : DE X W a fa) (hb : DE X W b fb) (hgl : Gl X "list" := by rfl) (hgr : Gl X "range" := by rfl) (na : starEach [a, b] X.env = (false, eval a X.env) :: starEach [b] X.env := by rfl)
    (nb : starEach [b] X.env = (false, eval b X.env) :: starEach [] X.env := by rfl) (hp : (backTo pos2 (starEach [b] X.env)).any (·.1) = false := by rfl)
    (nl : starEach [.Call (.Name "range" p2) [a, b] [] pos2] X.env = (false, eval (.Call (.Name "range" p2) [a, b] [] pos2) X.env) :: starEach [] X.env := by rfl) :
    DE X W (.Call (.Name "list" p) [.Call (.Name "range" p2) [a, b] [] pos2] [] pos) (eListRg2 fa fb) := peI (pe_listRgA hc hgl hml (prg_2 hgr hmr ha hb na nb hp) nl) fun σ H Q ⟨M, ρ, S, hr, hs, w⟩ => ⟨M, ρ, S, hr, hs, wpG.bind w fun M1 v H1 d S1 e1 r1 hs1 w1 => ⟨M1, ρ, S1, hr.mono e1, hs1, wpG.bind w1 fun M2 v2 H2 d2 S2 e2 r2 hs2 w2 => by
    split at w2
    · rename_i i j
      cases r1
      cases r2
      split at w2
      · rename_i hj
        exact ⟨_, _, rfl, rfl, (rgOk_of hj).2.2.2.2, wp_newL hs2 (rg_rep _ _) w2⟩
      · split at w2
        · rename_i hj
          exact ⟨_, _, rfl, rfl, hj, wp_newL hs2 (rg_rep _ _) w2⟩
        · exact w2.elim
    · exact w2.elim⟩⟩

/-! ### append -/
def eApp (o e : Ee) : Ee := fun ρ S => (o ρ S).bind fun l S1 => (eArgs [e] ρ S1).bind fun xs S2 => match l, xs with
  | .obj n, [x] => match S2[n]? with
    | some (.lst ys) => if ys.length < 16777216 then .ok .non (S2.set n (.lst (ys ++ [x]))) else .bad
    | _ => .bad
  | _, _ => .bad
def isLO (S : Sto) : D → Bool
  | .obj n => match S[n]? with
    | some (.lst _) => true
    | _ => false
  | _ => false
/-- .. its object is asked ahead of the argument -/
def eAppend (o e : Ee) : Ee := fun ρ S => (o ρ S).bind fun l S1 => if isLO S1 l then (eArgs [e] ρ S1).bind fun xs S2 => match l, xs with
  | .obj n, [x] => match S2[n]? with
    | some (.lst ys) => if ys.length < 16777216 then .ok .non (S2.set n (.lst (ys ++ [x]))) else .bad
    | _ => .bad
  | _, _ => .bad else .bad
theorem de_append {apos cpos : Pos} (ho : DE X W a fa) (ha : DA X W [e] (eArgs [f]))
    (hbase : attributeBase a "append" X.env (eval a X.env) = eval a X.env := by rfl)
    (hfew : ((backTo cpos (starEach (e :: []) X.env)).all (fun x => !x.1) && (backToKw cpos (keywordEach [] X.env)).all (fun x => x.1.isSome)
      && decide ((e :: []).length + ([] : List Keyword).length + (if ([] : List Keyword).isEmpty then 0 else 1) < 30)) = true := by rfl)
    (hline : (apos.endLine == cpos.line) = true := by rfl) (hs : starEach (e :: []) X.env = (false, eval e X.env) :: starEach [] X.env := by rfl) (hplain : (backTo cpos (starEach [] X.env)).any (·.1) = false := by rfl) :
    DE X W (.Call (.Attribute a "append" apos) [e] [] cpos) (eAppend fa f) :=
  peI (pe_bm PySem.F.plainAttrs_list PySem.F.slot_list_append PySem.F.type_list_append mt_append ho ha hbase hfew hline hs hplain) fun σ H Q ⟨M, ρ, S, hr, hs, w⟩ => ⟨M, ρ, S, hr, hs, wpG.bind w fun M1 v H1 d S1 e1 r1 hs1 w1 => by
    split at w1
    · rename_i hl
      cases r1 with
      | @obj n a hn =>
        simp only [isLO] at hl
        split at hl
        · rename_i ds hx
          obtain ⟨vs, h1, q1⟩ := hs1.at n a _ hn hx
          refine ⟨.inl ⟨rfl, _, SqL.of h1⟩, M1, ρ, S1, hr.mono e1, hs1, wpG.bind w1 fun M2 xs H2 ds2 S2 e2 r2 hs2 w2 => ?_⟩
          split at w2
          · rename_i m x hm
            cases hm
            obtain ⟨y, rfl, ry⟩ := reps1 r2
            split at w2
            · rename_i ys hy
              split at w2
              · rename_i hlt
                have hn2 := e2.get hn
                obtain ⟨us, k1, k2⟩ := hs2.at _ a _ hn2 hy
                have e4 : Ext M2 H2 M2 (upd H2 a (.lst (us ++ [y]))) := hs2.ext_write hn2
                exact ⟨a, us, y, rfl, rfl, k1, lt_line (by rw [k2.length]; exact hlt), w2 M2 .non _ e4 .non (hs2.write hn2 ⟨_, upd_same, (k2.append (.cons ry .nil)).mono e4⟩)⟩
              · exact w2.elim
            · exact w2.elim
          · exact w2.elim
        · cases hl
      | _ => simp only [isLO] at hl; cases hl
    · exact w1.elim⟩

/-! ### x op= e of ints, texts -/
def OpI (X : Cx) (op : Operator) (r : R2) : Prop := PIp X op r
theorem ds_aug {i : Nat} {x : Str} {op : Operator} {r : R2} {g : D → D → Sto → R D} {pos' : Pos} (hN : X.N.Nodup) (ho : PIp X op r) (hg : OpD X.K r g) (he : DE X W e f) (hi : X.N[i]? = some x := by rfl) (hx : Loc X.env.scope x := by first | exact Or.inl rfl | exact Or.inr rfl) (hf : X.fn x = true ∨ X.env.scope.names.lookup x = some .local := by first | exact .inl rfl | exact .inr rfl | assumption) :
    DS X W (.AugAssign (.Name x pos') op e pos) (sAug i g f) := psI (ps_aug hN hi hx he ho hf) fun Dd σ H ⟨M, ρ, S, hr, hs, w⟩ => by
  unfold sAug at w
  cases hv : eVar i ρ S with
  | bad => rw [hv] at w; exact w.elim
  | ex x S1 => unfold eVar at hv; split at hv <;> cases hv
  | ok d S1 =>
    rw [hv] at w
    simp only [F.ofR_ok] at w
    unfold eVar at hv
    split at hv
    · rename_i d' hd
      cases hv
      obtain ⟨v, h1, r1⟩ := hr.at i d hd
      refine ⟨v, h1, M, ρ, S, hr, hs, wpS.ofR hr w fun M1 y H1 d1 S1 e1 r2 hs1 w1 => ?_⟩
      refine hg W σ M1 H1 S1 v y d d1 _ hs1 (r1.mono e1) r2 (wpS.ofR (hr.mono e1) w1 fun M2 z H2 d2 S2 e2 r3 hs2 w2 => ?_)
      exact w2 M2 _ H2 (Ext.refl hs2) (((hr.mono e1).mono e2).set r3) hs2
    · cases hv
end
end DL
namespace DL
open PySem PySem.Spec PyProof.Rows L2
/-! ### methods of built-in values, by data -/
def isT (T : String) (S : Sto) (d : D) : Bool := match view S d with
  | .lst _ => T == "list"
  | .str _ => T == "str"
  | _ => false
section
variable {K : PySem.W.Frag} {M : Mp} {H : Hp} {S : Sto}
theorem isT_ty {T : String} {v : V} {d : D} (hs : HS K M S H) (r : Rep K M H v d) (h : isT T S d = true) : tyV K T v H := by
  unfold isT at h
  split at h
  · rename_i xs e
    obtain ⟨a, vs, rfl, h1, _⟩ := view_lst hs r e
    exact .inl ⟨by simpa using h, _, SqL.of h1⟩
  · rename_i x e
    have : d = .str x := by
      cases d with
      | obj n => rcases view_obj e with ⟨_, h⟩ | h <;> cases h
      | _ => simp only [view] at e; exact e
    subst this
    cases r
    show T = "str"
    simpa using h
  · cases h
/-- what a method asks, by data -/
def MtD (K : PySem.W.Frag) (r : V → List V → Hp → VK → Prop) (g : D → List D → Sto → R D) : Prop := ∀ (W : WX) (σ : L2.St) (M : Mp) (H : Hp) (S : Sto) (x : V) (xs : List V) (d : D) (ds : List D) (Q : VK), HS K M S H → Rep K M H x d → Reps K M H xs ds → wpG (Rep K) K W σ M H (g d ds S) Q → r x xs H Q
end
def eMeth (T : String) (g : D → List D → Sto → R D) (o : Ee) (fs : List Ee) : Ee := fun ρ S => (o ρ S).bind fun l S1 => if isT T S1 l then (eArgs fs ρ S1).bind fun xs S2 => g l xs S2 else .bad
section
variable {X : Cx} {W : WX} {a e : Expr} {es : List Expr} {fa : Ee} {fs : List Ee} {T id : String} {name : Str} {r : V → List V → Hp → VK → Prop} {g : D → List D → Sto → R D}
theorem de_meth {apos cpos : Pos} (pa : PlainAttrs T) (slot : Slot T name id) (hty : typeOf (.builtin id) = pure (.type "method_descriptor")) (hm : MtR X id r) (hg : MtD X.K r g) (ho : DE X W a fa) (ha : DA X W (e :: es) (eArgs fs))
    (hbase : attributeBase a name X.env (eval a X.env) = eval a X.env := by rfl)
    (hfew : ((backTo cpos (starEach (e :: es) X.env)).all (fun x => !x.1) && (backToKw cpos (keywordEach [] X.env)).all (fun x => x.1.isSome)
      && decide ((e :: es).length + ([] : List Keyword).length + (if ([] : List Keyword).isEmpty then 0 else 1) < 30)) = true := by rfl)
    (hline : (apos.endLine == cpos.line) = true := by rfl) (hs : starEach (e :: es) X.env = (false, eval e X.env) :: starEach es X.env := by rfl) (hplain : (backTo cpos (starEach es X.env)).any (·.1) = false := by rfl) :
    DE X W (.Call (.Attribute a name apos) (e :: es) [] cpos) (eMeth T g fa fs) :=
  peI (pe_bm pa slot hty hm ho ha hbase hfew hline hs hplain) fun σ H Q ⟨M, ρ, S, hr, hs, w⟩ => ⟨M, ρ, S, hr, hs, wpG.bind w fun M1 v H1 d S1 e1 r1 hs1 w1 => by
    split at w1
    · rename_i hl
      refine ⟨isT_ty hs1 r1 hl, M1, ρ, S1, hr.mono e1, hs1, wpG.bind w1 fun M2 xs H2 ds2 S2 e2 r2 hs2 w2 => ?_⟩
      exact hg W σ M2 H2 S2 v xs d ds2 Q hs2 (r1.mono e2) r2 w2
    · exact w1.elim⟩
end
/-! ### l.index(x) of flat items -/
def findD (x : D) : Nat → List D → Option Nat
  | _, [] => none
  | i, y :: ys => if eqF y x then some i else findD x (i + 1) ys
theorem find_rep {K : PySem.W.Frag} {M : Mp} {H : Hp} {w : V} {e : D} (q : Rep K M H w e) (h' : flatD e = true) : ∀ {vs : List V} {ds : List D} {i j : Nat}, Reps K M H vs ds → ds.all flatD = true → findD e i ds = some j → ∃ k z, j = i + k ∧ vs[k]? = some z ∧ eqV z w = true ∧ ∀ m z', m < k → vs[m]? = some z' → eqV z' w = false
  | _, _, _, _, .nil, _, h => by cases h
  | _, _, i, j, .cons (v := v) (d := d) r t, hf, h => by
    rw [List.all_cons, Bool.and_eq_true] at hf
    simp only [findD] at h
    have ev := eqF_V r q hf.1 h'
    by_cases c : eqF d e = true
    · rw [if_pos c] at h
      cases h
      exact ⟨0, v, rfl, rfl, by rw [ev, c], fun m z' hm => by omega⟩
    · rw [if_neg c] at h
      obtain ⟨k, z, h1, h2, h3, h4⟩ := find_rep q h' t hf.2 h
      refine ⟨k + 1, z, by omega, by simpa using h2, h3, fun m z' hm hz => ?_⟩
      cases m with
      | zero =>
        simp only [List.getElem?_cons_zero, Option.some.injEq] at hz
        rw [← hz, ev]
        simpa using c
      | succ m => exact h4 m z' (by omega) (by simpa using hz)
def gIndexM (d : D) (ds : List D) (S : Sto) : R D := match view S d, ds with
  | .lst xs, [y] => if flatD y && xs.all flatD then match findD y 0 xs with
    | some j => .ok (.int (j : Nat)) S
    | none => .bad else .bad
  | _, _ => .bad
theorem md_index {K : PySem.W.Frag} : MtD K (rIndex K) gIndexM := by
  intro W σ M H S x xs d ds Q hs r rs w
  unfold gIndexM at w
  split at w
  · rename_i l y e
    obtain ⟨a, vs, rfl, h1, q1⟩ := view_lst hs r e
    obtain ⟨y', rfl, ry⟩ := reps1 rs
    split at w
    · rename_i hl
      rw [Bool.and_eq_true] at hl
      split at w
      · rename_i j hj
        obtain ⟨k, z, e1, e2, e3, e4⟩ := find_rep ry hl.1 q1 hl.2 hj
        have : j = k := by omega
        subst this
        exact ⟨a, vs, y', j, z, rfl, rfl, SqL.of h1, ry.flat hl.1, q1.flat hl.2, e2, e3, e4, wp_val hs (.int _) w⟩
      · exact w.elim
    · exact w.elim
  · exact w.elim
section
variable {X : Cx} {W : WX} {a e : Expr} {fa fe : Ee}
theorem de_index {apos cpos : Pos} (ho : DE X W a fa) (ha : DA X W [e] (eArgs [fe]))
    (hbase : attributeBase a "index" X.env (eval a X.env) = eval a X.env := by rfl)
    (hfew : ((backTo cpos (starEach (e :: []) X.env)).all (fun x => !x.1) && (backToKw cpos (keywordEach [] X.env)).all (fun x => x.1.isSome)
      && decide ((e :: []).length + ([] : List Keyword).length + (if ([] : List Keyword).isEmpty then 0 else 1) < 30)) = true := by rfl)
    (hline : (apos.endLine == cpos.line) = true := by rfl) (hs : starEach (e :: []) X.env = (false, eval e X.env) :: starEach [] X.env := by rfl) (hplain : (backTo cpos (starEach [] X.env)).any (·.1) = false := by rfl) :
    DE X W (.Call (.Attribute a "index" apos) [e] [] cpos) (eMeth "list" gIndexM fa [fe]) :=
  de_meth PySem.F.plainAttrs_list PySem.F.slot_list_index PySem.F.type_list_index mt_index md_index ho ha hbase hfew hline hs hplain
end
end DL
namespace DL
open PySem PySem.Spec PyProof.Rows L2
section
variable {K : PySem.W.Frag}
theorem od_lt : OpD K (rI0 fun i j => .bl (decide (i < j))) gLt := od_I2
theorem od_le : OpD K (rI0 fun i j => .bl (decide (i ≤ j))) gLe := od_I2
theorem od_gt : OpD K (rI0 fun i j => .bl (decide (j < i))) gGt := od_I2
theorem od_ge : OpD K (rI0 fun i j => .bl (decide (j ≤ i))) gGe := od_I2
end
theorem Room.units65 {k : Nat} {A : Around} (r : Room k A) : A.units + 65 < cLine := by have := r.un; omega
theorem op_inA {X : Cx} {k : Nat} (hr : Room k X.A) : OpR X (compareOp .In) (rInA X.K) := OpR.or op_in_seq (op_inD (Room.units65 hr))
theorem op_notInA {X : Cx} {k : Nat} (hr : Room k X.A) : OpR X (compareOp .NotIn) (rNotInA X.K) := OpR.or op_notIn_seq (op_notInD (Room.units65 hr))
theorem de_gint {X : Cx} {W : WX} {x : Str} {pos : Pos} {i : Int} (h : ∃ t, X.mg x = some (.int i t)) (hg : Gl X x := by rfl) (hd : (x == ("__debug__" : Str)) = false := by decide) : DE X W (.Name x pos) (eK (.int i)) := by
  obtain ⟨t, h⟩ := h
  exact de_K (pe_glob (v := .int i) hg h ⟨t, rfl⟩ hd) fun _ _ => .int i
theorem dss_bad {X : Cx} {W : WX} {sts : List Stmt} : DSs X W sts sBad := pssI pss_never fun Dd σ H ⟨M, ρ, S, hr, hs, w⟩ => w
theorem DFn.bad {P : Program} {w : World} {K : PySem.W.Frag} {mg : Str → Option Value} {base : Heap} {x : Str} {ps N : List Str} {k : Nat} {st : Stmt} {f : Addr} {fd : FuncData} (hm : mg x = some (.ref f)) (Ff : Fun K x x st f fd) (hb : Binds K fd ps []) (S : FnScope N ps (defScope st)) :
    DFn P w K mg base x ps (k + 1) (fun _ _ => .bad) := (fnQ_ok (body := sBad) hm Ff hb S fun _ _ _ _ _ _ _ => dss_bad).imp fun _ _ _ _ _ _ _ w => w.elim

/-! ### an error of a class without an __init__ of its own is raised -/
abbrev veMro : List Value := [.type "ValueError", .type "Exception", .type "BaseException", .type "object"]
structure ExC (K : PySem.W.Frag) (mg : Str → Option Value) (x : Str) : Prop where
  ex : ∃ C, PySem.W.nsIn K mainGlobals x = some (some (.ref C)) ∧ mg x = some (.ref C) ∧ PySem.W.excIn K C veMro "ValueError.__new__" = true ∧ PySem.W.keepIn K (.ref C) = true ∧
    PySem.W.subIn K (.ref C) (.type "BaseException") = some true ∧ PySem.W.typeIn K (.ref C) = some (.type "type")
def sRaise (x : Str) : Sm := fun ρ S => .ex ⟨x, []⟩ ρ S
theorem ds_raise {X : Cx} {W : WX} {x m : Str} {j : Nat} {p p2 pos pos2 : Pos} (hc : X.calm = true) (tk : Takes X W) (h : ExC X.K X.mg x) (hg : Gl X x := by rfl) (hdb : (x == ("__debug__" : Str)) = false := by decide) :
    DS X W (.Raise (some (.Call (.Name x p) [.Constant (.str m) j p2] [] pos)) none pos2) (sRaise x) := by
  obtain ⟨C, h1, h2, h3, h4, h5, h6⟩ := h.ex
  exact psI (ps_raise hc tk (pmk_own PySem.F.excBase_ValueError h3 h2 h4 (raises_own h5 h6) hg hdb)) fun Dd σ H ⟨M, ρ, S, hr, hs, w⟩ => w M σ H (.ref C) none (Ext.refl hs) hr hs ⟨h1, .inl ⟨rfl, rfl⟩⟩
end DL
/-! t[::-1] of a tuple -/
namespace DL
open PySem PySem.Spec PyProof.Rows L2 HT
section
variable {prog : Program} {w : World} {A : Around} {E : Value → Shared → Prop} {s : Shared}
theorem applied_rev {sl : Addr} {vl vu vs : Value} {n : Nat} {Q : Int × Int × Nat → Shared → Prop} (hs : s.heap.IsSliceOf sl vl vu vs) (pl : IsPart vl none) (pu : IsPart vu none) (ps : IsPart vs (some (-1)))
    (h : Q ((n : Int) - 1, -1, n) s) : wpAny (model prog w) A (Builtin.Slice.sliceApplied (.ref sl) (pure (n : Int))) Q E s := by
  obtain ⟨os, hos, hcs, hds⟩ := id hs
  unfold Builtin.Slice.sliceApplied Builtin.Slice.sliceFields
  refine wpAny_bind (wpAny_bind (wpAny_field hos hds (x := vl) rfl (wpAny_bind (wpAny_field hos hds (x := vu) rfl (wpAny_bind (wpAny_field hos hds (x := vs) rfl (wpAny_pure ?_)))))))
  refine wpAny_bind (slicePart_ ps ?_)
  show wpAny _ _ (if ((-1 : Int) == 0) = true then _ else _) _ _ s
  rw [if_neg (by decide)]
  refine wpAny_bind (slicePart_ pl (wpAny_bind (slicePart_ pu (wpAny_bind (wpAny_pure ?_)))))
  have e1 : Builtin.Slice.sliceAdjust none none (-1) (n : Int) = ((n : Int) - 1, -1) := rfl
  have e2 : Builtin.Slice.slicePlaces ((n : Int) - 1) (-1) (-1) = n := by
    unfold Builtin.Slice.slicePlaces
    rw [if_neg (by decide)]
    by_cases hn : n = 0
    · subst hn; rfl
    · rw [if_pos (by omega), show (- -1 : Int) = 1 by decide, Int.ediv_one]
      omega
  show wpAny _ _ (match Builtin.Slice.sliceAdjust none none (-1) (n : Int) with | (lo, hi) => pure (lo, (-1 : Int), Builtin.Slice.slicePlaces lo hi (-1))) _ _ s
  rw [e1]
  show wpAny _ _ (pure ((n : Int) - 1, (-1 : Int), Builtin.Slice.slicePlaces ((n : Int) - 1) (-1) (-1))) _ _ s
  rw [e2]
  exact wpAny_pure h
theorem pick_rev (xs : Array Value) : ((List.range xs.size).filterMap fun (m : Nat) => xs[(((xs.size : Int) - 1) + (m : Int) * (-1)).toNat]?).toArray = xs.toList.reverse.toArray := by
  have e : (List.range xs.size).filterMap (fun (m : Nat) => xs[(((xs.size : Int) - 1) + (m : Int) * (-1)).toNat]?) = ((List.range xs.size).map fun k => xs.size - 1 - k).filterMap (xs[·]?) := by
    rw [List.filterMap_map]
    have : ∀ (l : List Nat), (∀ m ∈ l, m < xs.size) → l.filterMap (fun (m : Nat) => xs[(((xs.size : Int) - 1) + (m : Int) * (-1)).toNat]?) = l.filterMap ((xs[·]?) ∘ fun k => xs.size - 1 - k) := by
      intro l
      induction l with
      | nil => intro _; rfl
      | cons m l ih =>
        intro h
        have h1 := h m List.mem_cons_self
        have e1 : (((xs.size : Int) - 1) + (m : Int) * (-1)).toNat = xs.size - 1 - m := by omega
        rw [List.filterMap_cons, List.filterMap_cons, e1, ih (fun y hy => h y (List.mem_cons_of_mem _ hy))]
        rfl
    exact this _ fun m hm => List.mem_range.mp hm
  rw [e, PySem.W.krv_range, List.filterMap_reverse, PySem.W.krv_all]
theorem getItem_tuple_rev {t sl : Addr} {items : Array Value} {vl vu vs : Value} {Q : Value → Shared → Prop} (ht : IsTup s.heap t items) (hs : s.heap.IsSliceOf sl vl vu vs) (pl : IsPart vl none) (pu : IsPart vu none) (ps : IsPart vs (some (-1)))
    (h : Q (.ref s.heap.objs.size) { s with heap := s.heap.push { cls := .type "tuple", data := .seq items.toList.reverse.toArray } })
    (hsz : items.size ≤ sizeLine) : wpAny (model prog w) A (getItem (.ref t) (.ref sl)) Q E s := by
  have htake : sizeOk (.seq items.toList.reverse.toArray) := by
    show items.toList.reverse.toArray.size ≤ sizeLine
    rw [List.size_toArray, List.length_reverse, Array.length_toList]
    exact hsz
  obtain ⟨os, hos, hcs, hds⟩ := id hs
  have hTs : s.TypeIs (.ref sl) "slice" := ⟨os, hos, hcs⟩
  unfold getItem
  try with_reducible refine wpAny_holding ?_
  first | refine wpAny_bind (wpAny_pure ?_) | skip
  refine wpAny_bind (wpAny_sequenceKey ht.typeIs (by decide) ?_)
  refine wpAny_bind (wpAny_callSpecial?_slot (name := Str.ofString "__getitem__") ht.typeIs PyProof.Rows.slot_tuple_getitem
    (wpAny_call_entry PyProof.Rows.slot_tuple_getitem ht.typeIs entry_tuple_getitem ?_ (args_tuple_getitem _ _)))
  show wpAny _ _ (Builtin.Tuple.tupleItemsOf (.ref t) >>= _) _ _ s
  refine wpAny_bind (tupleItemsOf_ ht ?_)
  refine wpAny_bind (wpAny_typeOf hTs ?_)
  rw [if_pos (by decide)]
  refine wpAny_bind (applied_rev hs pl pu ps ?_)
  have hno : ¬ ((((items.size : Int) - 1) == 0 && (-1 : Int) == 1 && items.size == items.size) = true) := by
    intro q
    rw [Bool.and_eq_true, Bool.and_eq_true] at q
    exact absurd q.1.2 (by decide)
  show wpAny _ _ (if (((items.size : Int) - 1) == 0 && (-1 : Int) == 1 && items.size == items.size) = true then _ else _) _ _ s
  rw [if_neg hno, pick_rev]
  first
    | exact wpAny_bind (m := Builtin.Tuple.tupleExact _) (wpAny_newObj_type (wpAny_pure ⟨_, rfl, wpAny_pure h⟩) htake)
    | exact wpAny_bind (m := Builtin.Tuple.tupleExact _) (wpAny_newObj_type (wpAny_bind (wpAny_pure (wpAny_pure ⟨_, rfl, wpAny_pure h⟩))) htake)
    | exact wpAny_bind (wpAny_bind (m := Builtin.Tuple.tupleExact _) (wpAny_newObj_type (wpAny_pure (wpAny_pure ⟨_, rfl, wpAny_pure h⟩)) htake))
    | exact wpAny_bind (wpAny_bind (m := Builtin.Tuple.tupleExact _) (wpAny_newObj_type (wpAny_pure ⟨_, rfl, wpAny_pure h⟩) htake))
end
section
variable {X : Cx}
def tRevT (K : PySem.W.Frag) (te : TE) : TE := fun σ H Q => te σ H fun x H1 => ∃ a xs, x = .ref a ∧ SqT K H1 a xs ∧ ∀ p, H1 p = none → Q (.ref p) (upd H1 p (.tup xs.reverse))
theorem pe_revT {e : Expr} {te : TE} {k : Nat} {p1 p2 p3 pos : Pos} (he : PE X e te) : PE X (.Subscript e (.Slice none none (some (.UnaryOp .USub (.Constant (.int 1) k p1) p2)) p3) pos) (tRevT X.K te) := by
  refine ⟨fun pins s σ H Q I h => ?_⟩
  refine Subscript_ (thn (he.run pins s σ H _ I h) fun v s1 ⟨x, H1, I1, r1, q1⟩ => ?_)
  obtain ⟨a, xs, ex, hx, q⟩ := q1
  subst ex
  cases r1
  have hst : PO X (some (.UnaryOp .USub (.Constant (.int 1) k p1) p2)) (tPart (tUn (rU fun i => .int (-i)) (tC (.int 1)))) := po_some (pe_un un_neg pe_int)
  refine wpAny_Slice (thn (po_none.run pins s1 σ H1 (fun o H2 => o = none ∧ H2 = H1) I1 ⟨rfl, rfl⟩) fun vl s2 ⟨l, H2, I2, pl, el, e2⟩ => ?_)
  subst el e2
  refine thn (po_none.run pins s2 σ H2 (fun o H3 => o = none ∧ H3 = H2) I2 ⟨rfl, rfl⟩) fun vu s3 ⟨u, H3, I3, pu, eu, e3⟩ => ?_
  subst eu e3
  refine thn (hst.run pins s3 σ H3 (fun o H4 => o = some (-1) ∧ H4 = H3) I3 ⟨1, rfl, -1, rfl, rfl, rfl⟩) fun vs s4 ⟨o, H4, I4, ps, eo, e4⟩ => ?_
  subst eo e4
  have I5 : Inv X pins σ H4 { s4 with heap := s4.heap.push { cls := .type "slice", data := .fields #[vl, vu, vs] } } := I4.kept (t' := s4.toks) fun b ob q => Heap.get?_push_of_some _ q
  obtain ⟨its, r, ht, hz⟩ := I5.tuple hx
  have hlen := r.length
  show wpAny (model X.prog X.w) X.A (subscriptTail e (.Slice none none (some (.UnaryOp .USub (.Constant (.int 1) k p1) p2)) p3) (.ref a) (.ref s4.heap.objs.size)) (EP X pins σ Q) X.xe { s4 with heap := s4.heap.push { cls := .type "slice", data := .fields #[vl, vu, vs] } }
  refine tail_any (ops := [.ref a, .ref s4.heap.objs.size]) ht.typeIs (PyProof.Rows.slot_tuple_getitem.lookup) ?_ (by with_unfolding_all rfl)
  refine getItem_tuple_rev ht (Heap.IsSliceOf.new _ vl vu vs) pl pu ps ?_ (by rw [List.size_toArray]; omega)
  refine ⟨.ref _, _, I5.laid (t' := s4.toks) (o := .tup xs.reverse) (fun b ob q => Heap.get?_push_of_some _ q) (Nat.le_refl _) ?_, rfl, q _ (I5.hok.fresh (Nat.le_refl _))⟩
  exact ⟨by rw [List.length_reverse]; exact hz, _, r.reverse, IsTup.new _ _⟩
end
theorem Reps.reverse {K : PySem.W.Frag} {M : Mp} {H : Hp} : ∀ {vs : List V} {ds : List D}, Reps K M H vs ds → Reps K M H vs.reverse ds.reverse
  | _, _, .nil => .nil
  | _, _, .cons r t => by
    rw [List.reverse_cons, List.reverse_cons]
    exact (Reps.reverse t).append (.cons r .nil)
def gRev (d : D) (S : Sto) : R D := match view S d with
  | .tup xs => .ok (.tup xs.reverse) S
  | _ => .bad
def eRev (a : Ee) : Ee := fun ρ S => (a ρ S).bind gRev
@[simp] theorem eRev_ap (a : Ee) (ρ : Rho) (S : Sto) : eRev a ρ S = (a ρ S).bind gRev := rfl
@[simp] theorem gRev_tup (xs : List D) (S : Sto) : gRev (.tup xs) S = .ok (.tup xs.reverse) S := rfl
section
variable {X : Cx} {W : WX} {a : Expr} {fa : Ee} {pos : Pos}
theorem de_rev {k : Nat} {p1 p2 p3 : Pos} (ha : DE X W a fa) : DE X W (.Subscript a (.Slice none none (some (.UnaryOp .USub (.Constant (.int 1) k p1) p2)) p3) pos) (eRev fa) :=
  peI (pe_revT ha) fun σ H Q ⟨M, ρ, S, hr, hs, w⟩ => ⟨M, ρ, S, hr, hs, wpG.bind w fun M1 x H1 d1 S1 e1 r1 hs1 w1 => by
    unfold gRev at w1
    split at w1
    · rename_i xs e
      obtain ⟨p, vs, rfl, h1, q1⟩ := view_tup r1 e
      exact ⟨p, vs, rfl, h1, wp_newT hs1 q1.reverse w1⟩
    · exact w1.elim⟩
end
end DL
/-! texts: str(), join, split, int(text), signs of a text, `in` a text; a global tuple of texts; what is never reached -/
namespace DL
open PySem PySem.Spec PyProof.Rows L2
/-- an expression that is never reached -/
def eBad : Ee := fun _ _ => .bad
section
variable {X : Cx} {W : WX} {e : Expr}
theorem de_bad (h : PE X e (fun _ _ _ => False)) : DE X W e eBad := peI h fun σ H Q ⟨M, ρ, S, hr, hs, w⟩ => w.elim
end
theorem pe_neverE {X : Cx} {e : Expr} : PE X e (fun _ _ _ => False) := ⟨fun pins s σ H Q I h => h.elim⟩
def strsOf : List D → Option (List Str)
  | [] => some []
  | .str a :: xs => (strsOf xs).map (a :: ·)
  | _ => none
theorem strsOf_map : ∀ ys : List Str, strsOf (ys.map D.str) = some ys
  | [] => rfl
  | y :: ys => by simp [strsOf, strsOf_map ys]
theorem strs_rep {K : PySem.W.Frag} {M : Mp} {H : Hp} : ∀ {xs : List D} {vs : List V} {ys : List Str}, Reps K M H vs xs → strsOf xs = some ys → vs = ys.map V.str
  | [], _, _, r, h => by cases r; cases h; rfl
  | x :: xs, _, ys, r, h => by
    cases r with
    | cons r1 rs =>
      cases x with
      | str a =>
        simp only [strsOf] at h
        obtain ⟨zs, hz, rfl⟩ := Option.map_eq_some_iff.mp h
        cases r1
        rw [strs_rep rs hz]
        rfl
      | _ => simp [strsOf] at h
theorem reps_strs {K : PySem.W.Frag} {M : Mp} {H : Hp} : ∀ ys : List Str, Reps K M H (ys.map V.str) (ys.map D.str)
  | [] => .nil
  | y :: ys => .cons (.str y) (reps_strs ys)
def gStr : Gc := fun ds S => match ds with
  | [.int i] => if i.natAbs.log2 < 1920 then .ok (.str (toString i)) S else .bad
  | [.str a] => .ok (.str a) S
  | _ => .bad
def gJoinM (d : D) (ds : List D) (S : Sto) : R D := match d, ds with
  | .str a, [x] => match view S x with
    | .lst xs => match strsOf xs with
      | some ys => if (ys.map (·.length)).sum + ys.length * a.length ≤ 16777216 then .ok (.str (Txt.join a ys)) S else .bad
      | none => .bad
    | .tup xs => match strsOf xs with
      | some ys => if (ys.map (·.length)).sum + ys.length * a.length ≤ 16777216 then .ok (.str (Txt.join a ys)) S else .bad
      | none => .bad
    | _ => .bad
  | _, _ => .bad
def gSplitM (d : D) (ds : List D) (S : Sto) : R D := match d, ds with
  | .str a, [.str b] => if (b.length == 0) = false ∧ a.length + 2 ≤ 16777216 then .ok (.lst ((Txt.split a b).map D.str)) S else .bad
  | _, _ => .bad
def gIntT : Gc := fun ds S => match ds with
  | [.str a] => if a.length ≤ 640 then match PySem.intText? a with
    | some n => .ok (.int n) S
    | none => .bad else .bad
  | _ => .bad
def gInS (d1 d2 : D) (S : Sto) : R D := match d1, d2 with
  | .str i, .str j => .ok (.bl (!(Builtin.Str.occurrences j i 0 j.length 1).isEmpty)) S
  | _, _ => .bad
section
variable {K : PySem.W.Frag}
theorem cd_str : CallD K (fun xs H Q => (∃ i, xs = [.int i] ∧ i.natAbs.log2 < 1920 ∧ Q (.str (toString i)) H) ∨ ∃ a, xs = [.str a] ∧ Q (.str a) H) gStr := by
  intro W σ M H S xs ds Q hs r w
  unfold gStr at w
  split at w
  · obtain ⟨v, rfl, r1⟩ := reps1 r
    cases r1
    split at w
    · rename_i hl
      exact .inl ⟨_, rfl, hl, wp_val hs (.str _) w⟩
    · exact w.elim
  · obtain ⟨v, rfl, r1⟩ := reps1 r
    cases r1
    exact .inr ⟨_, rfl, wp_val hs (.str _) w⟩
  · exact w.elim
theorem cd_intT : CallD K (fun xs H Q => ∃ a n, xs = [.str a] ∧ PySem.intText? a = some n ∧ a.length ≤ 640 ∧ Q (.int n) H) gIntT := by
  intro W σ M H S xs ds Q hs r w
  unfold gIntT at w
  split at w
  · obtain ⟨v, rfl, r1⟩ := reps1 r
    cases r1
    split at w
    · rename_i hl
      split at w
      · rename_i n hn
        exact ⟨_, n, rfl, hn, hl, wp_val hs (.int _) w⟩
      · exact w.elim
    · exact w.elim
  · exact w.elim
theorem md_join : MtD K (fun x xs H Q => ∃ a p, ∃ ys : List Str, x = .str a ∧ xs = [.ref p] ∧ (SqL K H p (ys.map V.str) ∨ SqT K H p (ys.map V.str)) ∧
    (ys.map (·.length)).sum + ys.length * a.length ≤ 16777216 ∧ Q (.str (Txt.join a ys)) H) gJoinM := by
  intro W σ M H S x xs d ds Q hs r rs w
  unfold gJoinM at w
  split at w
  · rename_i a y
    obtain ⟨v, rfl, r1⟩ := reps1 rs
    cases r
    split at w
    · rename_i zs e
      obtain ⟨p, vs, rfl, h1, q1⟩ := view_lst hs r1 e
      split at w
      · rename_i ys hy
        have hv := strs_rep q1 hy
        subst hv
        split at w
        · rename_i hl
          exact ⟨a, p, ys, rfl, rfl, .inl (SqL.of h1), hl, wp_val hs (.str _) w⟩
        · exact w.elim
      · exact w.elim
    · rename_i zs e
      obtain ⟨p, vs, rfl, h1, q1⟩ := view_tup r1 e
      split at w
      · rename_i ys hy
        have hv := strs_rep q1 hy
        subst hv
        split at w
        · rename_i hl
          exact ⟨a, p, ys, rfl, rfl, .inr h1, hl, wp_val hs (.str _) w⟩
        · exact w.elim
      · exact w.elim
    · exact w.elim
  · exact w.elim
theorem md_split : MtD K (fun x xs H Q => ∃ a b, x = .str a ∧ xs = [.str b] ∧ (b.length == 0) = false ∧ a.length + 2 ≤ sizeLine ∧ rNewStrs (Txt.split a b) H Q) gSplitM := by
  intro W σ M H S x xs d ds Q hs r rs w
  unfold gSplitM at w
  split at w
  · rename_i a b
    obtain ⟨v, rfl, r1⟩ := reps1 rs
    cases r1
    cases r
    split at w
    · rename_i hl
      exact ⟨a, b, rfl, rfl, hl.1, by rw [sizeLine_eq]; exact hl.2, wp_newL hs (reps_strs _) w⟩
    · exact w.elim
  · exact w.elim
theorem od_inS : OpD K (fun x y H Q => ∃ i j, x = .str i ∧ y = .str j ∧ Q (.bl (!(Builtin.Str.occurrences j i 0 j.length 1).isEmpty)) H) gInS := by
  intro W σ M H S x y d1 d2 Q hs r1 r2 w
  unfold gInS at w
  split at w
  · cases r1
    cases r2
    exact ⟨_, _, rfl, rfl, wp_val hs (.bl _) w⟩
  · exact w.elim
end
section
variable {X : Cx} {W : WX} {a e : Expr} {fa fe : Ee}
theorem de_join {apos cpos : Pos} (ho : DE X W a fa) (ha : DA X W [e] (eArgs [fe]))
    (hbase : attributeBase a "join" X.env (eval a X.env) = eval a X.env := by rfl)
    (hfew : ((backTo cpos (starEach (e :: []) X.env)).all (fun x => !x.1) && (backToKw cpos (keywordEach [] X.env)).all (fun x => x.1.isSome)
      && decide ((e :: []).length + ([] : List Keyword).length + (if ([] : List Keyword).isEmpty then 0 else 1) < 30)) = true := by rfl)
    (hline : (apos.endLine == cpos.line) = true := by rfl) (hs : starEach (e :: []) X.env = (false, eval e X.env) :: starEach [] X.env := by rfl) (hplain : (backTo cpos (starEach [] X.env)).any (·.1) = false := by rfl) :
    DE X W (.Call (.Attribute a "join" apos) [e] [] cpos) (eMeth "str" gJoinM fa [fe]) :=
  de_meth PySem.F.plainAttrs_str PySem.F.slot_str_join PySem.F.type_str_join mt_join md_join ho ha hbase hfew hline hs hplain
theorem de_split {apos cpos : Pos} (ho : DE X W a fa) (ha : DA X W [e] (eArgs [fe]))
    (hbase : attributeBase a "split" X.env (eval a X.env) = eval a X.env := by rfl)
    (hfew : ((backTo cpos (starEach (e :: []) X.env)).all (fun x => !x.1) && (backToKw cpos (keywordEach [] X.env)).all (fun x => x.1.isSome)
      && decide ((e :: []).length + ([] : List Keyword).length + (if ([] : List Keyword).isEmpty then 0 else 1) < 30)) = true := by rfl)
    (hline : (apos.endLine == cpos.line) = true := by rfl) (hs : starEach (e :: []) X.env = (false, eval e X.env) :: starEach [] X.env := by rfl) (hplain : (backTo cpos (starEach [] X.env)).any (·.1) = false := by rfl) :
    DE X W (.Call (.Attribute a "split" apos) [e] [] cpos) (eMeth "str" gSplitM fa [fe]) :=
  de_meth PySem.F.plainAttrs_str PySem.F.slot_str_split PySem.F.type_str_split mt_split md_split ho ha hbase hfew hline hs hplain
theorem call_strD : CallR X (.type "str") (fun xs H Q => (∃ i, xs = [.int i] ∧ i.natAbs.log2 < 1920 ∧ Q (.str (toString i)) H) ∨ ∃ a, xs = [.str a] ∧ Q (.str a) H) := CallR.or call_str_int SkE.call_str_str
/-- the signs of a text -/
def eStS (f : Ee) : Es := fun ρ S => (f ρ S).bind fun d S1 => match d with
  | .str x => .ok (.st x) S1
  | _ => .bad
theorem di_str {tg : Expr} {f : Ee} (h : DE X W e f) : DI X W tg e (eStS f) := piI (pi_str h) fun σ H Rr ⟨M, ρ, S, hr, hs, w⟩ => ⟨M, ρ, S, hr, hs, wpG.bind w fun M1 v H1 d S1 e1 r1 hs1 w1 => by
  split at w1
  · cases r1
    exact ⟨_, rfl, w1 M1 _ H1 (Ext.refl hs1) (.st _) hs1⟩
  · exact w1.elim⟩
end
end DL
/-! instances -/
namespace DL
open PySem PySem.Spec PyProof.Rows L2
section
variable {K : PySem.W.Frag} {M : Mp} {H : Hp} {S : Sto}
theorem RepF.lookup {f : Str} {d : D} : ∀ {vs : List (Str × V)} {ds : List (Str × D)}, RepF K M H vs ds → ds.lookup f = some d → ∃ v, vs.lookup f = some v ∧ Rep K M H v d
  | _, _, .nil, h => by cases h
  | _, _, .cons (f := g) (v := v) (d := e) r t, h => by
    simp only [List.lookup_cons] at h ⊢
    cases c : f == g with
    | true =>
      rw [c] at h
      cases h
      exact ⟨v, rfl, r⟩
    | false =>
      rw [c] at h
      exact RepF.lookup t h
theorem RepF.lookup_none {f : Str} : ∀ {vs : List (Str × V)} {ds : List (Str × D)}, RepF K M H vs ds → ds.lookup f = none → vs.lookup f = none
  | _, _, .nil, h => rfl
  | _, _, .cons (f := g) (v := v) (d := e) r t, h => by
    simp only [List.lookup_cons] at h ⊢
    cases c : f == g with
    | true => rw [c] at h; cases h
    | false =>
      rw [c] at h
      exact RepF.lookup_none t h
theorem RepF.length : ∀ {vs : List (Str × V)} {ds : List (Str × D)}, RepF K M H vs ds → vs.length = ds.length
  | _, _, .nil => rfl
  | _, _, .cons r t => by simp [RepF.length t]
def putD (f : Str) (d : D) : List (Str × D) → List (Str × D)
  | [] => [(f, d)]
  | (g, x) :: r => if g = f then (g, d) :: r else (g, x) :: putD f d r
theorem RepF.put {f : Str} {v : V} {d : D} (q : Rep K M H v d) : ∀ {vs : List (Str × V)} {ds : List (Str × D)}, RepF K M H vs ds → RepF K M H (putF f v vs) (putD f d ds)
  | _, _, .nil => .cons q .nil
  | _, _, .cons (f := g) r t => by
    unfold putF putD
    by_cases c : g = f
    · rw [if_pos c, if_pos c]
      exact .cons q t
    · rw [if_neg c, if_neg c]
      exact .cons r (RepF.put q t)
/-- the fields of an instance of the class at C -/
def insAt (C : Addr) (S : Sto) (d : D) : Option (List (Str × D)) := match d with
  | .obj n => match S[n]? with
    | some (.ins C' fs) => if C' = C then some fs else none
    | _ => none
  | _ => none
theorem insAt_rep {C : Addr} {v : V} {d : D} {fs : List (Str × D)} (hs : HS K M S H) (r : Rep K M H v d) (h : insAt C S d = some fs) :
    ∃ n a dx vs, d = .obj n ∧ M.o[n]? = some a ∧ S[n]? = some (.ins C fs) ∧ v = .ref a ∧ H a = some (.ins C dx vs) ∧ RepF K M H vs fs := by
  unfold insAt at h
  split at h
  · rename_i n
    split at h
    · rename_i C' gs e
      split at h
      · rename_i c
        cases h
        subst c
        cases r with
        | @obj _ a ha =>
          obtain ⟨dx, vs, q, rf⟩ := hs.at n a _ ha e
          exact ⟨n, a, dx, vs, rfl, ha, e, rfl, q, rf⟩
      · cases h
    · cases h
  · cases h
end
/-- o.f -/
def eFld (C : Addr) (f : Str) (a : Ee) : Ee := fun ρ S => (a ρ S).bind fun d S1 => match insAt C S1 d with
  | some fs => match fs.lookup f with
    | some x => .ok x S1
    | none => .bad
  | none => .bad
/-- o.f = value -/
def sFl (C : Addr) (f : Str) (o v : Ee) : Sm := fun ρ S => F.ofR (v ρ S) ρ fun y S1 => F.ofR (o ρ S1) ρ fun d S2 => match d, insAt C S2 d with
  | .obj n, some fs => if fs.length < 1000 then .nx ρ (S2.set n (.ins C (putD f y fs))) else .bad
  | _, _ => .bad
/-- C(..) -/
def eMk (C : Addr) (g : Fn) (as : Ea) : Ee := fun ρ S => (as ρ S).bind fun ds S1 => match g (.obj S1.length :: ds) (S1 ++ [.ins C []]) with
  | .ok .non S2 => .ok (.obj S1.length) S2
  | .ok _ _ => .bad
  | .ex e S2 => .ex e S2
  | .bad => .bad
/-- *e, .. in an argument list -/
def aStar (e : Ee) (r : Ea) : Ea := fun ρ S => (e ρ S).bind fun d S1 => match itsOf S1 d with
  | some xs => (r ρ S1).bind fun ys S2 => .ok (xs ++ ys) S2
  | none => .bad
def aCons (e : Ee) (r : Ea) : Ea := fun ρ S => (e ρ S).bind fun d S1 => (r ρ S1).bind fun ys S2 => .ok (d :: ys) S2
/-- o.m(..) -/
def eMt (C : Addr) (m : Str) (g : Fn) (o : Ee) (as : Ea) : Ee := fun ρ S => (o ρ S).bind fun d S1 => match insAt C S1 d with
  | some fs => match fs.lookup m with
    | none => (as ρ S1).bind fun ds S2 => g (d :: ds) S2
    | some _ => .bad
  | none => .bad
/-- o.f, a property -/
def eProp (C : Addr) (g : Fn) (o : Ee) : Ee := fun ρ S => (o ρ S).bind fun d S1 => match insAt C S1 d with
  | some _ => g [d] S1
  | none => .bad
/-- C.m(..), a classmethod -/
def eCm (C : Addr) (g : Fn) (as : Ea) : Ee := fun ρ S => (as ρ S).bind fun ds S1 => g (.ref C :: ds) S1
def fnN (n : Nat) (g : Fn) : Fn := fun ds S => if ds.length = n then g ds S else .bad
/-- a promise without a number of arguments -/
def spR (K : PySem.W.Frag) (g : Fn) : Sp := fun vs H Q E => ∃ M ds S, Reps K M H vs ds ∧ HS K M S H ∧ wpG (Rep K) K (fun cls d _ H => E cls d H) [] M H (g ds S) Q
section
variable {X : Cx} {W : WX} {W1 : XK} {e o : Expr} {es : List Expr} {fe fo fv : Ee} {fa : Ea} {C : Addr} {f m : Str} {pos pos' apos : Pos} {g : Fn} {k : Nat}
theorem de_fld (c : Cls X.K C) (n : NoAttr X.K C f) (h : DE X W e fe) (hb : attributeBase e f X.env (eval e X.env) = eval e X.env := by rfl) : DE X W (.Attribute e f pos) (eFld C f fe) :=
  peI (pe_fld h hb) fun σ H Q ⟨M, ρ, S, hr, hs, w⟩ => ⟨M, ρ, S, hr, hs, wpG.bind w fun M1 v H1 d S1 e1 r1 hs1 w1 => by
    split at w1
    · rename_i fs hf
      obtain ⟨n', a, dx, vs, rfl, ha, hS, rfl, hH, rf⟩ := insAt_rep hs1 r1 hf
      split at w1
      · rename_i x hx
        obtain ⟨y, hy, ry⟩ := rf.lookup hx
        exact ⟨a, C, dx, vs, y, rfl, hH, c, n, hy, wp_val hs1 ry w1⟩
      · exact w1.elim
    · exact w1.elim⟩
theorem ds_fld {value : Expr} (c : Cls X.K C) (n : NoAttr X.K C f) (ho : DE X W o fo) (hv : DE X W value fv) (hs : swapsWith value (some (.Attribute o f pos')) pos.line X.env = pure false := by rfl) : DS X W (.Assign [.Attribute o f pos'] value pos) (sFl C f fo fv) :=
  psI (ps_fld ho hv hs) fun Dd σ H ⟨M, ρ, S, hr, hs, w⟩ => ⟨M, ρ, S, hr, hs, wpS.ofR hr w fun M1 y H1 dy S1 e1 r1 hs1 w1 => ⟨M1, ρ, S1, hr.mono e1, hs1, wpS.ofR (hr.mono e1) w1 fun M2 x H2 d S2 e2 r2 hs2 w2 => by
    split at w2
    · rename_i nn fs hf
      obtain ⟨n', a, dx, vs, hn', ha, hS, rfl, hH, rf⟩ := insAt_rep hs2 r2 hf
      cases hn'
      split at w2
      · rename_i hl
        refine ⟨a, C, dx, vs, rfl, hH, c, n, by rw [rf.length]; exact hl, ?_⟩
        have e4 : Ext M2 H2 M2 (upd H2 a (.ins C dx (putF f y vs))) := hs2.ext_write ha
        exact w2 M2 σ _ e4 (((hr.mono e1).mono e2).mono e4) (hs2.write ha ⟨dx, _, upd_same, RepF.put ((r1.mono e2).mono e4) (rf.mono e4)⟩)
      · exact w2.elim
    · exact w2.elim⟩⟩
theorem da_one (h : DE X W e fe) (r : DA X W es fa) (hs : starEach (e :: es) X.env = (false, eval e X.env) :: starEach es X.env := by rfl) : DA X W (e :: es) (aCons fe fa) :=
  paI (pa_cons h r hs) fun σ H Q ⟨M, ρ, S, hr, hs, w⟩ => ⟨M, ρ, S, hr, hs, wpG.bind w fun M1 x H1 d1 S1 e1 r1 hs1 w1 =>
    ⟨M1, ρ, S1, hr.mono e1, hs1, wpG.bind w1 fun M2 xs H2 ds S2 e2 r2 hs2 w2 => w2 M2 (x :: xs) H2 (Ext.refl hs2) (.cons (r1.mono e2) r2) hs2⟩⟩
theorem da_star {p : Pos} (h : DE X W e fe) (r : DA X W es fa) (hs : starEach (.Starred e p :: es) X.env = (true, eval e X.env) :: starEach es X.env := by rfl) : DA X W (.Starred e p :: es) (aStar fe fa) :=
  paI (StX.pa_star h r hs) fun σ H Q ⟨M, ρ, S, hr, hs, w⟩ => ⟨M, ρ, S, hr, hs, wpG.bind w fun M1 x H1 d1 S1 e1 r1 hs1 w1 => by
    split at w1
    · rename_i ds hx
      rcases rep_ref hs1 r1 hx with ⟨a, vs, rfl, ev, h1, h2⟩ | ⟨a, vs, rfl, ev, h1, h2⟩
      · exact ⟨a, vs, rfl, .inr (SqL.of h1), M1, ρ, S1, hr.mono e1, hs1, wpG.bind w1 fun M2 xs H2 ds S2 e2 r2 hs2 w2 => w2 M2 (vs ++ xs) H2 (Ext.refl hs2) ((h2.mono e2).append r2) hs2⟩
      · exact ⟨a, vs, rfl, .inl h1, M1, ρ, S1, hr.mono e1, hs1, wpG.bind w1 fun M2 xs H2 ds S2 e2 r2 hs2 w2 => w2 M2 (vs ++ xs) H2 (Ext.refl hs2) ((h2.mono e2).append r2) hs2⟩
    · exact w1.elim⟩
/-- what the class at C must say -/
theorem tMakeR_of {init : Fn} {σ : L2.St} {H : Hp} {Q : VK} (h : tD X.K (fun c d _ H => W1 c d H) (eMk C init fa) σ H Q) : StX.tMakeR C (spR X.K init) W1 (tDA X.K (fun c d _ H => W1 c d H) fa) σ H Q := by
  obtain ⟨M, ρ, S, hr, hs, w⟩ := h
  refine ⟨M, ρ, S, hr, hs, wpG.bind w fun M1 vs H1 ds S1 e1 r1 hs1 w1 => fun x dx hx hdx hne => ?_⟩
  have hs2 : HS X.K M1 S1 (upd H1 dx (.own x)) := hs1.same (Same.new hdx)
  have e2 : Ext M1 H1 M1 (upd H1 dx (.own x)) := Ext.same hs1 (Same.new hdx)
  have hx2 : (upd H1 dx (.own x)) x = none := by rw [upd_ne (fun z => hne z.symm)]; exact hx
  have e3 : Ext M1 (upd H1 dx (.own x)) (M1.add x) (upd (upd H1 dx (.own x)) x (.ins C dx [])) := hs2.ext_join hx2
  have hs3 : HS X.K (M1.add x) (S1 ++ [.ins C []]) (upd (upd H1 dx (.own x)) x (.ins C dx [])) := hs2.join hx2 ⟨dx, [], upd_same, .nil⟩
  have e4 := e2.trans e3
  have hn : (M1.add x).o[S1.length]? = some x := by
    show (M1.o ++ [x])[_]? = _
    rw [← hs1.len, List.getElem?_append_right (Nat.le_refl _)]
    simp
  refine ⟨M1.add x, .obj S1.length :: ds, S1 ++ [.ins C []], .cons (.obj hn) (r1.mono e4), hs3, ?_⟩
  revert w1
  cases hg : init (.obj S1.length :: ds) (S1 ++ [.ins C []]) with
  | bad => exact fun w1 => w1.elim
  | ex e S2 =>
    intro w1
    exact fun M' H' cls dd e5 hs5 q => w1 M' H' cls dd (e4.trans e5) hs5 q
  | ok d S2 =>
    cases d with
    | non =>
      intro w1 M' v H' e5 r5 hs5
      cases r5
      exact ⟨rfl, w1 M' (.ref x) H' (e4.trans e5) (.obj (e5.get hn)) hs5⟩
    | _ => exact fun w1 => w1.elim
section
variable {init f : Addr} {x : Str} {p : Pos} {gi : Fn}
theorem de_mk (Mk' : Mk X.K C init) (F : FnR X.prog X.w X.K X.mg X.base (L2.CX X.prog X.w) k init (spR X.K gi)) (hr : Room (k + 1) X.A) (hm : X.mg x = some (.ref C)) (tk : Takes X (fun c d _ H => W1 c d H)) (ha : DA X (fun c d _ H => W1 c d H) (e :: es) fa) (hg : Gl X x := by rfl) (hdb : (x == ("__debug__" : Str)) = false := by decide)
    (he : starEach (e :: es) X.env = (false, eval e X.env) :: starEach es X.env := by rfl) (hpl : (backTo pos (starEach es X.env)).any (·.1) = false := by rfl) : DE X (fun c d _ H => W1 c d H) (.Call (.Name x p) (e :: es) [] pos) (eMk C gi fa) :=
  peI (StX.pe_makeR Mk' F hr hg hm (passes_call tk fun _ _ _ _ h => h) ha hdb he hpl) fun _ _ _ h => tMakeR_of h
theorem pe_makeS {CX : CXT} {sp : Sp} {E : XK} {t : TA} (M : Mk X.K C init) (F : FnR X.prog X.w X.K X.mg X.base CX k init sp) (hr : Room (k + 1) X.A) (hg : Gl X x) (hm : X.mg x = some (.ref C)) (hx : Passes CX X E) (ha : PA X (e :: es) t) (hdb : (x == ("__debug__" : Str)) = false := by decide)
    (he : starEach (e :: es) X.env = (false, eval e X.env) :: starEach es X.env := by rfl) (hst : (backTo pos (starEach es X.env)).any (·.1) = true := by rfl) : PE X (.Call (.Name x p) (e :: es) [] pos) (StX.tMakeR C sp E t) := by
  refine ⟨fun pins s σ H Q I h => ?_⟩
  refine wpAny_Call_Name_kw (ld_glob I hg hm ?_ hdb)
  refine PySem.W.callWith_S2 (h₀ := X.base) I.ok.mod.kin M.kp (thn (ha.run pos pins s σ H _ I h) fun us s1 ⟨vs, H1, I1, r, q⟩ => ⟨I1.kIn, ?_⟩) he hst
  exact StX.run_makeR M F hr hx I1 r q
theorem de_mkS (Mk' : Mk X.K C init) (F : FnR X.prog X.w X.K X.mg X.base (L2.CX X.prog X.w) k init (spR X.K gi)) (hr : Room (k + 1) X.A) (hm : X.mg x = some (.ref C)) (tk : Takes X (fun c d _ H => W1 c d H)) (ha : DA X (fun c d _ H => W1 c d H) (e :: es) fa) (hg : Gl X x := by rfl) (hdb : (x == ("__debug__" : Str)) = false := by decide)
    (he : starEach (e :: es) X.env = (false, eval e X.env) :: starEach es X.env := by rfl) (hst : (backTo pos (starEach es X.env)).any (·.1) = true := by rfl) : DE X (fun c d _ H => W1 c d H) (.Call (.Name x p) (e :: es) [] pos) (eMk C gi fa) :=
  peI (pe_makeS Mk' F hr hg hm (passes_call tk fun _ _ _ _ h => h) ha hdb he hst) fun _ _ _ h => tMakeR_of h
/-- cls(e, .., *v), cls in the i-th slot -/
def eMkV (i : Nat) (C : Addr) (g : Fn) (as : Ea) : Ee := fun ρ S => match ρ[i]? with
  | some (some (.ref c)) => if c = C then eMk C g as ρ S else .bad
  | _ => .bad
theorem pe_makeV {CX : CXT} {sp : Sp} {E : XK} {t : TA} {i : Nat} (M : Mk X.K C init) (F : FnR X.prog X.w X.K X.mg X.base CX k init sp) (hr : Room (k + 1) X.A) (hv : PE X (.Name x p) (tVar i)) (hx : Passes CX X E) (ha : PA X (e :: es) t)
    (he : starEach (e :: es) X.env = (false, eval e X.env) :: starEach es X.env := by rfl) (hst : (backTo pos (starEach es X.env)).any (·.1) = true := by rfl) : PE X (.Call (.Name x p) (e :: es) [] pos) (fun σ H Q => σ[i]? = some (some (.ref C)) ∧ StX.tMakeR C sp E t σ H Q) := by
  refine ⟨fun pins s σ H Q I h => ?_⟩
  obtain ⟨hs, ht⟩ := h
  refine wpAny_Call_Name_kw (thn (hv.run pins s σ H (fun v H1 => v = .ref C ∧ H1 = H) I ⟨.ref C, hs, rfl, rfl⟩) fun u s1 ⟨v, H1, I1, r1, q1⟩ => ?_)
  obtain ⟨rfl, rfl⟩ := q1
  cases r1
  refine PySem.W.callWith_S2 (h₀ := X.base) I.ok.mod.kin M.kp (thn (ha.run pos pins s1 σ _ _ I1 ht) fun us s2 ⟨vs, H2, I2, r, q⟩ => ⟨I2.kIn, ?_⟩) he hst
  exact StX.run_makeR M F hr hx I2 r q
theorem de_mkV {i : Nat} (Mk' : Mk X.K C init) (F : FnR X.prog X.w X.K X.mg X.base (L2.CX X.prog X.w) k init (spR X.K gi)) (hr : Room (k + 1) X.A) (hv : PE X (.Name x p) (tVar i)) (tk : Takes X (fun c d _ H => W1 c d H)) (ha : DA X (fun c d _ H => W1 c d H) (e :: es) fa)
    (he : starEach (e :: es) X.env = (false, eval e X.env) :: starEach es X.env := by rfl) (hst : (backTo pos (starEach es X.env)).any (·.1) = true := by rfl) : DE X (fun c d _ H => W1 c d H) (.Call (.Name x p) (e :: es) [] pos) (eMkV i C gi fa) :=
  peI (pe_makeV (i := i) Mk' F hr hv (passes_call tk fun _ _ _ _ h => h) ha he hst) fun σ H Q ⟨M, ρ, S, hr, hs, w⟩ => by
    unfold eMkV at w
    split at w
    · rename_i c hc
      split at w
      · rename_i hcc
        subst hcc
        obtain ⟨v, hv, rv⟩ := hr.at i _ hc
        cases rv
        exact ⟨hv, tMakeR_of ⟨M, ρ, S, hr, hs, w⟩⟩
      · exact w.elim
    · exact w.elim
/-- o.m(e, ..) -/
theorem de_mt {fd : FuncData} {ps : List Str} {pl : Sem Bool} (c : Cls X.K C) (hm : Meth X.K C m f) (F : FnOk X.prog X.w X.K X.mg X.base (L2.CX X.prog X.w) k f fd ps (spD X.K ps.length g)) (hb : Binds X.K fd ps []) (hr : Room k X.A) (tk : Takes X (fun c d _ H => W1 c d H)) (ho : DE X (fun c d _ H => W1 c d H) o fo) (ha : DA X (fun c d _ H => W1 c d H) (e :: es) fa)
    (hst : starEach (e :: es) X.env = (false, eval e X.env) :: starEach es X.env := by rfl) (hpl : (backTo pos (starEach es X.env)).any (·.1) = false := by rfl)
    (ht : eval (.Call (.Attribute o m apos) (e :: es) [] pos) X.env = (do
      let ov ← eval o X.env
      standAt apos.atName
      let (f, first) ← holding [ov] (getMethod ov m pl)
      callWith pos f first (backTo pos (starEach (e :: es) X.env)) (backToKw pos (keywordEach [] X.env))) := by rfl) :
    DE X (fun c d _ H => W1 c d H) (.Call (.Attribute o m apos) (e :: es) [] pos) (eMt C m (fnN ps.length g) fo fa) :=
  peI (pe_meth ho c hm F hr hb .nil (passes_call tk fun _ _ _ _ h => h) ha hst hpl ht) fun σ H Q ⟨M, ρ, S, hr, hs, w⟩ => ⟨M, ρ, S, hr, hs, wpG.bind w fun M1 v H1 d S1 e1 r1 hs1 w1 => by
    split at w1
    · rename_i fs hf
      obtain ⟨n', a, dx, vs, rfl, ha, hS, rfl, hH, rf⟩ := insAt_rep hs1 r1 hf
      split at w1
      · rename_i hx
        refine ⟨a, dx, vs, rfl, hH, rf.lookup_none hx, M1, ρ, S1, hr.mono e1, hs1, wpG.bind w1 fun M2 xs H2 ds S2 e2 r2 hs2 w2 => ?_⟩
        rw [List.append_nil]
        have r3 : Reps X.K M2 H2 (.ref a :: xs) (.obj n' :: ds) := .cons (r1.mono e2) r2
        unfold fnN at w2
        split at w2
        · rename_i hl
          exact ⟨by rw [r3.length]; exact hl, M2, _, S2, r3, hs2, w2⟩
        · exact w2.elim
      · exact w1.elim
    · exact w1.elim⟩
/-- C.m(e, ..) -/
theorem de_cm {mc : Value} {pr : Addr} {pl : Sem Bool} (r : ClX.CRead X.K C mc) (c : ClX.CMet X.K C mc m pr f) (F : FnR X.prog X.w X.K X.mg X.base (L2.CX X.prog X.w) k f (spR X.K g)) (hr : Room k X.A) (hm : X.mg x = some (.ref C)) (tk : Takes X (fun c d _ H => W1 c d H)) (ha : DA X (fun c d _ H => W1 c d H) (e :: es) fa) (hg : Gl X x := by rfl) (hdb : (x == ("__debug__" : Str)) = false := by decide)
    (hst : starEach (e :: es) X.env = (false, eval e X.env) :: starEach es X.env := by rfl) (hpl : (backTo pos (starEach es X.env)).any (·.1) = false := by rfl)
    (ht : eval (.Call (.Attribute (.Name x p) m apos) (e :: es) [] pos) X.env = (do
      let ov ← eval (.Name x p) X.env
      standAt apos.atName
      let (f, first) ← holding [ov] (getMethod ov m pl)
      callWith pos f first (backTo pos (starEach (e :: es) X.env)) (backToKw pos (keywordEach [] X.env))) := by rfl) :
    DE X (fun c d _ H => W1 c d H) (.Call (.Attribute (.Name x p) m apos) (e :: es) [] pos) (eCm C g fa) :=
  peI (ClX.pe_cmeth (pe_glob (v := .ref C) hg hm rfl hdb) r c F hr (passes_call tk fun _ _ _ _ h => h) ha hst hpl ht) fun σ H Q ⟨M, ρ, S, hr, hs, w⟩ =>
    ⟨rfl, M, ρ, S, hr, hs, wpG.bind w fun M1 vs H1 ds S1 e1 r1 hs1 w1 => ⟨M1, _, S1, .cons (.ref C) r1, hs1, w1⟩⟩
end
end
section
variable {P : Program} {w : World} {K : PySem.W.Frag} {mg : Str → Option Value} {base : Heap} {x qual : Str} {ps N : List Str} {k : Nat} {st : Stmt} {f : Addr} {fd : FuncData} {body : Sm}
theorem FnR_of {CX : CXT} {sp : Sp} (F : FnOk P w K mg base CX k f fd ps sp) (hb : Binds K fd ps []) : FnR P w K mg base CX k f sp := fun A outer s H us vs Q E hr e0 r h => by
  have hk : K.In s.heap := e0.mod.kin.keeps fun b o e => (e0.bs b o e).1
  have hl : (us ++ []).length = ps.length := by rw [List.append_nil, ← r.length]; exact F.len _ _ _ _ h
  have b := hb s us hk hl
  rw [List.append_nil] at b
  exact F.run A outer s H ⟨us, []⟩ us vs Q E hr e0 b r h
theorem FnR_num {CX : CXT} {n : Nat} {g : Fn} (F : FnR P w K mg base CX k f (spD K n g)) : FnR P w K mg base CX k f (spR K (fnN n g)) := F.imp fun vs H Q E ⟨M, ds, S, r, hs, w⟩ => by
  unfold fnN at w
  split at w
  · rename_i hl
    exact ⟨by rw [r.length]; exact hl, M, ds, S, r, hs, w⟩
  · exact w.elim
theorem fnQ_fnM (Ff : Fun K x qual st f fd) (S : FnScope N ps (defScope st))
    (h : ∀ (cdv : Value) (A : Around) (outer : List Env) (s : Shared) (H : Hp) (E : XK), Room k (A.deeper (envOfC qual (defScope st) s.heap.objs.size f cdv)) → DSs (cxOf (L2.CX P w) P w K mg base N qual (defScope st) f cdv A outer s H E) (fun cls d _ H => E cls d H) (defBody st) body) :
    FnOk P w K mg base (L2.CX P w) (k + 1) f fd ps (spD K ps.length (fnQ ps.length N.length body)) := Ff.okX S (fun vs H Q E h => h.1) (fun cdv A outer s H vs Q E hr q => by
    obtain ⟨hl, M, ds, S0, r, hs, w⟩ := q
    refine ⟨_, h cdv A outer s H E hr, M, _, S0, start_rep r ps.length hl, hs, ?_⟩
    unfold fnQ at w
    split at w
    · rename_i ρ S' e
      rw [e]
      exact fun M' σ' H' e1 r1 hs1 => w M' .non H' e1 .non hs1
    · rename_i d S' e
      rw [e]
      exact w
    · rename_i e ρ S' q
      rw [q]
      exact fun M' σ' H' cls dd e1 r1 hs1 q => w M' H' cls dd e1 hs1 q
    · exact w.elim)
theorem fnP_fnM (Ff : Fun K x qual st f fd) (S : FnScope N ps (defScope st))
    (h : ∀ (cdv : Value) (A : Around) (outer : List Env) (s : Shared) (H : Hp) (E : XK), Room k (A.deeper (envOfC qual (defScope st) s.heap.objs.size f cdv)) → DSs (cxOf (L2.CX P w) P w K mg base N qual (defScope st) f cdv A outer s H E) (fun cls d _ H => E cls d H) (defBody st) body) :
    FnOk P w K mg base (L2.CX P w) (k + 1) f fd ps (spD K ps.length (fnP ps.length N.length body)) := fn_imp (fnQ_fnM Ff S h) fun W M H S ds Q hs w => by
    unfold fnP at w
    rw [← hs.len] at w
    exact popR_ok hs w
/-- def f(a, .., *v) -/
def fnS (m : Nat) (g : Fn) : Fn := fun ds S => if m ≤ ds.length ∧ ds.length ≤ 16777216 then g (ds.take m ++ [.tup (ds.drop m)]) S else .bad
theorem Reps.takeN {M : Mp} {H : Hp} : ∀ (m : Nat) {vs : List V} {ds : List D}, Reps K M H vs ds → Reps K M H (vs.take m) (ds.take m)
  | 0, _, _, _ => .nil
  | _ + 1, _, _, .nil => .nil
  | m + 1, _, _, .cons r t => .cons r (Reps.takeN m t)
theorem Reps.dropN {M : Mp} {H : Hp} : ∀ (m : Nat) {vs : List V} {ds : List D}, Reps K M H vs ds → Reps K M H (vs.drop m) (ds.drop m)
  | 0, _, _, r => r
  | _ + 1, _, _, .nil => .nil
  | m + 1, _, _, .cons r t => Reps.dropN m t
theorem fnS_fn {pv : Str} (Ff : Fun K x qual st f fd) (S : FnScope N (ps ++ [pv]) (defScope st))
    (hb : ∀ (kV doc pm : Value) (an : Option Addr) (cdv ct : Value) (us rest : List Value), us.length = ps.length → bindArgs (PySem.W.fnOf x qual (defArgs st) (defBody st) (defScope st) .none kV doc pm an cdv ct) ⟨us ++ rest, []⟩ = (newTuple rest >>= fun t => pure (ps.zip us ++ [(pv, t)])))
    (h : ∀ (cdv : Value) (A : Around) (outer : List Env) (s : Shared) (H : Hp) (E : XK), Room k (A.deeper (envOfC qual (defScope st) s.heap.objs.size f cdv)) → DSs (cxOf (L2.CX P w) P w K mg base N qual (defScope st) f cdv A outer s H E) (fun cls d _ H => E cls d H) (defBody st) body) :
    FnR P w K mg base (L2.CX P w) (k + 1) f (spR K (fnS ps.length (fnP (ps.length + 1) N.length body))) := by
  obtain ⟨oc, od, kV, doc, pm, an, cdv, ct, osl, rfl, lk, hcd⟩ := Ff.ex
  refine (StX.fn_star (sp := spD K (ps.length + 1) (fnQ (ps.length + 1) N.length body)) lk hcd S StX.cxUp (hb _ _ _ _ _ _) fun A outer s H vs Q E hr q => ?_).imp fun vs H Q E ⟨M, ds, S0, r, hs, w⟩ => ?_
  · obtain ⟨hl, M, ds, S0, r, hs, w⟩ := q
    refine ⟨_, h cdv A outer s H E hr, M, _, S0, start_rep r (ps.length + 1) hl, hs, ?_⟩
    unfold fnQ at w
    split at w
    · rename_i ρ S' e
      rw [e]
      exact fun M' σ' H' e1 r1 hs1 => w M' .non H' e1 .non hs1
    · rename_i d S' e
      rw [e]
      exact w
    · rename_i e ρ S' q
      rw [q]
      exact fun M' σ' H' cls dd e1 r1 hs1 q => w M' H' cls dd e1 hs1 q
    · exact w.elim
  · unfold fnS at w
    split at w
    · rename_i hl
      have hlen := r.length
      refine ⟨vs.take ps.length, vs.drop ps.length, (List.take_append_drop _ _).symm, by rw [List.length_take]; omega, by rw [List.length_drop, sizeLine_eq]; omega, fun p hp => ?_⟩
      have e1 : Ext M H M (upd H p (.tup (vs.drop ps.length))) := Ext.same hs (Same.new hp)
      have hs1 : HS K M S0 (upd H p (.tup (vs.drop ps.length))) := hs.same (Same.new hp)
      have r1 : Reps K M (upd H p (.tup (vs.drop ps.length))) (vs.take ps.length ++ [V.ref p]) (ds.take ps.length ++ [.tup (ds.drop ps.length)]) :=
        ((r.takeN ps.length).mono e1).append (.cons (Rep.newT hs hp (r.dropN ps.length)) .nil)
      refine ⟨by rw [List.length_append, List.length_take]; simp; omega, M, _, S0, r1, hs1, ?_⟩
      have w2 := wpG.ext e1 w
      unfold fnP at w2
      rw [← hs1.len] at w2
      exact popR_ok hs1 w2
    · exact w.elim
end
end DL
/-! str(x) of an instance with its own __str__; properties; methods without arguments -/
namespace OwS
open PySem PySem.Spec PyProof.Rows
section
variable {prog : Program} {w : World} {A : Around} {E : Value → Shared → Prop} {s : Shared} {K : PySem.W.Frag} {x C f : Addr} {ox : Obj} {odd : Option Obj}
theorem str_from {Q : Value → Shared → Prop} (hu : A.units < cLine) (X : K.In s.heap) (I : PySem.W.InstAt s.heap x ox C odd) (hs : PySem.W.findIn K (.ref C) "__str__" = some (some (.ref f))) (hf : PySem.W.isFn K (.ref f) = true)
    (h : wpAny (model prog w) A (call (.ref f) [.ref x]) (fun r s₁ => ∃ z u, r = Value.str z u ∧ Q r s₁) E s) : wpAny (model prog w) A (Builtin.Str.strOf (.ref x)) Q E s := by
  unfold Builtin.Str.strOf
  show wpAny (model prog w) A (cRoomFor "str" [.ref x] >>= _) Q E s
  refine wpAny_bind (wpAny_cRoomFor hu ?_)
  refine wpAny_bind (m := callSpecial? (.ref x) (Str.ofString "__str__")) (PySem.W.special_fn X I hs (beq_iff_eq.mp hf) (wpAny_mono h (fun r s' hr => ?_) fun _ _ y => y))
  obtain ⟨z, u, rfl, hq⟩ := hr
  exact wpAny_bind (wpAny_pure (wpAny_pure hq))
theorem str_own {Q : Value → Shared → Prop} (hu : A.in1.in1.units < cLine) (X : K.In s.heap) (I : PySem.W.InstAt s.heap x ox C odd) (hs : PySem.W.findIn K (.ref C) "__str__" = some (some (.ref f))) (hf : PySem.W.isFn K (.ref f) = true)
    (h : wpAny (model prog w) A.in1.in1 (call (.ref f) [.ref x]) (fun r s₁ => ∃ n u, r = Value.str n u ∧ Q r s₁) E s) : wpAny (model prog w) A (call (.type "str") [.ref x]) Q E s := by
  refine callType_codes (T := "str") (Bi := Builtin.«object.__init__») (Q₁ := fun r s₁ => ∃ n u, r = Value.str n u ∧ Q r s₁) PySem.F.called_str (PySem.F.typeCall_str_1 _) PySem.F.entry_object_init ?_ ?_
  · refine codeAny_of_tree ?_
    show wpAny _ A.in1.in1 (do checkBuiltinCall "str.__new__" ⟨[.type "str", .ref x], []⟩; again (.builtin "str.__new__" ⟨[.type "str", .ref x], []⟩)) _ _ s
    refine wpAny_bind (wpAny_of_eq (PySem.F.newCall_str_1 _) (wpAny_pure ⟨plainId_quiet (by decide +kernel) _, codeAny_builtin PySem.F.entry_str_new ?_⟩))
    rw [Around.under_plainId (by decide +kernel) _]
    rw [str_new_tree (.ref x)]
    refine wpAny_bind (wpAny_pure ?_)
    refine wpAny_bind (wpAny_of_eq isSubtype_str_str ?_)
    refine wpAny_bind (str_from hu X I hs hf (wpAny_mono h (fun r s₁ hr => ?_) fun _ _ y => y))
    obtain ⟨n, u, rfl, hq⟩ := hr
    exact ⟨n, u, rfl, wpAny_pure ⟨n, u, rfl, hq⟩⟩
  · rintro obj s₁ ⟨n, u, rfl, hq⟩
    exact ⟨typeIs_str _ _ _, PySem.F.args_object_init_2 _ _, object_init_meets PySem.F.called_str.init.lookup PySem.F.called_str.made (by decide) prog w A.in1 _ s₁ ⟨typeIs_str _ _ _, rfl, hq⟩⟩
end
end OwS
namespace DL
open PySem PySem.Spec PyProof.Rows L2
/-- str(x) of an instance with a dict -/
def rStrOwn (C : Addr) (sp : Sp) (E : XK) : List V → Hp → VK → Prop := fun xs H Q => ∃ a dx fs, xs = [V.ref a] ∧ H a = some (.ins C dx fs) ∧ sp [.ref a] H (fun z H' => ∃ i, z = .str i ∧ Q z H') E
theorem call_strOwn {X : Cx} {CX : CXT} {n : Nat} {C g : Addr} {sp : Sp} {E : XK} (hs : PySem.W.findIn X.K (.ref C) "__str__" = some (some (.ref g))) (hf : PySem.W.isFn X.K (.ref g) = true) (F : FnR X.prog X.w X.K X.mg X.base CX n g sp) (hr : Room (n + 2) X.A) (hx : Passes CX X E) : CallR X (.type "str") (rStrOwn C sp E) := by
  intro pins s σ H xs us Q I r h
  obtain ⟨a, dx, fs, rfl, ea, q⟩ := h
  obtain ⟨u, rfl, ru⟩ := r.one
  cases (show u = Value.ref a from ru)
  obtain ⟨mA, O, _, _, _, _⟩ := ins_get I.hok ea
  obtain ⟨od, J, _⟩ := O.look
  have hr2 : Room n X.A.in1.in1 := (show Room (n + 1) X.A.in1 from Room.in1 hr).in1
  refine OwS.str_own (by have := hr2.un; omega) I.kIn J hs hf (wpAny_mono (wpAny_call (SlX.run_at (us := [.ref a]) (ws := [.ref a]) F hr2 I.env0.in1.in1 hx I (.cons rfl .nil) q)) (fun w s' z => ?_) fun _ _ x => x)
  obtain ⟨z', H', I', rz, i, ei, qz⟩ := z
  subst ei
  obtain ⟨t, e⟩ := (show ∃ t, w = Value.str i t from rz)
  cases e
  exact ⟨i, t, rfl, .str i, H', I', ⟨t, rfl⟩, qz⟩
def strO (g : Fn) (d : D) (S : Sto) : R D := match g [d] S with
  | .ok (.str z) S2 => .ok (.str z) S2
  | .ok _ _ => .bad
  | .ex e S2 => .ex e S2
  | .bad => .bad
/-- str(x), x an instance of the class at C, or an int, or a text -/
def eStrO (C : Addr) (g : Fn) (f : Ee) : Ee := fun ρ S => (eArgs [f] ρ S).bind fun ds S1 => match ds with
  | [d] => match insAt C S1 d with
    | some _ => strO g d S1
    | none => gStr [d] S1
  | _ => .bad
section
variable {X : Cx} {W1 : XK} {e o : Expr} {fe fo : Ee} {C p gt : Addr} {f m x : Str} {pos apos pp : Pos} {g : Fn} {k : Nat} {fd : FuncData} {ps : List Str}
theorem de_strO (hs : PySem.W.findIn X.K (.ref C) "__str__" = some (some (.ref gt))) (hf : PySem.W.isFn X.K (.ref gt) = true) (F : FnR X.prog X.w X.K X.mg X.base (L2.CX X.prog X.w) k gt (spR X.K g)) (hr : Room (k + 2) X.A) (tk : Takes X (fun c d _ H => W1 c d H)) (hgl : Gl X "str") (hm : X.mg "str" = none) (ha : DE X (fun c d _ H => W1 c d H) e fe)
    (hes : starEach [e] X.env = (false, eval e X.env) :: starEach [] X.env := by rfl) (hpl : (backTo pos (starEach [] X.env)).any (·.1) = false := by rfl) : DE X (fun c d _ H => W1 c d H) (.Call (.Name "str" pp) [e] [] pos) (eStrO C g fe) :=
  peI (pe_callTy (CallR.or call_strD (call_strOwn hs hf F hr (passes_call tk fun _ _ _ _ h => h))) hgl hm b_str (da_cons ha da_nil hes) (by decide) (by decide) hes hpl) fun σ H Q ⟨M, ρ, S, hr, hs, w⟩ => ⟨M, ρ, S, hr, hs, wpG.bind w fun M1 vs H1 ds S1 e1 r1 hs1 w1 => by
    split at w1
    · rename_i d
      obtain ⟨v, rfl, rv⟩ := reps1 r1
      split at w1
      · rename_i fs hf
        obtain ⟨n', a, dx, us, rfl, ha, hS, rfl, hH, rf⟩ := insAt_rep hs1 rv hf
        refine .inr ⟨a, dx, us, rfl, hH, M1, _, S1, .cons rv .nil, hs1, ?_⟩
        unfold strO at w1
        revert w1
        cases g [D.obj n'] S1 with
        | bad => exact fun w1 => w1.elim
        | ex ee S2 => exact fun w1 => w1
        | ok d2 S2 =>
          cases d2 with
          | str z =>
            intro w1 M' v H' e5 r5 hs5
            cases r5
            exact ⟨z, rfl, w1 M' _ H' e5 (.str z) hs5⟩
          | _ => exact fun w1 => w1.elim
      · exact .inl (cd_str _ σ M1 H1 S1 _ _ Q hs1 r1 w1)
    · exact w1.elim⟩
/-- what cannot raise -/
def mustOk (r : R D) : R D := match r with
  | .ok d S => .ok d S
  | _ => .bad
/-- o.f, a property that cannot raise -/
def eProp1 (C : Addr) (g : Fn) (o : Ee) : Ee := fun ρ S => (o ρ S).bind fun d S1 => match insAt C S1 d with
  | some _ => mustOk (g [d] S1)
  | none => .bad
theorem de_prop {W : WX} (c : Cls X.K C) (hp : PropOf X.K C f p gt) (F : FnOk X.prog X.w X.K X.mg X.base (L2.CX X.prog X.w) k gt fd ps (spD X.K 1 g)) (hb : Binds X.K fd ps []) (hr : Room (k + 1) X.A) (ho : DE X W e fe) (hab : attributeBase e f X.env (eval e X.env) = eval e X.env := by rfl) : DE X W (.Attribute e f pos) (eProp1 C g fe) :=
  peI (pe_prop (E := fun _ _ _ => False) ho c hp F hr hb .nil (fun pins σ H s e s' _ h => by
      obtain ⟨_, _, _, _, _, _, _, _, _, _, _, _, z⟩ := h
      exact z.elim) hab) fun σ H Q ⟨M, ρ, S, hr, hs, w⟩ => ⟨M, ρ, S, hr, hs, wpG.bind w fun M1 v H1 d S1 e1 r1 hs1 w1 => by
    split at w1
    · rename_i fs hf
      obtain ⟨n', a, dx, us, rfl, ha, hS, rfl, hH, rf⟩ := insAt_rep hs1 r1 hf
      refine ⟨a, dx, us, rfl, hH, rfl, M1, _, S1, .cons r1 .nil, hs1, ?_⟩
      unfold mustOk at w1
      revert w1
      cases g [D.obj n'] S1 with
      | bad => exact fun w1 => w1.elim
      | ex ee S2 => exact fun w1 => w1.elim
      | ok d2 S2 => exact fun w1 => w1
    · exact w1.elim⟩
/-- o.m() -/
theorem de_mt0 {pl : Sem Bool} (c : Cls X.K C) (hm : Meth X.K C m gt) (F : FnOk X.prog X.w X.K X.mg X.base (L2.CX X.prog X.w) k gt fd ps (spD X.K ps.length g)) (hb : Binds X.K fd ps []) (hr : Room k X.A) (tk : Takes X (fun c d _ H => W1 c d H)) (ho : DE X (fun c d _ H => W1 c d H) o fo)
    (ht : eval (.Call (.Attribute o m apos) [] [] pos) X.env = (do
      let ov ← eval o X.env
      standAt apos.atName
      let (f, first) ← holding [ov] (getMethod ov m pl)
      callWith pos f first (backTo pos (starEach [] X.env)) (backToKw pos (keywordEach [] X.env))) := by rfl) :
    DE X (fun c d _ H => W1 c d H) (.Call (.Attribute o m apos) [] [] pos) (eMt C m (fnN ps.length g) fo (eArgs [])) :=
  peI (pe_meth0 ho c hm F hr hb .nil (passes_call tk fun _ _ _ _ h => h) ht) fun σ H Q ⟨M, ρ, S, hr, hs, w⟩ => ⟨M, ρ, S, hr, hs, wpG.bind w fun M1 v H1 d S1 e1 r1 hs1 w1 => by
    split at w1
    · rename_i fs hf
      obtain ⟨n', a, dx, vs, rfl, ha, hS, rfl, hH, rf⟩ := insAt_rep hs1 r1 hf
      split at w1
      · rename_i hx
        have w2 : wpG (Rep X.K) X.K (fun c d _ H => W1 c d H) σ M1 H1 (fnN ps.length g (D.obj n' :: []) S1) Q := w1
        unfold fnN at w2
        split at w2
        · rename_i hl
          exact ⟨a, dx, vs, rfl, hH, rf.lookup_none hx, hl, M1, _, S1, .cons r1 .nil, hs1, w2⟩
        · exact w2.elim
      · exact w1.elim
    · exact w1.elim⟩
/-- a global tuple of texts -/
theorem de_gtup {W : WX} {ys : List Str} (h : ∃ a, X.mg x = some (.ref a) ∧ KTup X.K a (ys.map V.str)) (hg : Gl X x := by rfl) (hd : (x == ("__debug__" : Str)) = false := by decide) : DE X W (.Name x pos) (eK (.tup (ys.map D.str))) := by
  obtain ⟨a, hm, hk⟩ := h
  exact de_K (pe_glob (v := .ref a) hg hm rfl hd) fun _ _ => .tup (.inr hk) (reps_strs ys)
end
def clsS (st : Stmt) (j : Nat) : Stmt := match st with
  | .ClassDef _ _ _ b _ _ _ _ _ _ _ => b.getD j (.Pass ⟨0, 0, 0, 0⟩)
  | _ => .Pass ⟨0, 0, 0, 0⟩
section
variable (P : Program) (w : World) (K : PySem.W.Frag) (mg : Str → Option Value) (base : Heap) (C : Addr)
structure DInit (k : Nat) (g : Fn) : Prop where
  ex : ∃ f, Mk K C f ∧ FnR P w K mg base (L2.CX P w) k f (spR K g)
structure DCm (m : Str) (k : Nat) (g : Fn) : Prop where
  ex : ∃ mc pr f, ClX.CRead K C mc ∧ ClX.CMet K C mc m pr f ∧ FnR P w K mg base (L2.CX P w) k f (spR K g)
structure DProp (m : Str) (k : Nat) (g : Fn) : Prop where
  ex : ∃ p gt fd ps, PropOf K C m p gt ∧ Binds K fd ps [] ∧ FnOk P w K mg base (L2.CX P w) k gt fd ps (spD K 1 g)
structure DStr (k : Nat) (g : Fn) : Prop where
  ex : ∃ gt, PySem.W.findIn K (.ref C) "__str__" = some (some (.ref gt)) ∧ PySem.W.isFn K (.ref gt) = true ∧ FnR P w K mg base (L2.CX P w) k gt (spR K g)
structure DMt (m : Str) (k : Nat) (g : Fn) : Prop where
  ex : ∃ gt fd ps g0, Meth K C m gt ∧ Binds K fd ps [] ∧ FnOk P w K mg base (L2.CX P w) k gt fd ps (spD K ps.length g0) ∧ g = fnN ps.length g0
end
section
variable {X : Cx} {W1 : XK} {e o : Expr} {es : List Expr} {fe fo : Ee} {fa : Ea} {C : Addr} {f m x : Str} {p pos apos pp : Pos} {g : Fn} {k : Nat}
theorem de_mkE (F : DInit X.prog X.w X.K X.mg X.base C k g) (hr : Room (k + 1) X.A) (hm : X.mg x = some (.ref C)) (tk : Takes X (fun c d _ H => W1 c d H)) (ha : DA X (fun c d _ H => W1 c d H) (e :: es) fa) (hg : Gl X x := by rfl) (hdb : (x == ("__debug__" : Str)) = false := by decide)
    (he : starEach (e :: es) X.env = (false, eval e X.env) :: starEach es X.env := by rfl) (hpl : (backTo pos (starEach es X.env)).any (·.1) = false := by rfl) : DE X (fun c d _ H => W1 c d H) (.Call (.Name x p) (e :: es) [] pos) (eMk C g fa) := by
  obtain ⟨i, M, F⟩ := F.ex
  exact de_mk M F hr hm tk ha hg hdb he hpl
theorem de_mkSE (F : DInit X.prog X.w X.K X.mg X.base C k g) (hr : Room (k + 1) X.A) (hm : X.mg x = some (.ref C)) (tk : Takes X (fun c d _ H => W1 c d H)) (ha : DA X (fun c d _ H => W1 c d H) (e :: es) fa) (hg : Gl X x := by rfl) (hdb : (x == ("__debug__" : Str)) = false := by decide)
    (he : starEach (e :: es) X.env = (false, eval e X.env) :: starEach es X.env := by rfl) (hst : (backTo pos (starEach es X.env)).any (·.1) = true := by rfl) : DE X (fun c d _ H => W1 c d H) (.Call (.Name x p) (e :: es) [] pos) (eMk C g fa) := by
  obtain ⟨i, M, F⟩ := F.ex
  exact de_mkS M F hr hm tk ha hg hdb he hst
theorem de_mkVE {i : Nat} (F : DInit X.prog X.w X.K X.mg X.base C k g) (hr : Room (k + 1) X.A) (hv : PE X (.Name x p) (tVar i)) (tk : Takes X (fun c d _ H => W1 c d H)) (ha : DA X (fun c d _ H => W1 c d H) (e :: es) fa)
    (he : starEach (e :: es) X.env = (false, eval e X.env) :: starEach es X.env := by rfl) (hst : (backTo pos (starEach es X.env)).any (·.1) = true := by rfl) : DE X (fun c d _ H => W1 c d H) (.Call (.Name x p) (e :: es) [] pos) (eMkV i C g fa) := by
  obtain ⟨_, M, F⟩ := F.ex
  exact de_mkV M F hr hv tk ha he hst
theorem de_cmE {pl : Sem Bool} (F : DCm X.prog X.w X.K X.mg X.base C m k g) (hr : Room k X.A) (hm : X.mg x = some (.ref C)) (tk : Takes X (fun c d _ H => W1 c d H)) (ha : DA X (fun c d _ H => W1 c d H) (e :: es) fa) (hg : Gl X x := by rfl) (hdb : (x == ("__debug__" : Str)) = false := by decide)
    (hst : starEach (e :: es) X.env = (false, eval e X.env) :: starEach es X.env := by rfl) (hpl : (backTo pos (starEach es X.env)).any (·.1) = false := by rfl)
    (ht : eval (.Call (.Attribute (.Name x p) m apos) (e :: es) [] pos) X.env = (do
      let ov ← eval (.Name x p) X.env
      standAt apos.atName
      let (f, first) ← holding [ov] (getMethod ov m pl)
      callWith pos f first (backTo pos (starEach (e :: es) X.env)) (backToKw pos (keywordEach [] X.env))) := by rfl) :
    DE X (fun c d _ H => W1 c d H) (.Call (.Attribute (.Name x p) m apos) (e :: es) [] pos) (eCm C g fa) := by
  obtain ⟨_, _, _, r, c, F⟩ := F.ex
  exact de_cm r c F hr hm tk ha hg hdb hst hpl ht
theorem de_propE {W : WX} (c : Cls X.K C) (F : DProp X.prog X.w X.K X.mg X.base C f k g) (hr : Room (k + 1) X.A) (ho : DE X W e fe) (hab : attributeBase e f X.env (eval e X.env) = eval e X.env := by rfl) : DE X W (.Attribute e f pos) (eProp1 C g fe) := by
  obtain ⟨_, _, _, _, hp, hb, F⟩ := F.ex
  exact de_prop c hp F hb hr ho hab
theorem de_strOE (F : DStr X.prog X.w X.K X.mg X.base C k g) (hr : Room (k + 2) X.A) (tk : Takes X (fun c d _ H => W1 c d H)) (hgl : Gl X "str") (hm : X.mg "str" = none) (ha : DE X (fun c d _ H => W1 c d H) e fe)
    (hes : starEach [e] X.env = (false, eval e X.env) :: starEach [] X.env := by rfl) (hpl : (backTo pos (starEach [] X.env)).any (·.1) = false := by rfl) : DE X (fun c d _ H => W1 c d H) (.Call (.Name "str" pp) [e] [] pos) (eStrO C g fe) := by
  obtain ⟨_, hs, hf, F⟩ := F.ex
  exact de_strO hs hf F hr tk hgl hm ha hes hpl
theorem de_mtE {pl : Sem Bool} (c : Cls X.K C) (F : DMt X.prog X.w X.K X.mg X.base C m k g) (hr : Room k X.A) (tk : Takes X (fun c d _ H => W1 c d H)) (ho : DE X (fun c d _ H => W1 c d H) o fo) (ha : DA X (fun c d _ H => W1 c d H) (e :: es) fa)
    (hst : starEach (e :: es) X.env = (false, eval e X.env) :: starEach es X.env := by rfl) (hpl : (backTo pos (starEach es X.env)).any (·.1) = false := by rfl)
    (ht : eval (.Call (.Attribute o m apos) (e :: es) [] pos) X.env = (do
      let ov ← eval o X.env
      standAt apos.atName
      let (f, first) ← holding [ov] (getMethod ov m pl)
      callWith pos f first (backTo pos (starEach (e :: es) X.env)) (backToKw pos (keywordEach [] X.env))) := by rfl) :
    DE X (fun c d _ H => W1 c d H) (.Call (.Attribute o m apos) (e :: es) [] pos) (eMt C m g fo fa) := by
  obtain ⟨_, _, _, _, hm, hb, F2, rfl⟩ := F.ex
  exact de_mt c hm F2 hb hr tk ho ha hst hpl ht
theorem de_mt0E {pl : Sem Bool} (c : Cls X.K C) (F : DMt X.prog X.w X.K X.mg X.base C m k g) (hr : Room k X.A) (tk : Takes X (fun c d _ H => W1 c d H)) (ho : DE X (fun c d _ H => W1 c d H) o fo)
    (ht : eval (.Call (.Attribute o m apos) [] [] pos) X.env = (do
      let ov ← eval o X.env
      standAt apos.atName
      let (f, first) ← holding [ov] (getMethod ov m pl)
      callWith pos f first (backTo pos (starEach [] X.env)) (backToKw pos (keywordEach [] X.env))) := by rfl) :
    DE X (fun c d _ H => W1 c d H) (.Call (.Attribute o m apos) [] [] pos) (eMt C m g fo (eArgs [])) := by
  obtain ⟨_, _, _, _, hm, hb, F2, rfl⟩ := F.ex
  exact de_mt0 c hm F2 hb hr tk ho ht
end
/-- a promise whatever the classes' addresses -/
def spAll (K : PySem.W.Frag) (n : Nat) (g : Addr → Fn) : Sp := fun vs H Q E => ∀ c, spD K n (g c) vs H Q E
theorem law_spAll {K : PySem.W.Frag} {g : Addr → Fn} {n : Nat} (hg : ∀ (c : Addr) (ns : List Int), ns.length ≤ n → ∃ S, g c [.frz (ns.map D.int)] [] = .ok (.bl true) S) (H : Hp) (a : Addr) (ns : List Int) (hl : ns.length ≤ n) (hs : SqL K H a (ns.map V.int)) :
    spAll K 1 g [.ref a] H (fun v _ => v = .bl true) fun _ _ _ => False := by
  intro c
  obtain ⟨S, e⟩ := hg c ns hl
  refine ⟨rfl, ⟨[], []⟩, _, [], .cons (.frz (xs := ns.map V.int) ?_ Reps.ints) .nil, ⟨rfl, List.nodup_nil, fun _ h => (nomatch h), fun n a mo h _ => by simp at h⟩, ?_⟩
  · rcases hs with h | h
    · exact .inl ⟨fun z => (by rcases z with z | z <;> cases z), h⟩
    · exact .inr h
  · rw [e]
    intro M v H' _ r _
    cases r
    rfl
section
variable {K : PySem.W.Frag} {x qual : Str} {ps : List Str} {st : Stmt} {f : Addr} {od an : Option Addr} {sl : Array (Option Value)} {oc kV dc pm cd ct : Value}
theorem meth_mk (l : K.lookup f = some ⟨oc, od, .func (PySem.W.fnOf x qual (defArgs st) (defBody st) (defScope st) .none kV dc pm an cd ct), sl⟩) (c : PySem.W.codeIn K cd qual = true) (k : PySem.W.keepIn K (.ref f) = true)
    (hb : ∀ (kV doc pm : Value) (an : Option Addr) (cdv ct : Value) (us : List Value), us.length = ps.length → bindArgs (PySem.W.fnOf x qual (defArgs st) (defBody st) (defScope st) .none kV doc pm an cdv ct) ⟨us, []⟩ = pure (ps.zip us)) :
    ∃ fd, Fun K x qual st f fd ∧ Binds K fd ps [] :=
  have F := fun_mk (st := st) l c k
  ⟨_, F, F.binds hb⟩
theorem init_mk (l : K.lookup f = some ⟨oc, od, .func (PySem.W.fnOf x qual (defArgs st) (defBody st) (defScope st) .none kV dc pm an cd ct), sl⟩) (c : PySem.W.codeIn K cd qual = true) (k : PySem.W.keepIn K (.ref f) = true) :
    ∃ fd, Fun K x qual st f fd := ⟨_, fun_mk (st := st) l c k⟩
end
theorem bind_star3 {B : List Value → Sem (List (Str × Value))} {p1 p2 p3 pv : Str} (h0 : ∀ a b c, B [a, b, c] = (newTuple [] >>= fun t => pure [(p1, a), (p2, b), (p3, c), (pv, t)])) (h1 : ∀ a b c r rs, B (a :: b :: c :: r :: rs) = (newTuple (r :: rs) >>= fun t => pure [(p1, a), (p2, b), (p3, c), (pv, t)])) :
    ∀ us rest : List Value, us.length = [p1, p2, p3].length → B (us ++ rest) = (newTuple rest >>= fun t => pure ([p1, p2, p3].zip us ++ [(pv, t)]))
  | [a, b, c], [], _ => h0 a b c
  | [a, b, c], r :: rs, _ => h1 a b c r rs
theorem gtup_mk {K : PySem.W.Frag} {h : Heap} {mg : Str → Option Value} {x : Str} {a : Addr} {od : Option Addr} {its : Array Value} {n : Nat} {sl : Array (Option Value)} {ys : List Str} (X : K.In h) (G : h.Ns mainGlobals mg) (e : PySem.W.nsIn K mainGlobals x = some (some (.ref a)))
    (l : K.lookup a = some ⟨.type "tuple", od, .seq its n, sl⟩) (hz : its.size ≤ sizeLine) (v : Vals (ys.map V.str) its.toList) : ∃ a, mg x = some (.ref a) ∧ KTup K a (ys.map V.str) :=
  ⟨a, PySem.W.mg_of X G e, _, its, n, l, rfl, rfl, hz, v⟩
theorem prop_mk {K : PySem.W.Frag} {C p g : Addr} {m : Str} {rest : List Value} (h1 : PySem.W.findIn K (.ref C) m = some (some (.ref p))) (h2 : PySem.W.specialIn K (.ref p) "__get__" = some (some (.builtin "property.__get__"))) (h3 : PySem.W.takesIn K (.ref p) = some true) (h4 : PySem.W.recIn K p "property" = some (.ref g :: rest)) : PropOf K C m p g := ⟨h1, h2, h3, rest, h4⟩
theorem cmet_mk {K : PySem.W.Frag} {C p g : Addr} {mc : Value} {m : Str} {rest : List Value} (h1 : PySem.W.findCls K (.ref C) mc m = some (.get (.builtin "classmethod.__get__") (.ref p) .none (.ref C))) (h2 : PySem.W.recIn K p "classmethod" = some (.ref g :: rest)) (h3 : PySem.W.fnIn K g = true) : ClX.CMet K C mc m p g := ⟨h1, ⟨rest, h2⟩, h3⟩
end DL
/-! operators of own classes: two-place ones, in place, one-place, [], in, len, bool, a call, ==; sorted of pairs -/
namespace OwS
open PySem PySem.Spec PyProof.Rows
section
variable {prog : Program} {w : World} {A : Around} {E : Value → Shared → Prop} {s : Shared} {K : PySem.W.Frag} {x C f : Addr} {ox : Obj} {odd : Option Obj}
theorem bool_own {Q : Value → Shared → Prop} (X : K.In s.heap) (I : PySem.W.InstAt s.heap x ox C odd) (hs : PySem.W.findIn K (.ref C) "__bool__" = some (some (.ref f))) (hf : PySem.W.isFn K (.ref f) = true)
    (h : wpAny (model prog w) A.in1.in1 (call (.ref f) [.ref x]) (fun r s₁ => ∃ b, r = Value.bool b ∧ Q r s₁) E s) : wpAny (model prog w) A (call (.type "bool") [.ref x]) Q E s := by
  refine callType_codes (T := "bool") (Bi := Builtin.«object.__init__») (Q₁ := fun r s₁ => ∃ b, r = Value.bool b ∧ Q r s₁) PySem.F.called_bool (PySem.F.typeCall_bool_1 _) PySem.F.entry_object_init ?_ ?_
  · refine codeAny_of_tree ?_
    show wpAny _ A.in1.in1 (do checkBuiltinCall "bool.__new__" ⟨[.type "bool", .ref x], []⟩; again (.builtin "bool.__new__" ⟨[.type "bool", .ref x], []⟩)) _ _ s
    refine wpAny_bind (wpAny_of_eq (PySem.F.newCall_bool_1 _) (wpAny_pure ⟨plainId_quiet (by decide +kernel) _, codeAny_builtin PySem.F.entry_bool_new ?_⟩))
    rw [Around.under_plainId (by decide +kernel) _]
    unfold Builtin.«bool.__new__»
    refine wpAny_bind (wpAny_of_eq (a := true) (by rfl) ?_)
    refine PySem.W.KFB.if_not rfl ?_
    refine wpAny_bind (wpAny_of_eq (a := true) PySem.F.conv_sub_bool ?_)
    refine PySem.W.KFB.if_not rfl ?_
    refine wpAny_bind (wpAny_of_eq (a := [Value.ref x]) (by rfl) ?_)
    refine wpAny_bind ?_
    unfold truthy
    refine wpAny_bind (m := callSpecial? (.ref x) (Str.ofString "__bool__")) (PySem.W.special_fn X I hs (beq_iff_eq.mp hf) (wpAny_mono h (fun r s₁ hr => ?_) fun _ _ y => y))
    obtain ⟨b, rfl, hq⟩ := hr
    exact wpAny_pure (wpAny_pure ⟨b, rfl, hq⟩)
  · rintro obj s₁ ⟨b, rfl, hq⟩
    exact ⟨typeIs_bool' _ _, PySem.F.args_object_init_2 _ _, object_init_meets PySem.F.called_bool.init.lookup PySem.F.called_bool.made (by decide) prog w A.in1 _ s₁ ⟨typeIs_bool' _ _, rfl, hq⟩⟩
end
end OwS
namespace DL
open PySem PySem.Spec PyProof.Rows L2
/-- what an own operator's class says -/
structure OpF (K : PySem.W.Frag) (C gt : Addr) (op : Operator) : Prop where
  hc : PySem.W.selfFirst K C = true
  hs : PySem.W.findIn K (.ref C) (PySem.dunder op.info.2) = some (some (.ref gt))
  hf : PySem.W.isFn K (.ref gt) = true
  hr : PySem.W.findIn K (.ref C) (PySem.dunderR op.info.2) = some none
/-- what the other one's type says of it -/
structure OpT (K : PySem.W.Frag) (C : Addr) (op : Operator) (T : String) : Prop where
  h1 : ∃ fo, PySem.W.findIn K (.type T) (PySem.dunder op.info.2) = some fo
  h2 : ∃ fo, PySem.W.findIn K (.type T) (PySem.dunderR op.info.2) = some fo
  hu : PySem.W.subIn K (.type T) (.ref C) = some false
structure IpF (K : PySem.W.Frag) (C gt : Addr) (op : Operator) : Prop where
  hc : PySem.W.selfFirst K C = true
  hs : PySem.W.findIn K (.ref C) (PySem.dunderI op.info.2) = some (some (.ref gt))
  hf : PySem.W.isFn K (.ref gt) = true
structure SpF (K : PySem.W.Frag) (C gt : Addr) (nm : Str) : Prop where
  hs : PySem.W.findIn K (.ref C) nm = some (some (.ref gt))
  hf : PySem.W.isFn K (.ref gt) = true
  fi : PySem.W.fnIn K gt = true
/-- a value that is no reference: its type's name -/
def immT : D → Option String
  | .int _ => some "int"
  | .bl _ => some "bool"
  | .str _ => some "str"
  | .non => some "NoneType"
  | _ => none
theorem imm_type {K : PySem.W.Frag} {M : Mp} {H : Hp} {v : V} {u : Value} {d : D} {T : String} (r : Rep K M H v d) (ru : RelV v u) (h : immT d = some T) : typeOf u = pure (.type T) := by
  cases r with
  | int i => obtain ⟨t, rfl⟩ := ru; cases h; rfl
  | bl i => cases ru; cases h; rfl
  | str i => obtain ⟨t, rfl⟩ := ru; cases h; rfl
  | non => cases ru; cases h; rfl
  | _ => cases h
section
variable {X : Cx} {CX : CXT} {k : Nat} {C gt : Addr} {op : Operator} {T : String} {sp : Sp} {E : XK} {a b e : Expr} {es : List Expr} {ta tb te tf : TE} {pos : Pos} {nm : Str}
/-- x op y, x an instance of the class at C, y of a built-in type -/
def rOwnB (C : Addr) (T : String) (sp : Sp) (E : XK) : R2 := fun x y H Q => ∃ a dx fs, x = .ref a ∧ H a = some (.ins C dx fs) ∧ (∀ u, RelV y u → typeOf u = pure (.type T)) ∧ sp [x, y] H Q E
theorem op_ownB (o : OpF X.K C gt op) (t : OpT X.K C op T) (F : FnR X.prog X.w X.K X.mg X.base CX k gt sp) (hr : Room k X.A) (hx : Passes CX X E) : OpR X (binaryOp op) (rOwnB C T sp E) := by
  intro pins s σ H x y v u Q I rx ry h
  obtain ⟨a, dx, fs, rfl, ha, ht, q⟩ := h
  cases (show v = Value.ref a from rx)
  obtain ⟨mA, O, _⟩ := ins_get I.hok ha
  obtain ⟨od, J, _⟩ := O.look
  obtain ⟨m, hF⟩ := I.fr
  obtain ⟨fo, h1⟩ := t.h1
  obtain ⟨ro, h2⟩ := t.h2
  refine PySem.W.ksp_binT hF I.ok.mod.kin J (ht u ry) o.hc o.hs o.hf o.hr (.inl rfl) h1 h2 t.hu (wpAny_mono (wpAny_call (run_fnR (us := [.ref a, u]) (vs := [.ref a, y]) F hr hx I (.cons rfl (.cons ry .nil)) q)) (fun w s' z => ?_) fun _ _ x => x)
  obtain ⟨z', H', I', rz, qz⟩ := z
  exact SlX.cmpback rz ⟨z', H', I', rz, qz⟩
/-- x op= y -/
def rOwnI (C : Addr) (sp : Sp) (E : XK) : R2 := fun x y H Q => ∃ a dx fs, x = .ref a ∧ H a = some (.ins C dx fs) ∧ sp [x, y] H Q E
theorem ip_own (o : IpF X.K C gt op) (F : FnR X.prog X.w X.K X.mg X.base CX k gt sp) (hr : Room k X.A) (hx : Passes CX X E) : PIp X op (rOwnI C sp E) := by
  intro pins s σ H x y v u Q I rx ry h
  obtain ⟨a, dx, fs, rfl, ha, q⟩ := h
  cases (show v = Value.ref a from rx)
  obtain ⟨mA, O, _⟩ := ins_get I.hok ha
  obtain ⟨od, J, _⟩ := O.look
  obtain ⟨m, hF⟩ := I.fr
  refine PySem.W.ksp_inplace hF I.ok.mod.kin J o.hc o.hs o.hf (wpAny_mono (wpAny_call (run_fnR (us := [.ref a, u]) (vs := [.ref a, y]) F hr hx I (.cons rfl (.cons ry .nil)) q)) (fun w s' z => ?_) fun _ _ x => x)
  obtain ⟨z', H', I', rz, qz⟩ := z
  exact SlX.cmpback rz ⟨z', H', I', rz, qz⟩
/-- ~x -/
def rOwn1 (C : Addr) (sp : Sp) (E : XK) : V → Hp → VK → Prop := fun x H Q => ∃ a dx fs, x = .ref a ∧ H a = some (.ins C dx fs) ∧ sp [x] H Q E
theorem un_inv (o : SpF X.K C gt "__invert__") (F : FnR X.prog X.w X.K X.mg X.base CX k gt sp) (hr : Room k X.A) (hx : Passes CX X E) : UnR X (unaryOp .Invert) (rOwn1 C sp E) := by
  intro pins s σ H x v Q I rx h
  obtain ⟨a, dx, fs, rfl, ha, q⟩ := h
  cases (show v = Value.ref a from rx)
  obtain ⟨mA, O, _⟩ := ins_get I.hok ha
  obtain ⟨od, J, _⟩ := O.look
  obtain ⟨m, hF⟩ := I.fr
  exact PySem.W.ksp_inv hF I.ok.mod.kin J o.hs o.hf (wpAny_call (run_fnR (us := [.ref a]) (vs := [.ref a]) F hr hx I (.cons rfl .nil) q))
/-- x[y] -/
theorem pe_ixO (o : SpF X.K C gt "__getitem__") (F : FnR X.prog X.w X.K X.mg X.base CX k gt sp) (hr : Room (k + 1) X.A) (hx : Passes CX X E) (ha : PE X a ta) (hb : PE X b tb)
    (hsl : ∀ x i, subscripted b true (.ref x) i = runValue (.builtin "lifetime.subscript" ⟨[.ref x, i], []⟩)) : PE X (.Subscript a b pos) (tOp (rOwnI C sp E) ta tb) := by
  refine ⟨fun pins s σ H Q I h => ?_⟩
  refine Subscript_ (binT ha hb I h fun v u s2 x y H2 I2 rx ry h2 => ?_)
  obtain ⟨a', dx, fs, rfl, ha2, q⟩ := h2
  cases (show v = Value.ref a' from rx)
  obtain ⟨mA, O, _⟩ := ins_get I2.hok ha2
  obtain ⟨od, J, _⟩ := O.look
  obtain ⟨m, hF⟩ := I2.fr
  exact PySem.W.sub_K hF I2.ok.mod.kin J o.hs o.fi o.hf (wpAny_call (SlX.run_at (us := [.ref a', u]) (ws := [.ref a', y]) F hr.in1 I2.env0.in1 hx I2 (.cons rfl (.cons ry .nil)) q)) (hsl _ _)
/-- y in x, y not in x -/
def rOwnIn (C : Addr) (neg : Bool) (sp : Sp) (E : XK) : R2 := fun y x H Q => ∃ a dx fs, x = .ref a ∧ H a = some (.ins C dx fs) ∧ sp [x, y] H (fun z H' => ∃ k, z = .bl k ∧ Q (.bl (if neg then !k else k)) H') E
theorem op_ownIn (o : SpF X.K C gt "__contains__") (F : FnR X.prog X.w X.K X.mg X.base CX k gt sp) (hr : Room k X.A) (hx : Passes CX X E) : OpR X (compareOp .In) (rOwnIn C false sp E) := by
  intro pins s σ H y x u v Q I ry rx h
  obtain ⟨a, dx, fs, rfl, ha, q⟩ := h
  cases (show v = Value.ref a from rx)
  obtain ⟨mA, O, _⟩ := ins_get I.hok ha
  obtain ⟨od, J, _⟩ := O.look
  obtain ⟨m, hF⟩ := I.fr
  refine PySem.W.in_K hF I.ok.mod.kin J o.hs o.hf (wpAny_mono (wpAny_call (run_fnR (us := [.ref a, u]) (vs := [.ref a, y]) F hr hx I (.cons rfl (.cons ry .nil)) q)) (fun w s' z => ?_) fun _ _ x => x)
  obtain ⟨z', H', I', rz, k, rfl, qz⟩ := z
  cases rz
  exact wpAny_truthy_bool ⟨.bl _, H', I', rfl, qz⟩
theorem op_ownNotIn (o : SpF X.K C gt "__contains__") (F : FnR X.prog X.w X.K X.mg X.base CX k gt sp) (hr : Room k X.A) (hx : Passes CX X E) : OpR X (compareOp .NotIn) (rOwnIn C true sp E) := by
  intro pins s σ H y x u v Q I ry rx h
  obtain ⟨a, dx, fs, rfl, ha, q⟩ := h
  cases (show v = Value.ref a from rx)
  obtain ⟨mA, O, _⟩ := ins_get I.hok ha
  obtain ⟨od, J, _⟩ := O.look
  obtain ⟨m, hF⟩ := I.fr
  refine PySem.W.notIn_K hF I.ok.mod.kin J o.hs o.hf (wpAny_mono (wpAny_call (run_fnR (us := [.ref a, u]) (vs := [.ref a, y]) F hr hx I (.cons rfl (.cons ry .nil)) q)) (fun w s' z => ?_) fun _ _ x => x)
  obtain ⟨z', H', I', rz, k, rfl, qz⟩ := z
  cases rz
  exact wpAny_truthy_bool ⟨.bl _, H', I', rfl, qz⟩
/-- len(x) -/
def rOwnLen (C : Addr) (sp : Sp) (E : XK) : List V → Hp → VK → Prop := fun xs H Q => ∃ a dx fs, xs = [V.ref a] ∧ H a = some (.ins C dx fs) ∧ sp [.ref a] H (fun z H' => ∃ i : Int, z = .int i ∧ 0 ≤ i ∧ i < 2 ^ 63 ∧ Q (.int i) H') E
theorem call_ownLen (o : SpF X.K C gt "__len__") (F : FnR X.prog X.w X.K X.mg X.base CX k gt sp) (hr : Room (k + 1) X.A) (hx : Passes CX X E) : CallR X (.builtin "len") (rOwnLen C sp E) := by
  intro pins s σ H xs us Q I r h
  obtain ⟨a, dx, fs, rfl, ha, q⟩ := h
  obtain ⟨u, rfl, ru⟩ := r.one
  cases (show u = Value.ref a from ru)
  obtain ⟨mA, O, _⟩ := ins_get I.hok ha
  obtain ⟨od, J, _⟩ := O.look
  obtain ⟨m, hF⟩ := I.fr
  refine PySem.W.len_K hF I.ok.mod.kin J o.hs o.hf (wpAny_mono (wpAny_call (SlX.run_at (us := [.ref a]) (ws := [.ref a]) F hr.in1 I.env0.in1 hx I (.cons rfl .nil) q)) (fun w s' z => ?_) fun _ _ x => x)
  obtain ⟨z', H', I', rz, i, rfl, h0, h1, qz⟩ := z
  obtain ⟨t, rfl⟩ := rz
  exact ⟨⟨h0, h1⟩, .int i, H', I'.tok _, ⟨_, rfl⟩, qz⟩
/-- bool(x) -/
def rOwnBool (C : Addr) (sp : Sp) (E : XK) : List V → Hp → VK → Prop := fun xs H Q => ∃ a dx fs, xs = [V.ref a] ∧ H a = some (.ins C dx fs) ∧ sp [.ref a] H (fun z H' => ∃ b : Bool, z = .bl b ∧ Q (.bl b) H') E
theorem call_ownBool (o : SpF X.K C gt "__bool__") (F : FnR X.prog X.w X.K X.mg X.base CX k gt sp) (hr : Room (k + 2) X.A) (hx : Passes CX X E) : CallR X (.type "bool") (rOwnBool C sp E) := by
  intro pins s σ H xs us Q I r h
  obtain ⟨a, dx, fs, rfl, ha, q⟩ := h
  obtain ⟨u, rfl, ru⟩ := r.one
  cases (show u = Value.ref a from ru)
  obtain ⟨mA, O, _⟩ := ins_get I.hok ha
  obtain ⟨od, J, _⟩ := O.look
  have hr2 : Room k X.A.in1.in1 := (show Room (k + 1) X.A.in1 from Room.in1 hr).in1
  refine OwS.bool_own I.kIn J o.hs o.hf (wpAny_mono (wpAny_call (SlX.run_at (us := [.ref a]) (ws := [.ref a]) F hr2 I.env0.in1.in1 hx I (.cons rfl .nil) q)) (fun w s' z => ?_) fun _ _ x => x)
  obtain ⟨z', H', I', rz, i, rfl, qz⟩ := z
  cases (show w = Value.bool i from rz)
  exact ⟨i, rfl, .bl i, H', I', rfl, qz⟩
/-- x == y, both of the class at C -/
def rOwnEq (C : Addr) (sp : Sp) (E : XK) : R2 := fun x y H Q => ∃ a dx fs b dy gs, x = .ref a ∧ y = .ref b ∧ H a = some (.ins C dx fs) ∧ H b = some (.ins C dy gs) ∧ sp [x, y] H Q E
theorem op_ownEq (o : SpF X.K C gt "__eq__") (F : FnR X.prog X.w X.K X.mg X.base CX k gt sp) (hr : Room k X.A) (hx : Passes CX X E) : OpR X (compareOp .Eq) (rOwnEq C sp E) := by
  intro pins s σ H x y v u Q I rx ry h
  obtain ⟨a, dx, fs, b, dy, gs, rfl, rfl, ha, hb, q⟩ := h
  cases (show v = Value.ref a from rx)
  cases (show u = Value.ref b from ry)
  obtain ⟨mA, O, _⟩ := ins_get I.hok ha
  obtain ⟨od, J, _⟩ := O.look
  obtain ⟨mB, O', _⟩ := ins_get I.hok hb
  obtain ⟨od', J', _⟩ := O'.look
  obtain ⟨m, hF⟩ := I.fr
  show wpAny _ _ (richCompare .Eq (.ref a) (.ref b)) _ _ _
  refine PySem.W.cmp_K (op := .Eq) (tb := .ref C) hr.units0 hF I.ok.mod.kin J J'.type (by simp [PySem.W.notFirst]) o.hs o.hf ?_
  refine wpAny_mono (wpAny_call (run_fnR (us := [.ref a, .ref b]) (vs := [.ref a, .ref b]) F hr hx I (.cons rfl (.cons rfl .nil)) q)) (fun w s' z => ?_) fun _ _ x => x
  obtain ⟨z', H', I', rz, qz⟩ := z
  exact SlX.cmpback rz ⟨z', H', I', rz, qz⟩
end
end DL
/-! the same by data -/
namespace DL
open PySem PySem.Spec PyProof.Rows L2
def gOwnB (C : Addr) (T : String) (g : Fn) (x y : D) (S : Sto) : R D := match insAt C S x with
  | some _ => if immT y = some T then g [x, y] S else .bad
  | none => .bad
def gOwnI (C : Addr) (g : Fn) (x y : D) (S : Sto) : R D := match insAt C S x with
  | some _ => g [x, y] S
  | none => .bad
def gOwnIn (C : Addr) (neg : Bool) (g : Fn) (y x : D) (S : Sto) : R D := match insAt C S x with
  | some _ => match g [x, y] S with
    | .ok (.bl k) S2 => .ok (.bl (if neg then !k else k)) S2
    | .ok _ _ => .bad
    | .ex e S2 => .ex e S2
    | .bad => .bad
  | none => .bad
def gOwnEq (C : Addr) (g : Fn) (x y : D) (S : Sto) : R D := match insAt C S x, insAt C S y with
  | some _, some _ => g [x, y] S
  | _, _ => .bad
def gOwnLen (C : Addr) (g : Fn) : Gc := fun ds S => match ds with
  | [x] => match insAt C S x with
    | some _ => match g [x] S with
      | .ok (.int i) S2 => if 0 ≤ i ∧ i < 9223372036854775808 then .ok (.int i) S2 else .bad
      | .ok _ _ => .bad
      | .ex e S2 => .ex e S2
      | .bad => .bad
    | none => .bad
  | _ => .bad
def gOwnBool (C : Addr) (g : Fn) : Gc := fun ds S => match ds with
  | [x] => match insAt C S x with
    | some _ => match g [x] S with
      | .ok (.bl i) S2 => .ok (.bl i) S2
      | .ok _ _ => .bad
      | .ex e S2 => .ex e S2
      | .bad => .bad
    | none => .bad
  | _ => .bad
def eOwn1 (C : Addr) (g : Fn) (a : Ee) : Ee := fun ρ S => (a ρ S).bind fun d S1 => match insAt C S1 d with
  | some _ => g [d] S1
  | none => .bad
def isO : D → Bool
  | .obj _ => true
  | _ => false
def eCallO (C : Addr) (g : Fn) (o : Ee) (as : Ea) : Ee := fun ρ S => (o ρ S).bind fun d S1 => if isO d then (as ρ S1).bind fun ds S2 => match insAt C S2 d with
  | some _ => g (d :: ds) S2
  | none => .bad else .bad
/-- isinstance(x, C), C an own class -/
def eIsC (C : Addr) (f : Ee) : Ee := fun ρ S => (f ρ S).bind fun d S1 => match tag S1 d with
  | some _ => .ok (.bl false) S1
  | none => match insAt C S1 d with
    | some _ => .ok (.bl true) S1
    | none => .bad
structure IsC (K : PySem.W.Frag) (C : Addr) : Prop where
  ins : C8.InsC K C
  no : ∀ n, n < 6 → PySem.W.kitOne K (.type (tyN n)) (.ref C) = some false
theorem isc_mk {K : PySem.W.Frag} {C : Addr} (cl : Cls K C) (ha : PySem.W.findIn K (.ref C) "__class__" = some (some (.builtin "object.__class__"))) (hn : PySem.W.specialIn K (.builtin "object.__class__") "__get__" = some (some (.builtin "getset_descriptor.__get__")))
    (htk : PySem.W.takesIn K (.builtin "object.__class__") = some true) (hm : PySem.W.mroIn K C (.type "object") = some true) (me : PySem.W.kitOne K (.ref C) (.ref C) = some true) (n0 : PySem.W.kitOne K (.type "NoneType") (.ref C) = some false) (n1 : PySem.W.kitOne K (.type "bool") (.ref C) = some false)
    (n2 : PySem.W.kitOne K (.type "int") (.ref C) = some false) (n3 : PySem.W.kitOne K (.type "str") (.ref C) = some false) (n4 : PySem.W.kitOne K (.type "tuple") (.ref C) = some false) (n5 : PySem.W.kitOne K (.type "list") (.ref C) = some false) : IsC K C :=
  ⟨⟨cl, ha, hn, htk, hm, me⟩, fun n h => by
    match n, h with
    | 0, _ => exact n0
    | 1, _ => exact n1
    | 2, _ => exact n2
    | 3, _ => exact n3
    | 4, _ => exact n4
    | 5, _ => exact n5
    | n + 6, h => omega⟩
theorem gint_mk {K : PySem.W.Frag} {h : Heap} {mg : Str → Option Value} {x : Str} {i : Int} {t : Tok} (X : K.In h) (G : h.Ns mainGlobals mg) (e : PySem.W.nsIn K mainGlobals x = some (some (.int i t))) : ∃ t, mg x = some (.int i t) := ⟨t, PySem.W.mg_of X G e⟩
/-- a promise whatever the addresses of two classes -/
def spAll2 (K : PySem.W.Frag) (n : Nat) (g : Addr → Addr → Fn) : Sp := fun vs H Q E => ∀ c d, spD K n (g c d) vs H Q E
theorem law_spAll2 {K : PySem.W.Frag} {g : Addr → Addr → Fn} {n : Nat} (hg : ∀ (c d : Addr) (ns : List Int), ns.length ≤ n → ∃ S, g c d [.frz (ns.map D.int)] [] = .ok (.bl true) S) (H : Hp) (a : Addr) (ns : List Int) (hl : ns.length ≤ n) (hs : SqL K H a (ns.map V.int)) :
    spAll2 K 1 g [.ref a] H (fun v _ => v = .bl true) fun _ _ _ => False := fun c d => law_spAll (g := fun c => g c d) (fun c ns h => hg c d ns h) H a ns hl hs c
section
variable (P : Program) (w : World) (K : PySem.W.Frag) (mg : Str → Option Value) (base : Heap) (C : Addr)
structure DOp (op : Operator) (T : String) (k : Nat) (g : Fn) : Prop where
  ex : ∃ gt, OpF K C gt op ∧ OpT K C op T ∧ FnR P w K mg base (L2.CX P w) k gt (spR K g)
structure DIp (op : Operator) (k : Nat) (g : Fn) : Prop where
  ex : ∃ gt, IpF K C gt op ∧ FnR P w K mg base (L2.CX P w) k gt (spR K g)
structure DSp (nm : Str) (k : Nat) (g : Fn) : Prop where
  ex : ∃ gt, SpF K C gt nm ∧ FnR P w K mg base (L2.CX P w) k gt (spR K g)
end
section
variable {X : Cx} {W1 : XK} {e a b o : Expr} {es : List Expr} {fa fb fo f : Ee} {as : Ea} {C : Addr} {x : Str} {p pos : Pos} {g : Fn} {k : Nat} {op : Operator} {T : String}
abbrev Wk (W1 : XK) : WX := fun c d _ H => W1 c d H
def OpDW (K : PySem.W.Frag) (W1 : XK) (r : R2) (g : D → D → Sto → R D) : Prop := ∀ (σ : L2.St) (M : Mp) (H : Hp) (S : Sto) (x y : V) (d1 d2 : D) (Q : VK), HS K M S H → Rep K M H x d1 → Rep K M H y d2 → wpG (Rep K) K (Wk W1) σ M H (g d1 d2 S) Q → r x y H Q
theorem tD_opW {K : PySem.W.Frag} {r : R2} {g : D → D → Sto → R D} (hg : OpDW K W1 r g) : ∀ σ H Q, tD K (Wk W1) (eBin g fa fb) σ H Q → tOp r (tD K (Wk W1) fa) (tD K (Wk W1) fb) σ H Q :=
  fun σ H Q ⟨M, ρ, S, hr, hs, w⟩ => ⟨M, ρ, S, hr, hs, wpG.bind w fun M1 x H1 d1 S1 e1 r1 hs1 w1 =>
    ⟨M1, ρ, S1, hr.mono e1, hs1, wpG.bind w1 fun M2 y H2 d2 S2 e2 r2 hs2 w2 => hg σ M2 H2 S2 x y d1 d2 Q hs2 (r1.mono e2) r2 w2⟩⟩
theorem od_ownB {K : PySem.W.Frag} : OpDW K W1 (rOwnB C T (spR K g) W1) (gOwnB C T g) := by
  intro σ M H S x y d1 d2 Q hs r1 r2 w
  unfold gOwnB at w
  split at w
  · rename_i fs hf
    split at w
    · rename_i hi
      obtain ⟨n, a, dx, vs, rfl, ha, hS, rfl, hH, rf⟩ := insAt_rep hs r1 hf
      exact ⟨a, dx, vs, rfl, hH, fun u ru => imm_type r2 ru hi, M, _, S, .cons r1 (.cons r2 .nil), hs, w⟩
    · exact w.elim
  · exact w.elim
theorem od_ownI {K : PySem.W.Frag} : OpDW K W1 (rOwnI C (spR K g) W1) (gOwnI C g) := by
  intro σ M H S x y d1 d2 Q hs r1 r2 w
  unfold gOwnI at w
  split at w
  · rename_i fs hf
    obtain ⟨n, a, dx, vs, rfl, ha, hS, rfl, hH, rf⟩ := insAt_rep hs r1 hf
    exact ⟨a, dx, vs, rfl, hH, M, _, S, .cons r1 (.cons r2 .nil), hs, w⟩
  · exact w.elim
theorem od_ownEq {K : PySem.W.Frag} : OpDW K W1 (rOwnEq C (spR K g) W1) (gOwnEq C g) := by
  intro σ M H S x y d1 d2 Q hs r1 r2 w
  unfold gOwnEq at w
  split at w
  · rename_i fs gs hf hg
    obtain ⟨n, a, dx, vs, rfl, ha, hS, rfl, hH, rf⟩ := insAt_rep hs r1 hf
    obtain ⟨n2, a2, dx2, vs2, rfl, ha2, hS2, rfl, hH2, rf2⟩ := insAt_rep hs r2 hg
    exact ⟨a, dx, vs, a2, dx2, vs2, rfl, rfl, hH, hH2, M, _, S, .cons r1 (.cons r2 .nil), hs, w⟩
  · exact w.elim
theorem od_ownIn {K : PySem.W.Frag} {neg : Bool} : OpDW K W1 (rOwnIn C neg (spR K g) W1) (gOwnIn C neg g) := by
  intro σ M H S y x d2 d1 Q hs r2 r1 w
  unfold gOwnIn at w
  split at w
  · rename_i fs hf
    obtain ⟨n, a, dx, vs, rfl, ha, hS, rfl, hH, rf⟩ := insAt_rep hs r1 hf
    refine ⟨a, dx, vs, rfl, hH, M, _, S, .cons r1 (.cons r2 .nil), hs, ?_⟩
    revert w
    cases g [D.obj n, d2] S with
    | bad => exact fun w => w.elim
    | ex ee S2 => exact fun w => w
    | ok d S2 =>
      cases d with
      | bl z =>
        intro w M' v H' e5 r5 hs5
        cases r5
        exact ⟨z, rfl, w M' _ H' e5 (.bl _) hs5⟩
      | _ => exact fun w => w.elim
  · exact w.elim
theorem de_opO (F : DOp X.prog X.w X.K X.mg X.base C op T k g) (hr : Room k X.A) (tk : Takes X (Wk W1)) (ha : DE X (Wk W1) a fa) (hb : DE X (Wk W1) b fb) : DE X (Wk W1) (.BinOp a op b pos) (eBin (gOwnB C T g) fa fb) := by
  obtain ⟨gt, o, t, F⟩ := F.ex
  exact peI (pe_op (op_ownB o t F hr (passes_call tk fun _ _ _ _ h => h)) ha hb) (tD_opW od_ownB)
theorem de_inv (F : DSp X.prog X.w X.K X.mg X.base C "__invert__" k g) (hr : Room k X.A) (tk : Takes X (Wk W1)) (ha : DE X (Wk W1) a fa) : DE X (Wk W1) (.UnaryOp .Invert a pos) (eOwn1 C g fa) := by
  obtain ⟨gt, o, F⟩ := F.ex
  refine peI (pe_un (un_inv o F hr (passes_call tk fun _ _ _ _ h => h)) ha) fun σ H Q ⟨M, ρ, S, hr, hs, w⟩ => ⟨M, ρ, S, hr, hs, wpG.bind w fun M1 v H1 d S1 e1 r1 hs1 w1 => ?_⟩
  split at w1
  · rename_i fs hf
    obtain ⟨n, a, dx, vs, rfl, ha, hS, rfl, hH, rf⟩ := insAt_rep hs1 r1 hf
    exact ⟨a, dx, vs, rfl, hH, M1, _, S1, .cons r1 .nil, hs1, w1⟩
  · exact w1.elim
theorem de_ixO (F : DSp X.prog X.w X.K X.mg X.base C "__getitem__" k g) (hr : Room (k + 1) X.A) (tk : Takes X (Wk W1)) (ha : DE X (Wk W1) a fa) (hb : DE X (Wk W1) b fb)
    (hsl : ∀ x i, subscripted b true (.ref x) i = runValue (.builtin "lifetime.subscript" ⟨[.ref x, i], []⟩) := by exact fun _ _ => by with_unfolding_all rfl) : DE X (Wk W1) (.Subscript a b pos) (eBin (gOwnI C g) fa fb) := by
  obtain ⟨gt, o, F⟩ := F.ex
  exact peI (pe_ixO o F hr (passes_call tk fun _ _ _ _ h => h) ha hb hsl) (tD_opW od_ownI)
theorem de_inO (F : DSp X.prog X.w X.K X.mg X.base C "__contains__" k g) (hr : Room k X.A) (tk : Takes X (Wk W1)) (ha : DE X (Wk W1) a fa) (hb : DE X (Wk W1) b fb) (hm : behindInMarks .In b = false := by with_unfolding_all rfl) : DE X (Wk W1) (.Compare a [.In] [b] pos) (eBin (gOwnIn C false g) fa fb) := by
  obtain ⟨gt, o, F⟩ := F.ex
  exact peI (pe_cmpR (op_ownIn o F hr (passes_call tk fun _ _ _ _ h => h)) ha hb hm) (tD_opW od_ownIn)
theorem de_notInO (F : DSp X.prog X.w X.K X.mg X.base C "__contains__" k g) (hr : Room k X.A) (tk : Takes X (Wk W1)) (ha : DE X (Wk W1) a fa) (hb : DE X (Wk W1) b fb) (hm : behindInMarks .NotIn b = false := by with_unfolding_all rfl) : DE X (Wk W1) (.Compare a [.NotIn] [b] pos) (eBin (gOwnIn C true g) fa fb) := by
  obtain ⟨gt, o, F⟩ := F.ex
  exact peI (pe_cmpR (op_ownNotIn o F hr (passes_call tk fun _ _ _ _ h => h)) ha hb hm) (tD_opW od_ownIn)
theorem de_eqO (F : DSp X.prog X.w X.K X.mg X.base C "__eq__" k g) (hr : Room k X.A) (tk : Takes X (Wk W1)) (ha : DE X (Wk W1) a fa) (hb : DE X (Wk W1) b fb) (hm : behindInMarks .Eq b = false := by rfl) : DE X (Wk W1) (.Compare a [.Eq] [b] pos) (eBin (gOwnEq C g) fa fb) := by
  obtain ⟨gt, o, F⟩ := F.ex
  exact peI (pe_cmpR (op_ownEq o F hr (passes_call tk fun _ _ _ _ h => h)) ha hb hm) (tD_opW od_ownEq)
theorem dt_ofW {r : R2} {g : D → D → Sto → R D} {cop : CmpOp} (ho : OpR X (compareOp cop) r) (hg : OpDW X.K W1 r g) (ha : DE X (Wk W1) a fa) (hb : DE X (Wk W1) b fb) (hm : behindInMarks cop b = false) : DT X (Wk W1) (.Compare a [cop] [b] pos) (eTb (eBin g fa fb)) :=
  ptI (pt_cmpR ho ha hb hm) fun σ H Q h => by
    obtain ⟨M, ρ, S, hr, hs, w⟩ := tD_test σ H Q h
    exact tD_opW hg σ H _ ⟨M, ρ, S, hr, hs, w⟩
theorem dt_inO (F : DSp X.prog X.w X.K X.mg X.base C "__contains__" k g) (hr : Room k X.A) (tk : Takes X (Wk W1)) (ha : DE X (Wk W1) a fa) (hb : DE X (Wk W1) b fb) (hm : behindInMarks .In b = false := by with_unfolding_all rfl) : DT X (Wk W1) (.Compare a [.In] [b] pos) (eTb (eBin (gOwnIn C false g) fa fb)) := by
  obtain ⟨gt, o, F⟩ := F.ex
  exact dt_ofW (op_ownIn o F hr (passes_call tk fun _ _ _ _ h => h)) od_ownIn ha hb hm
theorem dt_eqO (F : DSp X.prog X.w X.K X.mg X.base C "__eq__" k g) (hr : Room k X.A) (tk : Takes X (Wk W1)) (ha : DE X (Wk W1) a fa) (hb : DE X (Wk W1) b fb) (hm : behindInMarks .Eq b = false := by rfl) : DT X (Wk W1) (.Compare a [.Eq] [b] pos) (eTb (eBin (gOwnEq C g) fa fb)) := by
  obtain ⟨gt, o, F⟩ := F.ex
  exact dt_ofW (op_ownEq o F hr (passes_call tk fun _ _ _ _ h => h)) od_ownEq ha hb hm
def CallDW (K : PySem.W.Frag) (W1 : XK) (r : List V → Hp → VK → Prop) (g : Gc) : Prop := ∀ (σ : L2.St) (M : Mp) (H : Hp) (S : Sto) (xs : List V) (ds : List D) (Q : VK), HS K M S H → Reps K M H xs ds → wpG (Rep K) K (Wk W1) σ M H (g ds S) Q → r xs H Q
theorem tD_callW {K : PySem.W.Frag} {r : List V → Hp → VK → Prop} {g : Gc} {fs : List Ee} (hg : CallDW K W1 r g) : ∀ σ H Q, tD K (Wk W1) (eCall g fs) σ H Q → tCB r (tDA K (Wk W1) (eArgs fs)) σ H Q := fun σ H Q ⟨M, ρ, S, hr, hs, w⟩ =>
  ⟨M, ρ, S, hr, hs, wpG.bind w fun M1 xs H1 ds S1 e1 r1 hs1 w1 => hg σ M1 H1 S1 xs ds Q hs1 r1 w1⟩
theorem cd_ownLen {K : PySem.W.Frag} : CallDW K W1 (rOwnLen C (spR K g) W1) (gOwnLen C g) := by
  intro σ M H S xs ds Q hs r w
  unfold gOwnLen at w
  split at w
  · rename_i d
    obtain ⟨v, rfl, r1⟩ := reps1 r
    split at w
    · rename_i fs hf
      obtain ⟨n, a, dx, vs, rfl, ha, hS, rfl, hH, rf⟩ := insAt_rep hs r1 hf
      refine ⟨a, dx, vs, rfl, hH, M, _, S, .cons r1 .nil, hs, ?_⟩
      revert w
      cases g [D.obj n] S with
      | bad => exact fun w => w.elim
      | ex ee S2 => exact fun w => w
      | ok d S2 =>
        cases d with
        | int z =>
          intro w M' v H' e5 r5 hs5
          cases r5
          dsimp only at w
          split at w
          · rename_i hz
            exact ⟨z, rfl, hz.1, by omega, w M' _ H' e5 (.int _) hs5⟩
          · exact w.elim
        | _ => exact fun w => w.elim
    · exact w.elim
  · exact w.elim
theorem cd_ownBool {K : PySem.W.Frag} : CallDW K W1 (rOwnBool C (spR K g) W1) (gOwnBool C g) := by
  intro σ M H S xs ds Q hs r w
  unfold gOwnBool at w
  split at w
  · rename_i d
    obtain ⟨v, rfl, r1⟩ := reps1 r
    split at w
    · rename_i fs hf
      obtain ⟨n, a, dx, vs, rfl, ha, hS, rfl, hH, rf⟩ := insAt_rep hs r1 hf
      refine ⟨a, dx, vs, rfl, hH, M, _, S, .cons r1 .nil, hs, ?_⟩
      revert w
      cases g [D.obj n] S with
      | bad => exact fun w => w.elim
      | ex ee S2 => exact fun w => w
      | ok d S2 =>
        cases d with
        | bl z =>
          intro w M' v H' e5 r5 hs5
          cases r5
          exact ⟨z, rfl, w M' _ H' e5 (.bl _) hs5⟩
        | _ => exact fun w => w.elim
    · exact w.elim
  · exact w.elim
theorem de_lenO (F : DSp X.prog X.w X.K X.mg X.base C "__len__" k g) (hr : Room (k + 1) X.A) (tk : Takes X (Wk W1)) (hm : X.mg "len" = none) (ha : DE X (Wk W1) e f) (hg : Gl X "len" := by rfl)
    (he : starEach [e] X.env = (false, eval e X.env) :: starEach [] X.env := by rfl) (hpl : (backTo pos (starEach [] X.env)).any (·.1) = false := by rfl) : DE X (Wk W1) (.Call (.Name "len" p) [e] [] pos) (eCall (gOwnLen C g) [f]) := by
  obtain ⟨gt, o, F⟩ := F.ex
  exact peI (pe_callB (call_ownLen o F hr (passes_call tk fun _ _ _ _ h => h)) hg hm b_len (da_cons ha da_nil he) (by decide) (by decide) he hpl) (tD_callW cd_ownLen)
theorem de_boolO (F : DSp X.prog X.w X.K X.mg X.base C "__bool__" k g) (hr : Room (k + 2) X.A) (tk : Takes X (Wk W1)) (hm : X.mg "bool" = none) (ha : DE X (Wk W1) e f) (hg : Gl X "bool" := by rfl)
    (he : starEach [e] X.env = (false, eval e X.env) :: starEach [] X.env := by rfl) (hpl : (backTo pos (starEach [] X.env)).any (·.1) = false := by rfl) : DE X (Wk W1) (.Call (.Name "bool" p) [e] [] pos) (eCall (gOwnBool C g) [f]) := by
  obtain ⟨gt, o, F⟩ := F.ex
  exact peI (pe_callTy (call_ownBool o F hr (passes_call tk fun _ _ _ _ h => h)) hg hm b_bool (da_cons ha da_nil he) (by decide) (by decide) he hpl) (tD_callW cd_ownBool)
theorem de_callO (F : DSp X.prog X.w X.K X.mg X.base C "__call__" k g) (hr : Room k X.A) (tk : Takes X (Wk W1)) (ho : DE X (Wk W1) o fo) (ha : DA X (Wk W1) (e :: es) as)
    (ht : eval (.Call o (e :: es) [] pos) X.env = (do callWith pos (← eval o X.env) [] (backTo pos (starEach (e :: es) X.env)) (backToKw pos (keywordEach [] X.env))) := by rfl)
    (he : starEach (e :: es) X.env = (false, eval e X.env) :: starEach es X.env := by rfl) (hpl : (backTo pos (starEach es X.env)).any (·.1) = false := by rfl) : DE X (Wk W1) (.Call o (e :: es) [] pos) (eCallO C g fo as) := by
  obtain ⟨gt, ⟨h1, h2, h3⟩, F⟩ := F.ex
  refine peI (StX.pe_callO ho ⟨h1, h2, h3⟩ F hr (passes_call tk fun _ _ _ _ h => h) ha ht he hpl) fun σ H Q ⟨M, ρ, S, hr, hs, w⟩ => ⟨M, ρ, S, hr, hs, wpG.bind w fun M1 v H1 d S1 e1 r1 hs1 w1 => ?_⟩
  cases r1 with
  | @obj n a hn =>
    simp only [isO, if_true] at w1
    refine ⟨a, rfl, M1, ρ, S1, hr.mono e1, hs1, wpG.bind w1 fun M2 vs H2 ds S2 e2 r2 hs2 w2 => ?_⟩
    split at w2
    · rename_i fs hf
      obtain ⟨n2, a2, dx, us, hn2, ha2, hS, ha3, hH, rf⟩ := insAt_rep hs2 (.obj (e2.get hn)) hf
      cases ha3
      exact ⟨.inr ⟨dx, us, hH⟩, M2, _, S2, .cons (.obj (e2.get hn)) r2, hs2, w2⟩
    · exact w2.elim
  | _ => simp only [isO] at w1; exact w1.elim
theorem ds_augO {i : Nat} {pos' : Pos} (hN : X.N.Nodup) (F : DIp X.prog X.w X.K X.mg X.base C op k g) (hr : Room k X.A) (tk : Takes X (Wk W1)) (he : DE X (Wk W1) e f) (hi : X.N[i]? = some x := by rfl) (hx : Loc X.env.scope x := by first | exact Or.inl rfl | exact Or.inr rfl) (hf : X.fn x = true ∨ X.env.scope.names.lookup x = some .local := by first | exact .inl rfl | exact .inr rfl | assumption) :
    DS X (Wk W1) (.AugAssign (.Name x pos') op e pos) (sAug i (gOwnI C g) f) := by
  obtain ⟨gt, o, FF⟩ := F.ex
  refine psI (ps_aug hN hi hx he (ip_own o FF hr (passes_call tk fun _ _ _ _ h => h)) hf) fun Dd σ H ⟨M, ρ, S, hr, hs, w⟩ => ?_
  unfold sAug at w
  cases hv : eVar i ρ S with
  | bad => rw [hv] at w; exact w.elim
  | ex x S1 => unfold eVar at hv; split at hv <;> cases hv
  | ok d S1 =>
    rw [hv] at w
    simp only [DL.F.ofR_ok] at w
    unfold eVar at hv
    split at hv
    · rename_i d' hd
      cases hv
      obtain ⟨v, h1, r1⟩ := hr.at i d hd
      refine ⟨v, h1, M, ρ, S, hr, hs, wpS.ofR hr w fun M1 y H1 d1 S1 e1 r2 hs1 w1 => ?_⟩
      refine od_ownI σ M1 H1 S1 v y d d1 _ hs1 (r1.mono e1) r2 (wpS.ofR (hr.mono e1) w1 fun M2 z H2 d2 S2 e2 r3 hs2 w2 => ?_)
      exact w2 M2 _ H2 (Ext.refl hs2) (((hr.mono e1).mono e2).set r3) hs2
    · cases hv
theorem de_isC {W : WX} {px : Pos} (c : IsC X.K C) (hm : X.mg "isinstance" = none) (hmx : X.mg x = some (.ref C)) (h : DE X W e f) (hg : Gl X "isinstance" := by rfl) (hgx : Gl X x := by rfl) (hd : (x == ("__debug__" : Str)) = false := by decide)
    (he : starEach (e :: [.Name x px]) X.env = (false, eval e X.env) :: starEach [.Name x px] X.env := by rfl) (hpl : (backTo pos (starEach [.Name x px] X.env)).any (·.1) = false := by rfl) :
    DE X W (.Call (.Name "isinstance" p) [e, .Name x px] [] pos) (eIsC C f) :=
  peI (pe_callB call_isi hg hm b_isinstance (pa_cons h (pa_cons (pe_glob (v := .ref C) hgx hmx rfl hd) pa_nil) he) (by decide) (by decide) he hpl) fun σ H Q ⟨M, ρ, S, hr, hs, w⟩ => ⟨M, ρ, S, hr, hs, wpG.bind w fun M1 v H1 d S1 e1 r1 hs1 w1 => by
    split at w1
    · rename_i n hn
      exact ⟨v, .ref C, _, _, false, rfl, .own C, tag_ty hs1 r1 hn, c.no n (tag_lt hn), wp_val hs1 (.bl _) w1⟩
    · split at w1
      · rename_i fs hf
        obtain ⟨n, a, dx, vs, rfl, ha, hS, rfl, hH, rf⟩ := insAt_rep hs1 r1 hf
        exact ⟨.ref a, .ref C, _, _, true, rfl, .own C, .base (.ins hH c.ins.cl c.ins.ha c.ins.hn c.ins.htk c.ins.hm), c.ins.me, wp_val hs1 (.bl _) w1⟩
      · exact w1.elim⟩
end
/-! ### sorted(pairs of ints) -/
def prsOf : List D → Option (List (Int × Int))
  | [] => some []
  | .tup [.int a, .int b] :: r => match prsOf r with
    | some l => some ((a, b) :: l)
    | none => none
  | _ :: _ => none
def insP (p : Int × Int) : List (Int × Int) → List (Int × Int)
  | [] => [p]
  | q :: r => if SrtO.lexB q p then q :: insP p r else p :: q :: r
def srtP : List (Int × Int) → List (Int × Int)
  | [] => []
  | p :: r => insP p (srtP r)
def prD (p : Int × Int) : D := .tup [.int p.1, .int p.2]
def gSorted : Gc := fun ds S => match ds with
  | [d] => match view S d with
    | .lst xs => match prsOf xs with
      | some l => .ok (.lst ((srtP l).map prD)) S
      | none => .bad
    | _ => .bad
  | _ => .bad
theorem prsOf_map : ∀ l : List (Int × Int), prsOf (l.map prD) = some l
  | [] => rfl
  | p :: r => by simp only [List.map_cons, prD, prsOf, prsOf_map r]
theorem prsOf_eq : ∀ {xs : List D} {l : List (Int × Int)}, prsOf xs = some l → xs = l.map prD
  | [], l, h => by simp only [prsOf] at h; cases h; rfl
  | x :: r, l, h => by
    unfold prsOf at h
    split at h
    · rename_i q; cases q
    · rename_i a b r' q
      cases q
      split at h
      · rename_i l' hl
        cases h
        rw [prsOf_eq hl]
        rfl
      · cases h
    · cases h
theorem insP_perm (p : Int × Int) : ∀ l, (insP p l).Perm (p :: l)
  | [] => .refl _
  | q :: r => by
    unfold insP
    split
    · exact ((insP_perm p r).cons q).trans (.swap p q r)
    · exact .refl _
theorem srtP_perm : ∀ l, (srtP l).Perm l
  | [] => .refl _
  | p :: r => (insP_perm p (srtP r)).trans ((srtP_perm r).cons p)
abbrev SrP (l : List (Int × Int)) : Prop := l.Pairwise fun x y => SrtO.lexB y x = false
theorem insP_srt (p : Int × Int) : ∀ l, SrP l → SrP (insP p l)
  | [], _ => by simp [insP]
  | q :: r, h => by
    unfold insP
    have h1 := List.pairwise_cons.mp h
    split
    · rename_i c
      refine List.pairwise_cons.mpr ⟨fun x hx => ?_, insP_srt p r h1.2⟩
      rcases List.mem_cons.mp ((insP_perm p r).mem_iff.mp hx) with e | e
      · subst e
        have := SrtO.lexB_iff.mp c
        refine SrtO.lexB_no.mpr ?_
        omega
      · exact h1.1 x e
    · rename_i c
      have c' : SrtO.lexB q p = false := by simpa using c
      refine List.pairwise_cons.mpr ⟨fun x hx => ?_, h⟩
      rcases List.mem_cons.mp hx with e | e
      · subst e; exact c'
      · have a := SrtO.lexB_no.mp (h1.1 x e)
        have b := SrtO.lexB_no.mp c'
        refine SrtO.lexB_no.mpr ?_
        omega
theorem srtP_srt : ∀ l, SrP (srtP l)
  | [] => by simp [srtP]
  | p :: r => insP_srt p _ (srtP_srt r)
theorem srP_uniq : ∀ {l m : List (Int × Int)}, SrP l → SrP m → l.Perm m → l = m
  | [], m, _, _, h => (List.Perm.eq_nil h.symm).symm
  | x :: l, [], _, _, h => absurd h.length_eq (by simp)
  | x :: l, y :: m, hl, hm, h => by
    have a := List.pairwise_cons.mp hl
    have b := List.pairwise_cons.mp hm
    have h1 : SrtO.lexB x y = false := by
      rcases List.mem_cons.mp (h.mem_iff.mp List.mem_cons_self) with e | hx
      · rw [e]; exact SrtO.lexB_no.mpr (by omega)
      · exact b.1 x hx
    have h2 : SrtO.lexB y x = false := by
      rcases List.mem_cons.mp (h.mem_iff.mpr List.mem_cons_self) with e | hx
      · rw [e]; exact SrtO.lexB_no.mpr (by omega)
      · exact a.1 y hx
    have c1 := SrtO.lexB_no.mp h1
    have c2 := SrtO.lexB_no.mp h2
    have e : x = y := by
      apply Prod.ext <;> omega
    subst e
    rw [srP_uniq a.2 b.2 h.cons_inv]
/-- the list's items are pairs -/
inductive PrV (K : PySem.W.Frag) (H : Hp) : List V → List (Int × Int) → Prop
  | nil : PrV K H [] []
  | cons {t : Addr} {xs : List V} {p : Int × Int} {l : List (Int × Int)} (h : SqT K H t [.int p.1, .int p.2]) (r : PrV K H xs l) : PrV K H (.ref t :: xs) (p :: l)
theorem PrV.mem {K : PySem.W.Frag} {H : Hp} : ∀ {xs : List V} {l : List (Int × Int)}, PrV K H xs l → ∀ x ∈ xs, ∃ (t : Addr) (p : Int × Int), x = V.ref t ∧ SqT K H t [.int p.1, .int p.2]
  | _, _, .nil, x, h => by cases h
  | _, _, .cons h r, x, hx => by
    rcases List.mem_cons.mp hx with e | e
    · exact ⟨_, _, e, h⟩
    · exact r.mem x e
theorem PrV.keys {K : PySem.W.Frag} {H : Hp} {k : V → Int × Int} (hk : ∀ t p, SqT K H t [.int p.1, .int p.2] → k (.ref t) = p) : ∀ {xs : List V} {l : List (Int × Int)}, PrV K H xs l → xs.map k = l
  | _, _, .nil => rfl
  | _, _, .cons h r => by rw [List.map_cons, hk _ _ h, r.keys hk]
theorem zip_self (k : V → Int × Int) : ∀ xs : List V, xs.zip (xs.map k) = xs.map fun x => (x, k x)
  | [] => rfl
  | x :: xs => by simp [zip_self k xs]
def rSorted2 (K : PySem.W.Frag) : List V → Hp → VK → Prop := fun vs H Q => ∃ (a : Addr) (xs : List V) (l : List (Int × Int)), vs = [V.ref a] ∧ SqL K H a xs ∧ PrV K H xs l ∧
  ∀ (zs : List (V × (Int × Int))) p, zs.Perm (xs.zip l) → zs.map Prod.snd = srtP l → H p = none → Q (.ref p) (upd H p (.lst (zs.map Prod.fst)))
section
variable {X : Cx} {W : WX}
open Classical in
theorem cr_sorted2 : CallR X (.builtin "sorted") (rSorted2 X.K) := by
  intro pins s σ H vs us Q I r h
  obtain ⟨a, xs, l, rfl, hs, hx, q⟩ := h
  obtain ⟨its, rv, hl, hz⟩ := I.list hs
  obtain ⟨u, rfl, ru⟩ := r.one
  obtain rfl : u = Value.ref a := ru
  have uni : ∀ t (p p' : Int × Int), SqT X.K H t [.int p.1, .int p.2] → SqT X.K H t [.int p'.1, .int p'.2] → p = p' := by
    intro t p p' h1 h2
    obtain ⟨i1, r1, ⟨o, ho, _, n, hd⟩, _⟩ := I.tuple h1
    obtain ⟨i2, r2, ⟨o', ho', _, n', hd'⟩, _⟩ := I.tuple h2
    rw [ho] at ho'
    cases ho'
    rw [hd] at hd'
    obtain ⟨u1, u2, rfl, a1, a2⟩ := vals2 r1
    obtain ⟨w1, w2, rfl, b1, b2⟩ := vals2 r2
    obtain ⟨t1, rfl⟩ := a1
    obtain ⟨t2, rfl⟩ := a2
    obtain ⟨t3, rfl⟩ := b1
    obtain ⟨t4, rfl⟩ := b2
    simp at hd'
    exact Prod.ext hd'.1.1.1 hd'.1.2.1
  let k : V → Int × Int := fun v => match v with
    | .ref t => if hh : ∃ p : Int × Int, SqT X.K H t [.int p.1, .int p.2] then hh.choose else (0, 0)
    | _ => (0, 0)
  have hk : ∀ t p, SqT X.K H t [.int p.1, .int p.2] → k (.ref t) = p := by
    intro t p hp
    have hh : ∃ p : Int × Int, SqT X.K H t [.int p.1, .int p.2] := ⟨p, hp⟩
    show (if hh : ∃ p : Int × Int, SqT X.K H t [.int p.1, .int p.2] then hh.choose else (0, 0)) = p
    rw [dif_pos hh]
    exact uni t _ _ hh.choose_spec hp
  obtain ⟨e1, e2⟩ := refs_back rv fun x m => by
    obtain ⟨t, p, e, _⟩ := hx.mem x m
    exact ⟨t, e⟩
  refine SrtO.sorted_pairsO (k := fun u => k (backV u)) hl.isList (by rw [← rv.length]; exact hz) (fun v hv => ?_) fun h' d out h1 h2 kp hd hn => ?_
  · obtain ⟨t, rfl⟩ := e2 v hv
    have hm : V.ref t ∈ xs := by rw [e1]; exact List.mem_map.mpr ⟨_, hv, rfl⟩
    obtain ⟨t', p, e, ht⟩ := hx.mem _ hm
    cases e
    have ek : k (backV (.ref t)) = p := hk t p ht
    obtain ⟨i1, r1, ⟨o, ho, hc, n, hdd⟩, _⟩ := I.tuple ht
    obtain ⟨u1, u2, rfl, ri, rj⟩ := vals2 r1
    obtain ⟨t1, rfl⟩ := ri
    obtain ⟨t2, rfl⟩ := rj
    simp only [ek]
    exact ⟨t, o, t1, t2, n, rfl, ho, hc, hdd⟩
  · have h3 : ∀ u ∈ out, ∃ a, u = Value.ref a := fun u hu => e2 u (h2.perm.mem_iff.mp hu)
    obtain ⟨n, hn⟩ := hn
    have hperm : (out.map backV).Perm xs := by rw [e1]; exact h2.perm.map backV
    have hmem : ∀ y ∈ out.map backV, y ∈ xs := fun y hy => hperm.mem_iff.mp hy
    have hsr : SrP ((out.map backV).map k) := by
      rw [List.map_map]
      exact SrtO.srtd_map (f := k ∘ backV) (lt := SrtO.lexB) h1
    have hkl := hx.keys hk
    have hl2 : (out.map backV).map k = srtP l := srP_uniq hsr (srtP_srt l) (((hperm.map k).trans (by rw [hkl])).trans (srtP_perm l).symm)
    have hz1 : ((out.map backV).map fun y => (y, k y)).Perm (xs.zip l) := by
      have e3 : xs.zip l = xs.map fun x => (x, k x) := by
        rw [← hkl]
        exact zip_self k xs
      rw [e3]
      exact hperm.map _
    have q2 := q ((out.map backV).map fun y => (y, k y)) d hz1 (by rw [List.map_map]; exact hl2) (I.hok.fresh hd)
    have e4 : (((out.map backV).map fun y => (y, k y)).map Prod.fst) = out.map backV := by rw [List.map_map]; simp [Function.comp_def]
    rw [e4] at q2
    refine ⟨.ref d, upd H d (.lst (out.map backV)), I.laid (t' := s.toks) kp hd ⟨?_, out, n, vals_back h3, hn⟩, rfl, q2⟩
    rw [hperm.length_eq]
    exact hz
theorem Reps.prs {K : PySem.W.Frag} {M : Mp} {H : Hp} : ∀ {vs : List V} {l : List (Int × Int)}, Reps K M H vs (l.map prD) → PrV K H vs l
  | _, [], .nil => .nil
  | _, p :: l, .cons r t => by
    cases r with
    | tup h q =>
      obtain ⟨v, w, rfl, r1, r2⟩ := reps2 q
      cases r1
      cases r2
      exact .cons h.seq (Reps.prs t)
theorem reps_zip {K : PySem.W.Frag} {M : Mp} {H : Hp} : ∀ {vs : List V} {l : List (Int × Int)}, Reps K M H vs (l.map prD) → ∀ z ∈ vs.zip l, Rep K M H z.1 (prD z.2)
  | _, [], .nil, z, h => by simp at h
  | _, p :: l, .cons r t, z, h => by
    rw [List.zip_cons_cons] at h
    rcases List.mem_cons.mp h with e | e
    · subst e; exact r
    · exact reps_zip t z e
theorem zip_reps {K : PySem.W.Frag} {M : Mp} {H : Hp} : ∀ {zs : List (V × (Int × Int))}, (∀ z ∈ zs, Rep K M H z.1 (prD z.2)) → Reps K M H (zs.map Prod.fst) ((zs.map Prod.snd).map prD)
  | [], _ => .nil
  | z :: zs, h => .cons (h z List.mem_cons_self) (zip_reps fun y hy => h y (List.mem_cons_of_mem _ hy))
theorem cd_sorted {K : PySem.W.Frag} : CallD K (rSorted2 K) gSorted := by
  intro W σ M H S xs ds Q hs r w
  unfold gSorted at w
  split at w
  · obtain ⟨v, rfl, r1⟩ := reps1 r
    split at w
    · rename_i ys e
      obtain ⟨p, vs, rfl, h1, q1⟩ := view_lst hs r1 e
      split at w
      · rename_i l hl
        rw [prsOf_eq hl] at q1
        refine ⟨p, vs, l, rfl, SqL.of h1, q1.prs, fun zs a hp he ha => ?_⟩
        have hr := zip_reps (zs := zs) fun z hz => reps_zip q1 z (hp.mem_iff.mp hz)
        rw [he] at hr
        exact wp_newL hs hr w a ha
      · exact w.elim
    · exact w.elim
  · exact w.elim
theorem b_sorted : bootBuiltins "sorted" = some (.builtin "sorted") := by decide +kernel
end
end DL
/-! for .. in the body of a generator def -/
namespace GenX
open PySem PySem.Spec PyProof.Rows GenW L2
section
variable {M : Model} {A : Around} {R : GenEnd} {Y : Protocol} {n : Nat} {s₀ : Shared} {c : Code} {fs : List Frame} {s : Shared} {α β : Type}
theorem seg_bw {m : Sem α} {f : α → Sem β} {K : β → Sem PySem.Fin} {J : Value → Sem PySem.Fin} {gd : Bool → Bool} {lv : List Value → List Value}
    (h : wpAny M (A.over c fs) m (fun a s' => Seg M A R Y n s₀ c ((f a).wrap K J gd lv) fs s') (fun x s' => Seg M A R Y n s₀ c (J x) fs s') s) : Seg M A R Y n s₀ c ((m >>= f).wrap K J gd lv) fs s := by
  rw [Sem.bind_eq_wrap', Sem.wrap_wrap]
  exact seg_wrap h
end
def tGFor (wi : TI) (g : TG) (tb : TGn) : TGn := fun D ys σ H => wi σ H fun J H1 => ∃ W : Nat → Nat → List V → L2.St → Hp → Prop, (∃ m, W 0 m ys σ H1) ∧ ∀ i m ys σ H, W i m ys σ H →
  (J.stop i H ∧ D.nx ys σ H) ∨ (J.go i H ∧ ∃ N : List V → L2.St → Hp → Prop, (∀ ys' σ' H', N ys' σ' H' → ∃ m', m' < m ∧ W (i + 1) m' ys' σ' H') ∧ ∀ x H', J.yld i H x H' → g x σ H' fun σ2 H2 => tb { D with nx := N, ct := N, bk := D.nx } ys σ2 H2)
section
variable {X : Cx}
theorem gs_for {tg iter : Expr} {body : List Stmt} {pos : Pos} {wi : TI} {g : TG} {tb : TGn} (hp : PassesOwn (model X.prog X.w) X.A X.env X.xe) (hc : X.calm = true) (hi : PI X tg iter wi) (hg : PG X tg g) (hb : GSs X body tb)
    (hs : ∀ x, foldedSetIterable iter X.env x = pure x := by intro _; rfl) : GS X (.For tg iter body [] pos) (tGFor wi g tb) := by
  refine ⟨fun A S ip R n ys s₀ c fs K J gd lv s σ H D gc hn k hI ht => ?_⟩
  obtain ⟨acc, cc, r, I⟩ := hI
  have go := gc.over
  rw [exec_For]
  refine seg_bw ?_
  rw [go]
  refine wpAny_standAt ?_
  refine seg_bw ?_
  rw [go]
  refine wpAny_mono (hi.run _ s σ H _ I ht) (fun v s1 h1 => ?_) fun x s' hx => k.exc n s₀ x s' hx
  refine seg_bw ?_
  rw [go]
  refine wpAny_of_eq (hs v) ?_
  refine seg_bw ?_
  rw [go]
  refine wpAny_standAt ?_
  refine seg_bw ?_
  rw [go]
  refine wpAny_holding (wpAny_mono h1 (fun itv s2 h2 => ?_) fun x s' hx => k.exc n s₀ x s' hx)
  obtain ⟨it, fp, tn, Jt, H2, e, I2, T, st2, f2, W, ⟨m0, w0⟩, turn⟩ := h2
  subst e
  have fS : ∀ b ∈ fp, b ≠ S := fun b hb z => (f2 b hb).2.2.2.2.2 (S, lstObj acc cc) (List.mem_append_right _ List.mem_cons_self) z.symm
  have stat : ∀ {H' : Hp} {a2 : Array Value} {c2 : Nat}, (∀ b ∈ fp, H' b = none) → ∀ b ∈ fp, FpOk X ((S, lstObj a2 c2) :: ip) H' b := fun hn b hb => by
    obtain ⟨_, g1, g2, g3, g4, g5⟩ := f2 b hb
    refine ⟨hn b hb, g1, g2, g3, g4, fun p hp => ?_⟩
    rcases List.mem_append.mp hp with q | q
    · exact g5 p (List.mem_append_left _ q)
    · rcases List.mem_cons.mp q with q | q
      · rw [q]; exact fun z => fS b hb z.symm
      · exact g5 p (List.mem_append_right _ (List.mem_cons_of_mem _ q))
  refine seg_call fun p => ?_
  have gl := fun (kk : Result → Sem PySem.Fin) => gc_loop (k := kk) (c' := .forLoop tg (.ref it) body [] X.env) (l := lv []) (kp := []) (p := p) gc rfl rfl
  have loop : ∀ (m : Nat) (i n : Nat) (ys : List V) (s₀ s : Shared) (σ : L2.St) (H : Hp), n + ys.length = sizeLine → W i m ys σ H → GI X S ip ys σ H s → tn i s.heap → (∀ b ∈ fp, H b = none) →
      Seg (model X.prog X.w) A R (GY X S) n s₀ (.forLoop tg (.ref it) body [] X.env) ((model X.prog X.w).den (.forLoop tg (.ref it) body [] X.env))
        (.ret (fun r => ((match r with | .ok f => (.pure f : Sem Flow) | .error e => .raise e).onRaise (cameBack X.env)).wrap K J gd lv) none (gd false) (lv []) c p [] :: fs) s := by
    intro m
    induction m using Nat.strongRecOn with
    | ind m ih =>
      intro i n ys s₀ s σ H hn w hI st fr
      have ee : ∀ (n : Nat) (s₀ : Shared) (x : Value) (s' : Shared), X.xe x s' → Seg (model X.prog X.w) A R (GY X S) n s₀ (.forLoop tg (.ref it) body [] X.env)
          ((do noteFrame x X.env; theTreesLotGoes x : Sem Unit).bind fun _ => .raise x)
          (.ret (fun r => ((match r with | .ok f => (.pure f : Sem Flow) | .error e => .raise e).onRaise (cameBack X.env)).wrap K J gd lv) none (gd false) (lv []) c p [] :: fs) s' := fun n s₀ x s' hx => by
        rw [Sem.bind_eq_wrap]
        refine seg_wrap ?_
        rw [(gl _).over]
        refine wpAny_bind (wpAny_mono (hp x s' hx) (fun _ s'' hcb => wpAny_theTreesLotGoes ?_) fun y s'' hcb => ?_)
        · exact seg_leaf (.error x) (seg_cameBack gc k hcb)
        · exact seg_leaf (.error y) (seg_cameBack gc k hcb)
      show Seg _ _ _ _ _ _ _ ((forTurn tg (.ref it) body [] X.env).onRaise (fun x => do noteFrame x X.env; theTreesLotGoes x)) _ s
      rw [Sem.onRaise_eq_wrap]
      unfold forTurn
      refine seg_bw ?_
      rw [(gl _).over]
      refine wpAny_standAt ?_
      refine seg_bw ?_
      rw [(gl _).over]
      obtain ⟨a2, c2, r2, I3⟩ := hI
      rcases turn i m ys σ H w with ⟨stop, qn⟩ | ⟨go3, N, hN, step⟩
      · refine wpAny_onRaise (wpAny_mono (T.done X rfl rfl rfl hc i _ s σ H X.xe I3 (stat fr) st stop) (fun r' s4 ⟨hr, I4⟩ => ?_) fun x s' hx => wpAny_standAt (ee n s₀ x s' hx))
        subst hr
        refine seg_again (c' := .block [] X.env) rfl ?_
        exact seg_leaf (.ok .next) (k.ok n ys s₀ s4 .next hn ⟨σ, H, ⟨a2, c2, r2, I4⟩, qn⟩)
      · refine wpAny_onRaise (wpAny_mono (T.item X rfl rfl rfl hc i _ s σ H X.xe I3 (stat fr) st go3) (fun r' s4 ⟨u, hr, h4⟩ => ?_) fun x s' hx => wpAny_standAt (ee n s₀ x s' hx))
        subst hr
        refine seg_bw ?_
        rw [(gl _).over]
        refine wpAny_mono h4 (fun _ s5 ⟨x, H5, I5, r5, y5, st5, fr5⟩ => ?_) fun x s' hx => ee n s₀ x s' hx
        have I5' := I5.pinned (stat fr5) (T.obj _ _ st5)
        refine seg_bw ?_
        rw [(gl _).over]
        refine wpAny_mono (hg.run _ s5 σ H5 x u _ I5' r5 (step x H5 y5)) (fun _ s6 ⟨σ6, H6, I6, q6⟩ => ?_) fun x s' hx => ee n s₀ x s' hx
        rw [Sem.bind_eq_wrap', Sem.wrap_wrap]
        have gc2 : GC X S (ip ++ pinsAt fp s5.heap) A (.forLoop tg (.ref it) body [] X.env) (.ret (fun r => ((match r with | .ok f => (.pure f : Sem Flow) | .error e => .raise e).onRaise (cameBack X.env)).wrap K J gd lv) none (gd false) (lv []) c p [] :: fs) id :=
          ⟨gc.pn, fun p hp => (List.mem_append.mp hp).elim (fun q => gc.ip p q) (fun q => fS _ (of_pinsAt q).1), gc.apart, (gl _).over, (gl _).split, (gl _).guard, rfl⟩
        refine hb.run A S (ip ++ pinsAt fp s5.heap) R n ys s₀ _ _ _ _ _ _ s6 σ6 H6 { D with nx := N, ct := N, bk := D.nx } gc2 hn ⟨fun n' ys' s₀' s7 f hn' hs7 => ?_, fun n' s₀' x s7 hx => ee n' s₀' x s7 hx⟩ ⟨a2, c2, r2, I6⟩ q6
        have un : ∀ {ys'' : List V} {σ7 : L2.St} {H7 : Hp}, GI X S (ip ++ pinsAt fp s5.heap) ys'' σ7 H7 s7 → GI X S ip ys'' σ7 H7 s7 ∧ tn (i + 1) s7.heap ∧ ∀ b ∈ fp, H7 b = none := by
          intro ys'' σ7 H7 h7
          obtain ⟨a7, c7, r7, I7⟩ := h7
          refine ⟨⟨a7, c7, r7, I7.pins_of fun p hp => I7.pin p (List.mem_append_right _ ?_)⟩, T.keep _ _ _ st5 fun b hb o e => (I7.pin (b, o) (List.mem_append_right _ (List.mem_cons_of_mem _ (List.mem_append_right _ (mem_pinsAt hb e))))).1, fun b hb => ?_⟩
          · rcases List.mem_cons.mp hp with q | q
            · rw [q]; exact List.mem_cons_self
            · exact List.mem_cons_of_mem _ (List.mem_append_left _ q)
          · obtain ⟨o, e, d⟩ := T.obj _ _ st5 b hb
            exact (I7.pin (b, o) (List.mem_append_right _ (List.mem_cons_of_mem _ (List.mem_append_right _ (mem_pinsAt hb e))))).2.1
        cases f with
        | next =>
          obtain ⟨σ7, H7, I7, n7⟩ := hs7
          obtain ⟨b1, b2, b3⟩ := un I7
          obtain ⟨m', hm, w7⟩ := hN ys' σ7 H7 n7
          exact seg_again rfl (ih m' hm (i + 1) n' ys' s₀' s7 σ7 H7 hn' w7 b1 b2 b3)
        | cont =>
          obtain ⟨σ7, H7, I7, n7⟩ := hs7
          obtain ⟨b1, b2, b3⟩ := un I7
          obtain ⟨m', hm, w7⟩ := hN ys' σ7 H7 n7
          exact seg_again rfl (ih m' hm (i + 1) n' ys' s₀' s7 σ7 H7 hn' w7 b1 b2 b3)
        | brk =>
          obtain ⟨σ7, H7, I7, q7⟩ := hs7
          exact seg_leaf (.ok .next) (k.ok n' ys' s₀' s7 .next hn' ⟨σ7, H7, (un I7).1, q7⟩)
        | ret v =>
          obtain ⟨x7, σ7, H7, I7, r7, q7⟩ := hs7
          exact seg_leaf (.ok (.ret v)) (k.ok n' ys' s₀' s7 (.ret v) hn' ⟨x7, σ7, H7, (un I7).1, r7, q7⟩)
  exact loop m0 0 n ys s₀ s2 σ H2 hn w0 ⟨acc, cc, r, I2⟩ st2 fun b hb => (f2 b hb).1
end
end GenX
namespace DL
open PySem PySem.Spec PyProof.Rows L2
/-! ### l.pop(), and a list that a sum makes and that is changed later -/
def ePop (o : Ee) : Ee := fun ρ S => (o ρ S).bind fun l S1 => match l with
  | .obj n => match S1[n]? with
    | some (.lst ys) => match ys[ys.length - 1]? with
      | some y => .ok y (S1.set n (.lst ys.dropLast))
      | none => .bad
    | _ => .bad
  | _ => .bad
section
variable {X : Cx} {W : WX} {a b : Expr} {fa fb : Ee} {pos : Pos}
theorem de_pop {apos cpos : Pos} (ho : DE X W a fa) (hbase : attributeBase a "pop" X.env (eval a X.env) = eval a X.env := by rfl) (hline : (apos.endLine == cpos.line) = true := by rfl) :
    DE X W (.Call (.Attribute a "pop" apos) [] [] cpos) (ePop fa) :=
  peI (pe_bm0 PySem.F.plainAttrs_list PySem.F.slot_list_pop PySem.F.type_list_pop mt_pop ho hbase hline) fun σ H Q ⟨M, ρ, S, hr, hs, w⟩ => ⟨M, ρ, S, hr, hs, wpG.bind w fun M1 v H1 d S1 e1 r1 hs1 w1 => by
    split at w1
    · rename_i n
      cases r1 with
      | @obj n a hn =>
        split at w1
        · rename_i ds hx
          split at w1
          · rename_i y hy
            obtain ⟨vs, h1, q1⟩ := hs1.at n a _ hn hx
            obtain ⟨z, hz, rz⟩ := q1.get' hy
            have e4 : Ext M1 H1 M1 (upd H1 a (.lst vs.dropLast)) := hs1.ext_write hn
            refine ⟨.inl ⟨rfl, _, SqL.of h1⟩, a, vs, z, rfl, rfl, h1, by rw [q1.length]; exact hz, w1 M1 z _ e4 (rz.mono e4) (hs1.write hn ⟨_, upd_same, q1.dropLast.mono e4⟩)⟩
          · exact w1.elim
        · exact w1.elim
    · exact w1.elim⟩
def gAddN (d1 d2 : D) (S : Sto) : R D := match view S d1, view S d2 with
  | .lst xs, .lst ys => if xs.length + ys.length ≤ 16777216 then .ok (.obj S.length) (S ++ [.lst (xs ++ ys)]) else .bad
  | _, _ => .bad
theorem od_addN {K : PySem.W.Frag} : OpD K (rAddD K) gAddN := by
  intro W σ M H S x y d1 d2 Q hs r1 r2 w
  unfold gAddN at w
  split at w
  · rename_i xs ys e1 e2
    split at w
    · rename_i hl
      obtain ⟨a, vs, rfl, h1, q1⟩ := view_lst hs r1 e1
      obtain ⟨b, ws, rfl, h2, q2⟩ := view_lst hs r2 e2
      refine .inr (.inr (.inr (.inl ⟨a, b, vs, ws, rfl, rfl, h1, h2, le_line (by rw [q1.length, q2.length]; exact hl), fun p hp => ?_⟩)))
      have e2 : Ext M H (M.add p) (upd H p (.lst (vs ++ ws))) := hs.ext_join hp
      exact w _ _ _ e2 (.obj (by show (M.o ++ [p])[_]? = _; rw [← hs.len, List.getElem?_append_right (Nat.le_refl _)]; simp)) (hs.join (o := .lst (vs ++ ws)) (mo := .lst (xs ++ ys)) hp ⟨_, upd_same, (q1.append q2).mono e2⟩)
    · exact w.elim
  · exact w.elim
end
end DL
namespace DL
open PySem PySem.Spec PyProof.Rows L2
/-! ### f-texts -/
def eFmt (e : Ee) : Ee := fun ρ S => (e ρ S).bind fun x S1 => match x with
  | .str y => if y.length ≤ 16777216 then .ok (.str y) S1 else .bad
  | .int i => if i.natAbs.log2 < 1920 then .ok (.str (toString i)) S1 else .bad
  | _ => .bad
def eJs : List Ee → Str → Ee
  | [], acc => fun _ S => .ok (.str acc) S
  | e :: es, acc => fun ρ S => (e ρ S).bind fun x S1 => match x with
    | .str y => if (acc ++ y).length ≤ 16777216 then eJs es (acc ++ y) ρ S1 else .bad
    | _ => .bad
section
variable {X : Cx} {W : WX} {e : Expr} {fe : Ee} {pos : Pos}
theorem de_fmt (he : DE X W e fe) : DE X W (.FormattedValue e (-1) none pos) (eFmt fe) := peI (pe_fmt he) fun σ H Q ⟨M, ρ, S, hr, hs, w⟩ => ⟨M, ρ, S, hr, hs, wpG.bind w fun M1 x H1 d S1 e1 r1 hs1 w1 => by
  split at w1
  · split at w1
    · rename_i hl
      cases r1
      exact .inl ⟨_, rfl, le_line hl, wp_val hs1 (.str _) w1⟩
    · exact w1.elim
  · split at w1
    · rename_i hl
      cases r1
      exact .inr ⟨_, rfl, hl, wp_val hs1 (.str _) w1⟩
    · exact w1.elim
  · exact w1.elim⟩
inductive DJ (X : Cx) (W : WX) : List Expr → List Ee → Prop where
  | nil : DJ X W [] []
  | cons {e : Expr} {f : Ee} {es : List Expr} {fs : List Ee} (h : DE X W e f) (r : DJ X W es fs) : DJ X W (e :: es) (f :: fs)
theorem DJ.pj {es : List Expr} {fs : List Ee} (h : DJ X W es fs) : PJ X es (fs.map (tD X.K W)) := by
  induction h with
  | nil => exact .nil
  | cons h r ih => exact .cons h ih
theorem js_ok {K : PySem.W.Frag} {σ : L2.St} {Q : VK} : ∀ (fs : List Ee) (acc : Str) (M : Mp) (ρ : Rho) (S : Sto) (H : Hp), RepE K M H σ ρ → HS K M S H → wpG (Rep K) K W σ M H (eJs fs acc ρ S) Q → tJs (fs.map (tD K W)) acc σ H fun out H1 => Q (.str out) H1
  | [], acc, M, ρ, S, H, hr, hs, w => wp_val hs (.str acc) w
  | f :: fs, acc, M, ρ, S, H, hr, hs, w => ⟨M, ρ, S, hr, hs, wpG.bind w fun M1 x H1 d S1 e1 r1 hs1 w1 => by
    split at w1
    · rename_i y
      cases r1
      split at w1
      · rename_i hl
        exact ⟨y, rfl, le_line hl, js_ok fs (acc ++ y) M1 ρ S1 H1 (hr.mono e1) hs1 w1⟩
      · exact w1.elim
    · exact w1.elim⟩
theorem de_joined {v1 v2 : Expr} {rest : List Expr} {fs : List Ee} (h : DJ X W (v1 :: v2 :: rest) fs) : DE X W (.JoinedStr (v1 :: v2 :: rest) pos) (eJs fs Str.empty) :=
  peI (pe_joined h.pj) fun σ H Q ⟨M, ρ, S, hr, hs, w⟩ => js_ok fs Str.empty M ρ S H hr hs w
end
/-! ### a generator def: for .. in ..: yield .. -/
abbrev Gn := List D → Sto → R (List D)
abbrev Ym := Rho → Sto → R (List D)
def yLoop (s : Src) (g : Tg) (e : Ee) : Nat → Nat → Ym
  | 0, i => fun ρ S => match srcLen S s with
    | some n => if n ≤ i then .ok [] S else .bad
    | none => .bad
  | k + 1, i => fun ρ S => match srcAt S i s with
    | some x => match g x ρ S with
      | .nx ρ1 S1 => (e ρ1 S1).bind fun v S2 => (yLoop s g e k (i + 1) ρ1 S2).bind fun vs S3 => .ok (v :: vs) S3
      | _ => .bad
    | none => .bad
def yFor (f : Es) (g : Tg) (e : Ee) : Ym := fun ρ S => (f ρ S).bind fun s S1 => match srcLen S1 s with
  | some n => if n ≤ 16777216 then yLoop s g e n 0 ρ S1 else .bad
  | none => .bad
def tY (K : PySem.W.Frag) (W1 : XK) (b : Ym) : TGn := fun D ys σ H => ∃ M ρ S ds, RepE K M H σ ρ ∧ HS K M S H ∧ Reps K M H ys ds ∧ ys = [] ∧ wpG (Reps K) K (fun c d _ H => W1 c d H) σ M H (b ρ S) fun zs H' => ∀ σ', D.nx zs σ' H'
theorem gsI {X : Cx} {st : Stmt} {t t' : TGn} (h : GS X st t) (w : ∀ D ys σ H, t' D ys σ H → t D ys σ H) : GS X st t' := ⟨fun A S ip R n ys s₀ c fs K J gd lv s σ H D g hn k hI q => h.run A S ip R n ys s₀ c fs K J gd lv s σ H D g hn k hI (w D ys σ H q)⟩
theorem gss_one {X : Cx} {st : Stmt} {t : TGn} (h : GS X st t) : GSs X [st] t := gss_cons h gss_nil
section
variable {X : Cx} {W1 : XK} {pos yp yq : Pos} {tg iter e : Expr} {f : Es} {g : Tg} {fe : Ee}
theorem gs_yfor (hp : PassesOwn (model X.prog X.w) X.A X.env X.xe) (hc : X.calm = true) (hi : DI X (fun c d _ H => W1 c d H) tg iter f) (hg : DG X (fun c d _ H => W1 c d H) tg g) (he : DE X (fun c d _ H => W1 c d H) e fe)
    (hs : ∀ x, foldedSetIterable iter X.env x = pure x := by intro _; rfl) (hco : X.env.scope.isCoroutine = false := by rfl) (hia : interactive X.env = false := by rfl) : GS X (.For tg iter [.Expr (.Yield (some e) yp) yq] [] pos) (tY X.K W1 (yFor f g fe)) :=
  gsI (GenX.gs_for hp hc hi hg (gss_one (gs_yield he hco hia)) hs) fun Dd ys σ H ⟨M, ρ, S, ds0, hr, hs, _, hy0, w⟩ => by
  subst hy0
  refine ⟨M, ρ, S, hr, hs, wpG.bind w fun M1 J H1 s S1 e1 r1 hs1 w1 => ?_⟩
  cases hn : srcLen S1 s with
  | none => simp only [hn] at w1; exact w1.elim
  | some n =>
    simp only [hn] at w1
    split at w1
    · rename_i hle
      refine ⟨fun i m ys σ H => ∃ M ρ S ds, RepE X.K M H σ ρ ∧ HS X.K M S H ∧ SrcIs X.K M H J s ∧ Reps X.K M H ys ds ∧ ys.length + m ≤ 16777216 ∧ wpG (Reps X.K) X.K (fun c d _ H => W1 c d H) σ M H ((yLoop s g fe m i ρ S).bind fun vs S' => .ok (ds ++ vs) S') (fun zs H' => ∀ σ', Dd.nx zs σ' H'), ⟨n, M1, ρ, S1, [], hr.mono e1, hs1, r1, .nil, by simpa using hle, ?_⟩, fun i m ys σ H ⟨M, ρ, S, ds, hr, hs, ok, ry, hm, w⟩ => ?_⟩
      · cases hq : yLoop s g fe n 0 ρ S1 with
        | ok vs S' => rw [hq] at w1; exact w1
        | ex x S' => rw [hq] at w1; exact w1
        | bad => rw [hq] at w1; exact w1
      · obtain ⟨o1, o2⟩ := ok.ok hs
        cases m with
        | zero =>
          simp only [yLoop] at w
          split at w
          · rename_i n hn
            split at w
            · rename_i hle
              simp only [R.bind_ok, List.append_nil] at w
              exact .inl ⟨o2 i n hn hle, w M ys H (Ext.refl hs) ry hs σ⟩
            · exact w.elim
          · exact w.elim
        | succ m =>
          simp only [yLoop] at w
          split at w
          · rename_i x hx
            obtain ⟨go, yl⟩ := o1 i x hx
            refine .inr ⟨go, fun ys σ' H' => ∃ M ρ S ds, RepE X.K M H' σ' ρ ∧ HS X.K M S H' ∧ SrcIs X.K M H' J s ∧ Reps X.K M H' ys ds ∧ ys.length + m ≤ 16777216 ∧ wpG (Reps X.K) X.K (fun c d _ H => W1 c d H) σ' M H' ((yLoop s g fe m (i + 1) ρ S).bind fun vs S' => .ok (ds ++ vs) S') (fun zs H' => ∀ σ', Dd.nx zs σ' H'), fun ys' σ' H' q => ⟨m, Nat.lt_succ_self m, q⟩, fun v H' hy => ?_⟩
            obtain ⟨e2, hs2, rv⟩ := yl v H' hy
            refine ⟨M, ρ, S, x, hr.mono e2, hs2, rv, ?_⟩
            cases hg2 : g x ρ S with
            | nx ρ1 S2 =>
              rw [hg2] at w
              simp only at w
              intro M3 σ3 H3 e3 r3 hs3
              refine ⟨lt_line (by omega), M3, ρ1, S2, r3, hs3, ?_⟩
              have w2 := wpG.ext (e2.trans e3) w
              have w3 : wpG (Reps X.K) X.K (fun c d _ H => W1 c d H) σ3 M3 H3 (((fe ρ1 S2).bind fun v S2 => (yLoop s g fe m (i + 1) ρ1 S2).bind fun vs S3 => .ok (v :: vs) S3).bind fun vs S' => .ok (ds ++ vs) S') (fun zs H' => ∀ σ', Dd.nx zs σ' H') := by
                cases hq : ((fe ρ1 S2).bind fun v S2 => (yLoop s g fe m (i + 1) ρ1 S2).bind fun vs S3 => .ok (v :: vs) S3).bind fun vs S' => .ok (ds ++ vs) S' with
                | ok vs S' => rw [hq] at w2; exact w2
                | ex x S' => rw [hq] at w2; exact w2
                | bad => rw [hq] at w2; exact w2
              have as : ∀ {α β γ : Type} (r : R α) (k : α → Sto → R β) (l : β → Sto → R γ), (r.bind k).bind l = r.bind fun a S => (k a S).bind l := fun r k l => by cases r <;> rfl
              rw [as] at w3
              refine wpG.bind w3 fun M4 y H4 d S4 e4 r4 hs4 w4 => ?_
              refine ⟨M4, ρ1, S4, ds ++ [d], r3.mono e4, hs4, ((ok.mono e2).mono e3).mono e4, (((ry.mono e2).mono e3).mono e4).append (.cons r4 .nil), by rw [List.length_append]; simp only [List.length_cons, List.length_nil]; omega, ?_⟩
              rw [as] at w4
              simp only [R.bind_ok] at w4
              simp only [List.append_assoc, List.cons_append, List.nil_append]
              exact w4
            | _ => rw [hg2] at w; exact w.elim
          · exact w.elim
    · exact w1.elim
end
def gnP (n N : Nat) (b : Ym) : Gn := fun ds S => b (ds.map some ++ List.replicate (N - n) none) S
def spY (K : PySem.W.Frag) (n : Nat) (g : Gn) : SpG := fun vs H Q E => vs.length = n ∧ ∃ M ds S, Reps K M H vs ds ∧ HS K M S H ∧ wpG (Reps K) K (fun cls d _ H => E cls d H) [] M H (g ds S) Q
section
variable {P : Program} {w : World} {K : PySem.W.Frag} {mg : Str → Option Value} {base : Heap} {x qual : Str} {ps N : List Str} {k : Nat} {st : Stmt} {f : Addr} {fd : FuncData} {b : Ym}
theorem gnP_fn (Ff : Fun K x qual st f fd) (S : GScope N ps (defScope st))
    (h : ∀ (cdv : Value) (A : Around) (outer : List Env) (s : Shared) (H : Hp) (E : XK) (pn : List (Addr × Obj)), Room k (A.deeper (envOfC qual (defScope st) s.heap.objs.size f cdv)) → GSs (gcxOf P w K mg base N qual (defScope st) f cdv A outer s H E pn) (defBody st) (tY K E b)) :
    GFn P w K mg base (k + 1) f fd ps (spY K ps.length (gnP ps.length N.length b)) := by
  obtain ⟨oc, od, kV, doc, pm, an, cdv, ct, osl, rfl, lk, hcd⟩ := Ff.ex
  refine gfn_of lk hcd S (fun vs H Q E h => h.1) fun A outer s H vs Q E pn hr q => ?_
  obtain ⟨hl, M, ds, S0, r, hs, w⟩ := q
  refine ⟨_, h cdv A outer s H E pn hr, M, _, S0, [], start_rep r ps.length hl, hs, .nil, rfl, ?_⟩
  unfold gnP at w
  cases hq : b (ds.map some ++ List.replicate (N.length - ps.length) none) S0 with
  | ok vs S' => rw [hq] at w; exact fun M' v H' e r hs σ' => w M' v H' e r hs
  | ex x S' => rw [hq] at w; exact w
  | bad => rw [hq] at w; exact w
end
/-- a generator method -/
def DGm (P : Program) (w : World) (K : PySem.W.Frag) (mg : Str → Option Value) (base : Heap) (C : Addr) (m : Str) (k : Nat) (g : Gn) : Prop := ∃ f fd ps, Meth K C m f ∧ Binds K fd ps [] ∧ GFn P w K mg base k f fd ps (spY K 1 g)
def eListG (C : Addr) (m : Str) (g : Gn) (o : Ee) : Ee := fun ρ S => (o ρ S).bind fun d S1 => match insAt C S1 d with
  | some fs => match fs.lookup m with
    | none => match g [d] S1 with
      | .ok vs S2 => .ok (.lst vs) S2
      | _ => .bad
    | _ => .bad
  | none => .bad
section
variable {X : Cx} {W : WX} {o : Expr} {fo : Ee} {C : Addr} {m : Str} {k : Nat} {g : Gn} {p pos pos' apos : Pos} {pl : Sem Bool}
theorem de_listG (c : Cls X.K C) (F : DGm X.prog X.w X.K X.mg X.base C m k g) (hr : Room (k + 3) X.A) (hgl : Gl X "list") (hmg : X.mg "list" = none) (ho : DE X W o fo)
    (ht : eval (.Call (.Attribute o m apos) [] [] pos') X.env = (do
      let ov ← eval o X.env
      standAt apos.atName
      let (f, first) ← holding [ov] (getMethod ov m pl)
      callWith pos' f first (backTo pos' (starEach [] X.env)) (backToKw pos' (keywordEach [] X.env))) := by rfl)
    (he : starEach [.Call (.Attribute o m apos) [] [] pos'] X.env = (false, eval (.Call (.Attribute o m apos) [] [] pos') X.env) :: starEach [] X.env := by rfl) :
    DE X W (.Call (.Name "list" p) [.Call (.Attribute o m apos) [] [] pos'] [] pos) (eListG C m g fo) := by
  obtain ⟨f, fd, ps, hm, hb, F⟩ := F
  refine peI (pe_listG (E := fun _ _ _ => False) (pgen_meth0 (dvs := []) ho c hm F (hr.mono (by omega)) hb .nil ht) ?_ ?_ hr hgl hmg rfl (by decide) (by decide) he) fun σ H Q ⟨M, ρ, S, hr, hs, w⟩ => ?_
  · exact fun pins σ H s e s' I hq => by
      obtain ⟨_, _, _, _, _, _, _, _, _, _, _, _, z⟩ := hq
      exact z.elim
  · exact fun _ _ _ z => z.elim
  · refine ⟨M, ρ, S, hr, hs, wpG.bind w fun M1 v H1 d S1 e1 r1 hs1 w1 => ?_⟩
    split at w1
    · rename_i fs hf
      obtain ⟨n', a, dx, vs, rfl, ha, hS, rfl, hH, rf⟩ := insAt_rep hs1 r1 hf
      split at w1
      · rename_i hl
        cases hq : g [.obj n'] S1 with
        | ok zs S2 =>
          rw [hq] at w1
          refine ⟨a, dx, vs, rfl, hH, rf.lookup_none hl, rfl, M1, [.obj n'], S1, .cons r1 .nil, hs1, ?_⟩
          rw [hq]
          exact fun M2 out H2 e2 r2 hs2 q hq2 => wp_newL hs2 r2 (wpG.ext e2 w1) q hq2
        | ex _ _ => rw [hq] at w1; exact w1.elim
        | bad => rw [hq] at w1; exact w1.elim
      · exact w1.elim
    · exact w1.elim
end
end DL
namespace DL
open PySem PySem.Spec PyProof.Rows L2
section
variable {K : PySem.W.Frag} {h : Heap} {mg : Str → Option Value} {x : Str} {ps : List Str} {st : Stmt} {f : Addr} {od an : Option Addr} {sl : Array (Option Value)} {oc kV dc pm cd ct : Value}
theorem def_mk (X : K.In h) (G : h.Ns mainGlobals mg) (a : PySem.W.nsIn K mainGlobals x = some (some (.ref f)))
    (l : K.lookup f = some ⟨oc, od, .func (PySem.W.fnOf x x (defArgs st) (defBody st) (defScope st) .none kV dc pm an cd ct), sl⟩) (c : PySem.W.codeIn K cd x = true) (k : PySem.W.keepIn K (.ref f) = true)
    (hb : ∀ (kV doc pm : Value) (an : Option Addr) (cdv ct : Value) (us : List Value), us.length = ps.length → bindArgs (PySem.W.fnOf x x (defArgs st) (defBody st) (defScope st) .none kV doc pm an cdv ct) ⟨us, []⟩ = pure (ps.zip us)) :
    ∃ f fd, mg x = some (.ref f) ∧ Fun K x x st f fd ∧ Binds K fd ps [] :=
  have F := fun_mk (st := st) l c k
  ⟨f, _, PySem.W.mg_of X G a, F, F.binds hb⟩
theorem law_mk (X : K.In h) (G : h.Ns mainGlobals mg) (a : PySem.W.nsIn K mainGlobals x = some (some (.ref f)))
    (l : K.lookup f = some ⟨oc, od, .func (PySem.W.fnOf x x (defArgs st) (defBody st) (defScope st) .none kV dc pm an cd ct), sl⟩) (c : PySem.W.codeIn K cd x = true) (k : PySem.W.keepIn K (.ref f) = true)
    (hb : ∀ (kV doc pm : Value) (an : Option Addr) (cdv ct : Value) (s : Shared) (u : Value), BindsTo s (PySem.W.fnOf x x (defArgs st) (defBody st) (defScope st) .none kV doc pm an cdv ct) ⟨[u], []⟩ [("script", u)]) :
    ∃ f fd, mg x = some (.ref f) ∧ Fun K x x st f fd ∧ ∀ (s : Shared) (u : Value), BindsTo s fd ⟨[u], []⟩ [("script", u)] :=
  ⟨f, _, PySem.W.mg_of X G a, fun_mk (st := st) l c k, hb _ _ _ _ _ _⟩
theorem exc_mk {C : Addr} (X : K.In h) (G : h.Ns mainGlobals mg) (a : PySem.W.nsIn K mainGlobals x = some (some (.ref C))) (q : PySem.W.excIn K C veMro "ValueError.__new__" = true) (k : PySem.W.keepIn K (.ref C) = true)
    (b : PySem.W.subIn K (.ref C) (.type "BaseException") = some true) (t : PySem.W.typeIn K (.ref C) = some (.type "type")) : ExC K mg x := ⟨C, a, PySem.W.mg_of X G a, q, k, b, t⟩
theorem hs_nil : HS K ⟨[], []⟩ [] (fun _ => none) := ⟨rfl, List.nodup_nil, fun _ h => (nomatch h), fun n a mo h _ => by simp at h⟩
theorem law_sp {g : Fn} {n : Nat} (hg : ∀ ns : List Int, ns.length ≤ n → ∃ S, g [.frz (ns.map D.int)] [] = .ok (.bl true) S) (H : Hp) (a : Addr) (ns : List Int) (hl : ns.length ≤ n) (hs : SqL K H a (ns.map V.int)) :
    spD K 1 g [.ref a] H (fun v _ => v = .bl true) fun _ _ _ => False := by
  obtain ⟨S, e⟩ := hg ns hl
  refine ⟨rfl, ⟨[], []⟩, _, [], .cons (.frz (xs := ns.map V.int) ?_ Reps.ints) .nil, ⟨rfl, List.nodup_nil, fun _ h => (nomatch h), fun n a mo h _ => by simp at h⟩, ?_⟩
  · rcases hs with h | h
    · exact .inl ⟨fun z => (by rcases z with z | z <;> cases z), h⟩
    · exact .inr h
  · rw [e]
    intro M v H' _ r _
    cases r
    rfl
end
theorem cx_none {P : Program} {w : World} (H : Hp) (s : Shared) (e : Value) (s' : Shared) (h : L2.CX P w [] H s (fun _ _ _ => False) e s') : False := by
  obtain ⟨_, _, _, _, _, _, _, _, _, _, _, _, h⟩ := h
  exact h

/-- walk_of, with what is known of the loose names -/
theorem walk_ofX {l : PySem.W.OpenLaw} {n k : Nat} {q : Program} {loose : List Str} {XP : (Str → Option Value) → Heap → Prop} {YP : World → Heap → Prop} {d : DefRec} {K : Params → PySem.W.Frag} {CX : World → CXT} {sp : World → Sp} {x : Str}
    (hn : l.most = some n) (hn2 : n ≤ sizeLine) (hdf : d.params.defaults = []) (hr : Room k callerA)
    (hY : ∀ (w : World) (h : Heap), YP w h → (K w.params).In h)
    (F : ∀ (w : World) (mg : Str → Option Value) (fa : Addr) (h : Heap), (K w.params).In h → XP mg h → h.Ns mainGlobals mg → mg d.name = some (.ref fa) →
      ∃ fd : FuncData, (∀ (s : Shared) (u : Value), BindsTo s fd ⟨[u], []⟩ [(x, u)]) ∧
        ∀ base : Heap, (K w.params).In base → base.Ns mainGlobals mg → FnOk l.prog w (K w.params) mg base (CX w) k fa fd [x] (sp w))
    (hsp : ∀ (w : World) (H : Hp) (a : Addr) (ns : List Int), ns.length ≤ n → Only H → SqL (K w.params) H a (ns.map V.int) → sp w [.ref a] H (fun v _ => v = .bl true) fun _ _ _ => False)
    (hCX : ∀ (w : World) (H : Hp) (s : Shared) (e : Value) (s' : Shared), CX w [] H s (fun _ _ _ => False) e s' → False) :
    PySem.W.WalkO q loose XP YP l.row.toRowW d [] (fun f vs => PySem.call f vs) := by
  refine Att.attach_call hn hdf fun w s₀ s₁ mg mb fa o pm cd doc a vs ns G Y ho hd hcd hmg hobj hints hlen hg => ?_
  have KX := hY w _ Y
  obtain ⟨fd, hb, hF⟩ := F w mg fa _ KX G.X G.T.g hmg
  exact law_call KX G.T.g G.T.b G.T.builtins G.T.nolimit hg hobj hints (Nat.le_trans hlen hn2) hr hF hb (fun H hO hS => hsp w H a ns hlen hO hS) fun H e s' => hCX w H s₁ e s'
theorem loose_int {p : Program} {lv : List (Str × PySem.W.WData)} {mg : Str → Option Value} {h : Heap} {x : Str} {i : Int} (X : PySem.W.XL p lv mg h) (e : lv.lookup x = some (.int i)) : ∃ t, mg x = some (.int i t) := by
  have hm : (x, PySem.W.WData.int i) ∈ lv := by
    clear X
    induction lv with
    | nil => cases e
    | cons y r ih =>
      obtain ⟨k, v⟩ := y
      rw [List.lookup_cons] at e
      by_cases c : x == k
      · rw [c] at e
        cases e
        rw [eq_of_beq c]
        exact List.mem_cons_self
      · simp only [c] at e
        exact List.mem_cons_of_mem _ (ih e)
  obtain ⟨v, h1, h2⟩ := X.2.val _ hm
  cases h2 with
  | int _ t => exact ⟨t, h1⟩
end DL
/-! rows for simp: how mirrors reckon -/
namespace DL
open PySem L2
section
variable (ρ : Rho) (S : Sto) (a b c : Ee) (t u : Et) (f g : Sm)
theorem popR_le {k : Nat} {d : D} {S : Sto} (h : S.length ≤ k) : popR k (.ok d S) = .ok d S := by simp [popR, h]
theorem popR_exle {k : Nat} {e : Exn} {S : Sto} (h : S.length ≤ k) : popR k (.ex e S) = .ex e S := by simp [popR, h]
@[simp] theorem popR_same {d : D} {S : Sto} : popR S.length (.ok d S) = .ok d S := popR_le (Nat.le_refl _)
@[simp] theorem popR_bad {k : Nat} : popR k .bad = .bad := rfl
/-- the end of a def -/
def F.fin : F → R D
  | .nx _ S' => .ok .non S'
  | .rt d S' => .ok d S'
  | .ex e _ S' => .ex e S'
  | _ => .bad
@[simp] theorem fin_nx (ρ : Rho) (S : Sto) : (F.nx ρ S).fin = .ok .non S := rfl
@[simp] theorem fin_rt (d : D) (S : Sto) : (F.rt d S).fin = .ok d S := rfl
@[simp] theorem fin_ex (e : Exn) (ρ : Rho) (S : Sto) : (F.ex e ρ S).fin = .ex e S := rfl
@[simp] theorem fin_bad : F.bad.fin = .bad := rfl
theorem fnP_ap (n N : Nat) (body : Sm) (ds : List D) (S : Sto) : fnP n N body ds S = popR S.length (body (ds.map some ++ List.replicate (N - n) none) S).fin := by
  unfold fnP F.fin
  split <;> simp_all
theorem fnQ_ap (n N : Nat) (body : Sm) (ds : List D) (S : Sto) : fnQ n N body ds S = (body (ds.map some ++ List.replicate (N - n) none) S).fin := by
  unfold fnQ F.fin
  split <;> simp_all
@[simp] theorem eK_ap (d : D) : eK d ρ S = .ok d S := rfl
@[simp] theorem eVar0 (d : D) (r : Rho) : eVar 0 (some d :: r) S = .ok d S := rfl
@[simp] theorem eVarS (x : Option D) (r : Rho) (i : Nat) : eVar (i + 1) (x :: r) S = eVar i r S := rfl
@[simp] theorem eVar1 (x : Option D) (d : D) (r : Rho) : eVar 1 (x :: some d :: r) S = .ok d S := rfl
@[simp] theorem eVar2 (x y : Option D) (d : D) (r : Rho) : eVar 2 (x :: y :: some d :: r) S = .ok d S := rfl
@[simp] theorem eVar3 (x y z : Option D) (d : D) (r : Rho) : eVar 3 (x :: y :: z :: some d :: r) S = .ok d S := rfl
@[simp] theorem eVar4 (x y z w : Option D) (d : D) (r : Rho) : eVar 4 (x :: y :: z :: w :: some d :: r) S = .ok d S := rfl
@[simp] theorem eVar5 (x y z w v : Option D) (d : D) (r : Rho) : eVar 5 (x :: y :: z :: w :: v :: some d :: r) S = .ok d S := rfl
@[simp] theorem eVar6 (x y z w v u : Option D) (d : D) (r : Rho) : eVar 6 (x :: y :: z :: w :: v :: u :: some d :: r) S = .ok d S := rfl
@[simp] theorem eVar7 (x y z w v u t : Option D) (d : D) (r : Rho) : eVar 7 (x :: y :: z :: w :: v :: u :: t :: some d :: r) S = .ok d S := rfl
@[simp] theorem eVar8 (x y z w v u t s : Option D) (d : D) (r : Rho) : eVar 8 (x :: y :: z :: w :: v :: u :: t :: s :: some d :: r) S = .ok d S := rfl
@[simp] theorem eVar9 (x y z w v u t s q : Option D) (d : D) (r : Rho) : eVar 9 (x :: y :: z :: w :: v :: u :: t :: s :: q :: some d :: r) S = .ok d S := rfl
@[simp] theorem eBin_ap (h : D → D → Sto → R D) : eBin h a b ρ S = (a ρ S).bind fun x S1 => (b ρ S1).bind fun y S2 => h x y S2 := rfl
@[simp] theorem eTb_ap : eTb a ρ S = (a ρ S).bind fun x S1 => match x with
  | .bl b => .ok b S1
  | _ => .bad := rfl
@[simp] theorem eChain_ap (h h' : D → D → Sto → R D) : eChain h h' a b c ρ S = (a ρ S).bind fun x S1 => (b ρ S1).bind fun y S2 => (h x y S2).bind fun z S3 => match z with
  | .bl true => (c ρ S3).bind fun u S4 => h' y u S4
  | .bl false => .ok (.bl false) S3
  | _ => .bad := rfl
@[simp] theorem eNeg_ap : eNeg a ρ S = (a ρ S).bind fun x S1 => match view S1 x with
  | .int i => .ok (.int (-i)) S1
  | _ => .bad := rfl
@[simp] theorem eTr_ap : eTr a ρ S = (a ρ S).bind fun x S1 => match gTru S1 x with
  | some k => .ok k S1
  | none => .bad := rfl
@[simp] theorem eNotT_ap : eNotT t ρ S = (t ρ S).bind fun k S1 => .ok (!k) S1 := rfl
@[simp] theorem eNot_ap : eNot a ρ S = (a ρ S).bind fun x S1 => match gTru S1 x with
  | some k => .ok (.bl (!k)) S1
  | none => .bad := rfl
@[simp] theorem eAnd_ap : eAnd a b ρ S = (a ρ S).bind fun x S1 => match gTru S1 x with
  | some true => b ρ S1
  | some false => .ok x S1
  | none => .bad := rfl
@[simp] theorem eOr_ap : eOr a b ρ S = (a ρ S).bind fun x S1 => match gTru S1 x with
  | some true => .ok x S1
  | some false => b ρ S1
  | none => .bad := rfl
@[simp] theorem eAndT_ap : eAndT t u ρ S = (t ρ S).bind fun k S1 => match k with
  | true => u ρ S1
  | false => .ok false S1 := rfl
@[simp] theorem eOrT_ap : eOrT t u ρ S = (t ρ S).bind fun k S1 => match k with
  | true => .ok true S1
  | false => u ρ S1 := rfl
@[simp] theorem eIf_ap : eIf t a b ρ S = (t ρ S).bind fun k S1 => match k with
  | true => a ρ S1
  | false => b ρ S1 := rfl
@[simp] theorem eArgs_nil : eArgs [] ρ S = .ok [] S := rfl
@[simp] theorem eArgs_cons (fs : List Ee) : eArgs (a :: fs) ρ S = (a ρ S).bind fun x S1 => (eArgs fs ρ S1).bind fun xs S2 => .ok (x :: xs) S2 := rfl
@[simp] theorem eTup_ap (fs : List Ee) : eTup fs ρ S = (eArgs fs ρ S).bind fun xs S1 => .ok (.tup xs) S1 := rfl
@[simp] theorem eLst_ap (fs : List Ee) : eLst fs ρ S = (eArgs fs ρ S).bind fun xs S1 => .ok (.lst xs) S1 := rfl
@[simp] theorem eNewL_ap (fs : List Ee) : eNewL fs ρ S = (eArgs fs ρ S).bind fun xs S1 => .ok (.obj S1.length) (S1 ++ [.lst xs]) := rfl
@[simp] theorem eCall_ap (h : Gc) (fs : List Ee) : eCall h fs ρ S = (eArgs fs ρ S).bind fun xs S1 => h xs S1 := rfl
@[simp] theorem eNo_ap : eNo ρ S = .ok none S := rfl
@[simp] theorem ePart_ap : ePart a ρ S = (a ρ S).bind fun x S1 => match view S1 x with
  | .int i => .ok (some i) S1
  | _ => .bad := rfl
@[simp] theorem eSl_ap (lo hi : Eo) : eSl a lo hi ρ S = (a ρ S).bind fun x S1 => (lo ρ S1).bind fun l S2 => (hi ρ S2).bind fun u S3 => gCut x l u S3 := rfl
@[simp] theorem eIsi_ap (k : Nat) : eIsi k a ρ S = (a ρ S).bind fun d S1 => match tag S1 d with
  | some n => .ok (.bl (isiN n k)) S1
  | none => .bad := rfl
@[simp] theorem eItS_ap : eItS a ρ S = (a ρ S).bind fun d S1 => match itsOf S1 d with
  | some _ => .ok (.it d) S1
  | none => .bad := rfl
@[simp] theorem eListRg1_ap : eListRg1 a ρ S = (a ρ S).bind fun x S1 => match x with
  | .int j => if rgOk 0 j then .ok (.lst (rgD 0 j)) S1 else .bad
  | _ => .bad := rfl
@[simp] theorem eListRg2_ap : eListRg2 a b ρ S = (a ρ S).bind fun x S1 => (b ρ S1).bind fun y S2 => match x, y with
  | .int i, .int j => if rgOk i j then .ok (.lst (rgD i j)) S2 else if (j - i).toNat ≤ 16777216 then .ok (.lst (rgD i j)) S2 else .bad
  | _, _ => .bad := rfl
@[simp] theorem eRng1_ap : eRng1 a ρ S = (eArgs [a] ρ S).bind fun ds S1 => match ds with
  | [.int j] => if smallI j then .ok (.rng 0 j.toNat) S1 else .bad
  | _ => .bad := rfl
@[simp] theorem eRng2_ap : eRng2 a b ρ S = (eArgs [a, b] ρ S).bind fun ds S1 => match ds with
  | [.int i, .int j] => if smallI i && smallI j then .ok (.rng i (j - i).toNat) S1 else .bad
  | _ => .bad := rfl
@[simp] theorem eEn_ap : eEn a ρ S = (eArgs [a] ρ S).bind fun ds S1 => match ds with
  | [d] => if isLT d then match itsOf S1 d with
    | some _ => .ok (.en d) S1
    | none => .bad else .bad
  | _ => .bad := rfl
@[simp] theorem tYes_ap : tYesD ρ S = .ok true S := rfl
@[simp] theorem sNx_ap : sNx ρ S = .nx ρ S := rfl
@[simp] theorem sSeq_ap : sSeq f g ρ S = (f ρ S).seq g := rfl
@[simp] theorem sBad_ap : sBad ρ S = .bad := rfl
@[simp] theorem sEx_ap : sEx a ρ S = F.ofR (a ρ S) ρ fun _ S1 => .nx ρ S1 := rfl
@[simp] theorem sRt_ap : sRt a ρ S = F.ofR (a ρ S) ρ fun d S1 => .rt d S1 := rfl
@[simp] theorem sRtN_ap : sRtN ρ S = .rt .non S := rfl
@[simp] theorem sIf_ap : sIf t f g ρ S = F.ofR (t ρ S) ρ fun k S1 => match k with
  | true => f ρ S1
  | false => g ρ S1 := rfl
@[simp] theorem sBk_ap : sBk ρ S = .bk ρ S := rfl
@[simp] theorem sCt_ap : sCt ρ S = .ct ρ S := rfl
@[simp] theorem gNm_ap (i : Nat) (d : D) : gNm i d ρ S = .nx (ρ.set i (some d)) S := rfl
@[simp] theorem gsNil_ap : gsNil [] ρ S = .nx ρ S := rfl
@[simp] theorem gsCons_ap (h : Tg) (k : Tgs) (d : D) (ds : List D) : gsCons h k (d :: ds) ρ S = (h d ρ S).seq (k ds) := rfl
@[simp] theorem gTp_ap (n : Nat) (h : Tgs) (xs : List D) : gTp n h (.tup xs) ρ S = if xs.length = n then h xs ρ S else .bad := rfl
@[simp] theorem sSt_ap (h : Tg) : sSt a h ρ S = F.ofR (a ρ S) ρ fun d S1 => (h d ρ S1).on := rfl
@[simp] theorem on_nx : (F.nx ρ S).on = .nx ρ S := rfl
@[simp] theorem on_bad : F.bad.on = .bad := rfl
@[simp] theorem sSet_ap (i : Nat) : sSet i a ρ S = F.ofR (a ρ S) ρ fun d S1 => .nx (ρ.set i (some d)) S1 := rfl
@[simp] theorem sPar_ap (i j : Nat) : sPar i j a b ρ S = F.ofR (a ρ S) ρ fun x S1 => F.ofR (b ρ S1) ρ fun y S2 => .nx ((ρ.set i (some x)).set j (some y)) S2 := rfl
@[simp] theorem sIx_ap : sIx a b c ρ S = F.ofR (a ρ S) ρ fun x S1 => F.ofR (b ρ S1) ρ fun l S2 => F.ofR (c ρ S2) ρ fun k S3 => match l, k with
  | .obj n, .int k => match S3[n]? with
    | some (.lst xs) => match ixN xs.length k with
      | some j => .nx ρ (S3.set n (.lst (xs.set j x)))
      | none => .bad
    | _ => .bad
  | _, _ => .bad := rfl
@[simp] theorem view_non_ : view S .non = .non := rfl
@[simp] theorem view_bl_ (x : Bool) : view S (.bl x) = .bl x := rfl
@[simp] theorem view_int_ (x : Int) : view S (.int x) = .int x := rfl
@[simp] theorem view_str_ (x : Str) : view S (.str x) = .str x := rfl
@[simp] theorem view_tup_ (x : List D) : view S (.tup x) = .tup x := rfl
@[simp] theorem view_lst_ (x : List D) : view S (.lst x) = .lst x := rfl
@[simp] theorem view_frz_ (x : List D) : view S (.frz x) = .frz x := rfl
theorem view_at {n : Nat} {ds : List D} (h : S[n]? = some (.lst ds)) : view S (.obj n) = .lst ds := by simp [view, h]
@[simp] theorem itsOf_tup (x : List D) : itsOf S (.tup x) = some x := rfl
@[simp] theorem itsOf_lst (x : List D) : itsOf S (.lst x) = some x := rfl
@[simp] theorem tag_non : tag S .non = some 0 := rfl
@[simp] theorem tag_bl (x : Bool) : tag S (.bl x) = some 1 := rfl
@[simp] theorem tag_int (x : Int) : tag S (.int x) = some 2 := rfl
@[simp] theorem tag_str (x : Str) : tag S (.str x) = some 3 := rfl
@[simp] theorem tag_tup (x : List D) : tag S (.tup x) = some 4 := rfl
@[simp] theorem tag_lst (x : List D) : tag S (.lst x) = some 5 := rfl
@[simp] theorem gTru_bl (x : Bool) : gTru S (.bl x) = some x := rfl
@[simp] theorem gTru_non : gTru S .non = some false := rfl
@[simp] theorem gTru_int (x : Int) : gTru S (.int x) = some (x != 0) := rfl
@[simp] theorem gTru_tup (x : List D) : gTru S (.tup x) = some (!x.isEmpty) := rfl
@[simp] theorem gTru_lst (x : List D) : gTru S (.lst x) = some (!x.isEmpty) := rfl
@[simp] theorem gAdd_int (i j : Int) : gAdd (.int i) (.int j) S = .ok (.int (i + j)) S := rfl
@[simp] theorem gAdd_bi (p : Bool) (j : Int) : gAdd (.bl p) (.int j) S = .ok (.int ((if p = true then 1 else 0) + j)) S := rfl
@[simp] theorem gSub_int (i j : Int) : gSub (.int i) (.int j) S = .ok (.int (i - j)) S := rfl
theorem gMul_int {i j : Int} (h : i.natAbs.log2 + j.natAbs.log2 < 1000000) : gMul (.int i) (.int j) S = .ok (.int (i * j)) S := by simp [gMul, h]
theorem gMod_int {i j : Int} (h : 0 < j) : gMod (.int i) (.int j) S = .ok (.int (i % j)) S := by simp [gMod, h]
theorem gDiv_int {i j : Int} (h : 0 < j) (h2 : j.natAbs.log2 < 9000) : gDiv (.int i) (.int j) S = .ok (.int (i / j)) S := by simp [gDiv, h, h2]
@[simp] theorem gI2_int (p : Int → Int → Bool) (i j : Int) : gI2 p (.int i) (.int j) S = .ok (.bl (p i j)) S := rfl
theorem gAdd_lst {xs ys : List D} (h : xs.length + ys.length ≤ 16777216) : gAdd (.lst xs) (.lst ys) S = .ok (.lst (xs ++ ys)) S := by simp [gAdd, h]
theorem gAdd_tup {xs ys : List D} (h : xs.length + ys.length ≤ 16777216) : gAdd (.tup xs) (.tup ys) S = .ok (.tup (xs ++ ys)) S := by simp [gAdd, h]
@[simp] theorem gLen_lst (xs : List D) : gLen [.lst xs] S = .ok (.int xs.length) S := rfl
@[simp] theorem gLen_tup (xs : List D) : gLen [.tup xs] S = .ok (.int xs.length) S := rfl
@[simp] theorem gLen_frz (xs : List D) : gLen [.frz xs] S = .ok (.int xs.length) S := rfl
@[simp] theorem gAbs_int (i : Int) : gAbs [.int i] S = .ok (.int (if i < 0 then -i else i)) S := rfl
@[simp] theorem gInt_int (i : Int) : gInt [.int i] S = .ok (.int i) S := rfl
@[simp] theorem gMax_int (i j : Int) : gMax [.int i, .int j] S = .ok (.int (if j > i then j else i)) S := rfl
@[simp] theorem gMin_int (i j : Int) : gMin [.int i, .int j] S = .ok (.int (if j < i then j else i)) S := rfl
@[simp] theorem gTuple_lst (xs : List D) : gTuple [.lst xs] S = .ok (.tup xs) S := rfl
@[simp] theorem gTuple_tup (xs : List D) : gTuple [.tup xs] S = .ok (.tup xs) S := rfl
@[simp] theorem gList_lst (xs : List D) : gList [.lst xs] S = .ok (.lst xs) S := rfl
@[simp] theorem gList_tup (xs : List D) : gList [.tup xs] S = .ok (.lst xs) S := rfl
theorem gSum_tup {xs : List D} {l : List Int} (h : intsOf xs = some l) : gSum [.tup xs] S = .ok (.int l.sum) S := by simp [gSum, h]
@[simp] theorem gSum_ints (l : List Int) : gSum [.tup (l.map D.int)] S = .ok (.int l.sum) S := gSum_tup S (intsOf_map l)
theorem gAll_lst {xs : List D} {l : List Bool} (h : blsOf xs = some l) : gAll [.lst xs] S = .ok (.bl (l.all id)) S := by simp [gAll, h]
@[simp] theorem gAll_bls (l : List Bool) : gAll [.lst (l.map D.bl)] S = .ok (.bl (l.all id)) S := gAll_lst S (blsOf_map l)
theorem gIdx_tup {xs : List D} {i : Int} {d : D} (h : atI xs i = some d) : gIdx (.tup xs) (.int i) S = .ok d S := by simp [gIdx, h]
theorem gIdx_lst {xs : List D} {i : Int} {d : D} (h : atI xs i = some d) : gIdx (.lst xs) (.int i) S = .ok d S := by simp [gIdx, h]
theorem gIdx_frz {xs : List D} {i : Int} {d : D} (h : atI xs i = some d) : gIdx (.frz xs) (.int i) S = .ok d S := by simp [gIdx, h]
theorem gIdx_obj {n : Nat} {xs : List D} {i : Int} {d : D} (hn : S[n]? = some (.lst xs)) (h : atI xs i = some d) : gIdx (.obj n) (.int i) S = .ok d S := by simp [gIdx, view, hn, h]
@[simp] theorem gCut_tup (xs : List D) (lo hi : Option Int) : gCut (.tup xs) lo hi S = .ok (.tup (cutD xs lo hi)) S := rfl
@[simp] theorem gCut_lst (xs : List D) (lo hi : Option Int) : gCut (.lst xs) lo hi S = .ok (.lst (cutD xs lo hi)) S := rfl
@[simp] theorem gIsN_ (d : D) : gIsN d .non S = .ok (.bl (isNon d)) S := rfl
@[simp] theorem gNotN_ (d : D) : gNotN d .non S = .ok (.bl (!isNon d)) S := rfl
end

/-! ### loops over what stands still -/
/-- for x in xs -/
def forL (g : Tg) (b : Sm) : List D → Sm
  | [] => fun ρ S => .nx ρ S
  | x :: xs => fun ρ S => (g x ρ S).on.seq fun ρ1 S1 => (b ρ1 S1).turn (forL g b xs)
/-- for i in lo, lo + 1 .. -/
def forR (g : Tg) (b : Sm) : Nat → Int → Sm
  | 0, _ => fun ρ S => .nx ρ S
  | n + 1, lo => fun ρ S => (g (.int lo) ρ S).on.seq fun ρ1 S1 => (b ρ1 S1).turn (forR g b n (lo + 1))
theorem forLoop_L {s : Src} {xs : List D} {g : Tg} {b : Sm} (hs : ∀ S i, srcAt S i s = xs[i]?) (hl : ∀ S, srcLen S s = some xs.length) : ∀ (k i : Nat), i + k = xs.length → forLoop s g b k i = forL g b (xs.drop i)
  | 0, i, h => by
    funext ρ S
    rw [List.drop_eq_nil_of_le (by omega)]
    simp only [forLoop, hl, forL]
    rw [if_pos (by omega)]
  | k + 1, i, h => by
    funext ρ S
    have hi : i < xs.length := by omega
    rw [List.drop_eq_getElem_cons hi]
    simp only [forLoop, hs, List.getElem?_eq_getElem hi, forL, forLoop_L hs hl k (i + 1) (by omega)]
theorem forLoop_R {g : Tg} {b : Sm} (lo : Int) (n : Nat) : ∀ (k i : Nat), i + k = n → forLoop (.rng lo n) g b k i = forR g b k (lo + i)
  | 0, i, h => by
    funext ρ S
    simp only [forLoop, srcLen, forR]
    rw [if_pos (by omega)]
  | k + 1, i, h => by
    funext ρ S
    have hi : i < n := by omega
    simp only [forLoop, srcAt, forR]
    rw [if_pos hi]
    simp only [forLoop_R lo n k (i + 1) (by omega)]
    have e : lo + ((i + 1 : Nat) : Int) = lo + (i : Int) + 1 := by omega
    rw [e]
@[simp] theorem sFor_lst {f : Es} {g : Tg} {b : Sm} {ρ : Rho} {S S1 : Sto} {xs : List D} (h : f ρ S = .ok (.it (.lst xs)) S1) : sFor f g b ρ S = forL g b xs ρ S1 := by
  simp only [sFor, h, F.ofR_ok, srcLen, itsOf_lst]
  rw [forLoop_L (xs := xs) (fun S i => by simp [srcAt]) (fun S => by simp [srcLen]) _ 0 (by omega)]
  rfl
@[simp] theorem sFor_tup {f : Es} {g : Tg} {b : Sm} {ρ : Rho} {S S1 : Sto} {xs : List D} (h : f ρ S = .ok (.it (.tup xs)) S1) : sFor f g b ρ S = forL g b xs ρ S1 := by
  simp only [sFor, h, F.ofR_ok, srcLen, itsOf_tup]
  rw [forLoop_L (xs := xs) (fun S i => by simp [srcAt]) (fun S => by simp [srcLen]) _ 0 (by omega)]
  rfl
@[simp] theorem sFor_rng {f : Es} {g : Tg} {b : Sm} {ρ : Rho} {S S1 : Sto} {lo : Int} {n : Nat} (h : f ρ S = .ok (.rng lo n) S1) : sFor f g b ρ S = forR g b n lo ρ S1 := by
  simp only [sFor, h, F.ofR_ok, srcLen]
  rw [forLoop_R lo n n 0 (by omega)]
  simp
/-- the items of enumerate -/
def enumD : Nat → List D → List D
  | _, [] => []
  | i, x :: xs => .tup [.int (i : Nat), x] :: enumD (i + 1) xs
theorem enumD_get : ∀ (xs : List D) (i j : Nat), (enumD i xs)[j]? = (xs[j]?).map fun x => .tup [.int ((i + j : Nat) : Int), x]
  | [], i, j => by simp [enumD]
  | x :: xs, i, 0 => by simp [enumD]
  | x :: xs, i, j + 1 => by
    simp only [enumD, List.getElem?_cons_succ, enumD_get xs (i + 1) j]
    rw [show i + 1 + j = i + (j + 1) by omega]
theorem enumD_len : ∀ (xs : List D) (i : Nat), (enumD i xs).length = xs.length
  | [], _ => rfl
  | x :: xs, i => by simp [enumD, enumD_len xs]
@[simp] theorem sFor_en {f : Es} {g : Tg} {b : Sm} {ρ : Rho} {S S1 : Sto} {xs : List D} (h : f ρ S = .ok (.en (.lst xs)) S1) : sFor f g b ρ S = forL g b (enumD 0 xs) ρ S1 := by
  simp only [sFor, h, F.ofR_ok, srcLen, itsOf_lst]
  rw [forLoop_L (s := .en (.lst xs)) (xs := enumD 0 xs) (fun S i => by simp only [srcAt, itsOf_lst, enumD_get, Nat.zero_add]; cases xs[i]? <;> rfl) (fun S => by simp [srcLen, enumD_len]) _ 0 (by rw [enumD_len]; omega)]
  rfl
@[simp] theorem sFor_enT {f : Es} {g : Tg} {b : Sm} {ρ : Rho} {S S1 : Sto} {xs : List D} (h : f ρ S = .ok (.en (.tup xs)) S1) : sFor f g b ρ S = forL g b (enumD 0 xs) ρ S1 := by
  simp only [sFor, h, F.ofR_ok, srcLen, itsOf_tup]
  rw [forLoop_L (s := .en (.tup xs)) (xs := enumD 0 xs) (fun S i => by simp only [srcAt, itsOf_tup, enumD_get, Nat.zero_add]; cases xs[i]? <;> rfl) (fun S => by simp [srcLen, enumD_len]) _ 0 (by rw [enumD_len]; omega)]
  rfl
/-! ### comprehensions over what stands still -/
def lcL (c : Ct) (t : Et) (e : Ee) (ρ : Rho) : List D → Sto → R (List D)
  | [], S => .ok [] S
  | x :: xs, S => match c.put x ρ with
    | some ρ1 => (t ρ1 S).calm.bind fun b S2 => match b with
      | true => (e ρ1 S2).calm.bind fun y S3 => (lcL c t e ρ xs S3).bind fun ys S4 => .ok (y :: ys) S4
      | false => lcL c t e ρ xs S2
    | none => .bad
theorem lcLoop_L {s : Src} {xs : List D} {c : Ct} {t : Et} {e : Ee} {ρ : Rho} (hs : ∀ S i, srcAt S i s = xs[i]?) (hl : ∀ S, srcLen S s = some xs.length) : ∀ (k i : Nat) (S : Sto), i + k = xs.length → lcLoop s c t e k i ρ S = lcL c t e ρ (xs.drop i) S
  | 0, i, S, h => by
    rw [List.drop_eq_nil_of_le (by omega)]
    simp only [lcLoop, hl, lcL]
    rw [if_pos (by omega)]
  | k + 1, i, S, h => by
    have hi : i < xs.length := by omega
    rw [List.drop_eq_getElem_cons hi]
    simp only [lcLoop, hs, List.getElem?_eq_getElem hi, lcL]
    cases c.put xs[i] ρ with
    | none => rfl
    | some ρ1 =>
      simp only [lcLoop_L hs hl k (i + 1) _ (by omega)]
      all_goals rfl
/-- the numbers lo .. -/
def rgN (lo : Int) : Nat → List D
  | 0 => []
  | n + 1 => .int lo :: rgN (lo + 1) n
theorem rgN_get : ∀ (n : Nat) (lo : Int) (i : Nat), (rgN lo n)[i]? = if i < n then some (.int (lo + i)) else none
  | 0, lo, i => by simp [rgN]
  | n + 1, lo, 0 => by simp [rgN]
  | n + 1, lo, i + 1 => by
    simp only [rgN, List.getElem?_cons_succ, rgN_get n]
    by_cases h : i < n
    · rw [if_pos h, if_pos (by omega), show lo + 1 + (i : Int) = lo + ((i + 1 : Nat) : Int) by omega]
    · rw [if_neg h, if_neg (by omega)]
theorem rgN_len : ∀ (n : Nat) (lo : Int), (rgN lo n).length = n
  | 0, _ => rfl
  | n + 1, lo => by simp [rgN, rgN_len n]
/-- a comprehension, its source known -/
theorem eLc_L {f : Es} {c : Ct} {t : Et} {e : Ee} {ws : List Nat} {ρ : Rho} {S S1 : Sto} {s : Src} {xs : List D} (h : f ρ S = .ok s S1) (hs : ∀ S i, srcAt S i s = xs[i]?) (hl : ∀ S, srcLen S s = some xs.length) (hn : xs.length ≤ 16777216) :
    eLc f c t e ws ρ S = (lcL c t e (wipeR ρ ws) xs S1).calm.bind fun ys S2 => .ok (.lst ys) S2 := by
  simp only [eLc, h, R.bind_ok, hl, if_pos hn]
  rw [lcLoop_L hs hl _ 0 _ (by omega)]
  rfl
theorem eLc_lst {f : Es} {c : Ct} {t : Et} {e : Ee} {ws : List Nat} {ρ : Rho} {S S1 : Sto} {xs : List D} (h : f ρ S = .ok (.it (.lst xs)) S1) (hn : xs.length ≤ 16777216) :
    eLc f c t e ws ρ S = (lcL c t e (wipeR ρ ws) xs S1).calm.bind fun ys S2 => .ok (.lst ys) S2 := eLc_L h (fun S i => by simp [srcAt]) (fun S => by simp [srcLen]) hn
theorem eLc_tup {f : Es} {c : Ct} {t : Et} {e : Ee} {ws : List Nat} {ρ : Rho} {S S1 : Sto} {xs : List D} (h : f ρ S = .ok (.it (.tup xs)) S1) (hn : xs.length ≤ 16777216) :
    eLc f c t e ws ρ S = (lcL c t e (wipeR ρ ws) xs S1).calm.bind fun ys S2 => .ok (.lst ys) S2 := eLc_L h (fun S i => by simp [srcAt]) (fun S => by simp [srcLen]) hn
theorem eLc_rng {f : Es} {c : Ct} {t : Et} {e : Ee} {ws : List Nat} {ρ : Rho} {S S1 : Sto} {lo : Int} {n : Nat} (h : f ρ S = .ok (.rng lo n) S1) (hn : n ≤ 16777216) :
    eLc f c t e ws ρ S = (lcL c t e (wipeR ρ ws) (rgN lo n) S1).calm.bind fun ys S2 => .ok (.lst ys) S2 := eLc_L h (fun S i => by simp [srcAt, rgN_get]) (fun S => by simp [srcLen, rgN_len]) (by rw [rgN_len]; exact hn)
theorem eLc_enT {f : Es} {c : Ct} {t : Et} {e : Ee} {ws : List Nat} {ρ : Rho} {S S1 : Sto} {xs : List D} (h : f ρ S = .ok (.en (.tup xs)) S1) (hn : xs.length ≤ 16777216) :
    eLc f c t e ws ρ S = (lcL c t e (wipeR ρ ws) (enumD 0 xs) S1).calm.bind fun ys S2 => .ok (.lst ys) S2 := eLc_L h (fun S i => by simp only [srcAt, itsOf_tup, enumD_get, Nat.zero_add]; cases xs[i]? <;> rfl) (fun S => by simp [srcLen, enumD_len]) (by rw [enumD_len]; exact hn)
theorem eLc_en {f : Es} {c : Ct} {t : Et} {e : Ee} {ws : List Nat} {ρ : Rho} {S S1 : Sto} {xs : List D} (h : f ρ S = .ok (.en (.lst xs)) S1) (hn : xs.length ≤ 16777216) :
    eLc f c t e ws ρ S = (lcL c t e (wipeR ρ ws) (enumD 0 xs) S1).calm.bind fun ys S2 => .ok (.lst ys) S2 := eLc_L h (fun S i => by simp only [srcAt, itsOf_lst, enumD_get, Nat.zero_add]; cases xs[i]? <;> rfl) (fun S => by simp [srcLen, enumD_len]) (by rw [enumD_len]; exact hn)
/-- each item by a function, the store as it is -/
theorem lcL_map {c : Ct} {e : Ee} {ρ : Rho} {S : Sto} {φ : D → D} : ∀ (xs : List D), (∀ x ∈ xs, ∃ ρ1, c.put x ρ = some ρ1 ∧ e ρ1 S = .ok (φ x) S) → lcL c tYesD e ρ xs S = .ok (xs.map φ) S
  | [], _ => rfl
  | x :: xs, h => by
    obtain ⟨ρ1, h1, h2⟩ := h x List.mem_cons_self
    simp only [lcL, h1, tYes_ap, R.calm_ok, R.bind_ok, h2, lcL_map xs (fun y hy => h y (List.mem_cons_of_mem _ hy)), List.map_cons]
theorem lcL_filter {c : Ct} {t : Et} {e : Ee} {ρ : Rho} {S : Sto} {φ : D → D} {p : D → Bool} : ∀ (xs : List D), (∀ x ∈ xs, ∃ ρ1, c.put x ρ = some ρ1 ∧ t ρ1 S = .ok (p x) S ∧ (p x = true → e ρ1 S = .ok (φ x) S)) → lcL c t e ρ xs S = .ok ((xs.filter p).map φ) S
  | [], _ => rfl
  | x :: xs, h => by
    obtain ⟨ρ1, h1, h2, h3⟩ := h x List.mem_cons_self
    have ih := lcL_filter xs (fun y hy => h y (List.mem_cons_of_mem _ hy))
    simp only [lcL, h1, h2, R.calm_ok, R.bind_ok]
    cases hp : p x with
    | true => simp only [h3 hp, R.calm_ok, R.bind_ok, ih, List.filter_cons, hp, if_true, List.map_cons]
    | false => simp only [ih, List.filter_cons, hp, Bool.false_eq_true, if_false]
@[simp] theorem put_nm (i : Nat) (d : D) (ρ : Rho) : (Ct.nm i).put d ρ = some (ρ.set i (some d)) := rfl
/-! ### a for loop by what holds of it -/
theorem forL_inv {g : Tg} {b : Sm} (I : List D → Rho → Sto → Prop) : ∀ (xs : List D) (ρ : Rho) (S : Sto), I xs ρ S →
    (∀ x r ρ S, I (x :: r) ρ S → ∃ ρ1 S1 ρ2 S2, g x ρ S = .nx ρ1 S1 ∧ (b ρ1 S1 = .nx ρ2 S2 ∨ b ρ1 S1 = .ct ρ2 S2) ∧ I r ρ2 S2) → ∃ ρ' S', forL g b xs ρ S = .nx ρ' S' ∧ I [] ρ' S'
  | [], ρ, S, h, _ => ⟨ρ, S, rfl, h⟩
  | x :: r, ρ, S, h, hs => by
    obtain ⟨ρ1, S1, ρ2, S2, h1, h2, h3⟩ := hs x r ρ S h
    obtain ⟨ρ', S', h4, h5⟩ := forL_inv I r ρ2 S2 h3 hs
    refine ⟨ρ', S', ?_, h5⟩
    rcases h2 with h2 | h2 <;> simp only [forL, h1, on_nx, F.seq_nx, h2, F.turn_nx, F.turn_ct, h4]
theorem forR_inv {g : Tg} {b : Sm} (I : Nat → Int → Rho → Sto → Prop) : ∀ (n : Nat) (lo : Int) (ρ : Rho) (S : Sto), I n lo ρ S →
    (∀ n lo ρ S, I (n + 1) lo ρ S → ∃ ρ1 S1 ρ2 S2, g (.int lo) ρ S = .nx ρ1 S1 ∧ (b ρ1 S1 = .nx ρ2 S2 ∨ b ρ1 S1 = .ct ρ2 S2) ∧ I n (lo + 1) ρ2 S2) → ∃ ρ' S' hi, forR g b n lo ρ S = .nx ρ' S' ∧ I 0 hi ρ' S'
  | 0, lo, ρ, S, h, _ => ⟨ρ, S, lo, rfl, h⟩
  | n + 1, lo, ρ, S, h, hs => by
    obtain ⟨ρ1, S1, ρ2, S2, h1, h2, h3⟩ := hs n lo ρ S h
    obtain ⟨ρ', S', hi, h4, h5⟩ := forR_inv I n (lo + 1) ρ2 S2 h3 hs
    refine ⟨ρ', S', hi, ?_, h5⟩
    rcases h2 with h2 | h2 <;> simp only [forR, h1, on_nx, F.seq_nx, h2, F.turn_nx, F.turn_ct, h4]
end DL
namespace DL
open PySem L2
theorem Int.beq_eq_decide_eq (i j : Int) : (i == j) = decide (i = j) := by by_cases h : i = j <;> simp [h]
theorem shaped_int (i : Int) : SeqAt.shaped (.int i) = true := by simp [SeqAt.shaped, PyData.canLay0, PyData.depth]
theorem shaped_none : SeqAt.shaped .none = true := by simp [SeqAt.shaped, PyData.canLay0, PyData.depth]
theorem shaped_bool (b : Bool) : SeqAt.shaped (.bool b) = true := by simp [SeqAt.shaped, PyData.canLay0, PyData.depth]
@[simp] theorem gEq_int (i j : Int) (S : Sto) : gEqB false (.int i) (.int j) S = .ok (.bl (decide (i = j))) S := by simp [gEqB, toPy, shaped_int, PyData.eqv, Int.beq_eq_decide_eq]
@[simp] theorem gNe_int (i j : Int) (S : Sto) : gEqB true (.int i) (.int j) S = .ok (.bl (!decide (i = j))) S := by simp [gEqB, toPy, shaped_int, PyData.eqv, Int.beq_eq_decide_eq]
/-- a test that an int is an int -/
@[simp] theorem gEq_nn (S : Sto) : gEqB false .non .non S = .ok (.bl true) S := by simp [gEqB, toPy, shaped_none, PyData.eqv]
@[simp] theorem gNe_nn (S : Sto) : gEqB true .non .non S = .ok (.bl false) S := by simp [gEqB, toPy, shaped_none, PyData.eqv]
@[simp] theorem gEq_ni (i : Int) (S : Sto) : gEqB false .non (.int i) S = .ok (.bl false) S := by simp [gEqB, toPy, shaped_none, shaped_int, PyData.eqv]
@[simp] theorem gNe_ni (i : Int) (S : Sto) : gEqB true .non (.int i) S = .ok (.bl true) S := by simp [gEqB, toPy, shaped_none, shaped_int, PyData.eqv]
@[simp] theorem gEq_in (i : Int) (S : Sto) : gEqB false (.int i) .non S = .ok (.bl false) S := by simp [gEqB, toPy, shaped_none, shaped_int, PyData.eqv]
@[simp] theorem gNe_in (i : Int) (S : Sto) : gEqB true (.int i) .non S = .ok (.bl true) S := by simp [gEqB, toPy, shaped_none, shaped_int, PyData.eqv]
@[simp] theorem gEq_bb (i j : Bool) (S : Sto) : gEqB false (.bl i) (.bl j) S = .ok (.bl (i == j)) S := by simp [gEqB, toPy, shaped_bool, PyData.eqv]
@[simp] theorem gNe_bb (i j : Bool) (S : Sto) : gEqB true (.bl i) (.bl j) S = .ok (.bl (!(i == j))) S := by simp [gEqB, toPy, shaped_bool, PyData.eqv]
end DL
/-! what does not look at the store: a value reckoned in the empty store holds in all -/
namespace DL
open PySem L2
def SF {α : Type} (r : Sto → R α) : Prop := r [] = .bad ∨ (∃ a, ∀ S, r S = .ok a S) ∨ ∃ e, ∀ S, r S = .ex e S
def SG (m : Sto → F) : Prop := m [] = .bad ∨ (∃ ρ, ∀ S, m S = .nx ρ S) ∨ (∃ d, ∀ S, m S = .rt d S) ∨ (∃ ρ, ∀ S, m S = .bk ρ S) ∨ (∃ ρ, ∀ S, m S = .ct ρ S) ∨ ∃ e ρ, ∀ S, m S = .ex e ρ S
def OC {α : Type} (q : Sto → Option α) : Prop := q [] = none ∨ ∃ a, ∀ S, q S = some a
def SFE (f : Ee) : Prop := ∀ ρ, SF (f ρ)
def SFT (f : Et) : Prop := ∀ ρ, SF (f ρ)
def SFA (f : Ea) : Prop := ∀ ρ, SF (f ρ)
def SFI (f : Es) : Prop := ∀ ρ, SF (f ρ)
def SFO (f : Eo) : Prop := ∀ ρ, SF (f ρ)
def SFS (m : Sm) : Prop := ∀ ρ, SG (m ρ)
def SFC (g : Gc) : Prop := ∀ ds, SF (g ds)
def SF2 (g : D → D → Sto → R D) : Prop := ∀ a b, SF (g a b)
def SFM (g : D → List D → Sto → R D) : Prop := ∀ a b, SF (g a b)
def SFG (g : Tg) : Prop := ∀ d ρ, SG (g d ρ)
def SFGs (g : Tgs) : Prop := ∀ d ρ, SG (g d ρ)
section
variable {α β : Type}
theorem SF.bd : SF (fun _ => (.bad : R α)) := .inl rfl
theorem SF.ok (a : α) : SF (fun S => .ok a S) := .inr (.inl ⟨a, fun _ => rfl⟩)
theorem SF.raise (e : Exn) : SF (fun S => (.ex e S : R α)) := .inr (.inr ⟨e, fun _ => rfl⟩)
theorem SF.bind {r : Sto → R α} {k : α → Sto → R β} (h : SF r) (q : ∀ a, SF (k a)) : SF fun S => (r S).bind k := by
  rcases h with h | ⟨a, h⟩ | ⟨e, h⟩
  · exact .inl (by simp only [h, R.bind_bad])
  · rcases q a with q | ⟨b, q⟩ | ⟨e, q⟩
    · exact .inl (by simp only [h, R.bind_ok, q])
    · exact .inr (.inl ⟨b, fun S => by simp only [h, R.bind_ok, q]⟩)
    · exact .inr (.inr ⟨e, fun S => by simp only [h, R.bind_ok, q]⟩)
  · exact .inr (.inr ⟨e, fun S => by simp only [h, R.bind_ex]⟩)
theorem SF.calm {r : Sto → R α} (h : SF r) : SF fun S => (r S).calm := by
  rcases h with h | ⟨a, h⟩ | ⟨e, h⟩
  · exact .inl (by simp only [h, R.calm_bad])
  · exact .inr (.inl ⟨a, fun S => by simp only [h, R.calm_ok]⟩)
  · exact .inl (by simp only [h]; rfl)
theorem SF.ite {c : Prop} [Decidable c] {r : Sto → R α} (h : SF r) : SF fun S => if c then r S else .bad := by
  by_cases hc : c
  · simp only [hc, if_true]; exact h
  · simp only [hc, if_false]; exact .bd
theorem SF.iteok {c : Prop} [Decidable c] {a : α} : SF fun S => if c then .ok a S else .bad := SF.ite (.ok a)
theorem SF.eq {r r' : Sto → R α} (h : SF r) (e : ∀ S, r' S = r S) : SF r' := by
  have : r' = r := funext e
  rw [this]; exact h
theorem SF.omatch {q : Sto → Option α} {f : α → Sto → R β} (h : OC q) (k : ∀ a, SF (f a)) {r : Sto → R β} (e1 : ∀ S a, q S = some a → r S = f a S) (e2 : ∀ S, q S = none → r S = .bad) : SF r := by
  rcases h with h | ⟨a, h⟩
  · exact .inl (e2 _ h)
  · exact (k a).eq fun S => e1 S a (h S)
theorem view_sf (d : D) : (∃ n, d = .obj n) ∨ ∀ S, view S d = d := by
  cases d with
  | obj n => exact .inl ⟨n, rfl⟩
  | _ => exact .inr fun S => rfl
theorem SG.bd : SG (fun _ => .bad) := .inl rfl
theorem SG.nx (ρ : Rho) : SG (fun S => .nx ρ S) := .inr (.inl ⟨ρ, fun _ => rfl⟩)
theorem SG.rt (d : D) : SG (fun S => .rt d S) := .inr (.inr (.inl ⟨d, fun _ => rfl⟩))
theorem SG.bk (ρ : Rho) : SG (fun S => .bk ρ S) := .inr (.inr (.inr (.inl ⟨ρ, fun _ => rfl⟩)))
theorem SG.ct (ρ : Rho) : SG (fun S => .ct ρ S) := .inr (.inr (.inr (.inr (.inl ⟨ρ, fun _ => rfl⟩))))
theorem SG.ex (e : Exn) (ρ : Rho) : SG (fun S => .ex e ρ S) := .inr (.inr (.inr (.inr (.inr ⟨e, ρ, fun _ => rfl⟩))))
theorem SG.eq {r r' : Sto → F} (h : SG r) (e : ∀ S, r' S = r S) : SG r' := by
  have : r' = r := funext e
  rw [this]; exact h
/-- by what it is in the empty store -/
theorem SG.cases {m : Sto → F} (h : SG m) {q : F → F} (hb : q .bad = .bad) (n : ∀ ρ, SG fun S => q (.nx ρ S)) (r : ∀ d, SG fun S => q (.rt d S)) (b : ∀ ρ, SG fun S => q (.bk ρ S)) (c : ∀ ρ, SG fun S => q (.ct ρ S)) (x : ∀ e ρ, SG fun S => q (.ex e ρ S)) : SG fun S => q (m S) := by
  rcases h with h | ⟨ρ, h⟩ | ⟨d, h⟩ | ⟨ρ, h⟩ | ⟨ρ, h⟩ | ⟨e, ρ, h⟩
  · exact .inl (by simp only [h, hb])
  · exact (n ρ).eq fun S => by rw [h]
  · exact (r d).eq fun S => by rw [h]
  · exact (b ρ).eq fun S => by rw [h]
  · exact (c ρ).eq fun S => by rw [h]
  · exact (x e ρ).eq fun S => by rw [h]
theorem SG.ofR {r : Sto → R α} {ρ : Rho} {k : α → Sto → F} (h : SF r) (q : ∀ a, SG (k a)) : SG fun S => F.ofR (r S) ρ k := by
  rcases h with h | ⟨a, h⟩ | ⟨e, h⟩
  · exact .inl (by simp only [h, DL.F.ofR_bad])
  · exact (q a).eq fun S => by simp only [h, DL.F.ofR_ok]
  · exact (SG.ex e ρ).eq fun S => by simp only [h, DL.F.ofR_ex]
theorem SG.seq {m : Sto → F} {k : Sm} (h : SG m) (q : SFS k) : SG fun S => (m S).seq k :=
  h.cases (q := fun f => f.seq k) rfl (fun ρ => q ρ) (fun d => .rt d) (fun ρ => .bk ρ) (fun ρ => .ct ρ) fun e ρ => .ex e ρ
theorem SG.turn {m : Sto → F} {k : Sm} (h : SG m) (q : SFS k) : SG fun S => (m S).turn k :=
  h.cases (q := fun f => f.turn k) rfl (fun ρ => q ρ) (fun d => .rt d) (fun ρ => .nx ρ) (fun ρ => q ρ) fun e ρ => .ex e ρ
theorem SG.on {m : Sto → F} (h : SG m) : SG fun S => (m S).on :=
  h.cases (q := fun f => f.on) rfl (fun ρ => .nx ρ) (fun d => .bd) (fun ρ => .bd) (fun ρ => .bd) fun e ρ => .ex e ρ
end
/-! ### the operations -/
theorem sf2_of {g : D → D → Sto → R D} (h0 : ∀ n b, g (.obj n) b [] = .bad) (h1 : ∀ a m, g a (.obj m) [] = .bad) (h2 : ∀ a b, (∀ S, view S a = a) → (∀ S, view S b = b) → SF (g a b)) : SF2 g := by
  intro a b
  rcases view_sf a with ⟨n, rfl⟩ | ha
  · exact .inl (h0 n b)
  · rcases view_sf b with ⟨m, rfl⟩ | hb
    · exact .inl (h1 a m)
    · exact h2 a b ha hb
theorem sf_gAdd : SF2 gAdd := sf2_of (by intro n b; cases b <;> rfl) (by intro a m; cases a <;> rfl) (by
  intro a b ha hb
  unfold gAdd
  simp only [ha, hb]
  split <;> first | exact .iteok | exact .ok _ | exact .bd | (split <;> first | exact .iteok | exact .ok _ | exact .bd))
theorem sf_gSub : SF2 gSub := sf2_of (by intro n b; cases b <;> rfl) (by intro a m; cases a <;> rfl) (by
  intro a b ha hb
  unfold gSub
  simp only [ha, hb]
  split <;> first | exact .iteok | exact .ok _ | exact .bd | (split <;> first | exact .iteok | exact .ok _ | exact .bd))
theorem sf_gMul : SF2 gMul := sf2_of (by intro n b; cases b <;> rfl) (by intro a m; cases a <;> rfl) (by
  intro a b ha hb
  unfold gMul
  simp only [ha, hb]
  split <;> first | exact .iteok | exact .ok _ | exact .bd | (split <;> first | exact .iteok | exact .ok _ | exact .bd))
theorem sf_gDiv : SF2 gDiv := sf2_of (by intro n b; cases b <;> rfl) (by intro a m; cases a <;> rfl) (by
  intro a b ha hb
  unfold gDiv
  simp only [ha, hb]
  split <;> first | exact .iteok | exact .ok _ | exact .bd | (split <;> first | exact .iteok | exact .ok _ | exact .bd))
theorem sf_gMod : SF2 gMod := sf2_of (by intro n b; cases b <;> rfl) (by intro a m; cases a <;> rfl) (by
  intro a b ha hb
  unfold gMod
  simp only [ha, hb]
  split <;> first | exact .iteok | exact .ok _ | exact .bd | (split <;> first | exact .iteok | exact .ok _ | exact .bd))
theorem sf_gPow : SF2 gPow := sf2_of (by intro n b; cases b <;> rfl) (by intro a m; cases a <;> rfl) (by
  intro a b ha hb
  unfold gPow
  simp only [ha, hb]
  split <;> first | exact .iteok | exact .ok _ | exact .bd | (split <;> first | exact .iteok | exact .ok _ | exact .bd))
theorem sf_gI2 (p : Int → Int → Bool) : SF2 (gI2 p) := sf2_of (by intro n b; cases b <;> rfl) (by intro a m; cases a <;> rfl) (by
  intro a b ha hb
  unfold gI2
  simp only [ha, hb]
  split <;> first | exact .iteok | exact .ok _ | exact .bd | (split <;> first | exact .iteok | exact .ok _ | exact .bd))
theorem sf_gEqB (neg : Bool) : SF2 (gEqB neg) := sf2_of (by intro n b; rfl) (by intro a m; unfold gEqB; cases toPy (view [] a) <;> rfl) (by
  intro a b ha hb
  unfold gEqB
  simp only [ha, hb]
  split
  · exact .iteok
  · exact .bd)
theorem sf_gIsN : SF2 gIsN := by
  intro a b
  cases b <;> first | exact .ok _ | exact .bd
theorem sf_gNotN : SF2 gNotN := by
  intro a b
  cases b <;> first | exact .ok _ | exact .bd
theorem sf_gInB (neg : Bool) : SF2 (gInB neg) := by
  intro a b
  rcases view_sf b with ⟨m, rfl⟩ | hb
  · exact .inl rfl
  · unfold gInB
    simp only [hb]
    split
    · split
      · exact .ok _
      · split
        · exact .iteok
        · exact .bd
    · exact .iteok
    · exact .bd
theorem sf_gIdx : SF2 gIdx := by
  intro a b
  rcases view_sf a with ⟨m, rfl⟩ | ha
  · exact .inl rfl
  · unfold gIdx
    simp only [ha]
    split
    · split <;> first | exact .ok _ | exact .bd
    · split <;> first | exact .ok _ | exact .bd
    · split <;> first | exact .ok _ | exact .bd
    · refine .ite ?_
      split <;> first | exact .ok _ | exact .bd
    · exact .bd
theorem sf_gInS : SF2 gInS := by
  intro a b
  unfold gInS
  split <;> first | exact .ok _ | exact .bd
/-! ### calls -/
theorem sf_1 {g : Gc} (h : ∀ d, (∀ S, view S d = d) → SF (g [d])) (h0 : ∀ n, g [.obj n] [] = .bad) (h1 : SF (g [])) (h2 : ∀ a b r, SF (g (a :: b :: r))) : SFC g
  | [] => h1
  | [d] => by
    rcases view_sf d with ⟨n, rfl⟩ | hd
    · exact .inl (h0 n)
    · exact h d hd
  | a :: b :: r => h2 a b r
theorem sf_gLen : SFC gLen := sf_1 (by
  intro d hd
  unfold gLen
  simp only [hd]
  split <;> first | exact .iteok | exact .ok _ | exact .bd | (split <;> first | exact .iteok | exact .ok _ | exact .bd)) (fun n => rfl) .bd (fun a b r => .bd)
theorem sf_gAll : SFC gAll := sf_1 (by
  intro d hd
  unfold gAll
  simp only [hd]
  split <;> first | exact .iteok | exact .ok _ | exact .bd | (split <;> first | exact .iteok | exact .ok _ | exact .bd)) (fun n => rfl) .bd (fun a b r => .bd)
theorem sf_gTuple : SFC gTuple := sf_1 (by
  intro d hd
  unfold gTuple
  simp only [hd]
  split <;> first | exact .iteok | exact .ok _ | exact .bd | (split <;> first | exact .iteok | exact .ok _ | exact .bd)) (fun n => rfl) .bd (fun a b r => .bd)
theorem sf_gList : SFC gList := sf_1 (by
  intro d hd
  unfold gList
  simp only [hd]
  split <;> first | exact .iteok | exact .ok _ | exact .bd | (split <;> first | exact .iteok | exact .ok _ | exact .bd)) (fun n => rfl) .bd (fun a b r => .bd)
theorem sf_gSum : SFC gSum := sf_1 (by
  intro d hd
  unfold gSum
  simp only [hd]
  split <;> first | exact .iteok | exact .ok _ | exact .bd | (split <;> first | exact .iteok | exact .ok _ | exact .bd)) (fun n => rfl) .bd (fun a b r => .bd)
theorem sf_gSorted : SFC gSorted := sf_1 (by
  intro d hd
  unfold gSorted
  simp only [hd]
  split <;> first | exact .iteok | exact .ok _ | exact .bd | (split <;> first | exact .iteok | exact .ok _ | exact .bd)) (fun n => rfl) .bd (fun a b r => .bd)
theorem sf_gAbs : SFC gAbs := by
  intro ds
  unfold gAbs
  split <;> first | exact .ok _ | exact .bd
theorem sf_gInt : SFC gInt := by
  intro ds
  unfold gInt
  split <;> first | exact .ok _ | exact .bd
theorem sf_gBool : SFC gBool := by
  intro ds
  unfold gBool
  split <;> first | exact .ok _ | exact .bd
theorem sf_gMax : SFC gMax := by
  intro ds
  unfold gMax
  split
  · exact .ok _
  · rename_i d
    rcases view_sf d with ⟨n, rfl⟩ | hd
    · exact .inl rfl
    · simp only [hd]
      split
      · split <;> first | exact .ok _ | exact .bd
      · exact .bd
  · exact .bd
theorem sf_gMin : SFC gMin := by
  intro ds
  unfold gMin
  split
  · exact .ok _
  · rename_i d
    rcases view_sf d with ⟨n, rfl⟩ | hd
    · exact .inl rfl
    · simp only [hd]
      split
      · split <;> first | exact .ok _ | exact .bd
      · exact .bd
  · exact .bd
theorem sf_gStr : SFC gStr := by
  intro ds
  unfold gStr
  split <;> first | exact .iteok | exact .ok _ | exact .bd
theorem sf_gIntT : SFC gIntT := by
  intro ds
  unfold gIntT
  split
  · refine .ite ?_
    split <;> first | exact .ok _ | exact .bd
  · exact .bd
theorem sf_gJoinM : SFM gJoinM := by
  intro a ds
  unfold gJoinM
  split
  · rename_i x
    rcases view_sf x with ⟨n, rfl⟩ | hd
    · exact .inl rfl
    · simp only [hd]
      split
      · split <;> first | exact .iteok | exact .bd
      · split <;> first | exact .iteok | exact .bd
      · exact .bd
  · exact .bd
theorem sf_gSplitM : SFM gSplitM := by
  intro a ds
  unfold gSplitM
  split <;> first | exact .iteok | exact .bd
theorem sf_gIndexM : SFM gIndexM := by
  intro a ds
  unfold gIndexM
  rcases view_sf a with ⟨n, rfl⟩ | hd
  · exact .inl rfl
  · simp only [hd]
    split
    · first | exact .iteok | (split <;> first | exact .iteok | exact .ok _ | exact .bd | (split <;> first | exact .iteok | exact .ok _ | exact .bd))
    · exact .bd
/-! ### expressions -/
section
variable {f f1 a b c o : Ee} {t u : Et} {g g' : D → D → Sto → R D} {fs : List Ee} {s s1 : Es} {lo hi : Eo}
theorem sfe_var (i : Nat) : SFE (eVar i) := by
  intro ρ
  unfold eVar
  split <;> first | exact .ok _ | exact .bd
theorem sfe_K (d : D) : SFE (eK d) := fun ρ => .ok d
theorem sfe_bad : SFE eBad := fun ρ => .bd
theorem sfe_bin (hg : SF2 g) (ha : SFE a) (hb : SFE b) : SFE (eBin g a b) := fun ρ => (ha ρ).bind fun x => (hb ρ).bind fun y => hg x y
theorem sft_tb (ha : SFE a) : SFT (eTb a) := fun ρ => (ha ρ).bind fun x => by
  cases x <;> first | exact .ok _ | exact .bd
theorem sfe_chain (hg : SF2 g) (hg' : SF2 g') (ha : SFE a) (hb : SFE b) (hc : SFE c) : SFE (eChain g g' a b c) := fun ρ => (ha ρ).bind fun x => (hb ρ).bind fun y => (hg x y).bind fun z => by
  cases z with
  | bl k => cases k with
    | true => exact (hc ρ).bind fun v => hg' y v
    | false => exact .ok _
  | _ => exact .bd
theorem sfe_neg (ha : SFE a) : SFE (eNeg a) := fun ρ => (ha ρ).bind fun x => by
  rcases view_sf x with ⟨n, rfl⟩ | hd
  · exact .inl rfl
  · simp only [hd]
    split <;> first | exact .ok _ | exact .bd
theorem tru_oc (x : D) : OC (fun S => gTru S x) := by
  rcases view_sf x with ⟨n, rfl⟩ | hd
  · exact .inl rfl
  · unfold gTru
    simp only [hd]
    cases x with
    | str y =>
      dsimp only
      by_cases c : y.length ≤ 16777216
      · simp only [c, if_true]; exact .inr ⟨_, fun _ => rfl⟩
      · simp only [c, if_false]; exact .inl rfl
    | _ => first | exact .inr ⟨_, fun _ => rfl⟩ | exact .inl rfl
theorem sft_tr (ha : SFE a) : SFT (eTr a) := fun ρ => (ha ρ).bind fun x => .omatch (tru_oc x) (f := fun k S => .ok k S) (fun k => .ok k) (fun S k e => by simp only [e]) fun S e => by simp only [e]
theorem sft_not (ha : SFT t) : SFT (eNotT t) := fun ρ => (ha ρ).bind fun k => .ok _
theorem sfe_not (ha : SFE a) : SFE (eNot a) := fun ρ => (ha ρ).bind fun x => .omatch (tru_oc x) (f := fun k S => .ok (.bl !k) S) (fun k => .ok _) (fun S k e => by simp only [e]) fun S e => by simp only [e]
theorem sfe_and (ha : SFE a) (hb : SFE b) : SFE (eAnd a b) := fun ρ => (ha ρ).bind fun x => .omatch (tru_oc x) (f := fun k S => match k with | true => b ρ S | false => .ok x S) (fun k => by cases k; exact .ok _; exact hb ρ) (fun S k e => by simp only [e]; cases k <;> rfl) fun S e => by simp only [e]
theorem sfe_or (ha : SFE a) (hb : SFE b) : SFE (eOr a b) := fun ρ => (ha ρ).bind fun x => .omatch (tru_oc x) (f := fun k S => match k with | true => .ok x S | false => b ρ S) (fun k => by cases k; exact hb ρ; exact .ok _) (fun S k e => by simp only [e]; cases k <;> rfl) fun S e => by simp only [e]
theorem sft_and (ha : SFT t) (hb : SFT u) : SFT (eAndT t u) := fun ρ => (ha ρ).bind fun k => by
  cases k
  · exact .ok _
  · exact hb ρ
theorem sft_or (ha : SFT t) (hb : SFT u) : SFT (eOrT t u) := fun ρ => (ha ρ).bind fun k => by
  cases k
  · exact hb ρ
  · exact .ok _
theorem sfe_if (ht : SFT t) (ha : SFE a) (hb : SFE b) : SFE (eIf t a b) := fun ρ => (ht ρ).bind fun k => by
  cases k
  · exact hb ρ
  · exact ha ρ
theorem sfa_nil : SFA (eArgs []) := fun ρ => .ok []
theorem sfa_cons (ha : SFE a) (hr : SFA (eArgs fs)) : SFA (eArgs (a :: fs)) := fun ρ => (ha ρ).bind fun x => (hr ρ).bind fun xs => .ok _
theorem sfe_tup (h : SFA (eArgs fs)) : SFE (eTup fs) := fun ρ => (h ρ).bind fun xs => .ok _
theorem sfe_lst (h : SFA (eArgs fs)) : SFE (eLst fs) := fun ρ => (h ρ).bind fun xs => .ok _
theorem sfe_call {g : Gc} (hg : SFC g) (h : SFA (eArgs fs)) : SFE (eCall g fs) := fun ρ => (h ρ).bind fun xs => hg xs
theorem sfo_no : SFO eNo := fun ρ => .ok _
theorem sfo_part (ha : SFE a) : SFO (ePart a) := fun ρ => (ha ρ).bind fun x => by
  rcases view_sf x with ⟨n, rfl⟩ | hd
  · exact .inl rfl
  · simp only [hd]
    split <;> first | exact .ok _ | exact .bd
theorem sfe_sl (ha : SFE a) (hl : SFO lo) (hh : SFO hi) : SFE (eSl a lo hi) := fun ρ => (ha ρ).bind fun x => (hl ρ).bind fun l => (hh ρ).bind fun u => by
  rcases view_sf x with ⟨n, rfl⟩ | hd
  · exact .inl rfl
  · unfold gCut
    simp only [hd]
    split <;> first | exact .iteok | exact .ok _ | exact .bd
theorem sfe_rev (ha : SFE a) : SFE (eRev a) := fun ρ => (ha ρ).bind fun x => by
  rcases view_sf x with ⟨n, rfl⟩ | hd
  · exact .inl rfl
  · unfold gRev
    simp only [hd]
    split <;> first | exact .iteok | exact .ok _ | exact .bd
theorem sfe_isi (k : Nat) (ha : SFE a) : SFE (eIsi k a) := fun ρ => (ha ρ).bind fun x => by
  cases x <;> first | exact .ok _ | exact .inl rfl
theorem sfe_meth {T : String} {m : D → List D → Sto → R D} (hm : SFM m) (ha : SFE o) (h : SFA (eArgs fs)) : SFE (eMeth T m o fs) := fun ρ => (ha ρ).bind fun x => by
  rcases view_sf x with ⟨n, rfl⟩ | hd
  · exact .inl (by unfold isT; simp only [view, List.getElem?_nil]; rfl)
  · have e : ∀ S, isT T S x = isT T [] x := fun S => by unfold isT; rw [hd S, hd []]
    refine (SF.ite (c := isT T [] x = true) ((h ρ).bind fun xs => hm x xs)).eq fun S => ?_
    rw [e S]
theorem its_oc (x : D) : OC (fun S => itsOf S x) := by
  rcases view_sf x with ⟨n, rfl⟩ | hd
  · exact .inl rfl
  · unfold itsOf
    simp only [hd]
    cases x <;> first | exact .inr ⟨_, fun _ => rfl⟩ | exact .inl rfl
theorem sfi_it (ha : SFE a) : SFI (eItS a) := fun ρ => (ha ρ).bind fun x => .omatch (its_oc x) (f := fun k S => .ok (.it x) S) (fun k => .ok _) (fun S k e => by simp only [e]) fun S e => by simp only [e]
theorem sfi_st (ha : SFE a) : SFI (eStS a) := fun ρ => (ha ρ).bind fun x => by
  cases x <;> first | exact .iteok | exact .ok _ | exact .bd
theorem sfi_rng1 (ha : SFE a) : SFI (eRng1 a) := fun ρ => (sfa_cons ha sfa_nil ρ).bind fun xs => by
  split <;> first | exact .iteok | exact .bd
theorem sfi_rng2 (ha : SFE a) (hb : SFE b) : SFI (eRng2 a b) := fun ρ => (sfa_cons ha (sfa_cons hb sfa_nil) ρ).bind fun xs => by
  split <;> first | exact .iteok | exact .bd
theorem sfi_en (ha : SFE a) : SFI (eEn a) := fun ρ => (sfa_cons ha sfa_nil ρ).bind fun xs => by
  split
  · rename_i d
    refine .ite ?_
    exact .omatch (its_oc d) (f := fun k S => .ok (.en d) S) (fun k => .ok _) (fun S k e => by simp only [e]) fun S e => by simp only [e]
  · exact .bd
theorem sfe_lrg1 (ha : SFE a) : SFE (eListRg1 a) := fun ρ => (ha ρ).bind fun x => by
  split <;> first | exact .iteok | exact .ok _ | exact .bd | (split <;> first | exact .iteok | exact .ok _ | exact .bd)
theorem sfe_lrg2 (ha : SFE a) (hb : SFE b) : SFE (eListRg2 a b) := fun ρ => (ha ρ).bind fun x => (hb ρ).bind fun y => by
  split <;> first | exact .iteok | exact .ok _ | exact .bd | (split <;> first | exact .iteok | exact .ok _ | exact .bd | (split <;> first | exact .ok _ | exact .bd))
theorem len_oc (s : Src) : OC (fun S => srcLen S s) := by
  cases s with
  | it d =>
    rcases its_oc d with h | ⟨a, h⟩
    · exact .inl (by simp only [srcLen, h])
    · exact .inr ⟨a.length, fun S => by simp only [srcLen, h]⟩
  | rng l n => exact .inr ⟨n, fun S => rfl⟩
  | en d =>
    rcases its_oc d with h | ⟨a, h⟩
    · exact .inl (by simp only [srcLen, h])
    · exact .inr ⟨a.length, fun S => by simp only [srcLen, h]⟩
  | zp d e =>
    rcases its_oc d with h | ⟨a, h⟩
    · exact .inl (by simp only [srcLen, h])
    · rcases its_oc e with h2 | ⟨b, h2⟩
      · exact .inl (by simp only [srcLen, h, h2])
      · exact .inr ⟨min a.length b.length, fun S => by simp only [srcLen, h, h2]⟩
  | st x => exact .inr ⟨_, fun S => rfl⟩
theorem at_oc (s : Src) (i : Nat) : OC (fun S => srcAt S i s) := by
  cases s with
  | it d =>
    rcases its_oc d with h | ⟨a, h⟩
    · exact .inl (by simp only [srcAt, h])
    · cases e : a[i]? with
      | none => exact .inl (by simp only [srcAt, h, e])
      | some x => exact .inr ⟨x, fun S => by simp only [srcAt, h, e]⟩
  | rng l n =>
    by_cases c : i < n
    · exact .inr ⟨.int (l + i), fun S => by simp only [srcAt, if_pos c]⟩
    · exact .inl (by simp only [srcAt, if_neg c])
  | en d =>
    rcases its_oc d with h | ⟨a, h⟩
    · exact .inl (by simp only [srcAt, h])
    · cases e : a[i]? with
      | none => exact .inl (by simp only [srcAt, h, e])
      | some x => exact .inr ⟨.tup [.int i, x], fun S => by simp only [srcAt, h, e]⟩
  | zp d e =>
    rcases its_oc d with h | ⟨a, h⟩
    · exact .inl (by simp only [srcAt, h])
    · rcases its_oc e with h2 | ⟨b, h2⟩
      · exact .inl (by simp only [srcAt, h, h2])
      · cases e1 : a[i]? with
        | none => exact .inl (by simp only [srcAt, h, h2, e1])
        | some x => cases e2 : b[i]? with
          | none => exact .inl (by simp only [srcAt, h, h2, e1, e2])
          | some y => exact .inr ⟨.tup [x, y], fun S => by simp only [srcAt, h, h2, e1, e2]⟩
  | st x =>
    cases e : x.cps[i]? with
    | none => exact .inl (by simp only [srcAt, e])
    | some c => exact .inr ⟨.str ⟨#[c]⟩, fun S => by simp only [srcAt, e]⟩
theorem sf_lcLoop {c : Ct} (ht : SFT t) (he : SFE a) : ∀ (k i : Nat) (s : Src) (ρ : Rho), SF (lcLoop s c t a k i ρ)
  | 0, i, s, ρ => .omatch (len_oc s) (f := fun n S => if n ≤ i then .ok [] S else .bad) (fun n => .iteok) (fun S n e => by simp only [lcLoop, e]) fun S e => by simp only [lcLoop, e]
  | k + 1, i, s, ρ => by
    refine .omatch (at_oc s i) (f := fun x S => match c.put x ρ with
      | some ρ1 => (t ρ1 S).calm.bind fun b S2 => match b with
        | true => (a ρ1 S2).calm.bind fun y S3 => (lcLoop s c t a k (i + 1) ρ S3).bind fun ys S4 => .ok (y :: ys) S4
        | false => lcLoop s c t a k (i + 1) ρ S2
      | none => .bad) (fun x => ?_) (fun S n e => by simp only [lcLoop, e]; try rfl) fun S e => by simp only [lcLoop, e]
    cases c.put x ρ with
    | none => exact .bd
    | some ρ1 =>
      refine (ht ρ1).calm.bind fun b => ?_
      cases b with
      | false => exact sf_lcLoop ht he k (i + 1) s ρ
      | true => exact (he ρ1).calm.bind fun y => (sf_lcLoop ht he k (i + 1) s ρ).bind fun ys => .ok _
theorem sfe_lc {c : Ct} {ws : List Nat} (hs : SFI s) (ht : SFT t) (he : SFE a) : SFE (eLc s c t a ws) := fun ρ => (hs ρ).bind fun x =>
  .omatch (len_oc x) (f := fun n S => if n ≤ 16777216 then (lcLoop x c t a n 0 (wipeR ρ ws) S).calm.bind fun ys S2 => .ok (.lst ys) S2 else .bad) (fun n => .ite ((sf_lcLoop ht he n 0 x _).calm.bind fun ys => .ok _)) (fun S n e => by simp only [e]) fun S e => by simp only [e]
theorem sf_lc2Loop {c c1 : Ct} {t1 : Et} {ws1 : List Nat} (ht : SFT t) (hs1 : SFI s1) (ht1 : SFT t1) (he : SFE a) : ∀ (k i : Nat) (s : Src) (ρ : Rho), SF (lc2Loop s c t s1 c1 t1 a ws1 k i ρ)
  | 0, i, s, ρ => .omatch (len_oc s) (f := fun n S => if n ≤ i then .ok [] S else .bad) (fun n => .iteok) (fun S n e => by simp only [lc2Loop, e]) fun S e => by simp only [lc2Loop, e]
  | k + 1, i, s, ρ => by
    refine .omatch (at_oc s i) (f := fun x S => match c.put x ρ with
      | some ρ1 => (t ρ1 S).calm.bind fun b S2 => match b with
        | true => (s1 ρ1 S2).calm.bind fun s1' S3 => match srcLen S3 s1' with
          | some n1 => if n1 ≤ 1000 then (lcLoop s1' c1 t1 a n1 0 (wipeR ρ1 ws1) S3).calm.bind fun ys S4 => (lc2Loop s c t s1 c1 t1 a ws1 k (i + 1) ρ S4).calm.bind fun zs S5 => .ok (ys ++ zs) S5 else .bad
          | none => .bad
        | false => lc2Loop s c t s1 c1 t1 a ws1 k (i + 1) ρ S2
      | none => .bad) (fun x => ?_) (fun S n e => by simp only [lc2Loop, e]; try rfl) fun S e => by simp only [lc2Loop, e]
    cases c.put x ρ with
    | none => exact .bd
    | some ρ1 =>
      refine (ht ρ1).calm.bind fun b => ?_
      cases b with
      | false => exact sf_lc2Loop ht hs1 ht1 he k (i + 1) s ρ
      | true => exact (hs1 ρ1).calm.bind fun y => .omatch (len_oc y) (f := fun n1 S3 => if n1 ≤ 1000 then (lcLoop y c1 t1 a n1 0 (wipeR ρ1 ws1) S3).calm.bind fun ys S4 => (lc2Loop s c t s1 c1 t1 a ws1 k (i + 1) ρ S4).calm.bind fun zs S5 => .ok (ys ++ zs) S5 else .bad) (fun n => .ite ((sf_lcLoop ht1 he n 0 y _).calm.bind fun ys => (sf_lc2Loop ht hs1 ht1 he k (i + 1) s ρ).calm.bind fun zs => .ok _)) (fun S n e => by simp only [e]) fun S e => by simp only [e]
theorem sfe_lc2 {c c1 : Ct} {t1 : Et} {ws ws1 : List Nat} (hs : SFI s) (ht : SFT t) (hs1 : SFI s1) (ht1 : SFT t1) (he : SFE a) : SFE (eLc2 s c t s1 c1 t1 a ws ws1) := fun ρ => (hs ρ).bind fun x =>
  .omatch (len_oc x) (f := fun n S => if n ≤ 1000 then (lc2Loop x c t s1 c1 t1 a ws1 n 0 (wipeR ρ ws) S).calm.bind fun ys S2 => .ok (.lst ys) S2 else .bad) (fun n => .ite ((sf_lc2Loop ht hs1 ht1 he n 0 x _).calm.bind fun ys => .ok _)) (fun S n e => by simp only [e]) fun S e => by simp only [e]
theorem sft_yes : SFT tYesD := fun ρ => .ok _
end
/-! ### statements -/
section
variable {a b f : Ee} {t : Et} {m k : Sm} {g : Tg} {gs : Tgs} {s : Es}
theorem sfs_nx : SFS sNx := fun ρ => .nx ρ
theorem sfs_bad : SFS sBad := fun ρ => .bd
theorem sfs_bk : SFS sBk := fun ρ => .bk ρ
theorem sfs_ct : SFS sCt := fun ρ => .ct ρ
theorem sfs_rtN : SFS sRtN := fun ρ => .rt _
theorem sfs_raise (x : Str) : SFS (sRaise x) := fun ρ => .ex _ ρ
theorem sfs_seq (h : SFS m) (q : SFS k) : SFS (sSeq m k) := fun ρ => (h ρ).seq q
theorem sfs_ex (h : SFE a) : SFS (sEx a) := fun ρ => .ofR (h ρ) fun _ => .nx ρ
theorem sfs_rt (h : SFE a) : SFS (sRt a) := fun ρ => .ofR (h ρ) fun d => .rt d
theorem sfs_if (h : SFT t) (p : SFS m) (q : SFS k) : SFS (sIf t m k) := fun ρ => .ofR (h ρ) fun b => by
  cases b
  · exact q ρ
  · exact p ρ
theorem sfs_set (i : Nat) (h : SFE a) : SFS (sSet i a) := fun ρ => .ofR (h ρ) fun d => .nx _
theorem sfs_par (i j : Nat) (h : SFE a) (q : SFE b) : SFS (sPar i j a b) := fun ρ => .ofR (h ρ) fun d => .ofR (q ρ) fun e => .nx _
theorem sfg_nm (i : Nat) : SFG (gNm i) := fun d ρ => .nx _
theorem sfgs_nil : SFGs gsNil := fun ds ρ => by
  cases ds
  · exact .nx ρ
  · exact .bd
theorem sfgs_cons (h : SFG g) (q : SFGs gs) : SFGs (gsCons g gs) := fun ds ρ => by
  cases ds with
  | nil => exact .bd
  | cons d r => exact (h d ρ).seq fun ρ => q r ρ
theorem sfg_tp (n : Nat) (q : SFGs gs) : SFG (gTp n gs) := fun d ρ => by
  cases d with
  | tup xs =>
    unfold gTp
    by_cases c : xs.length = n
    · simp only [c, if_true]
      exact q xs ρ
    · simp only [c, if_false]
      exact .bd
  | _ => exact .bd
theorem sfs_st (h : SFE a) (q : SFG g) : SFS (sSt a g) := fun ρ => .ofR (h ρ) fun d => (q d ρ).on
theorem SG.omatch {α : Type} {q : Sto → Option α} {f : α → Sto → F} (h : OC q) (k : ∀ a, SG (f a)) {r : Sto → F} (e1 : ∀ S a, q S = some a → r S = f a S) (e2 : ∀ S, q S = none → r S = .bad) : SG r := by
  rcases h with h | ⟨a, h⟩
  · exact .inl (e2 _ h)
  · exact (k a).eq fun S => e1 S a (h S)
theorem sfs_forLoop (hg : SFG g) (hb : SFS m) (s : Src) : ∀ k i : Nat, SFS (forLoop s g m k i)
  | 0, i => fun ρ => .omatch (len_oc s) (f := fun n S => if n ≤ i then .nx ρ S else .bad) (fun n => by
      by_cases c : n ≤ i
      · simp only [c, if_true]; exact .nx ρ
      · simp only [c, if_false]; exact .bd) (fun S n e => by simp only [forLoop, e]) fun S e => by simp only [forLoop, e]
  | k + 1, i => fun ρ => .omatch (at_oc s i) (f := fun x S => (g x ρ S).on.seq fun ρ1 S1 => (m ρ1 S1).turn (forLoop s g m k (i + 1))) (fun x => (hg x ρ).on.seq fun ρ1 => (hb ρ1).turn (sfs_forLoop hg hb s k (i + 1)))
      (fun S n e => by simp only [forLoop, e]) fun S e => by simp only [forLoop, e]
theorem sfs_for (hs : SFI s) (hg : SFG g) (hb : SFS m) : SFS (sFor s g m) := fun ρ => .ofR (hs ρ) fun x => .omatch (len_oc x) (f := fun n S => forLoop x g m n 0 ρ S) (fun n => sfs_forLoop hg hb x n 0 ρ) (fun S n e => by simp only [e]) fun S e => by simp only [e]
theorem sfs_wh (ht : SFT t) (hb : SFS m) : ∀ n : Nat, SFS (sWh n t m)
  | 0 => fun ρ => .bd
  | n + 1 => fun ρ => .ofR (ht ρ) fun k => by
    cases k
    · exact .nx ρ
    · exact (hb ρ).turn (sfs_wh ht hb n)
theorem sfc_fnP {n N : Nat} (h : SFS m) : SFC (fnP n N m) := fun ds => by
  have e : fnP n N m ds = fun S => popR S.length (m (ds.map some ++ List.replicate (N - n) none) S).fin := funext fun S => fnP_ap n N m ds S
  rw [e]
  rcases h (ds.map some ++ List.replicate (N - n) none) with h | ⟨ρ, h⟩ | ⟨d, h⟩ | ⟨ρ, h⟩ | ⟨ρ, h⟩ | ⟨x, ρ, h⟩
  · exact .inl (by simp only [h]; rfl)
  · exact .inr (.inl ⟨.non, fun S => by simp only [h]; exact popR_le (Nat.le_refl _)⟩)
  · exact .inr (.inl ⟨d, fun S => by simp only [h]; exact popR_le (Nat.le_refl _)⟩)
  · exact .inl (by simp only [h]; rfl)
  · exact .inl (by simp only [h]; rfl)
  · exact .inr (.inr ⟨x, fun S => by simp only [h]; exact popR_exle (Nat.le_refl _)⟩)
/-- a value reckoned in the empty store -/
theorem sf_val {g : Gc} (h : SFC g) {ds : List D} {d : D} (e : g ds [] = .ok d []) (S : Sto) : g ds S = .ok d S := by
  rcases h ds with h | ⟨a, h⟩ | ⟨x, h⟩
  · rw [h] at e; cases e
  · have := h []
    rw [e] at this
    cases this
    exact h S
  · rw [h] at e; cases e
theorem sf_exn {g : Gc} (h : SFC g) {ds : List D} {x : Exn} (e : g ds [] = .ex x []) (S : Sto) : g ds S = .ex x S := by
  rcases h ds with h | ⟨a, h⟩ | ⟨y, h⟩
  · rw [h] at e; cases e
  · rw [h] at e; cases e
  · have := h []
    rw [e] at this
    cases this
    exact h S
theorem sfe_val {f : Ee} (h : SFE f) {ρ : Rho} {d : D} (e : f ρ [] = .ok d []) (S : Sto) : f ρ S = .ok d S := by
  rcases h ρ with h | ⟨a, h⟩ | ⟨x, h⟩
  · rw [h] at e; cases e
  · have := h []
    rw [e] at this
    cases this
    exact h S
  · rw [h] at e; cases e
end
end DL
namespace DL
open PySem PySem.Spec PyProof.Rows L2
/-! ### the head by facts: what the top leaves is asked of its heap in one run of the kernel -/
/-- a def: where it stands, its names, its statement -/
structure DfD where
  adr : PySem.W.Frag → Addr
  name : Str
  qual : Str
  st : Stmt
def fnObsA (K : PySem.W.Frag) (a : Addr) : He.FnV := match K.lookup a with
  | some ⟨_, _, .func fd, _⟩ => some (fd.name, fd.qualname, fd.params, fd.body, fd.scope, fd.globals, fd.closure, fd.defaults, fd.builtins)
  | _ => none
def DfD.val (d : DfD) : He.FnV := some (d.name, d.qual, defArgs d.st, .stmts (defBody d.st), defScope d.st, mainGlobals, [], .none, builtinsNs)
def DfD.ok (K : PySem.W.Frag) (d : DfD) : Bool := PySem.W.keepIn K (.ref (d.adr K)) && (match K.lookup (d.adr K) with
  | some ⟨_, _, .func fd, _⟩ => PySem.W.codeIn K fd.code d.qual
  | _ => false)
theorem DfD.fn {K : PySem.W.Frag} {d : DfD} (e : fnObsA K (d.adr K) = d.val) (c : d.ok K = true) : ∃ fd, Fun K d.name d.qual d.st (d.adr K) fd := by
  obtain ⟨kp, c2⟩ := He.ba c
  unfold fnObsA at e
  cases q : K.lookup (d.adr K) with
  | none =>
    rw [q] at c2
    cases c2
  | some o =>
    obtain ⟨oc, od, dt, osl⟩ := o
    rw [q] at c2 e
    cases dt with
    | func fd =>
      obtain ⟨n1, n2, n3, n4, n5, n6, n7, n8, n9, n10, n11, n12, n13, n14, n15⟩ := fd
      have e2 : (some (n1, n2, n3, n4, n5, n6, n7, n8, n15) : He.FnV) = some (d.name, d.qual, defArgs d.st, .stmts (defBody d.st), defScope d.st, mainGlobals, [], .none, builtinsNs) := e
      simp only [Option.some.injEq, Prod.mk.injEq] at e2
      obtain ⟨h1, h2, h3, h4, h5, h6, h7, h8, h9⟩ := e2
      subst h1 h2 h3 h4 h5 h6 h7 h8 h9
      exact ⟨_, fun_mk q c2 kp⟩
    | _ => cases c2
abbrev Ck := PySem.W.Frag → Bool
def ck (f : He.Fa) : Ck := fun K => f.ok K
abbrev AlF : Type := Bool × List He.FnV
def obsF (cks : List Ck) (fn : List DfD) (K : PySem.W.Frag) : AlF := ((cks.all fun c => c K) && fn.all fun d => d.ok K, fn.map fun d => fnObsA K (d.adr K))
def valF (fn : List DfD) : AlF := (true, fn.map DfD.val)
def SaysF (cks : List Ck) (fn : List DfD) (K : PySem.W.Frag) : Prop := obsF cks fn K = valF fn
def obsFG (as : (Addr → Option Obj) → List Addr) (cks : List Ck) (fn : List DfD) (g : Addr → Option Obj) : AlF := obsF cks fn (He.frG g (as g))
def hookF (as : (Addr → Option Obj) → List Addr) (cks : List Ck) (fn : List DfD) : PySem.W.Hook where
  α := AlF
  obs := fun s => obsFG as cks fn s.heap.get?
  val := fun _ => valF fn
  says := fun _ h => ∃ K : PySem.W.Frag, K.In h ∧ SaysF cks fn K
  of := fun _ _ e => ⟨_, He.frG_in, e⟩
  keeps := fun _ _ _ ⟨K, hK, c⟩ k => ⟨K, PySem.W.Frag.In.keeps hK k, c⟩
theorem obsFG_eq {as : (Addr → Option Obj) → List Addr} {cks : List Ck} {fn : List DfD} {g : Addr → Option Obj} {s : Shared} (h : ∀ a, g a = s.heap.get? a) : obsFG as cks fn g = (hookF as cks fn).obs s := by
  have e : g = s.heap.get? := funext h
  rw [e] <;> rfl
section
variable {cks : List Ck} {fn : List DfD} {K : PySem.W.Frag}
theorem SaysF.ck (c : SaysF cks fn K) (i : Nat) {f : Ck} (h : cks[i]? = some f := by rfl) : f K = true := by
  have c1 := (He.ba (show ((cks.all fun c => c K) && fn.all fun d => d.ok K) = true from congrArg (fun z : AlF => z.1) c)).1
  exact List.all_eq_true.mp c1 f (List.mem_of_getElem? h)
theorem SaysF.df (c : SaysF cks fn K) (i : Nat) {d : DfD} (h : fn[i]? = some d := by rfl) : ∃ fd, Fun K d.name d.qual d.st (d.adr K) fd := by
  have c2 := (He.ba (show ((cks.all fun c => c K) && fn.all fun d => d.ok K) = true from congrArg (fun z : AlF => z.1) c)).2
  have e : fn.map (fun d => fnObsA K (d.adr K)) = fn.map DfD.val := congrArg (fun z : AlF => z.2) c
  have e2 : (fn.map fun d => fnObsA K (d.adr K))[i]? = (fn.map DfD.val)[i]? := by rw [e]
  rw [List.getElem?_map, List.getElem?_map, h] at e2
  exact DfD.fn (Option.some.inj e2) (List.all_eq_true.mp c2 d (List.mem_of_getElem? h))
end
/-! ### the run, asked in parts -/
theorem obsF_app {c1 c2 : List Ck} {d1 d2 : List DfD} {K : PySem.W.Frag} (h1 : obsF c1 d1 K = valF d1) (h2 : obsF c2 d2 K = valF d2) : obsF (c1 ++ c2) (d1 ++ d2) K = valF (d1 ++ d2) := by
  have a1 : ((c1.all fun c => c K) && d1.all fun d => d.ok K) = true := congrArg (fun z : AlF => z.1) h1
  have a2 : ((c2.all fun c => c K) && d2.all fun d => d.ok K) = true := congrArg (fun z : AlF => z.1) h2
  have b1 : d1.map (fun d => fnObsA K (d.adr K)) = d1.map DfD.val := congrArg (fun z : AlF => z.2) h1
  have b2 : d2.map (fun d => fnObsA K (d.adr K)) = d2.map DfD.val := congrArg (fun z : AlF => z.2) h2
  obtain ⟨p1, q1⟩ := He.ba a1
  obtain ⟨p2, q2⟩ := He.ba a2
  unfold obsF valF
  rw [List.all_append, List.all_append, p1, p2, q1, q2, List.map_append, List.map_append, b1, b2]
  rfl
def RunP (r : PySem.W.OpenRow) (as : (Addr → Option Obj) → List Addr) (cks : List Ck) (dfs : List DfD) (M : Nat) (w : World) : Prop :=
  ∀ os : OsState, (HandSHeadRun.endF (HandSHeadRun.stepQ (HandSHeadRun.denQ HandSHeadRun.tabQ) r.prog w) M r.prog w os).map (fun s => obsFG as cks dfs (HandSHeadRun.getT s)) = some (valF dfs)
section
variable {r : PySem.W.OpenRow} {as : (Addr → Option Obj) → List Addr} {c1 c2 : List Ck} {d1 d2 : List DfD} {M : Nat} {w : World}
theorem RunP.app (h1 : RunP r as c1 d1 M w) (h2 : RunP r as c2 d2 M w) : RunP r as (c1 ++ c2) (d1 ++ d2) M w := fun os => by
  obtain ⟨s, e, q1⟩ := Option.map_eq_some_iff.mp (h1 os)
  obtain ⟨s', e', q2⟩ := Option.map_eq_some_iff.mp (h2 os)
  rw [e] at e'
  cases e'
  rw [e]
  exact congrArg some (obsF_app q1 q2)
theorem RunP.run {q : Program} {loose : List Str} (h0 : HandSHeadRun.RunEq r q PySem.W.Hook.none (fun _ => ()) M loose w) (h1 : RunP r as c1 d1 M w) : HandSHeadRun.RunEq r q (hookF as c1 d1) (fun s => obsFG as c1 d1 (HandSHeadRun.getT s)) M loose w := fun os => by
  obtain ⟨s, e, q1⟩ := Option.map_eq_some_iff.mp (h1 os)
  obtain ⟨s', e', q2⟩ := Option.map_eq_some_iff.mp (h0 os)
  rw [e] at e'
  cases e'
  rw [e]
  have a := congrArg (fun z => z.1) q2
  have b := congrArg (fun z => z.2.1) q2
  exact congrArg some (Prod.ext a (Prod.ext b q1))
end
/-- what the module's names reach: functions and their codes, classes with what they own -/
def refsK (o : Obj) : List Addr := match o.data with
  | .dict es _ => es.toList.flatMap fun e => He.refV e.val
  | .func fd => He.refV fd.code
  | .cls cd => cd.ns :: cd.mro.flatMap He.refV
  | .fields vs => vs.toList.flatMap He.refV
  | _ => []
/-- .. of functions, classes, properties (a code's own fields are not followed) -/
def growK (g : Addr → Option Obj) (as : List Addr) : List Addr := as.flatMap fun a => match g a with
  | some o => (match o.cls with
    | .type t => if t == "code" then [] else refsK o
    | _ => refsK o)
  | none => []
def namesK (g : Addr → Option Obj) : List Addr :=
  let l1 := growK g [mainGlobals]
  let l2 := growK g l1
  let l3 := growK g l2
  let l4 := growK g l3
  let l5 := growK g l4
  cStatics :: mainGlobals :: (l1 ++ (l2 ++ (l3 ++ (l4 ++ l5))))
/-! ### more facts -/
abbrev gaK (x : Str) : PySem.W.Frag → Addr := fun K => He.ga K x
abbrev maK (C m : Str) : PySem.W.Frag → Addr := fun K => He.ma K (He.ga K C) m
/-- a property's getter, a classmethod's def -/
def rcOf (K : PySem.W.Frag) (t : String) (p : Addr) : Addr := match PySem.W.recIn K p t with
  | some (.ref g :: _) => g
  | _ => 0
abbrev prK (C m : Str) : PySem.W.Frag → Addr := fun K => rcOf K "property" (He.ma K (He.ga K C) m)
def rcB (K : PySem.W.Frag) (t : String) (p : Addr) : Bool := match PySem.W.recIn K p t with
  | some (.ref _ :: _) => true
  | _ => false
theorem rcB_ok {K : PySem.W.Frag} {t : String} {p : Addr} (h : rcB K t p = true) : ∃ rest, PySem.W.recIn K p t = some (.ref (rcOf K t p) :: rest) := by
  unfold rcB at h
  unfold rcOf
  split at h
  · rename_i g rest e
    exact ⟨rest, by rw [e]⟩
  · cases h
def cTup (x : Str) (ss : List Str) : Ck := fun K => He.tupB K x (ss.map He.Dv.str) && He.eqO (PySem.W.nsIn K mainGlobals x) (some (some (.ref (He.ga K x))))
theorem tup_ok {K : PySem.W.Frag} {h : Heap} {mg : Str → Option Value} {x : Str} {ss : List Str} (X : K.In h) (G : h.Ns mainGlobals mg) (c : cTup x ss K = true) : ∃ a, mg x = some (.ref a) ∧ KTup K a (ss.map V.str) := by
  obtain ⟨c1, c2⟩ := He.ba c
  refine ⟨He.ga K x, PySem.W.mg_of X G (He.eqO_ok c2), ?_⟩
  have q := He.tupB_ok c1 (fun _ => none)
  have e : (ss.map He.Dv.str).map (He.Dv.v K) = ss.map V.str := by rw [List.map_map]; rfl
  rw [e] at q
  rcases q with q | q
  · rcases q with q | ⟨o, q⟩ <;> cases q
  · obtain ⟨o, its, n, a1, a2, a3, a4, a5⟩ := q
    exact ⟨o, its, n, a1, a2, a3, a4, a5⟩
def cOpF (C : Str) (op : Operator) : Ck := fun K => PySem.W.selfFirst K (He.ga K C) && (He.eqO (PySem.W.findIn K (.ref (He.ga K C)) (PySem.dunder op.info.2)) (some (some (.ref (maK C (PySem.dunder op.info.2) K)))) && (PySem.W.isFn K (.ref (maK C (PySem.dunder op.info.2) K)) && He.eqO (PySem.W.findIn K (.ref (He.ga K C)) (PySem.dunderR op.info.2)) (some none)))
theorem opF_ok {K : PySem.W.Frag} {C : Str} {op : Operator} (c : cOpF C op K = true) : OpF K (He.ga K C) (maK C (PySem.dunder op.info.2) K) op := by
  obtain ⟨c1, c⟩ := He.ba c
  obtain ⟨c2, c⟩ := He.ba c
  obtain ⟨c3, c4⟩ := He.ba c
  exact ⟨c1, He.eqO_ok c2, c3, He.eqO_ok c4⟩
def cIpF (C : Str) (op : Operator) : Ck := fun K => PySem.W.selfFirst K (He.ga K C) && (He.eqO (PySem.W.findIn K (.ref (He.ga K C)) (PySem.dunderI op.info.2)) (some (some (.ref (maK C (PySem.dunderI op.info.2) K)))) && PySem.W.isFn K (.ref (maK C (PySem.dunderI op.info.2) K)))
theorem ipF_ok {K : PySem.W.Frag} {C : Str} {op : Operator} (c : cIpF C op K = true) : IpF K (He.ga K C) (maK C (PySem.dunderI op.info.2) K) op := by
  obtain ⟨c1, c⟩ := He.ba c
  obtain ⟨c2, c3⟩ := He.ba c
  exact ⟨c1, He.eqO_ok c2, c3⟩
def cOpT (C : Str) (op : Operator) (T : String) : Ck := fun K => (PySem.W.findIn K (.type T) (PySem.dunder op.info.2)).isSome && ((PySem.W.findIn K (.type T) (PySem.dunderR op.info.2)).isSome && decide (PySem.W.subIn K (.type T) (.ref (He.ga K C)) = some false))
theorem opT_ok {K : PySem.W.Frag} {C : Str} {op : Operator} {T : String} (c : cOpT C op T K = true) : OpT K (He.ga K C) op T := by
  obtain ⟨c1, c⟩ := He.ba c
  obtain ⟨c2, c3⟩ := He.ba c
  exact ⟨Option.isSome_iff_exists.mp c1, Option.isSome_iff_exists.mp c2, of_decide_eq_true c3⟩
def cSpF (C m : Str) : Ck := fun K => He.eqO (PySem.W.findIn K (.ref (He.ga K C)) m) (some (some (.ref (maK C m K)))) && (PySem.W.isFn K (.ref (maK C m K)) && PySem.W.fnIn K (maK C m K))
theorem spF_ok {K : PySem.W.Frag} {C m : Str} (c : cSpF C m K = true) : SpF K (He.ga K C) (maK C m K) m := by
  obtain ⟨c1, c⟩ := He.ba c
  obtain ⟨c2, c3⟩ := He.ba c
  exact ⟨He.eqO_ok c1, c2, c3⟩
def cProp (C m : Str) : Ck := fun K => He.eqO (PySem.W.findIn K (.ref (He.ga K C)) m) (some (some (.ref (maK C m K)))) && (He.eqO (PySem.W.specialIn K (.ref (maK C m K)) "__get__") (some (some (.builtin "property.__get__"))) && (decide (PySem.W.takesIn K (.ref (maK C m K)) = some true) && rcB K "property" (maK C m K)))
theorem prop_ok {K : PySem.W.Frag} {C m : Str} (c : cProp C m K = true) : PropOf K (He.ga K C) m (maK C m K) (prK C m K) := by
  obtain ⟨c1, c⟩ := He.ba c
  obtain ⟨c2, c⟩ := He.ba c
  obtain ⟨c3, c4⟩ := He.ba c
  exact ⟨He.eqO_ok c1, He.eqO_ok c2, of_decide_eq_true c3, rcB_ok c4⟩
abbrev cmK (C m : Str) : PySem.W.Frag → Addr := fun K => rcOf K "classmethod" (He.ma K (He.ga K C) m)
def cmB (K : PySem.W.Frag) (C p : Addr) (m : Str) : Bool := match PySem.W.findCls K (.ref C) (.type "type") m with
  | some (.get (.builtin b) (.ref q) .none (.ref D)) => decide (b = "classmethod.__get__") && (decide (q = p) && decide (D = C))
  | _ => false
theorem cmB_ok {K : PySem.W.Frag} {C p : Addr} {m : Str} (h : cmB K C p m = true) : PySem.W.findCls K (.ref C) (.type "type") m = some (.get (.builtin "classmethod.__get__") (.ref p) .none (.ref C)) := by
  unfold cmB at h
  split at h
  · rename_i b q D e
    obtain ⟨h1, h⟩ := He.ba h
    obtain ⟨h2, h3⟩ := He.ba h
    rw [e, of_decide_eq_true h1, of_decide_eq_true h2, of_decide_eq_true h3]
  · cases h
def cCM (C m : Str) : Ck := fun K => PySem.W.readsIn K (He.ga K C) (.type "type") && (He.eqO (PySem.W.specialIn K (.ref (He.ga K C)) "__getattribute__") (some (some (.builtin "type.__getattribute__"))) && (cmB K (He.ga K C) (maK C m K) m && (rcB K "classmethod" (maK C m K) && PySem.W.fnIn K (cmK C m K))))
theorem cm_ok {K : PySem.W.Frag} {C m : Str} (c : cCM C m K = true) : ClX.CRead K (He.ga K C) (.type "type") ∧ ClX.CMet K (He.ga K C) (.type "type") m (maK C m K) (cmK C m K) := by
  obtain ⟨c1, c⟩ := He.ba c
  obtain ⟨c2, c⟩ := He.ba c
  obtain ⟨c3, c⟩ := He.ba c
  obtain ⟨c4, c5⟩ := He.ba c
  exact ⟨⟨c1, He.eqO_ok c2⟩, ⟨cmB_ok c3, rcB_ok c4, c5⟩⟩
def cStr (C : Str) : Ck := fun K => He.eqO (PySem.W.findIn K (.ref (He.ga K C)) "__str__") (some (some (.ref (maK C "__str__" K)))) && PySem.W.isFn K (.ref (maK C "__str__" K))
theorem str_ok {K : PySem.W.Frag} {C : Str} (c : cStr C K = true) : PySem.W.findIn K (.ref (He.ga K C)) "__str__" = some (some (.ref (maK C "__str__" K))) ∧ PySem.W.isFn K (.ref (maK C "__str__" K)) = true := by
  obtain ⟨c1, c2⟩ := He.ba c
  exact ⟨He.eqO_ok c1, c2⟩
def cIsC (C : Str) : Ck := fun K => He.eqO (PySem.W.findIn K (.ref (He.ga K C)) "__class__") (some (some (.builtin "object.__class__"))) && (He.eqO (PySem.W.specialIn K (.builtin "object.__class__") "__get__") (some (some (.builtin "getset_descriptor.__get__"))) &&
  (decide (PySem.W.takesIn K (.builtin "object.__class__") = some true) && (decide (PySem.W.mroIn K (He.ga K C) (.type "object") = some true) && (decide (PySem.W.kitOne K (.ref (He.ga K C)) (.ref (He.ga K C)) = some true) &&
  (["NoneType", "bool", "int", "str", "tuple", "list"] : List String).all fun T => decide (PySem.W.kitOne K (.type T) (.ref (He.ga K C)) = some false)))))
theorem isC_ok {K : PySem.W.Frag} {C : Str} (cl : Cls K (He.ga K C)) (c : cIsC C K = true) : IsC K (He.ga K C) := by
  obtain ⟨c1, c⟩ := He.ba c
  obtain ⟨c2, c⟩ := He.ba c
  obtain ⟨c3, c⟩ := He.ba c
  obtain ⟨c4, c⟩ := He.ba c
  obtain ⟨c5, c⟩ := He.ba c
  have z := List.all_eq_true.mp c
  exact isc_mk cl (He.eqO_ok c1) (He.eqO_ok c2) (of_decide_eq_true c3) (of_decide_eq_true c4) (of_decide_eq_true c5) (of_decide_eq_true (z "NoneType" (by simp))) (of_decide_eq_true (z "bool" (by simp))) (of_decide_eq_true (z "int" (by simp))) (of_decide_eq_true (z "str" (by simp))) (of_decide_eq_true (z "tuple" (by simp))) (of_decide_eq_true (z "list" (by simp)))
theorem excC_ok {K : PySem.W.Frag} {h : Heap} {mg : Str → Option Value} {x : Str} (X : K.In h) (G : h.Ns mainGlobals mg) (c0 : ck (.glo x) K = true) (c : ck (.exc x) K = true) : ExC K mg x := by
  obtain ⟨c1, c2, c3, c4⟩ := He.exc_ok c
  exact exc_mk X G (He.eqO_ok c0) c1 c2 c3 c4
theorem fun_binds {K : PySem.W.Frag} {x qual : Str} {st : Stmt} {f : Addr} {ps : List Str} (h : ∃ fd, Fun K x qual st f fd)
    (hb : ∀ (kV doc pm : Value) (an : Option Addr) (cdv ct : Value) (us : List Value), us.length = ps.length → bindArgs (PySem.W.fnOf x qual (defArgs st) (defBody st) (defScope st) .none kV doc pm an cdv ct) ⟨us, []⟩ = pure (ps.zip us)) :
    ∃ fd, Fun K x qual st f fd ∧ Binds K fd ps [] := by
  obtain ⟨fd, F⟩ := h
  exact ⟨fd, F, F.binds hb⟩
theorem def_of {K : PySem.W.Frag} {h : Heap} {mg : Str → Option Value} {x : Str} {st : Stmt} {ps : List Str} (X : K.In h) (G : h.Ns mainGlobals mg) (c : ck (.glo x) K = true) (d : ∃ fd, Fun K x x st (He.ga K x) fd)
    (hb : ∀ (kV doc pm : Value) (an : Option Addr) (cdv ct : Value) (us : List Value), us.length = ps.length → bindArgs (PySem.W.fnOf x x (defArgs st) (defBody st) (defScope st) .none kV doc pm an cdv ct) ⟨us, []⟩ = pure (ps.zip us)) :
    ∃ f fd, mg x = some (.ref f) ∧ Fun K x x st f fd ∧ Binds K fd ps [] := by
  obtain ⟨fd, F, B⟩ := fun_binds d hb
  exact ⟨_, fd, He.glo_ok X G c, F, B⟩
theorem lawf_of {K : PySem.W.Frag} {h : Heap} {mg : Str → Option Value} {x : Str} {st : Stmt} (X : K.In h) (G : h.Ns mainGlobals mg) (c : ck (.glo x) K = true) (d : ∃ fd, Fun K x x st (He.ga K x) fd)
    (hb : ∀ (kV doc pm : Value) (an : Option Addr) (cdv ct : Value) (s : Shared) (u : Value), BindsTo s (PySem.W.fnOf x x (defArgs st) (defBody st) (defScope st) .none kV doc pm an cdv ct) ⟨[u], []⟩ [("script", u)]) :
    ∃ f fd, mg x = some (.ref f) ∧ Fun K x x st f fd ∧ ∀ (s : Shared) (u : Value), BindsTo s fd ⟨[u], []⟩ [("script", u)] := by
  obtain ⟨fd, F⟩ := d
  refine ⟨_, fd, He.glo_ok X G c, F, ?_⟩
  obtain ⟨oc, od, kV, doc, pm, an, cdv, ct, osl, rfl, _, _⟩ := F.ex
  exact hb _ _ _ _ _ _
/-- the end, over facts -/
theorem walk_ofF {l : PySem.W.OpenLaw} {n k : Nat} {q : Program} {loose : List Str} {XP : (Str → Option Value) → Heap → Prop} {YP : World → Heap → Prop} {d : DefRec} {CX : World → CXT} {x : Str}
    (hn : l.most = some n) (hn2 : n ≤ sizeLine) (hdf : d.params.defaults = []) (hr : Room k callerA)
    (F : ∀ (w : World) (mg : Str → Option Value) (fa : Addr) (h : Heap), YP w h → h.Ns mainGlobals mg → mg d.name = some (.ref fa) →
      ∃ (K : PySem.W.Frag) (fd : FuncData) (sp : Sp), K.In h ∧ (∀ (s : Shared) (u : Value), BindsTo s fd ⟨[u], []⟩ [(x, u)]) ∧
        (∀ (H : Hp) (a : Addr) (ns : List Int), ns.length ≤ n → SqL K H a (ns.map V.int) → sp [.ref a] H (fun v _ => v = .bl true) fun _ _ _ => False) ∧
        ∀ base : Heap, K.In base → base.Ns mainGlobals mg → FnOk l.prog w K mg base (CX w) k fa fd [x] sp)
    (hCX : ∀ (w : World) (H : Hp) (s : Shared) (e : Value) (s' : Shared), CX w [] H s (fun _ _ _ => False) e s' → False) :
    PySem.W.WalkO q loose XP YP l.row.toRowW d [] (fun f vs => PySem.call f vs) := by
  refine Att.attach_call hn hdf fun w s₀ s₁ mg mb fa o pm cd doc a vs ns G Y ho hd hcd hmg hobj hints hlen hg => ?_
  obtain ⟨K, fd, sp, KX, hb, hsp, hF⟩ := F w mg fa _ Y G.T.g hmg
  exact law_call KX G.T.g G.T.b G.T.builtins G.T.nolimit hg hobj hints (Nat.le_trans hlen hn2) hr hF hb (fun H _ hS => hsp H a ns hlen hS) fun H e s' => hCX w H s₁ e s'
end DL
/-! printed by gen.py: the mirrors of the defs -/
namespace DL
open PySem L2
def F_Snail_source (cS : Addr) : Fn := (fnP 1 1
    (sRt (eFld cS "base" (eVar 0))))
def F_Snail_base_of (cS : Addr) : Fn := (fnN 2 (fnP 2 2
    (sSeq (sIf (eNotT (eTr (eIsC cS (eVar 1))))
    (sRaise "Unlike")
    sNx)
    (sRt (eFld cS "base" (eVar 1))))))
def F_Snail___len__ (cS : Addr) : Fn := (fnN 1 (fnP 1 1
    (sRt (eCall gLen [(eBin gIdx (eFld cS "base" (eVar 0)) (eK (.int 2)))]))))
def F_Snail___iter__ (cS : Addr) : Fn := (fnN 1 (fnP 1 1
    (sRaise "TypeError")))
def F_Snail___eq__ (cS : Addr) : Fn := (fnN 2 (fnP 2 2
    (sRt (eAnd (eIsC cS (eVar 1)) (eBin gEq (eFld cS "base" (eVar 0)) (eFld cS "base" (eVar 1)))))))
def F_Well_depth (cW : Addr) : Fn := (fnP 1 1
    (sRt (eFld cW "deep" (eVar 0))))
def F_Well_minute (cW : Addr) : Fn := (fnP 1 1
    (sRt (eBin gIdx (eFld cW "now" (eVar 0)) (eK (.int 0)))))
def F_Well_keep (cW : Addr) : Fn := (fnN 2 (fnP 2 2
    (sSeq (sIf (eTb (eBin gGe (eCall gLen [(eFld cW "past" (eVar 0))]) (eK (.int (60)))))
    sBad
    sNx)
    (sSeq (sEx (eAppend (eFld cW "past" (eVar 0)) (eFld cW "now" (eVar 0))))
    (sFl cW "now" (eVar 0) (eVar 1))))))
def F_Well_undo (cW : Addr) : Fn := (fnN 1 (fnP 1 1
    (sSeq (sIf (eTb (eBin gEq (eFld cW "past" (eVar 0)) (eLst [])))
    (sRaise "NothingToUndo")
    sNx)
    (sFl cW "now" (eVar 0) (ePop (eFld cW "past" (eVar 0)))))))
def F_Well___len__ (cW : Addr) : Fn := (fnN 1 (fnP 1 1
    (sRt (eCall gLen [(eFld cW "past" (eVar 0))]))))
def F_Well___iter__ (cW : Addr) : Fn := (fnN 1 (fnP 1 1
    (sRaise "TypeError")))
def F_Well___eq__ (cW : Addr) : Fn := (fnN 2 (fnP 2 2
    (sRt (eAnd (eIsC cW (eVar 1)) (eAnd (eBin gEq (eFld cW "deep" (eVar 0)) (eFld cW "deep" (eVar 1))) (eBin gEq (eFld cW "now" (eVar 0)) (eFld cW "now" (eVar 1))))))))
def F_is_number : Fn := fnP 3 3
    (sRt (eAnd (eIsi 2 (eVar 0)) (eAnd (eNot (eIsi 1 (eVar 0))) (eChain gLe gLe (eVar 1) (eVar 0) (eVar 2)))))
def F_is_tuple : Fn := fnP 3 3
    (sRt (eAnd (eIsi 4 (eVar 0)) (eChain gLe gLe (eVar 1) (eCall gLen [(eVar 0)]) (eVar 2))))
def F__law_source : Fn := fnQ 2 3
    (sSeq (sSet 2 (eK (.int 0)))
    (sSeq (sIf (eTb (eBin gLt (eVar 1) (eCall gLen [(eVar 0)])))
    (sSet 2 (eCall gAbs [(eCall gInt [(eBin gIdx (eVar 0) (eVar 1))])]))
    sNx)
    (sSeq (sIf (eTb (eBin gLt (eVar 2) (eBin gPow (eK (.int 10)) (eK (.int 18)))))
    (sRt (eNewL [(eK (.int 0)), (eBin gAdd (eK (.int 1)) (eBin gMod (eCall gInt [(eBin gAdd (eBin gMul (eVar 2) (eK (.int 7919))) (eBin gMul (eK (.int 104729)) (eVar 1)))]) (eK (.int 2147483646))))]))
    sNx)
    (sRt (eNewL [(eVar 2), (eBin gAdd (eK (.int 1)) (eBin gMod (eCall gInt [(eBin gAdd (eVar 2) (eVar 1))]) (eK (.int 2147483646))))])))))
def F__law_draw : Fn := fnP 2 3
    (sSeq (sIf (eTb (eBin gGt (eBin gIdx (eVar 0) (eK (.int 0))) (eK (.int 0))))
    (sSeq (sSet 2 (eBin gMod (eCall gInt [(eBin gIdx (eVar 0) (eK (.int 0)))]) (eVar 1)))
    (sSeq (sIx (eBin gDiv (eBin gIdx (eVar 0) (eK (.int 0))) (eVar 1)) (eVar 0) (eK (.int 0)))
    (sRt (eVar 2))))
    sNx)
    (sSeq (sIx (eBin gMod (eCall gInt [(eBin gMul (eBin gIdx (eVar 0) (eK (.int 1))) (eK (.int 48271)))]) (eK (.int 2147483647))) (eVar 0) (eK (.int 1)))
    (sRt (eBin gMod (eCall gInt [(eBin gDiv (eBin gMod (eCall gInt [(eBin gMul (eBin gIdx (eVar 0) (eK (.int 1))) (eBin gIdx (eVar 0) (eK (.int 1))))]) (eK (.int 2147483629))) (eK (.int 64)))]) (eVar 1)))))
def F_stepped : Fn := fnP 2 2
    (sRt (eIf (eTb (eBin gGt (eBin gAdd (eVar 0) (eVar 1)) (eK (.int 0)))) (eBin gAdd (eVar 0) (eVar 1)) (eK (.int 0))))
def F_lowest_sum : Fn := fnP 1 4
    (sSeq (sSt (eTup [(eK (.int 0)), (eK (.int 0))]) (gTp 2 (gsCons (gNm 1) (gsCons (gNm 2) gsNil))))
    (sSeq (sFor (eItS (eVar 0)) (gNm 3)
    (sSeq (sSet 1 (eBin gAdd (eVar 1) (eVar 3)))
    (sSet 2 (eIf (eTb (eBin gLt (eVar 1) (eVar 2))) (eVar 1) (eVar 2)))))
    (sRt (eVar 2))))
def F_least_turn : Fn := fnP 2 7
    (sSeq (sSet 2 (eCall gLen [(eVar 0)]))
    (sSeq (sFor (eRng2 (eK (.int 1)) (eBin gAdd (eVar 2) (eK (.int 1)))) (gNm 3)
    (sIf (eAndT (eTb (eBin gEq (eBin gMod (eVar 2) (eVar 3)) (eK (.int 0)))) (eTb (eBin gEq (eBin gMod (eBin gMul (eVar 1) (eVar 3)) (eVar 2)) (eK (.int 0)))))
    (sSeq (sSet 4 (eBin gDiv (eBin gMul (eVar 1) (eVar 3)) (eVar 2)))
    (sSeq (sSet 5 (eBin gAdd (eSl (eVar 0) (ePart (eVar 3)) eNo) (eLc (eItS (eSl (eVar 0) eNo (ePart (eVar 3)))) (.nm 6) tYesD (eBin gAdd (eVar 6) (eVar 1)) [6])))
    (sIf (eTb (eBin gEq (eVar 5) (eLc (eItS (eVar 0)) (.nm 6) tYesD (eBin gAdd (eVar 6) (eVar 4)) [6])))
    (sRt (eVar 3))
    sNx)))
    sNx))
    (sRt (eVar 2))))
def F_minute_in : Fn := fnP 2 7
    (sSeq (sSt (eVar 0) (gTp 3 (gsCons (gNm 2) (gsCons (gNm 3) (gsCons (gNm 4) gsNil)))))
    (sSeq (sIf (eTb (eBin gLe (eVar 1) (eCall gLen [(eVar 2)])))
    (sRt (eBin gIdx (eVar 2) (eBin gSub (eVar 1) (eK (.int 1)))))
    sNx)
    (sSeq (sSet 5 (eBin gSub (eBin gSub (eVar 1) (eK (.int 1))) (eCall gLen [(eVar 2)])))
    (sSeq (sSet 6 (eBin gIdx (eVar 3) (eBin gMod (eVar 5) (eCall gLen [(eVar 3)]))))
    (sRt (eIf (eTb (eBin gIsN (eVar 6) (eK .non))) (eK .non) (eBin gAdd (eVar 6) (eBin gMul (eBin gDiv (eVar 5) (eCall gLen [(eVar 3)])) (eVar 4)))))))))
def F__law_up : Fn := fnP 2 2
    (sRt (eCall gMax [(eK (.int 0)), (eBin gAdd (eVar 0) (eVar 1))]))
def F__law_gains : Fn := fnP 2 4
    (sSeq (sSet 2 (eVar 0))
    (sSeq (sFor (eItS (eVar 1)) (gNm 3)
    (sSeq (sSet 2 (eBin gAdd (eVar 2) (eVar 3)))
    (sIf (eTb (eBin gLt (eVar 2) (eK (.int 0))))
    (sRt (eK .non))
    sNx)))
    (sRt (eBin gSub (eVar 2) (eVar 0)))))
def F__law_told_at : Fn := fnP 2 7
    (sSeq (sSt (eVar 0) (gTp 3 (gsCons (gNm 2) (gsCons (gNm 3) (gsCons (gNm 4) gsNil)))))
    (sSeq (sIf (eTb (eBin gLe (eVar 1) (eCall gLen [(eVar 2)])))
    (sRt (eBin gIdx (eVar 2) (eBin gSub (eVar 1) (eK (.int 1)))))
    sNx)
    (sSeq (sSet 5 (eBin gSub (eBin gSub (eVar 1) (eK (.int 1))) (eCall gLen [(eVar 2)])))
    (sSeq (sSet 6 (eBin gIdx (eVar 3) (eBin gMod (eVar 5) (eCall gLen [(eVar 3)]))))
    (sRt (eIf (eTb (eBin gIsN (eVar 6) (eK .non))) (eK .non) (eBin gAdd (eVar 6) (eBin gMul (eBin gDiv (eVar 5) (eCall gLen [(eVar 3)])) (eVar 4)))))))))
def F_divisor : Fn := fnP 2 2
    (sSeq (sWh 4096 (eTb (eBin gNe (eVar 1) (eK (.int 0))))
    (sPar 0 1 (eVar 1) (eBin gMod (eVar 0) (eVar 1))))
    (sRt (eVar 0)))
def F_rise_in : Fn := fnP 2 2
    (sRt (eBin gMul (eBin gIdx (eVar 0) (eK (.int 2))) (eBin gDiv (eVar 1) (eCall gLen [(eBin gIdx (eVar 0) (eK (.int 1)))]))))
def F_is_endless : Fn := fnP 1 1
    (sRt (eBin gNe (eBin gIdx (eVar 0) (eK (.int 1))) (eTup [(eK .non)])))
def F_shortened : Fn := fnP 2 7
    (sSeq (sSet 2 (eCall gLen [(eVar 1)]))
    (sSeq (sSet 3 (eCall gMin [(eLc (eRng2 (eK (.int 1)) (eBin gAdd (eVar 2) (eK (.int 1)))) (.nm 6) (eAndT (eTb (eBin gEq (eBin gMod (eVar 2) (eVar 6)) (eK (.int 0)))) (eTb (eBin gEq (eBin gAdd (eSl (eVar 1) (ePart (eVar 6)) eNo) (eSl (eVar 1) eNo (ePart (eVar 6)))) (eVar 1)))) (eVar 6) [6])]))
    (sSeq (sSt (eTup [(eSl (eVar 1) eNo (ePart (eVar 3))), (eK (.int 0))]) (gTp 2 (gsCons (gNm 1) (gsCons (gNm 4) gsNil))))
    (sSeq (sWh 20000000 (eAndT (eTb (eBin gLt (eVar 4) (eCall gLen [(eVar 0)]))) (eTb (eBin gEq (eBin gIdx (eVar 0) (eBin gSub (eBin gSub (eCall gLen [(eVar 0)]) (eK (.int 1))) (eVar 4))) (eBin gIdx (eVar 1) (eBin gMod (eBin gSub (eBin gSub (eVar 3) (eK (.int 1))) (eVar 4)) (eVar 3))))))
    (sSet 4 (eBin gAdd (eVar 4) (eK (.int 1)))))
    (sSeq (sSet 5 (eBin gSub (eVar 3) (eBin gMod (eVar 4) (eVar 3))))
    (sRt (eTup [(eCall gTuple [(eSl (eVar 0) eNo (ePart (eBin gSub (eCall gLen [(eVar 0)]) (eVar 4))))]), (eCall gTuple [(eBin gAdd (eSl (eVar 1) (ePart (eVar 5)) eNo) (eSl (eVar 1) eNo (ePart (eVar 5))))])])))))))
def F_first_of : Fn := fnP 1 4
    (sSeq (sSet 1 (eLc (eItS (eVar 0)) (.nm 2) (eTb (eBin gNotN (eVar 2) (eK .non))) (eCall gInt [(eVar 2)]) [2]))
    (sSeq (sIf (eTb (eBin gEq (eVar 1) (eLst [])))
    (sRt (eTup []))
    sNx)
    (sRt (eCall gTuple [(eLc (eEn (eVar 0)) (.tp [3, 2]) (eTb (eBin gEq (eVar 2) (eCall gMin [(eVar 1)]))) (eVar 3) [3, 2])]))))
def F__law_item_at : Fn := fnP 2 4
    (sSeq (sSt (eVar 0) (gTp 2 (gsCons (gNm 2) (gsCons (gNm 3) gsNil))))
    (sSeq (sIf (eTb (eBin gLt (eVar 1) (eCall gLen [(eVar 2)])))
    (sRt (eBin gIdx (eVar 2) (eVar 1)))
    sNx)
    (sRt (eBin gIdx (eVar 3) (eBin gMod (eBin gSub (eVar 1) (eCall gLen [(eVar 2)])) (eCall gLen [(eVar 3)]))))))
def F__law_is_short : Fn := fnP 2 3
    (sSeq (sIf (eOrT (eNotT (eTr (eIsi 4 (eVar 0)))) (eOrT (eNotT (eTr (eIsi 4 (eVar 1)))) (eTb (eBin gEq (eVar 1) (eTup [])))))
    (sRt (eK (.bl false)))
    sNx)
    (sSeq (sFor (eRng2 (eK (.int 1)) (eCall gLen [(eVar 1)])) (gNm 2)
    (sIf (eAndT (eTb (eBin gEq (eBin gMod (eCall gLen [(eVar 1)]) (eVar 2)) (eK (.int 0)))) (eTb (eBin gEq (eBin gAdd (eSl (eVar 1) (ePart (eVar 2)) eNo) (eSl (eVar 1) eNo (ePart (eVar 2)))) (eVar 1))))
    (sRt (eK (.bl false)))
    sNx))
    (sRt (eOr (eBin gEq (eVar 0) (eTup [])) (eBin gNe (eBin gIdx (eVar 0) (eNeg (eK (.int 1)))) (eBin gIdx (eVar 1) (eNeg (eK (.int 1)))))))))
def F_is_later : Fn := fnP 2 2
    (sRt (eAnd (eBin gNotN (eVar 1) (eK .non)) (eOr (eBin gIsN (eVar 0) (eK .non)) (eBin gGt (eVar 0) (eVar 1)))))
def F_word_of : Fn := fnP 1 1
    (sRt (eIf (eTb (eBin gGt (eVar 0) (eK (.int 0)))) (eK (.str (Str.ofString "over"))) (eIf (eTb (eBin gLt (eVar 0) (eK (.int 0)))) (eK (.str (Str.ofString "under"))) (eK (.str (Str.ofString "same"))))))
def F_with_round : Fn := fnP 2 2
    (sRt (eTup [(eBin gIdx (eVar 0) (eK (.int 0))), (eBin gIdx (eVar 0) (eK (.int 1))), (eVar 1)]))
def F_without : Fn := fnP 2 2
    (sRt (eBin gAdd (eSl (eVar 0) eNo (ePart (eVar 1))) (eSl (eVar 0) (ePart (eBin gAdd (eVar 1) (eK (.int 1)))) eNo)))
def F_exchanged : Fn := fnP 2 2
    (sRt (eBin gAdd (eBin gAdd (eSl (eVar 0) eNo (ePart (eVar 1))) (eTup [(eBin gIdx (eVar 0) (eBin gAdd (eVar 1) (eK (.int 1)))), (eBin gIdx (eVar 0) (eVar 1))])) (eSl (eVar 0) (ePart (eBin gAdd (eVar 1) (eK (.int 2)))) eNo)))
def F_started : Fn := fnP 2 2
    (sRt (eBin gAdd (eTup [(eVar 1)]) (eSl (eVar 0) (ePart (eK (.int 1))) eNo)))
def F_both : Fn := fnP 2 4
    (sSeq (sIf (eOrT (eTb (eBin gIsN (eVar 0) (eK .non))) (eTb (eBin gIsN (eVar 1) (eK .non))))
    (sRt (eK .non))
    sNx)
    (sSeq (sSet 2 (eIf (eTb (eBin gGt (eBin gIdx (eVar 0) (eK (.int 0))) (eBin gIdx (eVar 1) (eK (.int 0))))) (eBin gIdx (eVar 0) (eK (.int 0))) (eBin gIdx (eVar 1) (eK (.int 0)))))
    (sSeq (sSet 3 (eIf (eTb (eBin gIsN (eBin gIdx (eVar 1) (eK (.int 1))) (eK .non))) (eBin gIdx (eVar 0) (eK (.int 1))) (eBin gIdx (eVar 1) (eK (.int 1)))))
    (sSeq (sIf (eAndT (eTb (eBin gNotN (eBin gIdx (eVar 0) (eK (.int 1))) (eK .non))) (eAndT (eTb (eBin gNotN (eBin gIdx (eVar 1) (eK (.int 1))) (eK .non))) (eTb (eBin gLt (eBin gIdx (eVar 0) (eK (.int 1))) (eBin gIdx (eVar 1) (eK (.int 1)))))))
    (sSet 3 (eBin gIdx (eVar 0) (eK (.int 1))))
    sNx)
    (sRt (eIf (eOrT (eTb (eBin gIsN (eVar 3) (eK .non))) (eTb (eBin gLe (eVar 2) (eVar 3)))) (eTup [(eVar 2), (eVar 3)]) (eK .non)))))))
def F_words_of : Fn := fnP 1 5
    (sSeq (sSt (eVar 0) (gTp 3 (gsCons (gNm 1) (gsCons (gNm 2) (gsCons (gNm 3) gsNil)))))
    (sRt (eBin gAdd (eLst [(eK (.str (Str.ofString "snail"))), (eCall gStr [(eVar 1)]), (eCall gStr [(eVar 2)])]) (eLc (eItS (eVar 3)) (.nm 4) tYesD (eCall gStr [(eVar 4)]) [4]))))
def F_number_in : Fn := fnP 1 2
    (sSeq (sIf (eOrT (eTb (eBin gEq (eVar 0) (eK (.str (Str.ofString ""))))) (eOrT (eTb (eBin gGt (eCall gLen [(eVar 0)]) (eK (.int 2)))) (eNotT (eTr (eCall gAll [(eLc (eStS (eVar 0)) (.nm 1) tYesD (eBin gInS (eVar 1) (eK (.str (Str.ofString "0123456789")))) [1])])))))
    (sRt (eK .non))
    sNx)
    (sRt (eIf (eTb (eBin gEq (eCall gStr [(eCall gIntT [(eVar 0)])]) (eVar 0))) (eCall gIntT [(eVar 0)]) (eK .non))))
def F__wall : Fn := fnP 1 1
    (sWh 4096 (eTr (eK (.bl true)))
    sNx)
def F__law_line : Fn := fnP 1 3
    (sSeq (sSet 1 (eBin gAdd (eLst [(eK (.str (Str.ofString "snail"))), (eCall gStr [(eBin gIdx (eVar 0) (eK (.int 0)))]), (eCall gStr [(eBin gIdx (eVar 0) (eK (.int 1)))])]) (eLc (eItS (eBin gIdx (eVar 0) (eK (.int 2)))) (.nm 2) tYesD (eCall gStr [(eVar 2)]) [2])))
    (sRt (eMeth "str" gJoinM (eK (.str (Str.ofString " "))) [(eVar 1)])))
def F_Snail___contains__ (cS : Addr) : Fn := (fnN 2 (fnP 2 2
    (sRt (eAnd (eCall F_is_number [(eVar 1), (eNeg (eK (.int 3))), (eK (.int 3))]) (eBin gIn (eVar 1) (eBin gIdx (eFld cS "base" (eVar 0)) (eK (.int 2))))))))
def F_Snail___str__ (cS : Addr) : Fn := (fnN 1 (fnP 1 1
    (sRt (eMeth "str" gJoinM (eK (.str (Str.ofString " "))) [(eCall F_words_of [(eFld cS "base" (eVar 0))])]))))
def F_Well_attempt (cW : Addr) : Fn := (fnN 2 (fnP 2 2
    (sEx (eCall F__wall [(eK (.int 0))]))))
def F_is_round : Fn := fnP 1 2
    (sRt (eAnd (eCall F_is_tuple [(eVar 0), (eK (.int 1)), (eK (.int 4))]) (eCall gAll [(eLc (eItS (eVar 0)) (.nm 1) tYesD (eCall F_is_number [(eVar 1), (eNeg (eK (.int 3))), (eK (.int 3))]) [1])])))
def F__law_of : Fn := fnP 2 2
    (sRt (eBin gIdx (eVar 1) (eCall F__law_draw [(eVar 0), (eCall gLen [(eVar 1)])])))
def F_need_number : Fn := fnP 2 2
    (sIf (eNotT (eTr (eCall F_is_number [(eVar 0), (eVar 1), (eK (.int (1000000000000000000000000000000)))])))
    (sRaise "InvalidNumber")
    sNx)
def F_behind : Fn := fnP 2 3
    (sSeq (sFor (eItS (eVar 1)) (gNm 2)
    (sSet 0 (eCall F_stepped [(eVar 0), (eVar 2)])))
    (sRt (eVar 0)))
def F_records_of : Fn := fnP 2 9
    (sSeq (sSt (eVar 0) (gTp 3 (gsCons (gNm 2) (gsCons (gNm 3) (gsCons (gNm 4) gsNil)))))
    (sSeq (sSet 5 (eBin gMul (eLst [(eK (.int 0))]) (eVar 3)))
    (sSeq (sSet 6 (eVar 2))
    (sSeq (sFor (eRng1 (eVar 1)) (gNm 7)
    (sFor (eItS (eVar 4)) (gNm 8)
    (sSeq (sPar 3 6 (eCall F_stepped [(eVar 3), (eVar 8)]) (eBin gAdd (eVar 6) (eK (.int 1))))
    (sSet 5 (eBin gAdd (eVar 5) (eBin gMul (eLst [(eVar 6)]) (eCall gMax [(eK (.int 0)), (eBin gSub (eVar 3) (eCall gLen [(eVar 5)]))])))))))
    (sRt (eVar 5))))))
def F__law_end : Fn := fnP 2 3
    (sSeq (sFor (eItS (eVar 1)) (gNm 2)
    (sSet 0 (eCall F__law_up [(eVar 0), (eVar 2)])))
    (sRt (eVar 0)))
def F__law_out : Fn := fnP 2 10
    (sSeq (sSt (eVar 0) (gTp 3 (gsCons (gNm 2) (gsCons (gNm 3) (gsCons (gNm 4) gsNil)))))
    (sSeq (sIf (eTb (eBin gGe (eVar 3) (eVar 1)))
    (sRt (eK (.int 0)))
    sNx)
    (sSeq (sFor (eRng1 (eK (.int 600))) (gNm 5)
    (sSeq (sPar 6 7 (eCall F__law_gains [(eVar 3), (eVar 4)]) (eVar 3))
    (sSeq (sIf (eAndT (eTb (eBin gNotN (eVar 6) (eK .non))) (eAndT (eTb (eBin gGt (eVar 6) (eK (.int 0)))) (eTb (eBin gGt (eBin gSub (eVar 1) (eVar 3)) (eK (.int 40))))))
    (sSeq (sSet 8 (eBin gDiv (eBin gSub (eBin gSub (eVar 1) (eVar 3)) (eK (.int 20))) (eVar 6)))
    (sSeq (sSet 3 (eBin gAdd (eVar 3) (eBin gMul (eVar 8) (eVar 6))))
    (sSet 2 (eBin gAdd (eVar 2) (eBin gMul (eVar 8) (eCall gLen [(eVar 4)]))))))
    sNx)
    (sSeq (sFor (eItS (eVar 4)) (gNm 9)
    (sSeq (sPar 3 2 (eCall F__law_up [(eVar 3), (eVar 9)]) (eBin gAdd (eVar 2) (eK (.int 1))))
    (sIf (eTb (eBin gGe (eVar 3) (eVar 1)))
    (sRt (eVar 2))
    sNx)))
    (sIf (eTb (eBin gEq (eVar 3) (eVar 7)))
    (sRt (eK .non))
    sNx)))))
    (sRt (eK .non)))))
def F__law_depths : Fn := fnP 2 5
    (sSeq (sSet 2 (eLst [(eBin gPow (eK (.int 10)) (eK (.int 30))), (eBin gSub (eBin gPow (eK (.int 10)) (eK (.int 30))) (eCall F__law_draw [(eVar 0), (eK (.int 999))])), (eBin gAdd (eBin gPow (eK (.int 10)) (eK (.int 9))) (eCall F__law_draw [(eVar 0), (eBin gPow (eK (.int 10)) (eK (.int 9)))]))]))
    (sSeq (sSet 3 (eLc (eRng1 (eK (.int 6))) (.nm 4) tYesD (eBin gAdd (eBin gAdd (eVar 1) (eK (.int 1))) (eCall F__law_draw [(eVar 0), (eK (.int 2000))])) [4]))
    (sRt (eBin gAdd (eBin gAdd (eListRg2 (eK (.int 1)) (eBin gAdd (eVar 1) (eK (.int 1)))) (eVar 2)) (eVar 3)))))
def F_need_index : Fn := fnP 2 2
    (sIf (eNotT (eTr (eCall F_is_number [(eVar 1), (eK (.int 0)), (eBin gSub (eCall gLen [(eVar 0)]) (eK (.int 1)))])))
    (sRaise "InvalidIndex")
    sNx)
def F_common_turn : Fn := fnP 1 5
    (sSeq (sSet 1 (eK (.int 1)))
    (sSeq (sFor (eItS (eVar 0)) (gTp 3 (gsCons (gNm 2) (gsCons (gNm 3) (gsCons (gNm 4) gsNil))))
    (sSet 1 (eBin gDiv (eBin gMul (eVar 1) (eCall gLen [(eVar 3)])) (eCall F_divisor [(eVar 1), (eCall gLen [(eVar 3)])]))))
    (sRt (eVar 1))))
def F_blocks_until : Fn := fnP 4 8
    (sSeq (sSet 4 (eBin gSub (eCall F_rise_in [(eVar 0), (eVar 3)]) (eCall F_rise_in [(eVar 1), (eVar 3)])))
    (sSeq (sSet 5 (eK (.int 0)))
    (sSeq (sIf (eTb (eBin gNe (eVar 4) (eK (.int 0))))
    (sFor (eRng2 (eVar 2) (eBin gAdd (eVar 2) (eVar 3))) (gNm 6)
    (sSeq (sSet 7 (eBin gSub (eCall F_minute_in [(eVar 0), (eVar 6)]) (eCall F_minute_in [(eVar 1), (eVar 6)])))
    (sSeq (sSet 7 (eIf (eTb (eBin gGt (eVar 4) (eK (.int 0)))) (eVar 7) (eNeg (eVar 7))))
    (sSet 5 (eCall gMax [(eVar 5), (eBin gAdd (eCall gInt [(eBin gDiv (eNeg (eVar 7)) (eCall gAbs [(eVar 4)]))]) (eK (.int 1)))])))))
    sNx)
    (sRt (eVar 5)))))
def F_first_at : Fn := fnP 2 3
    (sRt (eCall F_first_of [(eLc (eItS (eVar 0)) (.nm 2) tYesD (eCall F_minute_in [(eVar 2), (eVar 1)]) [2])]))
def F_is_fact : Fn := fnP 2 2
    (sSeq (sIf (eOrT (eNotT (eTr (eCall F_is_tuple [(eVar 1), (eK (.int 2)), (eK (.int 2))]))) (eNotT (eTr (eCall F_is_number [(eBin gIdx (eVar 1) (eK (.int 0))), (eK (.int 0)), (eBin gSub (eCall gLen [(eVar 0)]) (eK (.int 1)))]))))
    (sRt (eK (.bl false)))
    sNx)
    (sRt (eOr (eBin gIsN (eBin gIdx (eVar 1) (eK (.int 1))) (eK .non)) (eCall F_is_number [(eBin gIdx (eVar 1) (eK (.int 1))), (eK (.int 0)), (eK (.int (100000000000000000000000000000000)))]))))
def F_depths_at : Fn := fnP 2 10
    (sSeq (sSt (eVar 0) (gTp 3 (gsCons (gNm 2) (gsCons (gNm 3) (gsCons (gNm 4) gsNil)))))
    (sSeq (sIf (eTb (eBin gIsN (eVar 1) (eK .non)))
    (sRt (eIf (eTr (eCall F_is_endless [(eVar 0)])) (eK .non) (eTup [(eBin gAdd (eCall gLen [(eVar 2)]) (eK (.int 1))), (eK .non)])))
    sNx)
    (sSeq (sSet 5 (eIf (eTr (eCall F_is_endless [(eVar 0)])) (eCall gMax [(eK (.int 0)), (eBin gSub (eBin gDiv (eBin gSub (eVar 1) (eBin gIdx (eVar 3) (eK (.int 0)))) (eVar 4)) (eK (.int 1)))]) (eK (.int 0))))
    (sSeq (sSet 6 (eBin gAdd (eBin gAdd (eCall gLen [(eVar 2)]) (eK (.int 1))) (eBin gMul (eVar 5) (eCall gLen [(eVar 3)]))))
    (sSeq (sSet 7 (eListRg2 (eK (.int 1)) (eBin gAdd (eCall gLen [(eVar 2)]) (eK (.int 1)))))
    (sSeq (sIf (eTr (eCall F_is_endless [(eVar 0)]))
    (sSet 7 (eBin gAdd (eVar 7) (eListRg2 (eVar 6) (eBin gAdd (eVar 6) (eBin gMul (eK (.int 4)) (eCall gLen [(eVar 3)]))))))
    sNx)
    (sSeq (sSet 8 (eLc (eItS (eVar 7)) (.nm 9) (eTb (eBin gEq (eCall F_minute_in [(eVar 0), (eVar 9)]) (eVar 1))) (eVar 9) [9]))
    (sRt (eIf (eTb (eBin gNe (eVar 8) (eLst []))) (eTup [(eBin gIdx (eVar 8) (eK (.int 0))), (eBin gIdx (eVar 8) (eNeg (eK (.int 1))))]) (eK .non))))))))))
def F_line_of : Fn := fnP 1 1
    (sRt (eMeth "str" gJoinM (eK (.str (Str.ofString " "))) [(eCall F_words_of [(eVar 0)])]))
def F__law_text : Fn := fnP 1 2
    (sRt (eMeth "str" gJoinM (eK (.str (Str.ofString "\n"))) [(eLc (eItS (eVar 0)) (.nm 1) tYesD (eCall F__law_line [(eVar 1)]) [1])]))
def F_Snail___getitem__ (cS : Addr) : Fn := (fnN 2 (fnP 2 2
    (sSeq (sEx (eCall F_need_index [(eBin gIdx (eFld cS "base" (eVar 0)) (eK (.int 2))), (eVar 1)]))
    (sRt (eBin gIdx (eBin gIdx (eFld cS "base" (eVar 0)) (eK (.int 2))) (eVar 1))))))
def F_Well___init__ (cW : Addr) : Fn := (fnN 2 (fnQ 2 2
    (sSeq (sEx (eCall F_need_number [(eVar 1), (eK (.int 1))]))
    (sSeq (sFl cW "deep" (eVar 0) (eVar 1))
    (sSeq (sFl cW "now" (eVar 0) (eTup [(eK (.int 0)), (eTup [])]))
    (sFl cW "past" (eVar 0) (eNewL [])))))))
def F_is_good_snail : Fn := fnP 1 1
    (sSeq (sIf (eOrT (eNotT (eTr (eCall F_is_tuple [(eVar 0), (eK (.int 3)), (eK (.int 3))]))) (eNotT (eTr (eCall F_is_number [(eBin gIdx (eVar 0) (eK (.int 0))), (eK (.int 0)), (eK (.int 20))]))))
    (sRt (eK (.bl false)))
    sNx)
    (sRt (eAnd (eCall F_is_number [(eBin gIdx (eVar 0) (eK (.int 1))), (eK (.int 0)), (eK (.int 5))]) (eCall F_is_round [(eBin gIdx (eVar 0) (eK (.int 2)))]))))
def F__law_round : Fn := fnP 1 4
    (sSeq (sSet 1 (eLst [(eTup [(eK (.int 1))]), (eTup [(eK (.int 3)), (eNeg (eK (.int 2)))]), (eTup [(eK (.int 2)), (eNeg (eK (.int 1)))]), (eTup [(eK (.int 3)), (eNeg (eK (.int 1))), (eNeg (eK (.int 1)))]), (eTup [(eK (.int 1)), (eK (.int 0))]), (eTup [(eK (.int 2)), (eK (.int 1)), (eNeg (eK (.int 2)))]), (eTup [(eK (.int 3)), (eK (.int 3)), (eNeg (eK (.int 3))), (eK (.int 0))]), (eTup [(eNeg (eK (.int 1))), (eK (.int 2))])]))
    (sSeq (sIf (eTb (eBin gEq (eCall F__law_draw [(eVar 0), (eK (.int 3))]) (eK (.int 0))))
    (sRt (eCall F__law_of [(eVar 0), (eVar 1)]))
    sNx)
    (sSeq (sSet 2 (eTup []))
    (sSeq (sFor (eRng1 (eBin gAdd (eK (.int 1)) (eCall F__law_draw [(eVar 0), (eK (.int 4))]))) (gNm 3)
    (sSet 2 (eBin gAdd (eVar 2) (eTup [(eCall F__law_of [(eVar 0), (eLst [(eNeg (eK (.int 3))), (eNeg (eK (.int 2))), (eNeg (eK (.int 1))), (eK (.int 0)), (eK (.int 1)), (eK (.int 2)), (eK (.int 3)), (eK (.int 3)), (eK (.int 2)), (eK (.int 1))])])]))))
    (sRt (eVar 2))))))
def F_is_settled : Fn := fnP 2 3
    (sSeq (sSet 2 (eCall gSum [(eVar 1)]))
    (sRt (eOr (eAnd (eBin gGe (eBin gAdd (eVar 0) (eCall F_lowest_sum [(eVar 1)])) (eK (.int 0))) (eBin gGe (eVar 2) (eK (.int 0)))) (eBin gEq (eCall F_behind [(eVar 0), (eVar 1)]) (eVar 0)))))
def F_gain_of : Fn := fnP 2 2
    (sRt (eBin gSub (eCall F_behind [(eVar 0), (eVar 1)]) (eVar 0)))
def F__law_height : Fn := fnP 2 9
    (sSeq (sSt (eVar 0) (gTp 3 (gsCons (gNm 2) (gsCons (gNm 3) (gsCons (gNm 4) gsNil)))))
    (sSeq (sIf (eTb (eBin gLe (eVar 1) (eVar 2)))
    (sRt (eVar 3))
    sNx)
    (sSeq (sFor (eRng1 (eK (.int 600))) (gNm 5)
    (sSeq (sSet 6 (eCall F__law_gains [(eVar 3), (eVar 4)]))
    (sSeq (sIf (eTb (eBin gIsN (eVar 6) (eK .non)))
    (sSet 6 (eIf (eTb (eBin gEq (eCall F__law_end [(eVar 3), (eVar 4)]) (eVar 3))) (eK (.int 0)) (eK .non)))
    sNx)
    (sSeq (sSet 7 (eBin gDiv (eBin gSub (eVar 1) (eVar 2)) (eCall gLen [(eVar 4)])))
    (sSeq (sIf (eAndT (eTb (eBin gNotN (eVar 6) (eK .non))) (eAndT (eTb (eBin gGe (eVar 6) (eK (.int 0)))) (eTb (eBin gGt (eVar 7) (eK (.int 0))))))
    (sSeq (sSet 3 (eBin gAdd (eVar 3) (eBin gMul (eVar 7) (eVar 6))))
    (sSet 2 (eBin gAdd (eVar 2) (eBin gMul (eVar 7) (eCall gLen [(eVar 4)])))))
    sNx)
    (sFor (eItS (eVar 4)) (gNm 8)
    (sSeq (sIf (eTb (eBin gEq (eVar 2) (eVar 1)))
    (sRt (eVar 3))
    sNx)
    (sPar 3 2 (eCall F__law_up [(eVar 3), (eVar 8)]) (eBin gAdd (eVar 2) (eK (.int 1)))))))))))
    (sRt (eVar 3)))))
def F_settled_from : Fn := fnP 1 9
    (sSeq (sSet 1 (eCall F_common_turn [(eVar 0)]))
    (sSeq (sSet 2 (eBin gAdd (eK (.int 1)) (eCall gMax [(eLc (eItS (eVar 0)) (.nm 5) tYesD (eCall gLen [(eBin gIdx (eVar 5) (eK (.int 0)))]) [5])])))
    (sSeq (sSet 3 (eLc (eItS (eVar 0)) (.nm 5) (eTr (eCall F_is_endless [(eVar 5)])) (eVar 5) [5]))
    (sSeq (sSet 4 (eLc2 (eItS (eVar 3)) (.nm 6) tYesD (eItS (eVar 3)) (.nm 7) tYesD (eCall F_blocks_until [(eVar 6), (eVar 7), (eVar 2), (eVar 1)]) [6, 7] [7]))
    (sRt (eTup [(eBin gAdd (eVar 2) (eBin gMul (eVar 1) (eCall gMax [(eBin gAdd (eLst [(eK (.int 0))]) (eLc (eItS (eVar 4)) (.nm 8) tYesD (eCall gInt [(eVar 8)]) [8]))]))), (eVar 1)]))))))
def F_need_seen : Fn := fnP 2 3
    (sIf (eOrT (eNotT (eTr (eCall F_is_tuple [(eVar 1), (eK (.int 1)), (eK (.int 4))]))) (eNotT (eTr (eCall gAll [(eLc (eItS (eVar 1)) (.nm 2) tYesD (eCall F_is_fact [(eVar 0), (eVar 2)]) [2])]))))
    (sRaise "InvalidSeen")
    sNx)
def F_fewer : Fn := fnP 2 2
    (sSeq (sEx (eCall F_need_index [(eVar 0), (eVar 1)]))
    (sRt (eCall F_without [(eVar 0), (eVar 1)])))
def F_lines_of : Fn := fnP 1 2
    (sRt (eLc (eItS (eVar 0)) (.nm 1) tYesD (eCall F_line_of [(eVar 1)]) [1]))
def F_is_row : Fn := fnP 1 1
    (sSeq (sIf (eOrT (eNotT (eTr (eCall F_is_tuple [(eVar 0), (eK (.int 3)), (eK (.int 3))]))) (eNotT (eTr (eCall F_is_number [(eBin gIdx (eVar 0) (eK (.int 0))), (eK (.int 0)), (eK (.int 1000))]))))
    (sRt (eK (.bl false)))
    sNx)
    (sRt (eAnd (eCall F_is_number [(eBin gIdx (eVar 0) (eK (.int 1))), (eK (.int 0)), (eK (.int 5))]) (eCall F_is_round [(eBin gIdx (eVar 0) (eK (.int 2)))]))))
def F__law_led_out : Fn := fnP 2 8
    (sSeq (sSet 2 (eNewL []))
    (sSeq (sFor (eEn (eBin gIdx (eVar 1) (eK (.int 1)))) (gTp 2 (gsCons (gNm 3) (gsCons (gTp 3 (gsCons (gNm 4) (gsCons (gNm 5) (gsCons (gNm 6) gsNil)))) gsNil)))
    (sSeq (sSet 7 (eCall F__law_out [(eTup [(eK (.int 0)), (eVar 5), (eVar 6)]), (eVar 0)]))
    (sIf (eAndT (eTb (eBin gNotN (eVar 7) (eK .non))) (eTb (eBin gLe (eBin gAdd (eVar 4) (eVar 7)) (eBin gIdx (eVar 1) (eK (.int 0))))))
    (sEx (eAppend (eVar 2) (eTup [(eBin gAdd (eVar 4) (eVar 7)), (eVar 3)])))
    sNx)))
    (sRt (eCall gTuple [(eCall gSorted [(eVar 2)])]))))
def F_Well_drop (cW : Addr) : Fn := (fnN 3 (fnP 3 5
    (sSeq (sSt (eFld cW "now" (eVar 0)) (gTp 2 (gsCons (gNm 3) (gsCons (gNm 4) gsNil))))
    (sSeq (sIf (eNotT (eTr (eCall F_is_row [(eTup [(eK (.int 0)), (eVar 1), (eVar 2)])])))
    (sRaise "InvalidSnail")
    sNx)
    (sSeq (sEx (eMt cW "keep" (F_Well_keep cW) (eVar 0) (aCons (eTup [(eVar 3), (eBin gAdd (eVar 4) (eTup [(eTup [(eVar 3), (eVar 1), (eVar 2)])]))]) (eArgs []))))
    (sRt (eCall gLen [(eVar 4)])))))))
def F_Well___iadd__ (cW : Addr) : Fn := (fnN 2 (fnP 2 8
    (sSeq (sIf (eOrT (eNotT (eTr (eCall F_is_tuple [(eVar 1), (eK (.int 0)), (eK (.int 20))]))) (eNotT (eTr (eCall gAll [(eLc (eItS (eVar 1)) (.nm 7) tYesD (eCall F_is_row [(eVar 7)]) [7])]))))
    (sRaise "InvalidRows")
    sNx)
    (sSeq (sSt (eFld cW "now" (eVar 0)) (gTp 2 (gsCons (gNm 2) (gsCons (gNm 3) gsNil))))
    (sSeq (sFor (eItS (eVar 1)) (gTp 3 (gsCons (gNm 4) (gsCons (gNm 5) (gsCons (gNm 6) gsNil))))
    (sSeq (sSet 2 (eBin gAdd (eVar 2) (eVar 4)))
    (sSet 3 (eBin gAdd (eVar 3) (eTup [(eTup [(eVar 2), (eVar 5), (eVar 6)])])))))
    (sSeq (sEx (eMt cW "keep" (F_Well_keep cW) (eVar 0) (aCons (eTup [(eVar 2), (eVar 3)]) (eArgs []))))
    (sRt (eVar 0))))))))
def F_are_good_snails : Fn := fnP 1 2
    (sRt (eAnd (eCall F_is_tuple [(eVar 0), (eK (.int 1)), (eK (.int 3))]) (eCall gAll [(eLc (eItS (eVar 0)) (.nm 1) tYesD (eCall F_is_good_snail [(eVar 1)]) [1])])))
def F_is_snail : Fn := fnP 1 1
    (sRt (eCall F_is_good_snail [(eVar 0)]))
def F__law_snail : Fn := fnP 1 3
    (sSeq (sSet 1 (eCall F__law_of [(eVar 0), (eLst [(eK (.int 0)), (eK (.int 0)), (eK (.int 1)), (eK (.int 3)), (eCall F__law_draw [(eVar 0), (eK (.int 21))])])]))
    (sSeq (sSet 2 (eCall F__law_of [(eVar 0), (eLst [(eK (.int 0)), (eK (.int 0)), (eK (.int 0)), (eK (.int 1)), (eCall F__law_draw [(eVar 0), (eK (.int 6))])])]))
    (sRt (eTup [(eVar 1), (eVar 2), (eCall F__law_round [(eVar 0)])]))))
def F_need_snail : Fn := fnP 1 1
    (sIf (eNotT (eTr (eCall F_is_good_snail [(eVar 0)])))
    (sRaise "InvalidSnail")
    sNx)
def F_settled : Fn := fnP 2 3
    (sSeq (sSet 2 (eLst [(eVar 0)]))
    (sSeq (sWh 4096 (eNotT (eTr (eCall F_is_settled [(eBin gIdx (eVar 2) (eNeg (eK (.int 1)))), (eVar 1)])))
    (sSet 2 (eBin gAdd (eVar 2) (eLst [(eCall F_behind [(eBin gIdx (eVar 2) (eNeg (eK (.int 1)))), (eVar 1)])]))))
    (sRt (eVar 2))))
def F_winners_by : Fn := fnP 1 5
    (sSeq (sSt (eCall F_settled_from [(eVar 0)]) (gTp 2 (gsCons (gNm 1) (gsCons (gNm 2) gsNil))))
    (sSeq (sSet 3 (eLc (eRng2 (eK (.int 1)) (eVar 1)) (.nm 4) tYesD (eCall F_first_at [(eVar 0), (eVar 4)]) [4]))
    (sRt (eCall F_shortened [(eVar 3), (eLc (eRng2 (eVar 1) (eBin gAdd (eVar 1) (eVar 2))) (.nm 4) tYesD (eCall F_first_at [(eVar 0), (eVar 4)]) [4])]))))
def F_later_depth : Fn := fnP 2 5
    (sSeq (sSt (eCall F_settled_from [(eLst [(eVar 0), (eVar 1)])]) (gTp 2 (gsCons (gNm 2) (gsCons (gNm 3) gsNil))))
    (sSeq (sFor (eRng2 (eK (.int 1)) (eBin gAdd (eVar 2) (eVar 3))) (gNm 4)
    (sIf (eTr (eCall F_is_later [(eCall F_minute_in [(eVar 0), (eVar 4)]), (eCall F_minute_in [(eVar 1), (eVar 4)])]))
    (sRt (eVar 4))
    sNx))
    (sRt (eK .non))))
def F_leads_by : Fn := fnP 2 12
    (sSeq (sSt (eCall F_settled_from [(eLst [(eVar 0), (eVar 1)])]) (gTp 2 (gsCons (gNm 2) (gsCons (gNm 3) gsNil))))
    (sSeq (sSet 4 (eLst []))
    (sSeq (sFor (eRng2 (eK (.int 1)) (eBin gAdd (eVar 2) (eVar 3))) (gNm 5)
    (sSeq (sPar 6 7 (eCall F_minute_in [(eVar 0), (eVar 5)]) (eCall F_minute_in [(eVar 1), (eVar 5)]))
    (sSet 4 (eBin gAdd (eVar 4) (eIf (eAndT (eTb (eBin gNotN (eVar 6) (eK .non))) (eTb (eBin gNotN (eVar 7) (eK .non)))) (eLst [(eBin gSub (eVar 7) (eVar 6))]) (eLst []))))))
    (sSeq (sIf (eTb (eBin gEq (eVar 4) (eLst [])))
    (sRt (eK .non))
    sNx)
    (sSeq (sPar 8 9 (eCall gMin [(eLc (eItS (eVar 4)) (.nm 11) tYesD (eCall gInt [(eVar 11)]) [11])]) (eCall gMax [(eLc (eItS (eVar 4)) (.nm 11) tYesD (eCall gInt [(eVar 11)]) [11])]))
    (sSeq (sSet 10 (eIf (eAndT (eTr (eCall F_is_endless [(eVar 0)])) (eTr (eCall F_is_endless [(eVar 1)]))) (eBin gSub (eCall F_rise_in [(eVar 1), (eVar 3)]) (eCall F_rise_in [(eVar 0), (eVar 3)])) (eK (.int 0))))
    (sRt (eTup [(eIf (eTb (eBin gLt (eVar 10) (eK (.int 0)))) (eK .non) (eVar 8)), (eIf (eTb (eBin gGt (eVar 10) (eK (.int 0)))) (eK .non) (eVar 9))]))))))))
def F_parting_depth : Fn := fnP 2 5
    (sSeq (sSt (eCall F_settled_from [(eLst [(eVar 0), (eVar 1)])]) (gTp 2 (gsCons (gNm 2) (gsCons (gNm 3) gsNil))))
    (sSeq (sFor (eRng2 (eK (.int 1)) (eBin gAdd (eVar 2) (eVar 3))) (gNm 4)
    (sIf (eTb (eBin gNe (eCall F_minute_in [(eVar 0), (eVar 4)]) (eCall F_minute_in [(eVar 1), (eVar 4)])))
    (sRt (eVar 4))
    sNx))
    (sRt (eK .non))))
def F_snail_in : Fn := fnP 1 4
    (sSeq (sSet 1 (eMeth "str" gSplitM (eVar 0) [(eK (.str (Str.ofString " ")))]))
    (sSeq (sIf (eOrT (eTb (eBin gNe (eBin gIdx (eVar 1) (eK (.int 0))) (eK (.str (Str.ofString "snail"))))) (eOrT (eTb (eBin gLt (eCall gLen [(eVar 1)]) (eK (.int 4)))) (eNotT (eTr (eCall gAll [(eLc (eItS (eSl (eVar 1) (ePart (eK (.int 3))) eNo)) (.nm 3) tYesD (eBin gIn (eVar 3) (eK (.tup (([Str.ofString "-3", Str.ofString "-2", Str.ofString "-1", Str.ofString "0", Str.ofString "1", Str.ofString "2", Str.ofString "3"] : List Str).map D.str)))) [3])])))))
    (sRt (eK .non))
    sNx)
    (sSeq (sSet 2 (eTup [(eCall F_number_in [(eBin gIdx (eVar 1) (eK (.int 1)))]), (eCall F_number_in [(eBin gIdx (eVar 1) (eK (.int 2)))]), (eCall gTuple [(eLc (eItS (eSl (eVar 1) (ePart (eK (.int 3))) eNo)) (.nm 3) tYesD (eCall gIntT [(eVar 3)]) [3])])]))
    (sRt (eIf (eTr (eCall F_is_good_snail [(eVar 2)])) (eVar 2) (eK .non))))))
def F_Snail___init__ (cS : Addr) : Fn := (fnS 3 (fnP 4 4
    (sSeq (sEx (eCall F_need_snail [(eTup [(eVar 1), (eVar 2), (eVar 3)])]))
    (sFl cS "base" (eVar 0) (eTup [(eVar 1), (eVar 2), (eVar 3)])))))
def F_are_snails : Fn := fnP 1 1
    (sRt (eCall F_are_good_snails [(eVar 0)]))
def F_height_of : Fn := fnP 2 9
    (sSeq (sSt (eVar 0) (gTp 3 (gsCons (gNm 2) (gsCons (gNm 3) (gsCons (gNm 4) gsNil)))))
    (sSeq (sIf (eTb (eBin gLe (eVar 1) (eVar 2)))
    (sRt (eVar 3))
    sNx)
    (sSeq (sPar 5 6 (eBin gDiv (eBin gSub (eVar 1) (eVar 2)) (eCall gLen [(eVar 4)])) (eBin gMod (eBin gSub (eVar 1) (eVar 2)) (eCall gLen [(eVar 4)])))
    (sSeq (sSet 7 (eCall F_settled [(eVar 3), (eVar 4)]))
    (sSeq (sIf (eTb (eBin gLt (eVar 5) (eCall gLen [(eVar 7)])))
    (sRt (eCall F_behind [(eBin gIdx (eVar 7) (eVar 5)), (eSl (eVar 4) eNo (ePart (eVar 6)))]))
    sNx)
    (sSeq (sSet 8 (eBin gAdd (eBin gIdx (eVar 7) (eNeg (eK (.int 1)))) (eBin gMul (eBin gAdd (eBin gSub (eVar 5) (eCall gLen [(eVar 7)])) (eK (.int 1))) (eCall F_gain_of [(eBin gIdx (eVar 7) (eNeg (eK (.int 1)))), (eVar 4)]))))
    (sRt (eCall F_behind [(eVar 8), (eSl (eVar 4) eNo (ePart (eVar 6)))]))))))))
def F_calendar_of : Fn := fnP 1 12
    (sSeq (sSt (eVar 0) (gTp 3 (gsCons (gNm 1) (gsCons (gNm 2) (gsCons (gNm 3) gsNil)))))
    (sSeq (sSet 4 (eCall F_settled [(eVar 2), (eVar 3)]))
    (sSeq (sSet 5 (eCall F_gain_of [(eBin gIdx (eVar 4) (eNeg (eK (.int 1)))), (eVar 3)]))
    (sSeq (sIf (eTb (eBin gEq (eVar 5) (eK (.int 0))))
    (sRt (eTup [(eCall gTuple [(eCall F_records_of [(eVar 0), (eCall gLen [(eVar 4)])])]), (eTup [(eK .non)]), (eK (.int 0))]))
    sNx)
    (sSeq (sSet 6 (eCall gLen [(eVar 4)]))
    (sSeq (sWh 4096 (eTb (eBin gNe (eBin gSub (eCall gLen [(eCall F_records_of [(eVar 0), (eBin gAdd (eVar 6) (eK (.int 1)))])]) (eCall gLen [(eCall F_records_of [(eVar 0), (eVar 6)])])) (eVar 5)))
    (sSet 6 (eBin gAdd (eVar 6) (eK (.int 1)))))
    (sSeq (sPar 7 8 (eCall F_records_of [(eVar 0), (eVar 6)]) (eCall F_records_of [(eVar 0), (eBin gAdd (eVar 6) (eK (.int 1)))]))
    (sSeq (sPar 9 10 (eSl (eVar 8) (ePart (eCall gLen [(eVar 7)])) eNo) (eCall gLen [(eVar 3)]))
    (sSeq (sSet 11 (eCall F_least_turn [(eVar 9), (eVar 10)]))
    (sSeq (sPar 9 10 (eSl (eVar 9) eNo (ePart (eVar 11))) (eBin gDiv (eBin gMul (eVar 10) (eVar 11)) (eVar 5)))
    (sSeq (sWh 4096 (eAndT (eTb (eBin gNe (eVar 7) (eLst []))) (eTb (eBin gEq (eBin gAdd (eBin gIdx (eVar 7) (eNeg (eK (.int 1)))) (eVar 10)) (eBin gIdx (eVar 9) (eNeg (eK (.int 1)))))))
    (sPar 7 9 (eSl (eVar 7) eNo (ePart (eNeg (eK (.int 1))))) (eBin gAdd (eLst [(eBin gIdx (eVar 7) (eNeg (eK (.int 1))))]) (eSl (eVar 9) eNo (ePart (eNeg (eK (.int 1))))))))
    (sRt (eTup [(eCall gTuple [(eVar 7)]), (eCall gTuple [(eVar 9)]), (eVar 10)])))))))))))))
def F_need_snails : Fn := fnP 1 1
    (sIf (eNotT (eTr (eCall F_are_good_snails [(eVar 0)])))
    (sRaise "InvalidSnails")
    sNx)
def F_need_two : Fn := fnP 2 2
    (sSeq (sEx (eCall F_need_snail [(eVar 0)]))
    (sEx (eCall F_need_snail [(eVar 1)])))
def F_settled_minute : Fn := fnP 1 4
    (sSeq (sSt (eVar 0) (gTp 3 (gsCons (gNm 1) (gsCons (gNm 2) (gsCons (gNm 3) gsNil)))))
    (sRt (eBin gAdd (eVar 1) (eBin gMul (eBin gSub (eCall gLen [(eCall F_settled [(eVar 2), (eVar 3)])]) (eK (.int 1))) (eCall gLen [(eVar 3)])))))
def F_gain_in : Fn := fnP 2 5
    (sSeq (sSt (eVar 0) (gTp 3 (gsCons (gNm 2) (gsCons (gNm 3) (gsCons (gNm 4) gsNil)))))
    (sRt (eBin gMul (eCall F_gain_of [(eBin gIdx (eCall F_settled [(eVar 3), (eVar 4)]) (eNeg (eK (.int 1)))), (eVar 4)]) (eBin gDiv (eVar 1) (eCall gLen [(eVar 4)])))))
def F_top_of : Fn := fnP 1 8
    (sSeq (sSt (eVar 0) (gTp 3 (gsCons (gNm 1) (gsCons (gNm 2) (gsCons (gNm 3) gsNil)))))
    (sSeq (sSet 4 (eCall F_settled [(eVar 2), (eVar 3)]))
    (sSeq (sIf (eTb (eBin gGt (eCall F_gain_of [(eBin gIdx (eVar 4) (eNeg (eK (.int 1)))), (eVar 3)]) (eK (.int 0))))
    (sRt (eK .non))
    sNx)
    (sSeq (sSet 5 (eVar 2))
    (sSeq (sFor (eRng1 (eCall gLen [(eVar 4)])) (gNm 6)
    (sFor (eItS (eVar 3)) (gNm 7)
    (sSeq (sSet 2 (eCall F_stepped [(eVar 2), (eVar 7)]))
    (sSet 5 (eIf (eTb (eBin gGt (eVar 2) (eVar 5))) (eVar 2) (eVar 5))))))
    (sRt (eVar 5)))))))
def F_with_start : Fn := fnP 2 2
    (sSeq (sEx (eCall F_need_snail [(eVar 0)]))
    (sSeq (sIf (eNotT (eTr (eCall F_is_number [(eVar 1), (eK (.int 0)), (eK (.int 20))])))
    (sRaise "InvalidNumber")
    sNx)
    (sRt (eCall F_started [(eVar 0), (eVar 1)]))))
def F_snails_in : Fn := fnP 1 3
    (sSeq (sIf (eNotT (eTr (eIsi 3 (eVar 0))))
    sBad
    sNx)
    (sSeq (sSet 1 (eLc (eItS (eMeth "str" gSplitM (eVar 0) [(eK (.str (Str.ofString "\n")))])) (.nm 2) tYesD (eCall F_snail_in [(eVar 2)]) [2]))
    (sSeq (sIf (eTb (eBin gIn (eK .non) (eVar 1)))
    sBad
    sNx)
    (sSeq (sIf (eNotT (eTr (eCall F_are_good_snails [(eCall gTuple [(eVar 1)])])))
    sBad
    sNx)
    (sRt (eCall gTuple [(eVar 1)]))))))
def F_good_snail : Fn := fnP 1 1
    (sSeq (sEx (eCall F_need_snail [(eVar 0)]))
    (sRt (eVar 0)))
def F_Snail___iadd__ (cS : Addr) : Fn := (fnN 2 (fnQ 2 2
    (sSeq (sFl cS "base" (eVar 0) (eCall F_good_snail [(eBin gAdd (eSl (eFld cS "base" (eVar 0)) eNo (ePart (eK (.int 2)))) (eTup [(eBin gAdd (eBin gIdx (eFld cS "base" (eVar 0)) (eK (.int 2))) (eTup [(eVar 1)]))]))]))
    (sRt (eVar 0)))))
def F_Snail___isub__ (cS : Addr) : Fn := (fnN 2 (fnQ 2 2
    (sSeq (sFl cS "base" (eVar 0) (eCall F_good_snail [(eBin gAdd (eSl (eFld cS "base" (eVar 0)) eNo (ePart (eK (.int 2)))) (eTup [(eCall F_fewer [(eBin gIdx (eFld cS "base" (eVar 0)) (eK (.int 2))), (eVar 1)])]))]))
    (sRt (eVar 0)))))
def F_Snail___call__ (cS : Addr) : Fn := (fnN 2 (fnP 2 2
    (sSeq (sEx (eCall F_need_number [(eVar 1), (eK (.int 1))]))
    (sRt (eCall F_minute_in [(eCall F_calendar_of [(eFld cS "base" (eVar 0))]), (eVar 1)])))))
def F_Snail___bool__ (cS : Addr) : Fn := (fnN 1 (fnP 1 1
    (sRt (eCall gBool [(eCall F_is_endless [(eCall F_calendar_of [(eFld cS "base" (eVar 0))])])]))))
def F_Snail_beats (cS : Addr) : Fn := (fnN 2 (fnP 2 3
    (sSeq (sSet 2 (eMt cS "base_of" (F_Snail_base_of cS) (eVar 0) (aCons (eVar 1) (eArgs []))))
    (sRt (eBin gIsN (eCall F_later_depth [(eCall F_calendar_of [(eFld cS "base" (eVar 0))]), (eCall F_calendar_of [(eVar 2)])]) (eK .non))))))
def F_Well_height_now (cW : Addr) : Fn := (fnN 2 (fnP 2 5
    (sSeq (sSt (eBin gIdx (eBin gIdx (eFld cW "now" (eVar 0)) (eK (.int 1))) (eVar 1)) (gTp 3 (gsCons (gNm 2) (gsCons (gNm 3) (gsCons (gNm 4) gsNil)))))
    (sRt (eCall F_height_of [(eTup [(eK (.int 0)), (eVar 3), (eVar 4)]), (eBin gSub (eBin gIdx (eFld cW "now" (eVar 0)) (eK (.int 0))) (eVar 2))])))))
def F_height_at : Fn := fnP 2 2
    (sSeq (sEx (eCall F_need_snail [(eVar 0)]))
    (sSeq (sEx (eCall F_need_number [(eVar 1), (eK (.int 0))]))
    (sRt (eCall F_height_of [(eVar 0), (eVar 1)]))))
def F_out_at : Fn := fnP 2 2
    (sSeq (sEx (eCall F_need_snail [(eVar 0)]))
    (sSeq (sEx (eCall F_need_number [(eVar 1), (eK (.int 1))]))
    (sRt (eCall F_minute_in [(eCall F_calendar_of [(eVar 0)]), (eVar 1)]))))
def F_calendar : Fn := fnP 1 1
    (sSeq (sEx (eCall F_need_snail [(eVar 0)]))
    (sRt (eCall F_calendar_of [(eVar 0)])))
def F_all_calendars : Fn := fnP 1 2
    (sRt (eLc (eItS (eVar 0)) (.nm 1) tYesD (eCall F_calendar_of [(eVar 1)]) [1]))
def F_leads : Fn := fnP 2 2
    (sSeq (sEx (eCall F_need_two [(eVar 0), (eVar 1)]))
    (sRt (eCall F_leads_by [(eCall F_calendar_of [(eVar 0)]), (eCall F_calendar_of [(eVar 1)])])))
def F_never_later : Fn := fnP 2 2
    (sSeq (sEx (eCall F_need_two [(eVar 0), (eVar 1)]))
    (sRt (eBin gIsN (eCall F_later_depth [(eCall F_calendar_of [(eVar 0)]), (eCall F_calendar_of [(eVar 1)])]) (eK .non))))
def F_first_later : Fn := fnP 2 2
    (sSeq (sEx (eCall F_need_two [(eVar 0), (eVar 1)]))
    (sRt (eCall F_later_depth [(eCall F_calendar_of [(eVar 0)]), (eCall F_calendar_of [(eVar 1)])])))
def F_far_at : Fn := fnP 3 3
    (sRt (eBin gSub (eCall F_height_of [(eVar 0), (eVar 2)]) (eCall F_height_of [(eVar 1), (eVar 2)])))
def F_highest : Fn := fnP 1 1
    (sSeq (sEx (eCall F_need_snail [(eVar 0)]))
    (sRt (eCall F_top_of [(eVar 0)])))
def F_are_alike : Fn := fnP 2 2
    (sRt (eBin gEq (eCall F_calendar_of [(eVar 0)]) (eCall F_calendar_of [(eVar 1)])))
def F_parting : Fn := fnP 2 2
    (sSeq (sEx (eCall F_need_two [(eVar 0), (eVar 1)]))
    (sRt (eCall F_parting_depth [(eCall F_calendar_of [(eVar 0)]), (eCall F_calendar_of [(eVar 1)])])))
def F_latest_start : Fn := fnP 2 5
    (sSeq (sEx (eCall F_need_two [(eVar 0), (eVar 1)]))
    (sSeq (sSet 2 (eCall F_calendar_of [(eVar 1)]))
    (sSeq (sSet 3 (eLc (eRng1 (eK (.int 21))) (.nm 4) (eTb (eBin gIsN (eCall F_later_depth [(eCall F_calendar_of [(eCall F_started [(eVar 0), (eVar 4)])]), (eVar 2)]) (eK .non))) (eVar 4) [4]))
    (sRt (eIf (eTb (eBin gNe (eVar 3) (eLst []))) (eBin gIdx (eVar 3) (eNeg (eK (.int 1)))) (eK .non))))))
def F_depths_told : Fn := fnP 2 5
    (sSeq (sEx (eCall F_need_snails [(eVar 0)]))
    (sSeq (sEx (eCall F_need_seen [(eVar 0), (eVar 1)]))
    (sSeq (sSet 2 (eTup [(eK (.int 1)), (eK .non)]))
    (sSeq (sFor (eItS (eVar 1)) (gTp 2 (gsCons (gNm 3) (gsCons (gNm 4) gsNil)))
    (sSet 2 (eCall F_both [(eVar 2), (eCall F_depths_at [(eCall F_calendar_of [(eBin gIdx (eVar 0) (eVar 3))]), (eVar 4)])])))
    (sRt (eVar 2))))))
def F_is_seen : Fn := fnP 3 5
    (sSeq (sEx (eCall F_need_snails [(eVar 0)]))
    (sSeq (sEx (eCall F_need_number [(eVar 1), (eK (.int 1))]))
    (sSeq (sEx (eCall F_need_seen [(eVar 0), (eVar 2)]))
    (sRt (eCall gAll [(eLc (eItS (eVar 2)) (.tp [3, 4]) tYesD (eBin gEq (eCall F_minute_in [(eCall F_calendar_of [(eBin gIdx (eVar 0) (eVar 3))]), (eVar 1)]) (eVar 4)) [3, 4])])))))
def F_snails_text : Fn := fnP 1 1
    (sSeq (sEx (eCall F_need_snails [(eVar 0)]))
    (sRt (eMeth "str" gJoinM (eK (.str (Str.ofString "\n"))) [(eCall F_lines_of [(eVar 0)])])))
def F_read_snails : Fn := fnP 1 1
    (sRt (eCall F_snails_in [(eVar 0)]))
def F_out_in : Fn := fnP 3 5
    (sSeq (sSet 3 (eCall F_minute_in [(eCall F_calendar_of [(eBin gAdd (eTup [(eK (.int 0))]) (eSl (eVar 1) (ePart (eK (.int 1))) eNo))]), (eVar 0)]))
    (sSeq (sSet 4 (eIf (eTb (eBin gIsN (eVar 3) (eK .non))) (eK .non) (eBin gAdd (eBin gIdx (eVar 1) (eK (.int 0))) (eVar 3))))
    (sRt (eIf (eAndT (eTb (eBin gNotN (eVar 4) (eK .non))) (eTb (eBin gLe (eVar 4) (eVar 2)))) (eVar 4) (eK .non)))))
def F_Snail_read (cS : Addr) : Fn := (fnN 2 (fnQ 2 6
    (sSeq (sSet 2 (eCall F_snails_in [(eVar 1)]))
    (sSeq (sIf (eTb (eBin gGt (eCall gLen [(eVar 2)]) (eK (.int 1))))
    sBad
    sNx)
    (sSeq (sSt (eBin gIdx (eVar 2) (eK (.int 0))) (gTp 3 (gsCons (gNm 3) (gsCons (gNm 4) (gsCons (gNm 5) gsNil)))))
    (sRt (eMkV 0 cS (F_Snail___init__ cS) (aCons (eVar 3) (aCons (eVar 4) (aStar (eVar 5) (eArgs [])))))))))))
def F_Snail_made (cS : Addr) : Fn := (fnN 2 (fnQ 2 5
    (sSeq (sSt (eCall F_good_snail [(eVar 1)]) (gTp 3 (gsCons (gNm 2) (gsCons (gNm 3) (gsCons (gNm 4) gsNil)))))
    (sRt (eMk cS (F_Snail___init__ cS) (aCons (eVar 2) (aCons (eVar 3) (aStar (eVar 4) (eArgs [])))))))))
def F_Snail_like (cS : Addr) : Fn := (fnN 2 (fnP 2 2
    (sRt (eCall F_are_alike [(eFld cS "base" (eVar 0)), (eMt cS "base_of" (F_Snail_base_of cS) (eVar 0) (aCons (eVar 1) (eArgs [])))]))))
def F_winners : Fn := fnP 2 2
    (sSeq (sEx (eCall F_need_snails [(eVar 0)]))
    (sSeq (sEx (eCall F_need_number [(eVar 1), (eK (.int 1))]))
    (sRt (eCall F_first_at [(eCall F_all_calendars [(eVar 0)]), (eVar 1)]))))
def F_winner_calendar : Fn := fnP 1 1
    (sSeq (sEx (eCall F_need_snails [(eVar 0)]))
    (sRt (eCall F_winners_by [(eCall F_all_calendars [(eVar 0)])])))
def F_how : Fn := fnP 2 6
    (sSeq (sEx (eCall F_need_snails [(eVar 0)]))
    (sSeq (sEx (eCall F_need_index [(eVar 0), (eVar 1)]))
    (sSeq (sSt (eCall F_winners_by [(eCall F_all_calendars [(eVar 0)])]) (gTp 2 (gsCons (gNm 2) (gsCons (gNm 3) gsNil))))
    (sSeq (sSet 4 (eLc (eItS (eBin gAdd (eVar 2) (eVar 3))) (.nm 5) tYesD (eBin gIn (eVar 1) (eVar 5)) [5]))
    (sSeq (sIf (eTb (eBin gNotIn (eK (.bl true)) (eVar 4)))
    (sRt (eK (.str (Str.ofString "never"))))
    sNx)
    (sRt (eIf (eTb (eBin gIn (eK (.bl false)) (eVar 4))) (eK (.str (Str.ofString "sometimes"))) (eK (.str (Str.ofString "always"))))))))))
def F_first_depth : Fn := fnP 2 7
    (sSeq (sEx (eCall F_need_snails [(eVar 0)]))
    (sSeq (sEx (eCall F_need_index [(eVar 0), (eVar 1)]))
    (sSeq (sSt (eCall F_winners_by [(eCall F_all_calendars [(eVar 0)])]) (gTp 2 (gsCons (gNm 2) (gsCons (gNm 3) gsNil))))
    (sSeq (sSet 4 (eLc (eEn (eBin gAdd (eVar 2) (eVar 3))) (.tp [5, 6]) (eTb (eBin gIn (eVar 1) (eVar 6))) (eBin gAdd (eVar 5) (eK (.int 1))) [5, 6]))
    (sRt (eIf (eTb (eBin gNe (eVar 4) (eLst []))) (eBin gIdx (eVar 4) (eK (.int 0))) (eK .non)))))))
def F_words_by : Fn := fnP 2 11
    (sSeq (sPar 2 3 (eCall gLen [(eBin gIdx (eVar 0) (eK (.int 2)))]) (eCall gLen [(eBin gIdx (eVar 1) (eK (.int 2)))]))
    (sSeq (sSet 4 (eBin gDiv (eBin gMul (eVar 2) (eVar 3)) (eCall F_divisor [(eVar 2), (eVar 3)])))
    (sSeq (sSet 5 (eCall gMax [(eCall gInt [(eCall F_settled_minute [(eVar 0)])]), (eCall gInt [(eCall F_settled_minute [(eVar 1)])])]))
    (sSeq (sSet 6 (eBin gSub (eCall F_gain_in [(eVar 0), (eVar 4)]) (eCall F_gain_in [(eVar 1), (eVar 4)])))
    (sSeq (sIf (eTb (eBin gNe (eVar 6) (eK (.int 0))))
    (sSeq (sSet 7 (eLc (eRng2 (eVar 5) (eBin gAdd (eVar 5) (eVar 4))) (.nm 9) tYesD (eCall F_far_at [(eVar 0), (eVar 1), (eVar 9)]) [9]))
    (sSeq (sSet 7 (eLc (eItS (eVar 7)) (.nm 10) tYesD (eIf (eTb (eBin gGt (eVar 6) (eK (.int 0)))) (eVar 10) (eNeg (eVar 10))) [10]))
    (sSet 5 (eBin gAdd (eVar 5) (eBin gMul (eVar 4) (eCall gMax [(eBin gAdd (eLst [(eK (.int 0))]) (eLc (eItS (eVar 7)) (.nm 10) tYesD (eBin gAdd (eCall gInt [(eBin gDiv (eNeg (eVar 10)) (eCall gAbs [(eVar 6)]))]) (eK (.int 1))) [10]))]))))))
    sNx)
    (sSeq (sSet 8 (eLc (eRng1 (eVar 5)) (.nm 9) tYesD (eCall F_word_of [(eCall F_far_at [(eVar 0), (eVar 1), (eVar 9)])]) [9]))
    (sRt (eCall F_shortened [(eVar 8), (eLc (eRng2 (eVar 5) (eBin gAdd (eVar 5) (eVar 4))) (.nm 9) tYesD (eCall F_word_of [(eCall F_far_at [(eVar 0), (eVar 1), (eVar 9)])]) [9])]))))))))
def F_alike : Fn := fnP 2 2
    (sSeq (sEx (eCall F_need_two [(eVar 0), (eVar 1)]))
    (sRt (eCall F_are_alike [(eVar 0), (eVar 1)])))
def F_idle_steps : Fn := fnP 1 4
    (sSeq (sEx (eCall F_need_snail [(eVar 0)]))
    (sSeq (sSet 1 (eBin gIdx (eVar 0) (eK (.int 2))))
    (sSeq (sSet 2 (eIf (eTb (eBin gGt (eCall gLen [(eVar 1)]) (eK (.int 1)))) (eListRg1 (eCall gLen [(eVar 1)])) (eLst [])))
    (sRt (eLc (eItS (eVar 2)) (.nm 3) (eTr (eCall F_are_alike [(eVar 0), (eCall F_with_round [(eVar 0), (eCall F_without [(eVar 1), (eVar 3)])])])) (eVar 3) [3])))))
def F_exchangeable : Fn := fnP 1 4
    (sSeq (sEx (eCall F_need_snail [(eVar 0)]))
    (sSeq (sSet 1 (eBin gIdx (eVar 0) (eK (.int 2))))
    (sSeq (sSet 2 (eListRg1 (eBin gSub (eCall gLen [(eVar 1)]) (eK (.int 1)))))
    (sRt (eLc (eItS (eVar 2)) (.nm 3) (eTr (eCall F_are_alike [(eVar 0), (eCall F_with_round [(eVar 0), (eCall F_exchanged [(eVar 1), (eVar 3)])])])) (eVar 3) [3])))))
def F_all_out : Fn := fnP 3 7
    (sSeq (sSet 3 (eLc (eItS (eVar 1)) (.nm 4) tYesD (eCall F_out_in [(eVar 0), (eVar 4), (eVar 2)]) [4]))
    (sRt (eCall gTuple [(eCall gSorted [(eLc (eEn (eVar 3)) (.tp [5, 6]) (eTb (eBin gNotN (eVar 6) (eK .non))) (eTup [(eVar 6), (eVar 5)]) [5, 6])])])))
def F_Well_out (cW : Addr) : Fn := (fnP 1 1
    (sRt (eCall F_all_out [(eFld cW "deep" (eVar 0)), (eBin gIdx (eFld cW "now" (eVar 0)) (eK (.int 1))), (eBin gIdx (eFld cW "now" (eVar 0)) (eK (.int 0)))])))
def F_order_calendar : Fn := fnP 2 2
    (sSeq (sEx (eCall F_need_two [(eVar 0), (eVar 1)]))
    (sRt (eCall F_words_by [(eVar 0), (eVar 1)])))
def F_first_over : Fn := fnP 2 5
    (sSeq (sEx (eCall F_need_two [(eVar 0), (eVar 1)]))
    (sSeq (sSt (eCall F_words_by [(eVar 0), (eVar 1)]) (gTp 2 (gsCons (gNm 2) (gsCons (gNm 3) gsNil))))
    (sSeq (sSet 4 (eCall gList [(eBin gAdd (eVar 2) (eVar 3))]))
    (sRt (eIf (eTb (eBin gIn (eK (.str (Str.ofString "over"))) (eVar 4))) (eMeth "list" gIndexM (eVar 4) [(eK (.str (Str.ofString "over")))]) (eK .non))))))
def F_Snail___add__ (cS : Addr) : Fn := (fnN 2 (fnQ 2 2
    (sRt (eMt cS "made" (F_Snail_made cS) (eVar 0) (aCons (eBin gAdd (eSl (eFld cS "base" (eVar 0)) eNo (ePart (eK (.int 2)))) (eTup [(eBin gAdd (eBin gIdx (eFld cS "base" (eVar 0)) (eK (.int 2))) (eTup [(eVar 1)]))])) (eArgs []))))))
def F_Snail___sub__ (cS : Addr) : Fn := (fnN 2 (fnQ 2 2
    (sRt (eMt cS "made" (F_Snail_made cS) (eVar 0) (aCons (eBin gAdd (eSl (eFld cS "base" (eVar 0)) eNo (ePart (eK (.int 2)))) (eTup [(eCall F_fewer [(eBin gIdx (eFld cS "base" (eVar 0)) (eK (.int 2))), (eVar 1)])])) (eArgs []))))))
def F_Snail___rshift__ (cS : Addr) : Fn := (fnN 2 (fnQ 2 2
    (sSeq (sIf (eNotT (eTr (eCall F_is_number [(eVar 1), (eK (.int 0)), (eK (.int 20))])))
    (sRaise "InvalidSnail")
    sNx)
    (sRt (eMt cS "made" (F_Snail_made cS) (eVar 0) (aCons (eBin gAdd (eTup [(eBin gAdd (eBin gIdx (eFld cS "base" (eVar 0)) (eK (.int 0))) (eVar 1))]) (eSl (eFld cS "base" (eVar 0)) (ePart (eK (.int 1))) eNo)) (eArgs [])))))))
def F_Snail___xor__ (cS : Addr) : Fn := (fnN 2 (fnQ 2 2
    (sRt (eMt cS "made" (F_Snail_made cS) (eVar 0) (aCons (eTup [(eBin gIdx (eFld cS "base" (eVar 0)) (eK (.int 0))), (eVar 1), (eBin gIdx (eFld cS "base" (eVar 0)) (eK (.int 2)))]) (eArgs []))))))
def F_Snail___invert__ (cS : Addr) : Fn := (fnN 1 (fnQ 1 1
    (sRt (eMt cS "made" (F_Snail_made cS) (eVar 0) (aCons (eBin gAdd (eSl (eFld cS "base" (eVar 0)) eNo (ePart (eK (.int 2)))) (eTup [(eRev (eBin gIdx (eFld cS "base" (eVar 0)) (eK (.int 2))))])) (eArgs []))))))
def F_Well_inside (cW : Addr) : Fn := (fnP 1 4
    (sSeq (sSet 1 (eLc (eItS (eProp1 cW (F_Well_out cW) (eVar 0))) (.tp [2, 3]) tYesD (eVar 3) [2, 3]))
    (sRt (eLc (eRng1 (eCall gLen [(eBin gIdx (eFld cW "now" (eVar 0)) (eK (.int 1)))])) (.nm 3) (eTb (eBin gNotIn (eVar 3) (eVar 1))) (eVar 3) [3]))))
def F_Well_wait (cW : Addr) : Fn := (fnN 2 (fnP 2 5
    (sSeq (sIf (eNotT (eTr (eCall F_is_number [(eVar 1), (eK (.int 1)), (eK (.int 1000))])))
    (sRaise "InvalidNumber")
    sNx)
    (sSeq (sSt (eFld cW "now" (eVar 0)) (gTp 2 (gsCons (gNm 2) (gsCons (gNm 3) gsNil))))
    (sSeq (sEx (eMt cW "keep" (F_Well_keep cW) (eVar 0) (aCons (eTup [(eBin gAdd (eVar 2) (eVar 1)), (eVar 3)]) (eArgs []))))
    (sRt (eCall gTuple [(eLc (eItS (eProp1 cW (F_Well_out cW) (eVar 0))) (.nm 4) (eTb (eBin gGt (eBin gIdx (eVar 4) (eK (.int 0))) (eVar 2))) (eVar 4) [4])])))))))
def F_Well_log (cW : Addr) : Gn := gnP 1 3
    (yFor (eItS (eProp1 cW (F_Well_out cW) (eVar 0))) (gTp 2 (gsCons (gNm 1) (gsCons (gNm 2) gsNil)))
    (eJs [(eFmt (eVar 1)), (eK (.str (Str.ofString " "))), (eFmt (eVar 2))] Str.empty))
def F_Well___getitem__ (cW : Addr) : Fn := (fnN 2 (fnP 2 2
    (sSeq (sIf (eNotT (eTr (eCall F_is_number [(eVar 1), (eK (.int 0)), (eBin gSub (eCall gLen [(eBin gIdx (eFld cW "now" (eVar 0)) (eK (.int 1)))]) (eK (.int 1)))])))
    (sRaise "InvalidIndex")
    sNx)
    (sRt (eIf (eTb (eBin gIn (eVar 1) (eProp1 cW (F_Well_inside cW) (eVar 0)))) (eMt cW "height_now" (F_Well_height_now cW) (eVar 0) (aCons (eVar 1) (eArgs []))) (eK .non))))))
def F_Well___contains__ (cW : Addr) : Fn := (fnN 2 (fnP 2 3
    (sRt (eAnd (eCall F_is_number [(eVar 1), (eK (.int 0)), (eFld cW "deep" (eVar 0))]) (eBin gIn (eVar 1) (eLc (eItS (eProp1 cW (F_Well_inside cW) (eVar 0))) (.nm 2) tYesD (eMt cW "height_now" (F_Well_height_now cW) (eVar 0) (aCons (eVar 2) (eArgs []))) [2]))))))
def F_Well___bool__ (cW : Addr) : Fn := (fnN 1 (fnP 1 1
    (sRt (eCall gBool [(eBin gNe (eProp1 cW (F_Well_inside cW) (eVar 0)) (eLst []))]))))
end DL
/-! printed by sf.py: which mirrors do not look at the store -/
namespace DL
open PySem L2
theorem sf_F_is_number : SFC F_is_number := sfc_fnP (sfs_rt (sfe_and (sfe_isi _ (sfe_var _)) (sfe_and (sfe_not (sfe_isi _ (sfe_var _))) (sfe_chain (sf_gI2 _) (sf_gI2 _) (sfe_var _) (sfe_var _) (sfe_var _)))))
theorem sf_F_is_tuple : SFC F_is_tuple := sfc_fnP (sfs_rt (sfe_and (sfe_isi _ (sfe_var _)) (sfe_chain (sf_gI2 _) (sf_gI2 _) (sfe_var _) (sfe_call sf_gLen (sfa_cons (sfe_var _) sfa_nil)) (sfe_var _))))
theorem sf_F_stepped : SFC F_stepped := sfc_fnP (sfs_rt (sfe_if (sft_tb (sfe_bin (sf_gI2 _) (sfe_bin sf_gAdd (sfe_var _) (sfe_var _)) (sfe_K _))) (sfe_bin sf_gAdd (sfe_var _) (sfe_var _)) (sfe_K _)))
theorem sf_F_lowest_sum : SFC F_lowest_sum := sfc_fnP (sfs_seq (sfs_st (sfe_tup (sfa_cons (sfe_K _) (sfa_cons (sfe_K _) sfa_nil))) (sfg_tp _ (sfgs_cons (sfg_nm _) (sfgs_cons (sfg_nm _) sfgs_nil)))) (sfs_seq (sfs_for (sfi_it (sfe_var _)) (sfg_nm _) (sfs_seq (sfs_set _ (sfe_bin sf_gAdd (sfe_var _) (sfe_var _))) (sfs_set _ (sfe_if (sft_tb (sfe_bin (sf_gI2 _) (sfe_var _) (sfe_var _))) (sfe_var _) (sfe_var _))))) (sfs_rt (sfe_var _))))
theorem sf_F_least_turn : SFC F_least_turn := sfc_fnP (sfs_seq (sfs_set _ (sfe_call sf_gLen (sfa_cons (sfe_var _) sfa_nil))) (sfs_seq (sfs_for (sfi_rng2 (sfe_K _) (sfe_bin sf_gAdd (sfe_var _) (sfe_K _))) (sfg_nm _) (sfs_if (sft_and (sft_tb (sfe_bin (sf_gEqB _) (sfe_bin sf_gMod (sfe_var _) (sfe_var _)) (sfe_K _))) (sft_tb (sfe_bin (sf_gEqB _) (sfe_bin sf_gMod (sfe_bin sf_gMul (sfe_var _) (sfe_var _)) (sfe_var _)) (sfe_K _)))) (sfs_seq (sfs_set _ (sfe_bin sf_gDiv (sfe_bin sf_gMul (sfe_var _) (sfe_var _)) (sfe_var _))) (sfs_seq (sfs_set _ (sfe_bin sf_gAdd (sfe_sl (sfe_var _) (sfo_part (sfe_var _)) sfo_no) (sfe_lc (sfi_it (sfe_sl (sfe_var _) sfo_no (sfo_part (sfe_var _)))) sft_yes (sfe_bin sf_gAdd (sfe_var _) (sfe_var _))))) (sfs_if (sft_tb (sfe_bin (sf_gEqB _) (sfe_var _) (sfe_lc (sfi_it (sfe_var _)) sft_yes (sfe_bin sf_gAdd (sfe_var _) (sfe_var _))))) (sfs_rt (sfe_var _)) sfs_nx))) sfs_nx)) (sfs_rt (sfe_var _))))
theorem sf_F_minute_in : SFC F_minute_in := sfc_fnP (sfs_seq (sfs_st (sfe_var _) (sfg_tp _ (sfgs_cons (sfg_nm _) (sfgs_cons (sfg_nm _) (sfgs_cons (sfg_nm _) sfgs_nil))))) (sfs_seq (sfs_if (sft_tb (sfe_bin (sf_gI2 _) (sfe_var _) (sfe_call sf_gLen (sfa_cons (sfe_var _) sfa_nil)))) (sfs_rt (sfe_bin sf_gIdx (sfe_var _) (sfe_bin sf_gSub (sfe_var _) (sfe_K _)))) sfs_nx) (sfs_seq (sfs_set _ (sfe_bin sf_gSub (sfe_bin sf_gSub (sfe_var _) (sfe_K _)) (sfe_call sf_gLen (sfa_cons (sfe_var _) sfa_nil)))) (sfs_seq (sfs_set _ (sfe_bin sf_gIdx (sfe_var _) (sfe_bin sf_gMod (sfe_var _) (sfe_call sf_gLen (sfa_cons (sfe_var _) sfa_nil))))) (sfs_rt (sfe_if (sft_tb (sfe_bin sf_gIsN (sfe_var _) (sfe_K _))) (sfe_K _) (sfe_bin sf_gAdd (sfe_var _) (sfe_bin sf_gMul (sfe_bin sf_gDiv (sfe_var _) (sfe_call sf_gLen (sfa_cons (sfe_var _) sfa_nil))) (sfe_var _)))))))))
theorem sf_F__law_up : SFC F__law_up := sfc_fnP (sfs_rt (sfe_call sf_gMax (sfa_cons (sfe_K _) (sfa_cons (sfe_bin sf_gAdd (sfe_var _) (sfe_var _)) sfa_nil))))
theorem sf_F__law_gains : SFC F__law_gains := sfc_fnP (sfs_seq (sfs_set _ (sfe_var _)) (sfs_seq (sfs_for (sfi_it (sfe_var _)) (sfg_nm _) (sfs_seq (sfs_set _ (sfe_bin sf_gAdd (sfe_var _) (sfe_var _))) (sfs_if (sft_tb (sfe_bin (sf_gI2 _) (sfe_var _) (sfe_K _))) (sfs_rt (sfe_K _)) sfs_nx))) (sfs_rt (sfe_bin sf_gSub (sfe_var _) (sfe_var _)))))
theorem sf_F__law_told_at : SFC F__law_told_at := sfc_fnP (sfs_seq (sfs_st (sfe_var _) (sfg_tp _ (sfgs_cons (sfg_nm _) (sfgs_cons (sfg_nm _) (sfgs_cons (sfg_nm _) sfgs_nil))))) (sfs_seq (sfs_if (sft_tb (sfe_bin (sf_gI2 _) (sfe_var _) (sfe_call sf_gLen (sfa_cons (sfe_var _) sfa_nil)))) (sfs_rt (sfe_bin sf_gIdx (sfe_var _) (sfe_bin sf_gSub (sfe_var _) (sfe_K _)))) sfs_nx) (sfs_seq (sfs_set _ (sfe_bin sf_gSub (sfe_bin sf_gSub (sfe_var _) (sfe_K _)) (sfe_call sf_gLen (sfa_cons (sfe_var _) sfa_nil)))) (sfs_seq (sfs_set _ (sfe_bin sf_gIdx (sfe_var _) (sfe_bin sf_gMod (sfe_var _) (sfe_call sf_gLen (sfa_cons (sfe_var _) sfa_nil))))) (sfs_rt (sfe_if (sft_tb (sfe_bin sf_gIsN (sfe_var _) (sfe_K _))) (sfe_K _) (sfe_bin sf_gAdd (sfe_var _) (sfe_bin sf_gMul (sfe_bin sf_gDiv (sfe_var _) (sfe_call sf_gLen (sfa_cons (sfe_var _) sfa_nil))) (sfe_var _)))))))))
theorem sf_F_divisor : SFC F_divisor := sfc_fnP (sfs_seq (sfs_wh (sft_tb (sfe_bin (sf_gEqB _) (sfe_var _) (sfe_K _))) (sfs_par _ _ (sfe_var _) (sfe_bin sf_gMod (sfe_var _) (sfe_var _))) _) (sfs_rt (sfe_var _)))
theorem sf_F_rise_in : SFC F_rise_in := sfc_fnP (sfs_rt (sfe_bin sf_gMul (sfe_bin sf_gIdx (sfe_var _) (sfe_K _)) (sfe_bin sf_gDiv (sfe_var _) (sfe_call sf_gLen (sfa_cons (sfe_bin sf_gIdx (sfe_var _) (sfe_K _)) sfa_nil)))))
theorem sf_F_is_endless : SFC F_is_endless := sfc_fnP (sfs_rt (sfe_bin (sf_gEqB _) (sfe_bin sf_gIdx (sfe_var _) (sfe_K _)) (sfe_tup (sfa_cons (sfe_K _) sfa_nil))))
theorem sf_F_shortened : SFC F_shortened := sfc_fnP (sfs_seq (sfs_set _ (sfe_call sf_gLen (sfa_cons (sfe_var _) sfa_nil))) (sfs_seq (sfs_set _ (sfe_call sf_gMin (sfa_cons (sfe_lc (sfi_rng2 (sfe_K _) (sfe_bin sf_gAdd (sfe_var _) (sfe_K _))) (sft_and (sft_tb (sfe_bin (sf_gEqB _) (sfe_bin sf_gMod (sfe_var _) (sfe_var _)) (sfe_K _))) (sft_tb (sfe_bin (sf_gEqB _) (sfe_bin sf_gAdd (sfe_sl (sfe_var _) (sfo_part (sfe_var _)) sfo_no) (sfe_sl (sfe_var _) sfo_no (sfo_part (sfe_var _)))) (sfe_var _)))) (sfe_var _)) sfa_nil))) (sfs_seq (sfs_st (sfe_tup (sfa_cons (sfe_sl (sfe_var _) sfo_no (sfo_part (sfe_var _))) (sfa_cons (sfe_K _) sfa_nil))) (sfg_tp _ (sfgs_cons (sfg_nm _) (sfgs_cons (sfg_nm _) sfgs_nil)))) (sfs_seq (sfs_wh (sft_and (sft_tb (sfe_bin (sf_gI2 _) (sfe_var _) (sfe_call sf_gLen (sfa_cons (sfe_var _) sfa_nil)))) (sft_tb (sfe_bin (sf_gEqB _) (sfe_bin sf_gIdx (sfe_var _) (sfe_bin sf_gSub (sfe_bin sf_gSub (sfe_call sf_gLen (sfa_cons (sfe_var _) sfa_nil)) (sfe_K _)) (sfe_var _))) (sfe_bin sf_gIdx (sfe_var _) (sfe_bin sf_gMod (sfe_bin sf_gSub (sfe_bin sf_gSub (sfe_var _) (sfe_K _)) (sfe_var _)) (sfe_var _)))))) (sfs_set _ (sfe_bin sf_gAdd (sfe_var _) (sfe_K _))) _) (sfs_seq (sfs_set _ (sfe_bin sf_gSub (sfe_var _) (sfe_bin sf_gMod (sfe_var _) (sfe_var _)))) (sfs_rt (sfe_tup (sfa_cons (sfe_call sf_gTuple (sfa_cons (sfe_sl (sfe_var _) sfo_no (sfo_part (sfe_bin sf_gSub (sfe_call sf_gLen (sfa_cons (sfe_var _) sfa_nil)) (sfe_var _)))) sfa_nil)) (sfa_cons (sfe_call sf_gTuple (sfa_cons (sfe_bin sf_gAdd (sfe_sl (sfe_var _) (sfo_part (sfe_var _)) sfo_no) (sfe_sl (sfe_var _) sfo_no (sfo_part (sfe_var _)))) sfa_nil)) sfa_nil)))))))))
theorem sf_F_first_of : SFC F_first_of := sfc_fnP (sfs_seq (sfs_set _ (sfe_lc (sfi_it (sfe_var _)) (sft_tb (sfe_bin sf_gNotN (sfe_var _) (sfe_K _))) (sfe_call sf_gInt (sfa_cons (sfe_var _) sfa_nil)))) (sfs_seq (sfs_if (sft_tb (sfe_bin (sf_gEqB _) (sfe_var _) (sfe_lst sfa_nil))) (sfs_rt (sfe_tup sfa_nil)) sfs_nx) (sfs_rt (sfe_call sf_gTuple (sfa_cons (sfe_lc (sfi_en (sfe_var _)) (sft_tb (sfe_bin (sf_gEqB _) (sfe_var _) (sfe_call sf_gMin (sfa_cons (sfe_var _) sfa_nil)))) (sfe_var _)) sfa_nil)))))
theorem sf_F__law_item_at : SFC F__law_item_at := sfc_fnP (sfs_seq (sfs_st (sfe_var _) (sfg_tp _ (sfgs_cons (sfg_nm _) (sfgs_cons (sfg_nm _) sfgs_nil)))) (sfs_seq (sfs_if (sft_tb (sfe_bin (sf_gI2 _) (sfe_var _) (sfe_call sf_gLen (sfa_cons (sfe_var _) sfa_nil)))) (sfs_rt (sfe_bin sf_gIdx (sfe_var _) (sfe_var _))) sfs_nx) (sfs_rt (sfe_bin sf_gIdx (sfe_var _) (sfe_bin sf_gMod (sfe_bin sf_gSub (sfe_var _) (sfe_call sf_gLen (sfa_cons (sfe_var _) sfa_nil))) (sfe_call sf_gLen (sfa_cons (sfe_var _) sfa_nil)))))))
theorem sf_F__law_is_short : SFC F__law_is_short := sfc_fnP (sfs_seq (sfs_if (sft_or (sft_not (sft_tr (sfe_isi _ (sfe_var _)))) (sft_or (sft_not (sft_tr (sfe_isi _ (sfe_var _)))) (sft_tb (sfe_bin (sf_gEqB _) (sfe_var _) (sfe_tup sfa_nil))))) (sfs_rt (sfe_K _)) sfs_nx) (sfs_seq (sfs_for (sfi_rng2 (sfe_K _) (sfe_call sf_gLen (sfa_cons (sfe_var _) sfa_nil))) (sfg_nm _) (sfs_if (sft_and (sft_tb (sfe_bin (sf_gEqB _) (sfe_bin sf_gMod (sfe_call sf_gLen (sfa_cons (sfe_var _) sfa_nil)) (sfe_var _)) (sfe_K _))) (sft_tb (sfe_bin (sf_gEqB _) (sfe_bin sf_gAdd (sfe_sl (sfe_var _) (sfo_part (sfe_var _)) sfo_no) (sfe_sl (sfe_var _) sfo_no (sfo_part (sfe_var _)))) (sfe_var _)))) (sfs_rt (sfe_K _)) sfs_nx)) (sfs_rt (sfe_or (sfe_bin (sf_gEqB _) (sfe_var _) (sfe_tup sfa_nil)) (sfe_bin (sf_gEqB _) (sfe_bin sf_gIdx (sfe_var _) (sfe_neg (sfe_K _))) (sfe_bin sf_gIdx (sfe_var _) (sfe_neg (sfe_K _))))))))
theorem sf_F_is_later : SFC F_is_later := sfc_fnP (sfs_rt (sfe_and (sfe_bin sf_gNotN (sfe_var _) (sfe_K _)) (sfe_or (sfe_bin sf_gIsN (sfe_var _) (sfe_K _)) (sfe_bin (sf_gI2 _) (sfe_var _) (sfe_var _)))))
theorem sf_F_word_of : SFC F_word_of := sfc_fnP (sfs_rt (sfe_if (sft_tb (sfe_bin (sf_gI2 _) (sfe_var _) (sfe_K _))) (sfe_K _) (sfe_if (sft_tb (sfe_bin (sf_gI2 _) (sfe_var _) (sfe_K _))) (sfe_K _) (sfe_K _))))
theorem sf_F_with_round : SFC F_with_round := sfc_fnP (sfs_rt (sfe_tup (sfa_cons (sfe_bin sf_gIdx (sfe_var _) (sfe_K _)) (sfa_cons (sfe_bin sf_gIdx (sfe_var _) (sfe_K _)) (sfa_cons (sfe_var _) sfa_nil)))))
theorem sf_F_without : SFC F_without := sfc_fnP (sfs_rt (sfe_bin sf_gAdd (sfe_sl (sfe_var _) sfo_no (sfo_part (sfe_var _))) (sfe_sl (sfe_var _) (sfo_part (sfe_bin sf_gAdd (sfe_var _) (sfe_K _))) sfo_no)))
theorem sf_F_exchanged : SFC F_exchanged := sfc_fnP (sfs_rt (sfe_bin sf_gAdd (sfe_bin sf_gAdd (sfe_sl (sfe_var _) sfo_no (sfo_part (sfe_var _))) (sfe_tup (sfa_cons (sfe_bin sf_gIdx (sfe_var _) (sfe_bin sf_gAdd (sfe_var _) (sfe_K _))) (sfa_cons (sfe_bin sf_gIdx (sfe_var _) (sfe_var _)) sfa_nil)))) (sfe_sl (sfe_var _) (sfo_part (sfe_bin sf_gAdd (sfe_var _) (sfe_K _))) sfo_no)))
theorem sf_F_started : SFC F_started := sfc_fnP (sfs_rt (sfe_bin sf_gAdd (sfe_tup (sfa_cons (sfe_var _) sfa_nil)) (sfe_sl (sfe_var _) (sfo_part (sfe_K _)) sfo_no)))
theorem sf_F_both : SFC F_both := sfc_fnP (sfs_seq (sfs_if (sft_or (sft_tb (sfe_bin sf_gIsN (sfe_var _) (sfe_K _))) (sft_tb (sfe_bin sf_gIsN (sfe_var _) (sfe_K _)))) (sfs_rt (sfe_K _)) sfs_nx) (sfs_seq (sfs_set _ (sfe_if (sft_tb (sfe_bin (sf_gI2 _) (sfe_bin sf_gIdx (sfe_var _) (sfe_K _)) (sfe_bin sf_gIdx (sfe_var _) (sfe_K _)))) (sfe_bin sf_gIdx (sfe_var _) (sfe_K _)) (sfe_bin sf_gIdx (sfe_var _) (sfe_K _)))) (sfs_seq (sfs_set _ (sfe_if (sft_tb (sfe_bin sf_gIsN (sfe_bin sf_gIdx (sfe_var _) (sfe_K _)) (sfe_K _))) (sfe_bin sf_gIdx (sfe_var _) (sfe_K _)) (sfe_bin sf_gIdx (sfe_var _) (sfe_K _)))) (sfs_seq (sfs_if (sft_and (sft_tb (sfe_bin sf_gNotN (sfe_bin sf_gIdx (sfe_var _) (sfe_K _)) (sfe_K _))) (sft_and (sft_tb (sfe_bin sf_gNotN (sfe_bin sf_gIdx (sfe_var _) (sfe_K _)) (sfe_K _))) (sft_tb (sfe_bin (sf_gI2 _) (sfe_bin sf_gIdx (sfe_var _) (sfe_K _)) (sfe_bin sf_gIdx (sfe_var _) (sfe_K _)))))) (sfs_set _ (sfe_bin sf_gIdx (sfe_var _) (sfe_K _))) sfs_nx) (sfs_rt (sfe_if (sft_or (sft_tb (sfe_bin sf_gIsN (sfe_var _) (sfe_K _))) (sft_tb (sfe_bin (sf_gI2 _) (sfe_var _) (sfe_var _)))) (sfe_tup (sfa_cons (sfe_var _) (sfa_cons (sfe_var _) sfa_nil))) (sfe_K _)))))))
theorem sf_F_words_of : SFC F_words_of := sfc_fnP (sfs_seq (sfs_st (sfe_var _) (sfg_tp _ (sfgs_cons (sfg_nm _) (sfgs_cons (sfg_nm _) (sfgs_cons (sfg_nm _) sfgs_nil))))) (sfs_rt (sfe_bin sf_gAdd (sfe_lst (sfa_cons (sfe_K _) (sfa_cons (sfe_call sf_gStr (sfa_cons (sfe_var _) sfa_nil)) (sfa_cons (sfe_call sf_gStr (sfa_cons (sfe_var _) sfa_nil)) sfa_nil)))) (sfe_lc (sfi_it (sfe_var _)) sft_yes (sfe_call sf_gStr (sfa_cons (sfe_var _) sfa_nil))))))
theorem sf_F_number_in : SFC F_number_in := sfc_fnP (sfs_seq (sfs_if (sft_or (sft_tb (sfe_bin (sf_gEqB _) (sfe_var _) (sfe_K _))) (sft_or (sft_tb (sfe_bin (sf_gI2 _) (sfe_call sf_gLen (sfa_cons (sfe_var _) sfa_nil)) (sfe_K _))) (sft_not (sft_tr (sfe_call sf_gAll (sfa_cons (sfe_lc (sfi_st (sfe_var _)) sft_yes (sfe_bin sf_gInS (sfe_var _) (sfe_K _))) sfa_nil)))))) (sfs_rt (sfe_K _)) sfs_nx) (sfs_rt (sfe_if (sft_tb (sfe_bin (sf_gEqB _) (sfe_call sf_gStr (sfa_cons (sfe_call sf_gIntT (sfa_cons (sfe_var _) sfa_nil)) sfa_nil)) (sfe_var _))) (sfe_call sf_gIntT (sfa_cons (sfe_var _) sfa_nil)) (sfe_K _))))
theorem sf_F__wall : SFC F__wall := sfc_fnP (sfs_wh (sft_tr (sfe_K _)) sfs_nx _)
theorem sf_F__law_line : SFC F__law_line := sfc_fnP (sfs_seq (sfs_set _ (sfe_bin sf_gAdd (sfe_lst (sfa_cons (sfe_K _) (sfa_cons (sfe_call sf_gStr (sfa_cons (sfe_bin sf_gIdx (sfe_var _) (sfe_K _)) sfa_nil)) (sfa_cons (sfe_call sf_gStr (sfa_cons (sfe_bin sf_gIdx (sfe_var _) (sfe_K _)) sfa_nil)) sfa_nil)))) (sfe_lc (sfi_it (sfe_bin sf_gIdx (sfe_var _) (sfe_K _))) sft_yes (sfe_call sf_gStr (sfa_cons (sfe_var _) sfa_nil))))) (sfs_rt (sfe_meth sf_gJoinM (sfe_K _) (sfa_cons (sfe_var _) sfa_nil))))
theorem sf_F_is_round : SFC F_is_round := sfc_fnP (sfs_rt (sfe_and (sfe_call sf_F_is_tuple (sfa_cons (sfe_var _) (sfa_cons (sfe_K _) (sfa_cons (sfe_K _) sfa_nil)))) (sfe_call sf_gAll (sfa_cons (sfe_lc (sfi_it (sfe_var _)) sft_yes (sfe_call sf_F_is_number (sfa_cons (sfe_var _) (sfa_cons (sfe_neg (sfe_K _)) (sfa_cons (sfe_K _) sfa_nil))))) sfa_nil))))
theorem sf_F_need_number : SFC F_need_number := sfc_fnP (sfs_if (sft_not (sft_tr (sfe_call sf_F_is_number (sfa_cons (sfe_var _) (sfa_cons (sfe_var _) (sfa_cons (sfe_K _) sfa_nil)))))) (sfs_raise _) sfs_nx)
theorem sf_F_behind : SFC F_behind := sfc_fnP (sfs_seq (sfs_for (sfi_it (sfe_var _)) (sfg_nm _) (sfs_set _ (sfe_call sf_F_stepped (sfa_cons (sfe_var _) (sfa_cons (sfe_var _) sfa_nil))))) (sfs_rt (sfe_var _)))
theorem sf_F_records_of : SFC F_records_of := sfc_fnP (sfs_seq (sfs_st (sfe_var _) (sfg_tp _ (sfgs_cons (sfg_nm _) (sfgs_cons (sfg_nm _) (sfgs_cons (sfg_nm _) sfgs_nil))))) (sfs_seq (sfs_set _ (sfe_bin sf_gMul (sfe_lst (sfa_cons (sfe_K _) sfa_nil)) (sfe_var _))) (sfs_seq (sfs_set _ (sfe_var _)) (sfs_seq (sfs_for (sfi_rng1 (sfe_var _)) (sfg_nm _) (sfs_for (sfi_it (sfe_var _)) (sfg_nm _) (sfs_seq (sfs_par _ _ (sfe_call sf_F_stepped (sfa_cons (sfe_var _) (sfa_cons (sfe_var _) sfa_nil))) (sfe_bin sf_gAdd (sfe_var _) (sfe_K _))) (sfs_set _ (sfe_bin sf_gAdd (sfe_var _) (sfe_bin sf_gMul (sfe_lst (sfa_cons (sfe_var _) sfa_nil)) (sfe_call sf_gMax (sfa_cons (sfe_K _) (sfa_cons (sfe_bin sf_gSub (sfe_var _) (sfe_call sf_gLen (sfa_cons (sfe_var _) sfa_nil))) sfa_nil))))))))) (sfs_rt (sfe_var _))))))
theorem sf_F__law_end : SFC F__law_end := sfc_fnP (sfs_seq (sfs_for (sfi_it (sfe_var _)) (sfg_nm _) (sfs_set _ (sfe_call sf_F__law_up (sfa_cons (sfe_var _) (sfa_cons (sfe_var _) sfa_nil))))) (sfs_rt (sfe_var _)))
theorem sf_F__law_out : SFC F__law_out := sfc_fnP (sfs_seq (sfs_st (sfe_var _) (sfg_tp _ (sfgs_cons (sfg_nm _) (sfgs_cons (sfg_nm _) (sfgs_cons (sfg_nm _) sfgs_nil))))) (sfs_seq (sfs_if (sft_tb (sfe_bin (sf_gI2 _) (sfe_var _) (sfe_var _))) (sfs_rt (sfe_K _)) sfs_nx) (sfs_seq (sfs_for (sfi_rng1 (sfe_K _)) (sfg_nm _) (sfs_seq (sfs_par _ _ (sfe_call sf_F__law_gains (sfa_cons (sfe_var _) (sfa_cons (sfe_var _) sfa_nil))) (sfe_var _)) (sfs_seq (sfs_if (sft_and (sft_tb (sfe_bin sf_gNotN (sfe_var _) (sfe_K _))) (sft_and (sft_tb (sfe_bin (sf_gI2 _) (sfe_var _) (sfe_K _))) (sft_tb (sfe_bin (sf_gI2 _) (sfe_bin sf_gSub (sfe_var _) (sfe_var _)) (sfe_K _))))) (sfs_seq (sfs_set _ (sfe_bin sf_gDiv (sfe_bin sf_gSub (sfe_bin sf_gSub (sfe_var _) (sfe_var _)) (sfe_K _)) (sfe_var _))) (sfs_seq (sfs_set _ (sfe_bin sf_gAdd (sfe_var _) (sfe_bin sf_gMul (sfe_var _) (sfe_var _)))) (sfs_set _ (sfe_bin sf_gAdd (sfe_var _) (sfe_bin sf_gMul (sfe_var _) (sfe_call sf_gLen (sfa_cons (sfe_var _) sfa_nil))))))) sfs_nx) (sfs_seq (sfs_for (sfi_it (sfe_var _)) (sfg_nm _) (sfs_seq (sfs_par _ _ (sfe_call sf_F__law_up (sfa_cons (sfe_var _) (sfa_cons (sfe_var _) sfa_nil))) (sfe_bin sf_gAdd (sfe_var _) (sfe_K _))) (sfs_if (sft_tb (sfe_bin (sf_gI2 _) (sfe_var _) (sfe_var _))) (sfs_rt (sfe_var _)) sfs_nx))) (sfs_if (sft_tb (sfe_bin (sf_gEqB _) (sfe_var _) (sfe_var _))) (sfs_rt (sfe_K _)) sfs_nx))))) (sfs_rt (sfe_K _)))))
theorem sf_F_need_index : SFC F_need_index := sfc_fnP (sfs_if (sft_not (sft_tr (sfe_call sf_F_is_number (sfa_cons (sfe_var _) (sfa_cons (sfe_K _) (sfa_cons (sfe_bin sf_gSub (sfe_call sf_gLen (sfa_cons (sfe_var _) sfa_nil)) (sfe_K _)) sfa_nil)))))) (sfs_raise _) sfs_nx)
theorem sf_F_common_turn : SFC F_common_turn := sfc_fnP (sfs_seq (sfs_set _ (sfe_K _)) (sfs_seq (sfs_for (sfi_it (sfe_var _)) (sfg_tp _ (sfgs_cons (sfg_nm _) (sfgs_cons (sfg_nm _) (sfgs_cons (sfg_nm _) sfgs_nil)))) (sfs_set _ (sfe_bin sf_gDiv (sfe_bin sf_gMul (sfe_var _) (sfe_call sf_gLen (sfa_cons (sfe_var _) sfa_nil))) (sfe_call sf_F_divisor (sfa_cons (sfe_var _) (sfa_cons (sfe_call sf_gLen (sfa_cons (sfe_var _) sfa_nil)) sfa_nil)))))) (sfs_rt (sfe_var _))))
theorem sf_F_blocks_until : SFC F_blocks_until := sfc_fnP (sfs_seq (sfs_set _ (sfe_bin sf_gSub (sfe_call sf_F_rise_in (sfa_cons (sfe_var _) (sfa_cons (sfe_var _) sfa_nil))) (sfe_call sf_F_rise_in (sfa_cons (sfe_var _) (sfa_cons (sfe_var _) sfa_nil))))) (sfs_seq (sfs_set _ (sfe_K _)) (sfs_seq (sfs_if (sft_tb (sfe_bin (sf_gEqB _) (sfe_var _) (sfe_K _))) (sfs_for (sfi_rng2 (sfe_var _) (sfe_bin sf_gAdd (sfe_var _) (sfe_var _))) (sfg_nm _) (sfs_seq (sfs_set _ (sfe_bin sf_gSub (sfe_call sf_F_minute_in (sfa_cons (sfe_var _) (sfa_cons (sfe_var _) sfa_nil))) (sfe_call sf_F_minute_in (sfa_cons (sfe_var _) (sfa_cons (sfe_var _) sfa_nil))))) (sfs_seq (sfs_set _ (sfe_if (sft_tb (sfe_bin (sf_gI2 _) (sfe_var _) (sfe_K _))) (sfe_var _) (sfe_neg (sfe_var _)))) (sfs_set _ (sfe_call sf_gMax (sfa_cons (sfe_var _) (sfa_cons (sfe_bin sf_gAdd (sfe_call sf_gInt (sfa_cons (sfe_bin sf_gDiv (sfe_neg (sfe_var _)) (sfe_call sf_gAbs (sfa_cons (sfe_var _) sfa_nil))) sfa_nil)) (sfe_K _)) sfa_nil))))))) sfs_nx) (sfs_rt (sfe_var _)))))
theorem sf_F_first_at : SFC F_first_at := sfc_fnP (sfs_rt (sfe_call sf_F_first_of (sfa_cons (sfe_lc (sfi_it (sfe_var _)) sft_yes (sfe_call sf_F_minute_in (sfa_cons (sfe_var _) (sfa_cons (sfe_var _) sfa_nil)))) sfa_nil)))
theorem sf_F_is_fact : SFC F_is_fact := sfc_fnP (sfs_seq (sfs_if (sft_or (sft_not (sft_tr (sfe_call sf_F_is_tuple (sfa_cons (sfe_var _) (sfa_cons (sfe_K _) (sfa_cons (sfe_K _) sfa_nil)))))) (sft_not (sft_tr (sfe_call sf_F_is_number (sfa_cons (sfe_bin sf_gIdx (sfe_var _) (sfe_K _)) (sfa_cons (sfe_K _) (sfa_cons (sfe_bin sf_gSub (sfe_call sf_gLen (sfa_cons (sfe_var _) sfa_nil)) (sfe_K _)) sfa_nil))))))) (sfs_rt (sfe_K _)) sfs_nx) (sfs_rt (sfe_or (sfe_bin sf_gIsN (sfe_bin sf_gIdx (sfe_var _) (sfe_K _)) (sfe_K _)) (sfe_call sf_F_is_number (sfa_cons (sfe_bin sf_gIdx (sfe_var _) (sfe_K _)) (sfa_cons (sfe_K _) (sfa_cons (sfe_K _) sfa_nil)))))))
theorem sf_F_depths_at : SFC F_depths_at := sfc_fnP (sfs_seq (sfs_st (sfe_var _) (sfg_tp _ (sfgs_cons (sfg_nm _) (sfgs_cons (sfg_nm _) (sfgs_cons (sfg_nm _) sfgs_nil))))) (sfs_seq (sfs_if (sft_tb (sfe_bin sf_gIsN (sfe_var _) (sfe_K _))) (sfs_rt (sfe_if (sft_tr (sfe_call sf_F_is_endless (sfa_cons (sfe_var _) sfa_nil))) (sfe_K _) (sfe_tup (sfa_cons (sfe_bin sf_gAdd (sfe_call sf_gLen (sfa_cons (sfe_var _) sfa_nil)) (sfe_K _)) (sfa_cons (sfe_K _) sfa_nil))))) sfs_nx) (sfs_seq (sfs_set _ (sfe_if (sft_tr (sfe_call sf_F_is_endless (sfa_cons (sfe_var _) sfa_nil))) (sfe_call sf_gMax (sfa_cons (sfe_K _) (sfa_cons (sfe_bin sf_gSub (sfe_bin sf_gDiv (sfe_bin sf_gSub (sfe_var _) (sfe_bin sf_gIdx (sfe_var _) (sfe_K _))) (sfe_var _)) (sfe_K _)) sfa_nil))) (sfe_K _))) (sfs_seq (sfs_set _ (sfe_bin sf_gAdd (sfe_bin sf_gAdd (sfe_call sf_gLen (sfa_cons (sfe_var _) sfa_nil)) (sfe_K _)) (sfe_bin sf_gMul (sfe_var _) (sfe_call sf_gLen (sfa_cons (sfe_var _) sfa_nil))))) (sfs_seq (sfs_set _ (sfe_lrg2 (sfe_K _) (sfe_bin sf_gAdd (sfe_call sf_gLen (sfa_cons (sfe_var _) sfa_nil)) (sfe_K _)))) (sfs_seq (sfs_if (sft_tr (sfe_call sf_F_is_endless (sfa_cons (sfe_var _) sfa_nil))) (sfs_set _ (sfe_bin sf_gAdd (sfe_var _) (sfe_lrg2 (sfe_var _) (sfe_bin sf_gAdd (sfe_var _) (sfe_bin sf_gMul (sfe_K _) (sfe_call sf_gLen (sfa_cons (sfe_var _) sfa_nil))))))) sfs_nx) (sfs_seq (sfs_set _ (sfe_lc (sfi_it (sfe_var _)) (sft_tb (sfe_bin (sf_gEqB _) (sfe_call sf_F_minute_in (sfa_cons (sfe_var _) (sfa_cons (sfe_var _) sfa_nil))) (sfe_var _))) (sfe_var _))) (sfs_rt (sfe_if (sft_tb (sfe_bin (sf_gEqB _) (sfe_var _) (sfe_lst sfa_nil))) (sfe_tup (sfa_cons (sfe_bin sf_gIdx (sfe_var _) (sfe_K _)) (sfa_cons (sfe_bin sf_gIdx (sfe_var _) (sfe_neg (sfe_K _))) sfa_nil))) (sfe_K _))))))))))
theorem sf_F_line_of : SFC F_line_of := sfc_fnP (sfs_rt (sfe_meth sf_gJoinM (sfe_K _) (sfa_cons (sfe_call sf_F_words_of (sfa_cons (sfe_var _) sfa_nil)) sfa_nil)))
theorem sf_F__law_text : SFC F__law_text := sfc_fnP (sfs_rt (sfe_meth sf_gJoinM (sfe_K _) (sfa_cons (sfe_lc (sfi_it (sfe_var _)) sft_yes (sfe_call sf_F__law_line (sfa_cons (sfe_var _) sfa_nil))) sfa_nil)))
theorem sf_F_is_good_snail : SFC F_is_good_snail := sfc_fnP (sfs_seq (sfs_if (sft_or (sft_not (sft_tr (sfe_call sf_F_is_tuple (sfa_cons (sfe_var _) (sfa_cons (sfe_K _) (sfa_cons (sfe_K _) sfa_nil)))))) (sft_not (sft_tr (sfe_call sf_F_is_number (sfa_cons (sfe_bin sf_gIdx (sfe_var _) (sfe_K _)) (sfa_cons (sfe_K _) (sfa_cons (sfe_K _) sfa_nil))))))) (sfs_rt (sfe_K _)) sfs_nx) (sfs_rt (sfe_and (sfe_call sf_F_is_number (sfa_cons (sfe_bin sf_gIdx (sfe_var _) (sfe_K _)) (sfa_cons (sfe_K _) (sfa_cons (sfe_K _) sfa_nil)))) (sfe_call sf_F_is_round (sfa_cons (sfe_bin sf_gIdx (sfe_var _) (sfe_K _)) sfa_nil)))))
theorem sf_F_is_settled : SFC F_is_settled := sfc_fnP (sfs_seq (sfs_set _ (sfe_call sf_gSum (sfa_cons (sfe_var _) sfa_nil))) (sfs_rt (sfe_or (sfe_and (sfe_bin (sf_gI2 _) (sfe_bin sf_gAdd (sfe_var _) (sfe_call sf_F_lowest_sum (sfa_cons (sfe_var _) sfa_nil))) (sfe_K _)) (sfe_bin (sf_gI2 _) (sfe_var _) (sfe_K _))) (sfe_bin (sf_gEqB _) (sfe_call sf_F_behind (sfa_cons (sfe_var _) (sfa_cons (sfe_var _) sfa_nil))) (sfe_var _)))))
theorem sf_F_gain_of : SFC F_gain_of := sfc_fnP (sfs_rt (sfe_bin sf_gSub (sfe_call sf_F_behind (sfa_cons (sfe_var _) (sfa_cons (sfe_var _) sfa_nil))) (sfe_var _)))
theorem sf_F__law_height : SFC F__law_height := sfc_fnP (sfs_seq (sfs_st (sfe_var _) (sfg_tp _ (sfgs_cons (sfg_nm _) (sfgs_cons (sfg_nm _) (sfgs_cons (sfg_nm _) sfgs_nil))))) (sfs_seq (sfs_if (sft_tb (sfe_bin (sf_gI2 _) (sfe_var _) (sfe_var _))) (sfs_rt (sfe_var _)) sfs_nx) (sfs_seq (sfs_for (sfi_rng1 (sfe_K _)) (sfg_nm _) (sfs_seq (sfs_set _ (sfe_call sf_F__law_gains (sfa_cons (sfe_var _) (sfa_cons (sfe_var _) sfa_nil)))) (sfs_seq (sfs_if (sft_tb (sfe_bin sf_gIsN (sfe_var _) (sfe_K _))) (sfs_set _ (sfe_if (sft_tb (sfe_bin (sf_gEqB _) (sfe_call sf_F__law_end (sfa_cons (sfe_var _) (sfa_cons (sfe_var _) sfa_nil))) (sfe_var _))) (sfe_K _) (sfe_K _))) sfs_nx) (sfs_seq (sfs_set _ (sfe_bin sf_gDiv (sfe_bin sf_gSub (sfe_var _) (sfe_var _)) (sfe_call sf_gLen (sfa_cons (sfe_var _) sfa_nil)))) (sfs_seq (sfs_if (sft_and (sft_tb (sfe_bin sf_gNotN (sfe_var _) (sfe_K _))) (sft_and (sft_tb (sfe_bin (sf_gI2 _) (sfe_var _) (sfe_K _))) (sft_tb (sfe_bin (sf_gI2 _) (sfe_var _) (sfe_K _))))) (sfs_seq (sfs_set _ (sfe_bin sf_gAdd (sfe_var _) (sfe_bin sf_gMul (sfe_var _) (sfe_var _)))) (sfs_set _ (sfe_bin sf_gAdd (sfe_var _) (sfe_bin sf_gMul (sfe_var _) (sfe_call sf_gLen (sfa_cons (sfe_var _) sfa_nil)))))) sfs_nx) (sfs_for (sfi_it (sfe_var _)) (sfg_nm _) (sfs_seq (sfs_if (sft_tb (sfe_bin (sf_gEqB _) (sfe_var _) (sfe_var _))) (sfs_rt (sfe_var _)) sfs_nx) (sfs_par _ _ (sfe_call sf_F__law_up (sfa_cons (sfe_var _) (sfa_cons (sfe_var _) sfa_nil))) (sfe_bin sf_gAdd (sfe_var _) (sfe_K _)))))))))) (sfs_rt (sfe_var _)))))
theorem sf_F_settled_from : SFC F_settled_from := sfc_fnP (sfs_seq (sfs_set _ (sfe_call sf_F_common_turn (sfa_cons (sfe_var _) sfa_nil))) (sfs_seq (sfs_set _ (sfe_bin sf_gAdd (sfe_K _) (sfe_call sf_gMax (sfa_cons (sfe_lc (sfi_it (sfe_var _)) sft_yes (sfe_call sf_gLen (sfa_cons (sfe_bin sf_gIdx (sfe_var _) (sfe_K _)) sfa_nil))) sfa_nil)))) (sfs_seq (sfs_set _ (sfe_lc (sfi_it (sfe_var _)) (sft_tr (sfe_call sf_F_is_endless (sfa_cons (sfe_var _) sfa_nil))) (sfe_var _))) (sfs_seq (sfs_set _ (sfe_lc2 (sfi_it (sfe_var _)) sft_yes (sfi_it (sfe_var _)) sft_yes (sfe_call sf_F_blocks_until (sfa_cons (sfe_var _) (sfa_cons (sfe_var _) (sfa_cons (sfe_var _) (sfa_cons (sfe_var _) sfa_nil))))))) (sfs_rt (sfe_tup (sfa_cons (sfe_bin sf_gAdd (sfe_var _) (sfe_bin sf_gMul (sfe_var _) (sfe_call sf_gMax (sfa_cons (sfe_bin sf_gAdd (sfe_lst (sfa_cons (sfe_K _) sfa_nil)) (sfe_lc (sfi_it (sfe_var _)) sft_yes (sfe_call sf_gInt (sfa_cons (sfe_var _) sfa_nil)))) sfa_nil)))) (sfa_cons (sfe_var _) sfa_nil))))))))
theorem sf_F_need_seen : SFC F_need_seen := sfc_fnP (sfs_if (sft_or (sft_not (sft_tr (sfe_call sf_F_is_tuple (sfa_cons (sfe_var _) (sfa_cons (sfe_K _) (sfa_cons (sfe_K _) sfa_nil)))))) (sft_not (sft_tr (sfe_call sf_gAll (sfa_cons (sfe_lc (sfi_it (sfe_var _)) sft_yes (sfe_call sf_F_is_fact (sfa_cons (sfe_var _) (sfa_cons (sfe_var _) sfa_nil)))) sfa_nil))))) (sfs_raise _) sfs_nx)
theorem sf_F_fewer : SFC F_fewer := sfc_fnP (sfs_seq (sfs_ex (sfe_call sf_F_need_index (sfa_cons (sfe_var _) (sfa_cons (sfe_var _) sfa_nil)))) (sfs_rt (sfe_call sf_F_without (sfa_cons (sfe_var _) (sfa_cons (sfe_var _) sfa_nil)))))
theorem sf_F_lines_of : SFC F_lines_of := sfc_fnP (sfs_rt (sfe_lc (sfi_it (sfe_var _)) sft_yes (sfe_call sf_F_line_of (sfa_cons (sfe_var _) sfa_nil))))
theorem sf_F_is_row : SFC F_is_row := sfc_fnP (sfs_seq (sfs_if (sft_or (sft_not (sft_tr (sfe_call sf_F_is_tuple (sfa_cons (sfe_var _) (sfa_cons (sfe_K _) (sfa_cons (sfe_K _) sfa_nil)))))) (sft_not (sft_tr (sfe_call sf_F_is_number (sfa_cons (sfe_bin sf_gIdx (sfe_var _) (sfe_K _)) (sfa_cons (sfe_K _) (sfa_cons (sfe_K _) sfa_nil))))))) (sfs_rt (sfe_K _)) sfs_nx) (sfs_rt (sfe_and (sfe_call sf_F_is_number (sfa_cons (sfe_bin sf_gIdx (sfe_var _) (sfe_K _)) (sfa_cons (sfe_K _) (sfa_cons (sfe_K _) sfa_nil)))) (sfe_call sf_F_is_round (sfa_cons (sfe_bin sf_gIdx (sfe_var _) (sfe_K _)) sfa_nil)))))
theorem sf_F_are_good_snails : SFC F_are_good_snails := sfc_fnP (sfs_rt (sfe_and (sfe_call sf_F_is_tuple (sfa_cons (sfe_var _) (sfa_cons (sfe_K _) (sfa_cons (sfe_K _) sfa_nil)))) (sfe_call sf_gAll (sfa_cons (sfe_lc (sfi_it (sfe_var _)) sft_yes (sfe_call sf_F_is_good_snail (sfa_cons (sfe_var _) sfa_nil))) sfa_nil))))
theorem sf_F_is_snail : SFC F_is_snail := sfc_fnP (sfs_rt (sfe_call sf_F_is_good_snail (sfa_cons (sfe_var _) sfa_nil)))
theorem sf_F_need_snail : SFC F_need_snail := sfc_fnP (sfs_if (sft_not (sft_tr (sfe_call sf_F_is_good_snail (sfa_cons (sfe_var _) sfa_nil)))) (sfs_raise _) sfs_nx)
theorem sf_F_settled : SFC F_settled := sfc_fnP (sfs_seq (sfs_set _ (sfe_lst (sfa_cons (sfe_var _) sfa_nil))) (sfs_seq (sfs_wh (sft_not (sft_tr (sfe_call sf_F_is_settled (sfa_cons (sfe_bin sf_gIdx (sfe_var _) (sfe_neg (sfe_K _))) (sfa_cons (sfe_var _) sfa_nil))))) (sfs_set _ (sfe_bin sf_gAdd (sfe_var _) (sfe_lst (sfa_cons (sfe_call sf_F_behind (sfa_cons (sfe_bin sf_gIdx (sfe_var _) (sfe_neg (sfe_K _))) (sfa_cons (sfe_var _) sfa_nil))) sfa_nil)))) _) (sfs_rt (sfe_var _))))
theorem sf_F_winners_by : SFC F_winners_by := sfc_fnP (sfs_seq (sfs_st (sfe_call sf_F_settled_from (sfa_cons (sfe_var _) sfa_nil)) (sfg_tp _ (sfgs_cons (sfg_nm _) (sfgs_cons (sfg_nm _) sfgs_nil)))) (sfs_seq (sfs_set _ (sfe_lc (sfi_rng2 (sfe_K _) (sfe_var _)) sft_yes (sfe_call sf_F_first_at (sfa_cons (sfe_var _) (sfa_cons (sfe_var _) sfa_nil))))) (sfs_rt (sfe_call sf_F_shortened (sfa_cons (sfe_var _) (sfa_cons (sfe_lc (sfi_rng2 (sfe_var _) (sfe_bin sf_gAdd (sfe_var _) (sfe_var _))) sft_yes (sfe_call sf_F_first_at (sfa_cons (sfe_var _) (sfa_cons (sfe_var _) sfa_nil)))) sfa_nil))))))
theorem sf_F_later_depth : SFC F_later_depth := sfc_fnP (sfs_seq (sfs_st (sfe_call sf_F_settled_from (sfa_cons (sfe_lst (sfa_cons (sfe_var _) (sfa_cons (sfe_var _) sfa_nil))) sfa_nil)) (sfg_tp _ (sfgs_cons (sfg_nm _) (sfgs_cons (sfg_nm _) sfgs_nil)))) (sfs_seq (sfs_for (sfi_rng2 (sfe_K _) (sfe_bin sf_gAdd (sfe_var _) (sfe_var _))) (sfg_nm _) (sfs_if (sft_tr (sfe_call sf_F_is_later (sfa_cons (sfe_call sf_F_minute_in (sfa_cons (sfe_var _) (sfa_cons (sfe_var _) sfa_nil))) (sfa_cons (sfe_call sf_F_minute_in (sfa_cons (sfe_var _) (sfa_cons (sfe_var _) sfa_nil))) sfa_nil)))) (sfs_rt (sfe_var _)) sfs_nx)) (sfs_rt (sfe_K _))))
theorem sf_F_leads_by : SFC F_leads_by := sfc_fnP (sfs_seq (sfs_st (sfe_call sf_F_settled_from (sfa_cons (sfe_lst (sfa_cons (sfe_var _) (sfa_cons (sfe_var _) sfa_nil))) sfa_nil)) (sfg_tp _ (sfgs_cons (sfg_nm _) (sfgs_cons (sfg_nm _) sfgs_nil)))) (sfs_seq (sfs_set _ (sfe_lst sfa_nil)) (sfs_seq (sfs_for (sfi_rng2 (sfe_K _) (sfe_bin sf_gAdd (sfe_var _) (sfe_var _))) (sfg_nm _) (sfs_seq (sfs_par _ _ (sfe_call sf_F_minute_in (sfa_cons (sfe_var _) (sfa_cons (sfe_var _) sfa_nil))) (sfe_call sf_F_minute_in (sfa_cons (sfe_var _) (sfa_cons (sfe_var _) sfa_nil)))) (sfs_set _ (sfe_bin sf_gAdd (sfe_var _) (sfe_if (sft_and (sft_tb (sfe_bin sf_gNotN (sfe_var _) (sfe_K _))) (sft_tb (sfe_bin sf_gNotN (sfe_var _) (sfe_K _)))) (sfe_lst (sfa_cons (sfe_bin sf_gSub (sfe_var _) (sfe_var _)) sfa_nil)) (sfe_lst sfa_nil)))))) (sfs_seq (sfs_if (sft_tb (sfe_bin (sf_gEqB _) (sfe_var _) (sfe_lst sfa_nil))) (sfs_rt (sfe_K _)) sfs_nx) (sfs_seq (sfs_par _ _ (sfe_call sf_gMin (sfa_cons (sfe_lc (sfi_it (sfe_var _)) sft_yes (sfe_call sf_gInt (sfa_cons (sfe_var _) sfa_nil))) sfa_nil)) (sfe_call sf_gMax (sfa_cons (sfe_lc (sfi_it (sfe_var _)) sft_yes (sfe_call sf_gInt (sfa_cons (sfe_var _) sfa_nil))) sfa_nil))) (sfs_seq (sfs_set _ (sfe_if (sft_and (sft_tr (sfe_call sf_F_is_endless (sfa_cons (sfe_var _) sfa_nil))) (sft_tr (sfe_call sf_F_is_endless (sfa_cons (sfe_var _) sfa_nil)))) (sfe_bin sf_gSub (sfe_call sf_F_rise_in (sfa_cons (sfe_var _) (sfa_cons (sfe_var _) sfa_nil))) (sfe_call sf_F_rise_in (sfa_cons (sfe_var _) (sfa_cons (sfe_var _) sfa_nil)))) (sfe_K _))) (sfs_rt (sfe_tup (sfa_cons (sfe_if (sft_tb (sfe_bin (sf_gI2 _) (sfe_var _) (sfe_K _))) (sfe_K _) (sfe_var _)) (sfa_cons (sfe_if (sft_tb (sfe_bin (sf_gI2 _) (sfe_var _) (sfe_K _))) (sfe_K _) (sfe_var _)) sfa_nil))))))))))
theorem sf_F_parting_depth : SFC F_parting_depth := sfc_fnP (sfs_seq (sfs_st (sfe_call sf_F_settled_from (sfa_cons (sfe_lst (sfa_cons (sfe_var _) (sfa_cons (sfe_var _) sfa_nil))) sfa_nil)) (sfg_tp _ (sfgs_cons (sfg_nm _) (sfgs_cons (sfg_nm _) sfgs_nil)))) (sfs_seq (sfs_for (sfi_rng2 (sfe_K _) (sfe_bin sf_gAdd (sfe_var _) (sfe_var _))) (sfg_nm _) (sfs_if (sft_tb (sfe_bin (sf_gEqB _) (sfe_call sf_F_minute_in (sfa_cons (sfe_var _) (sfa_cons (sfe_var _) sfa_nil))) (sfe_call sf_F_minute_in (sfa_cons (sfe_var _) (sfa_cons (sfe_var _) sfa_nil))))) (sfs_rt (sfe_var _)) sfs_nx)) (sfs_rt (sfe_K _))))
theorem sf_F_snail_in : SFC F_snail_in := sfc_fnP (sfs_seq (sfs_set _ (sfe_meth sf_gSplitM (sfe_var _) (sfa_cons (sfe_K _) sfa_nil))) (sfs_seq (sfs_if (sft_or (sft_tb (sfe_bin (sf_gEqB _) (sfe_bin sf_gIdx (sfe_var _) (sfe_K _)) (sfe_K _))) (sft_or (sft_tb (sfe_bin (sf_gI2 _) (sfe_call sf_gLen (sfa_cons (sfe_var _) sfa_nil)) (sfe_K _))) (sft_not (sft_tr (sfe_call sf_gAll (sfa_cons (sfe_lc (sfi_it (sfe_sl (sfe_var _) (sfo_part (sfe_K _)) sfo_no)) sft_yes (sfe_bin (sf_gInB _) (sfe_var _) (sfe_K _))) sfa_nil)))))) (sfs_rt (sfe_K _)) sfs_nx) (sfs_seq (sfs_set _ (sfe_tup (sfa_cons (sfe_call sf_F_number_in (sfa_cons (sfe_bin sf_gIdx (sfe_var _) (sfe_K _)) sfa_nil)) (sfa_cons (sfe_call sf_F_number_in (sfa_cons (sfe_bin sf_gIdx (sfe_var _) (sfe_K _)) sfa_nil)) (sfa_cons (sfe_call sf_gTuple (sfa_cons (sfe_lc (sfi_it (sfe_sl (sfe_var _) (sfo_part (sfe_K _)) sfo_no)) sft_yes (sfe_call sf_gIntT (sfa_cons (sfe_var _) sfa_nil))) sfa_nil)) sfa_nil))))) (sfs_rt (sfe_if (sft_tr (sfe_call sf_F_is_good_snail (sfa_cons (sfe_var _) sfa_nil))) (sfe_var _) (sfe_K _))))))
theorem sf_F_are_snails : SFC F_are_snails := sfc_fnP (sfs_rt (sfe_call sf_F_are_good_snails (sfa_cons (sfe_var _) sfa_nil)))
theorem sf_F_height_of : SFC F_height_of := sfc_fnP (sfs_seq (sfs_st (sfe_var _) (sfg_tp _ (sfgs_cons (sfg_nm _) (sfgs_cons (sfg_nm _) (sfgs_cons (sfg_nm _) sfgs_nil))))) (sfs_seq (sfs_if (sft_tb (sfe_bin (sf_gI2 _) (sfe_var _) (sfe_var _))) (sfs_rt (sfe_var _)) sfs_nx) (sfs_seq (sfs_par _ _ (sfe_bin sf_gDiv (sfe_bin sf_gSub (sfe_var _) (sfe_var _)) (sfe_call sf_gLen (sfa_cons (sfe_var _) sfa_nil))) (sfe_bin sf_gMod (sfe_bin sf_gSub (sfe_var _) (sfe_var _)) (sfe_call sf_gLen (sfa_cons (sfe_var _) sfa_nil)))) (sfs_seq (sfs_set _ (sfe_call sf_F_settled (sfa_cons (sfe_var _) (sfa_cons (sfe_var _) sfa_nil)))) (sfs_seq (sfs_if (sft_tb (sfe_bin (sf_gI2 _) (sfe_var _) (sfe_call sf_gLen (sfa_cons (sfe_var _) sfa_nil)))) (sfs_rt (sfe_call sf_F_behind (sfa_cons (sfe_bin sf_gIdx (sfe_var _) (sfe_var _)) (sfa_cons (sfe_sl (sfe_var _) sfo_no (sfo_part (sfe_var _))) sfa_nil)))) sfs_nx) (sfs_seq (sfs_set _ (sfe_bin sf_gAdd (sfe_bin sf_gIdx (sfe_var _) (sfe_neg (sfe_K _))) (sfe_bin sf_gMul (sfe_bin sf_gAdd (sfe_bin sf_gSub (sfe_var _) (sfe_call sf_gLen (sfa_cons (sfe_var _) sfa_nil))) (sfe_K _)) (sfe_call sf_F_gain_of (sfa_cons (sfe_bin sf_gIdx (sfe_var _) (sfe_neg (sfe_K _))) (sfa_cons (sfe_var _) sfa_nil)))))) (sfs_rt (sfe_call sf_F_behind (sfa_cons (sfe_var _) (sfa_cons (sfe_sl (sfe_var _) sfo_no (sfo_part (sfe_var _))) sfa_nil))))))))))
theorem sf_F_calendar_of : SFC F_calendar_of := sfc_fnP (sfs_seq (sfs_st (sfe_var _) (sfg_tp _ (sfgs_cons (sfg_nm _) (sfgs_cons (sfg_nm _) (sfgs_cons (sfg_nm _) sfgs_nil))))) (sfs_seq (sfs_set _ (sfe_call sf_F_settled (sfa_cons (sfe_var _) (sfa_cons (sfe_var _) sfa_nil)))) (sfs_seq (sfs_set _ (sfe_call sf_F_gain_of (sfa_cons (sfe_bin sf_gIdx (sfe_var _) (sfe_neg (sfe_K _))) (sfa_cons (sfe_var _) sfa_nil)))) (sfs_seq (sfs_if (sft_tb (sfe_bin (sf_gEqB _) (sfe_var _) (sfe_K _))) (sfs_rt (sfe_tup (sfa_cons (sfe_call sf_gTuple (sfa_cons (sfe_call sf_F_records_of (sfa_cons (sfe_var _) (sfa_cons (sfe_call sf_gLen (sfa_cons (sfe_var _) sfa_nil)) sfa_nil))) sfa_nil)) (sfa_cons (sfe_tup (sfa_cons (sfe_K _) sfa_nil)) (sfa_cons (sfe_K _) sfa_nil))))) sfs_nx) (sfs_seq (sfs_set _ (sfe_call sf_gLen (sfa_cons (sfe_var _) sfa_nil))) (sfs_seq (sfs_wh (sft_tb (sfe_bin (sf_gEqB _) (sfe_bin sf_gSub (sfe_call sf_gLen (sfa_cons (sfe_call sf_F_records_of (sfa_cons (sfe_var _) (sfa_cons (sfe_bin sf_gAdd (sfe_var _) (sfe_K _)) sfa_nil))) sfa_nil)) (sfe_call sf_gLen (sfa_cons (sfe_call sf_F_records_of (sfa_cons (sfe_var _) (sfa_cons (sfe_var _) sfa_nil))) sfa_nil))) (sfe_var _))) (sfs_set _ (sfe_bin sf_gAdd (sfe_var _) (sfe_K _))) _) (sfs_seq (sfs_par _ _ (sfe_call sf_F_records_of (sfa_cons (sfe_var _) (sfa_cons (sfe_var _) sfa_nil))) (sfe_call sf_F_records_of (sfa_cons (sfe_var _) (sfa_cons (sfe_bin sf_gAdd (sfe_var _) (sfe_K _)) sfa_nil)))) (sfs_seq (sfs_par _ _ (sfe_sl (sfe_var _) (sfo_part (sfe_call sf_gLen (sfa_cons (sfe_var _) sfa_nil))) sfo_no) (sfe_call sf_gLen (sfa_cons (sfe_var _) sfa_nil))) (sfs_seq (sfs_set _ (sfe_call sf_F_least_turn (sfa_cons (sfe_var _) (sfa_cons (sfe_var _) sfa_nil)))) (sfs_seq (sfs_par _ _ (sfe_sl (sfe_var _) sfo_no (sfo_part (sfe_var _))) (sfe_bin sf_gDiv (sfe_bin sf_gMul (sfe_var _) (sfe_var _)) (sfe_var _))) (sfs_seq (sfs_wh (sft_and (sft_tb (sfe_bin (sf_gEqB _) (sfe_var _) (sfe_lst sfa_nil))) (sft_tb (sfe_bin (sf_gEqB _) (sfe_bin sf_gAdd (sfe_bin sf_gIdx (sfe_var _) (sfe_neg (sfe_K _))) (sfe_var _)) (sfe_bin sf_gIdx (sfe_var _) (sfe_neg (sfe_K _)))))) (sfs_par _ _ (sfe_sl (sfe_var _) sfo_no (sfo_part (sfe_neg (sfe_K _)))) (sfe_bin sf_gAdd (sfe_lst (sfa_cons (sfe_bin sf_gIdx (sfe_var _) (sfe_neg (sfe_K _))) sfa_nil)) (sfe_sl (sfe_var _) sfo_no (sfo_part (sfe_neg (sfe_K _)))))) _) (sfs_rt (sfe_tup (sfa_cons (sfe_call sf_gTuple (sfa_cons (sfe_var _) sfa_nil)) (sfa_cons (sfe_call sf_gTuple (sfa_cons (sfe_var _) sfa_nil)) (sfa_cons (sfe_var _) sfa_nil))))))))))))))))
theorem sf_F_need_snails : SFC F_need_snails := sfc_fnP (sfs_if (sft_not (sft_tr (sfe_call sf_F_are_good_snails (sfa_cons (sfe_var _) sfa_nil)))) (sfs_raise _) sfs_nx)
theorem sf_F_need_two : SFC F_need_two := sfc_fnP (sfs_seq (sfs_ex (sfe_call sf_F_need_snail (sfa_cons (sfe_var _) sfa_nil))) (sfs_ex (sfe_call sf_F_need_snail (sfa_cons (sfe_var _) sfa_nil))))
theorem sf_F_settled_minute : SFC F_settled_minute := sfc_fnP (sfs_seq (sfs_st (sfe_var _) (sfg_tp _ (sfgs_cons (sfg_nm _) (sfgs_cons (sfg_nm _) (sfgs_cons (sfg_nm _) sfgs_nil))))) (sfs_rt (sfe_bin sf_gAdd (sfe_var _) (sfe_bin sf_gMul (sfe_bin sf_gSub (sfe_call sf_gLen (sfa_cons (sfe_call sf_F_settled (sfa_cons (sfe_var _) (sfa_cons (sfe_var _) sfa_nil))) sfa_nil)) (sfe_K _)) (sfe_call sf_gLen (sfa_cons (sfe_var _) sfa_nil))))))
theorem sf_F_gain_in : SFC F_gain_in := sfc_fnP (sfs_seq (sfs_st (sfe_var _) (sfg_tp _ (sfgs_cons (sfg_nm _) (sfgs_cons (sfg_nm _) (sfgs_cons (sfg_nm _) sfgs_nil))))) (sfs_rt (sfe_bin sf_gMul (sfe_call sf_F_gain_of (sfa_cons (sfe_bin sf_gIdx (sfe_call sf_F_settled (sfa_cons (sfe_var _) (sfa_cons (sfe_var _) sfa_nil))) (sfe_neg (sfe_K _))) (sfa_cons (sfe_var _) sfa_nil))) (sfe_bin sf_gDiv (sfe_var _) (sfe_call sf_gLen (sfa_cons (sfe_var _) sfa_nil))))))
theorem sf_F_top_of : SFC F_top_of := sfc_fnP (sfs_seq (sfs_st (sfe_var _) (sfg_tp _ (sfgs_cons (sfg_nm _) (sfgs_cons (sfg_nm _) (sfgs_cons (sfg_nm _) sfgs_nil))))) (sfs_seq (sfs_set _ (sfe_call sf_F_settled (sfa_cons (sfe_var _) (sfa_cons (sfe_var _) sfa_nil)))) (sfs_seq (sfs_if (sft_tb (sfe_bin (sf_gI2 _) (sfe_call sf_F_gain_of (sfa_cons (sfe_bin sf_gIdx (sfe_var _) (sfe_neg (sfe_K _))) (sfa_cons (sfe_var _) sfa_nil))) (sfe_K _))) (sfs_rt (sfe_K _)) sfs_nx) (sfs_seq (sfs_set _ (sfe_var _)) (sfs_seq (sfs_for (sfi_rng1 (sfe_call sf_gLen (sfa_cons (sfe_var _) sfa_nil))) (sfg_nm _) (sfs_for (sfi_it (sfe_var _)) (sfg_nm _) (sfs_seq (sfs_set _ (sfe_call sf_F_stepped (sfa_cons (sfe_var _) (sfa_cons (sfe_var _) sfa_nil)))) (sfs_set _ (sfe_if (sft_tb (sfe_bin (sf_gI2 _) (sfe_var _) (sfe_var _))) (sfe_var _) (sfe_var _)))))) (sfs_rt (sfe_var _)))))))
theorem sf_F_with_start : SFC F_with_start := sfc_fnP (sfs_seq (sfs_ex (sfe_call sf_F_need_snail (sfa_cons (sfe_var _) sfa_nil))) (sfs_seq (sfs_if (sft_not (sft_tr (sfe_call sf_F_is_number (sfa_cons (sfe_var _) (sfa_cons (sfe_K _) (sfa_cons (sfe_K _) sfa_nil)))))) (sfs_raise _) sfs_nx) (sfs_rt (sfe_call sf_F_started (sfa_cons (sfe_var _) (sfa_cons (sfe_var _) sfa_nil))))))
theorem sf_F_snails_in : SFC F_snails_in := sfc_fnP (sfs_seq (sfs_if (sft_not (sft_tr (sfe_isi _ (sfe_var _)))) sfs_bad sfs_nx) (sfs_seq (sfs_set _ (sfe_lc (sfi_it (sfe_meth sf_gSplitM (sfe_var _) (sfa_cons (sfe_K _) sfa_nil))) sft_yes (sfe_call sf_F_snail_in (sfa_cons (sfe_var _) sfa_nil)))) (sfs_seq (sfs_if (sft_tb (sfe_bin (sf_gInB _) (sfe_K _) (sfe_var _))) sfs_bad sfs_nx) (sfs_seq (sfs_if (sft_not (sft_tr (sfe_call sf_F_are_good_snails (sfa_cons (sfe_call sf_gTuple (sfa_cons (sfe_var _) sfa_nil)) sfa_nil)))) sfs_bad sfs_nx) (sfs_rt (sfe_call sf_gTuple (sfa_cons (sfe_var _) sfa_nil)))))))
theorem sf_F_good_snail : SFC F_good_snail := sfc_fnP (sfs_seq (sfs_ex (sfe_call sf_F_need_snail (sfa_cons (sfe_var _) sfa_nil))) (sfs_rt (sfe_var _)))
theorem sf_F_height_at : SFC F_height_at := sfc_fnP (sfs_seq (sfs_ex (sfe_call sf_F_need_snail (sfa_cons (sfe_var _) sfa_nil))) (sfs_seq (sfs_ex (sfe_call sf_F_need_number (sfa_cons (sfe_var _) (sfa_cons (sfe_K _) sfa_nil)))) (sfs_rt (sfe_call sf_F_height_of (sfa_cons (sfe_var _) (sfa_cons (sfe_var _) sfa_nil))))))
theorem sf_F_out_at : SFC F_out_at := sfc_fnP (sfs_seq (sfs_ex (sfe_call sf_F_need_snail (sfa_cons (sfe_var _) sfa_nil))) (sfs_seq (sfs_ex (sfe_call sf_F_need_number (sfa_cons (sfe_var _) (sfa_cons (sfe_K _) sfa_nil)))) (sfs_rt (sfe_call sf_F_minute_in (sfa_cons (sfe_call sf_F_calendar_of (sfa_cons (sfe_var _) sfa_nil)) (sfa_cons (sfe_var _) sfa_nil))))))
theorem sf_F_calendar : SFC F_calendar := sfc_fnP (sfs_seq (sfs_ex (sfe_call sf_F_need_snail (sfa_cons (sfe_var _) sfa_nil))) (sfs_rt (sfe_call sf_F_calendar_of (sfa_cons (sfe_var _) sfa_nil))))
theorem sf_F_all_calendars : SFC F_all_calendars := sfc_fnP (sfs_rt (sfe_lc (sfi_it (sfe_var _)) sft_yes (sfe_call sf_F_calendar_of (sfa_cons (sfe_var _) sfa_nil))))
theorem sf_F_leads : SFC F_leads := sfc_fnP (sfs_seq (sfs_ex (sfe_call sf_F_need_two (sfa_cons (sfe_var _) (sfa_cons (sfe_var _) sfa_nil)))) (sfs_rt (sfe_call sf_F_leads_by (sfa_cons (sfe_call sf_F_calendar_of (sfa_cons (sfe_var _) sfa_nil)) (sfa_cons (sfe_call sf_F_calendar_of (sfa_cons (sfe_var _) sfa_nil)) sfa_nil)))))
theorem sf_F_never_later : SFC F_never_later := sfc_fnP (sfs_seq (sfs_ex (sfe_call sf_F_need_two (sfa_cons (sfe_var _) (sfa_cons (sfe_var _) sfa_nil)))) (sfs_rt (sfe_bin sf_gIsN (sfe_call sf_F_later_depth (sfa_cons (sfe_call sf_F_calendar_of (sfa_cons (sfe_var _) sfa_nil)) (sfa_cons (sfe_call sf_F_calendar_of (sfa_cons (sfe_var _) sfa_nil)) sfa_nil))) (sfe_K _))))
theorem sf_F_first_later : SFC F_first_later := sfc_fnP (sfs_seq (sfs_ex (sfe_call sf_F_need_two (sfa_cons (sfe_var _) (sfa_cons (sfe_var _) sfa_nil)))) (sfs_rt (sfe_call sf_F_later_depth (sfa_cons (sfe_call sf_F_calendar_of (sfa_cons (sfe_var _) sfa_nil)) (sfa_cons (sfe_call sf_F_calendar_of (sfa_cons (sfe_var _) sfa_nil)) sfa_nil)))))
theorem sf_F_far_at : SFC F_far_at := sfc_fnP (sfs_rt (sfe_bin sf_gSub (sfe_call sf_F_height_of (sfa_cons (sfe_var _) (sfa_cons (sfe_var _) sfa_nil))) (sfe_call sf_F_height_of (sfa_cons (sfe_var _) (sfa_cons (sfe_var _) sfa_nil)))))
theorem sf_F_highest : SFC F_highest := sfc_fnP (sfs_seq (sfs_ex (sfe_call sf_F_need_snail (sfa_cons (sfe_var _) sfa_nil))) (sfs_rt (sfe_call sf_F_top_of (sfa_cons (sfe_var _) sfa_nil))))
theorem sf_F_are_alike : SFC F_are_alike := sfc_fnP (sfs_rt (sfe_bin (sf_gEqB _) (sfe_call sf_F_calendar_of (sfa_cons (sfe_var _) sfa_nil)) (sfe_call sf_F_calendar_of (sfa_cons (sfe_var _) sfa_nil))))
theorem sf_F_parting : SFC F_parting := sfc_fnP (sfs_seq (sfs_ex (sfe_call sf_F_need_two (sfa_cons (sfe_var _) (sfa_cons (sfe_var _) sfa_nil)))) (sfs_rt (sfe_call sf_F_parting_depth (sfa_cons (sfe_call sf_F_calendar_of (sfa_cons (sfe_var _) sfa_nil)) (sfa_cons (sfe_call sf_F_calendar_of (sfa_cons (sfe_var _) sfa_nil)) sfa_nil)))))
theorem sf_F_latest_start : SFC F_latest_start := sfc_fnP (sfs_seq (sfs_ex (sfe_call sf_F_need_two (sfa_cons (sfe_var _) (sfa_cons (sfe_var _) sfa_nil)))) (sfs_seq (sfs_set _ (sfe_call sf_F_calendar_of (sfa_cons (sfe_var _) sfa_nil))) (sfs_seq (sfs_set _ (sfe_lc (sfi_rng1 (sfe_K _)) (sft_tb (sfe_bin sf_gIsN (sfe_call sf_F_later_depth (sfa_cons (sfe_call sf_F_calendar_of (sfa_cons (sfe_call sf_F_started (sfa_cons (sfe_var _) (sfa_cons (sfe_var _) sfa_nil))) sfa_nil)) (sfa_cons (sfe_var _) sfa_nil))) (sfe_K _))) (sfe_var _))) (sfs_rt (sfe_if (sft_tb (sfe_bin (sf_gEqB _) (sfe_var _) (sfe_lst sfa_nil))) (sfe_bin sf_gIdx (sfe_var _) (sfe_neg (sfe_K _))) (sfe_K _))))))
theorem sf_F_depths_told : SFC F_depths_told := sfc_fnP (sfs_seq (sfs_ex (sfe_call sf_F_need_snails (sfa_cons (sfe_var _) sfa_nil))) (sfs_seq (sfs_ex (sfe_call sf_F_need_seen (sfa_cons (sfe_var _) (sfa_cons (sfe_var _) sfa_nil)))) (sfs_seq (sfs_set _ (sfe_tup (sfa_cons (sfe_K _) (sfa_cons (sfe_K _) sfa_nil)))) (sfs_seq (sfs_for (sfi_it (sfe_var _)) (sfg_tp _ (sfgs_cons (sfg_nm _) (sfgs_cons (sfg_nm _) sfgs_nil))) (sfs_set _ (sfe_call sf_F_both (sfa_cons (sfe_var _) (sfa_cons (sfe_call sf_F_depths_at (sfa_cons (sfe_call sf_F_calendar_of (sfa_cons (sfe_bin sf_gIdx (sfe_var _) (sfe_var _)) sfa_nil)) (sfa_cons (sfe_var _) sfa_nil))) sfa_nil))))) (sfs_rt (sfe_var _))))))
theorem sf_F_is_seen : SFC F_is_seen := sfc_fnP (sfs_seq (sfs_ex (sfe_call sf_F_need_snails (sfa_cons (sfe_var _) sfa_nil))) (sfs_seq (sfs_ex (sfe_call sf_F_need_number (sfa_cons (sfe_var _) (sfa_cons (sfe_K _) sfa_nil)))) (sfs_seq (sfs_ex (sfe_call sf_F_need_seen (sfa_cons (sfe_var _) (sfa_cons (sfe_var _) sfa_nil)))) (sfs_rt (sfe_call sf_gAll (sfa_cons (sfe_lc (sfi_it (sfe_var _)) sft_yes (sfe_bin (sf_gEqB _) (sfe_call sf_F_minute_in (sfa_cons (sfe_call sf_F_calendar_of (sfa_cons (sfe_bin sf_gIdx (sfe_var _) (sfe_var _)) sfa_nil)) (sfa_cons (sfe_var _) sfa_nil))) (sfe_var _))) sfa_nil))))))
theorem sf_F_snails_text : SFC F_snails_text := sfc_fnP (sfs_seq (sfs_ex (sfe_call sf_F_need_snails (sfa_cons (sfe_var _) sfa_nil))) (sfs_rt (sfe_meth sf_gJoinM (sfe_K _) (sfa_cons (sfe_call sf_F_lines_of (sfa_cons (sfe_var _) sfa_nil)) sfa_nil))))
theorem sf_F_read_snails : SFC F_read_snails := sfc_fnP (sfs_rt (sfe_call sf_F_snails_in (sfa_cons (sfe_var _) sfa_nil)))
theorem sf_F_out_in : SFC F_out_in := sfc_fnP (sfs_seq (sfs_set _ (sfe_call sf_F_minute_in (sfa_cons (sfe_call sf_F_calendar_of (sfa_cons (sfe_bin sf_gAdd (sfe_tup (sfa_cons (sfe_K _) sfa_nil)) (sfe_sl (sfe_var _) (sfo_part (sfe_K _)) sfo_no)) sfa_nil)) (sfa_cons (sfe_var _) sfa_nil)))) (sfs_seq (sfs_set _ (sfe_if (sft_tb (sfe_bin sf_gIsN (sfe_var _) (sfe_K _))) (sfe_K _) (sfe_bin sf_gAdd (sfe_bin sf_gIdx (sfe_var _) (sfe_K _)) (sfe_var _)))) (sfs_rt (sfe_if (sft_and (sft_tb (sfe_bin sf_gNotN (sfe_var _) (sfe_K _))) (sft_tb (sfe_bin (sf_gI2 _) (sfe_var _) (sfe_var _)))) (sfe_var _) (sfe_K _)))))
theorem sf_F_winners : SFC F_winners := sfc_fnP (sfs_seq (sfs_ex (sfe_call sf_F_need_snails (sfa_cons (sfe_var _) sfa_nil))) (sfs_seq (sfs_ex (sfe_call sf_F_need_number (sfa_cons (sfe_var _) (sfa_cons (sfe_K _) sfa_nil)))) (sfs_rt (sfe_call sf_F_first_at (sfa_cons (sfe_call sf_F_all_calendars (sfa_cons (sfe_var _) sfa_nil)) (sfa_cons (sfe_var _) sfa_nil))))))
theorem sf_F_winner_calendar : SFC F_winner_calendar := sfc_fnP (sfs_seq (sfs_ex (sfe_call sf_F_need_snails (sfa_cons (sfe_var _) sfa_nil))) (sfs_rt (sfe_call sf_F_winners_by (sfa_cons (sfe_call sf_F_all_calendars (sfa_cons (sfe_var _) sfa_nil)) sfa_nil))))
theorem sf_F_how : SFC F_how := sfc_fnP (sfs_seq (sfs_ex (sfe_call sf_F_need_snails (sfa_cons (sfe_var _) sfa_nil))) (sfs_seq (sfs_ex (sfe_call sf_F_need_index (sfa_cons (sfe_var _) (sfa_cons (sfe_var _) sfa_nil)))) (sfs_seq (sfs_st (sfe_call sf_F_winners_by (sfa_cons (sfe_call sf_F_all_calendars (sfa_cons (sfe_var _) sfa_nil)) sfa_nil)) (sfg_tp _ (sfgs_cons (sfg_nm _) (sfgs_cons (sfg_nm _) sfgs_nil)))) (sfs_seq (sfs_set _ (sfe_lc (sfi_it (sfe_bin sf_gAdd (sfe_var _) (sfe_var _))) sft_yes (sfe_bin (sf_gInB _) (sfe_var _) (sfe_var _)))) (sfs_seq (sfs_if (sft_tb (sfe_bin (sf_gInB _) (sfe_K _) (sfe_var _))) (sfs_rt (sfe_K _)) sfs_nx) (sfs_rt (sfe_if (sft_tb (sfe_bin (sf_gInB _) (sfe_K _) (sfe_var _))) (sfe_K _) (sfe_K _))))))))
theorem sf_F_first_depth : SFC F_first_depth := sfc_fnP (sfs_seq (sfs_ex (sfe_call sf_F_need_snails (sfa_cons (sfe_var _) sfa_nil))) (sfs_seq (sfs_ex (sfe_call sf_F_need_index (sfa_cons (sfe_var _) (sfa_cons (sfe_var _) sfa_nil)))) (sfs_seq (sfs_st (sfe_call sf_F_winners_by (sfa_cons (sfe_call sf_F_all_calendars (sfa_cons (sfe_var _) sfa_nil)) sfa_nil)) (sfg_tp _ (sfgs_cons (sfg_nm _) (sfgs_cons (sfg_nm _) sfgs_nil)))) (sfs_seq (sfs_set _ (sfe_lc (sfi_en (sfe_bin sf_gAdd (sfe_var _) (sfe_var _))) (sft_tb (sfe_bin (sf_gInB _) (sfe_var _) (sfe_var _))) (sfe_bin sf_gAdd (sfe_var _) (sfe_K _)))) (sfs_rt (sfe_if (sft_tb (sfe_bin (sf_gEqB _) (sfe_var _) (sfe_lst sfa_nil))) (sfe_bin sf_gIdx (sfe_var _) (sfe_K _)) (sfe_K _)))))))
theorem sf_F_words_by : SFC F_words_by := sfc_fnP (sfs_seq (sfs_par _ _ (sfe_call sf_gLen (sfa_cons (sfe_bin sf_gIdx (sfe_var _) (sfe_K _)) sfa_nil)) (sfe_call sf_gLen (sfa_cons (sfe_bin sf_gIdx (sfe_var _) (sfe_K _)) sfa_nil))) (sfs_seq (sfs_set _ (sfe_bin sf_gDiv (sfe_bin sf_gMul (sfe_var _) (sfe_var _)) (sfe_call sf_F_divisor (sfa_cons (sfe_var _) (sfa_cons (sfe_var _) sfa_nil))))) (sfs_seq (sfs_set _ (sfe_call sf_gMax (sfa_cons (sfe_call sf_gInt (sfa_cons (sfe_call sf_F_settled_minute (sfa_cons (sfe_var _) sfa_nil)) sfa_nil)) (sfa_cons (sfe_call sf_gInt (sfa_cons (sfe_call sf_F_settled_minute (sfa_cons (sfe_var _) sfa_nil)) sfa_nil)) sfa_nil)))) (sfs_seq (sfs_set _ (sfe_bin sf_gSub (sfe_call sf_F_gain_in (sfa_cons (sfe_var _) (sfa_cons (sfe_var _) sfa_nil))) (sfe_call sf_F_gain_in (sfa_cons (sfe_var _) (sfa_cons (sfe_var _) sfa_nil))))) (sfs_seq (sfs_if (sft_tb (sfe_bin (sf_gEqB _) (sfe_var _) (sfe_K _))) (sfs_seq (sfs_set _ (sfe_lc (sfi_rng2 (sfe_var _) (sfe_bin sf_gAdd (sfe_var _) (sfe_var _))) sft_yes (sfe_call sf_F_far_at (sfa_cons (sfe_var _) (sfa_cons (sfe_var _) (sfa_cons (sfe_var _) sfa_nil)))))) (sfs_seq (sfs_set _ (sfe_lc (sfi_it (sfe_var _)) sft_yes (sfe_if (sft_tb (sfe_bin (sf_gI2 _) (sfe_var _) (sfe_K _))) (sfe_var _) (sfe_neg (sfe_var _))))) (sfs_set _ (sfe_bin sf_gAdd (sfe_var _) (sfe_bin sf_gMul (sfe_var _) (sfe_call sf_gMax (sfa_cons (sfe_bin sf_gAdd (sfe_lst (sfa_cons (sfe_K _) sfa_nil)) (sfe_lc (sfi_it (sfe_var _)) sft_yes (sfe_bin sf_gAdd (sfe_call sf_gInt (sfa_cons (sfe_bin sf_gDiv (sfe_neg (sfe_var _)) (sfe_call sf_gAbs (sfa_cons (sfe_var _) sfa_nil))) sfa_nil)) (sfe_K _)))) sfa_nil))))))) sfs_nx) (sfs_seq (sfs_set _ (sfe_lc (sfi_rng1 (sfe_var _)) sft_yes (sfe_call sf_F_word_of (sfa_cons (sfe_call sf_F_far_at (sfa_cons (sfe_var _) (sfa_cons (sfe_var _) (sfa_cons (sfe_var _) sfa_nil)))) sfa_nil)))) (sfs_rt (sfe_call sf_F_shortened (sfa_cons (sfe_var _) (sfa_cons (sfe_lc (sfi_rng2 (sfe_var _) (sfe_bin sf_gAdd (sfe_var _) (sfe_var _))) sft_yes (sfe_call sf_F_word_of (sfa_cons (sfe_call sf_F_far_at (sfa_cons (sfe_var _) (sfa_cons (sfe_var _) (sfa_cons (sfe_var _) sfa_nil)))) sfa_nil))) sfa_nil))))))))))
theorem sf_F_alike : SFC F_alike := sfc_fnP (sfs_seq (sfs_ex (sfe_call sf_F_need_two (sfa_cons (sfe_var _) (sfa_cons (sfe_var _) sfa_nil)))) (sfs_rt (sfe_call sf_F_are_alike (sfa_cons (sfe_var _) (sfa_cons (sfe_var _) sfa_nil)))))
theorem sf_F_idle_steps : SFC F_idle_steps := sfc_fnP (sfs_seq (sfs_ex (sfe_call sf_F_need_snail (sfa_cons (sfe_var _) sfa_nil))) (sfs_seq (sfs_set _ (sfe_bin sf_gIdx (sfe_var _) (sfe_K _))) (sfs_seq (sfs_set _ (sfe_if (sft_tb (sfe_bin (sf_gI2 _) (sfe_call sf_gLen (sfa_cons (sfe_var _) sfa_nil)) (sfe_K _))) (sfe_lrg1 (sfe_call sf_gLen (sfa_cons (sfe_var _) sfa_nil))) (sfe_lst sfa_nil))) (sfs_rt (sfe_lc (sfi_it (sfe_var _)) (sft_tr (sfe_call sf_F_are_alike (sfa_cons (sfe_var _) (sfa_cons (sfe_call sf_F_with_round (sfa_cons (sfe_var _) (sfa_cons (sfe_call sf_F_without (sfa_cons (sfe_var _) (sfa_cons (sfe_var _) sfa_nil))) sfa_nil))) sfa_nil)))) (sfe_var _))))))
theorem sf_F_exchangeable : SFC F_exchangeable := sfc_fnP (sfs_seq (sfs_ex (sfe_call sf_F_need_snail (sfa_cons (sfe_var _) sfa_nil))) (sfs_seq (sfs_set _ (sfe_bin sf_gIdx (sfe_var _) (sfe_K _))) (sfs_seq (sfs_set _ (sfe_lrg1 (sfe_bin sf_gSub (sfe_call sf_gLen (sfa_cons (sfe_var _) sfa_nil)) (sfe_K _)))) (sfs_rt (sfe_lc (sfi_it (sfe_var _)) (sft_tr (sfe_call sf_F_are_alike (sfa_cons (sfe_var _) (sfa_cons (sfe_call sf_F_with_round (sfa_cons (sfe_var _) (sfa_cons (sfe_call sf_F_exchanged (sfa_cons (sfe_var _) (sfa_cons (sfe_var _) sfa_nil))) sfa_nil))) sfa_nil)))) (sfe_var _))))))
theorem sf_F_all_out : SFC F_all_out := sfc_fnP (sfs_seq (sfs_set _ (sfe_lc (sfi_it (sfe_var _)) sft_yes (sfe_call sf_F_out_in (sfa_cons (sfe_var _) (sfa_cons (sfe_var _) (sfa_cons (sfe_var _) sfa_nil)))))) (sfs_rt (sfe_call sf_gTuple (sfa_cons (sfe_call sf_gSorted (sfa_cons (sfe_lc (sfi_en (sfe_var _)) (sft_tb (sfe_bin sf_gNotN (sfe_var _) (sfe_K _))) (sfe_tup (sfa_cons (sfe_var _) (sfa_cons (sfe_var _) sfa_nil)))) sfa_nil)) sfa_nil))))
theorem sf_F_order_calendar : SFC F_order_calendar := sfc_fnP (sfs_seq (sfs_ex (sfe_call sf_F_need_two (sfa_cons (sfe_var _) (sfa_cons (sfe_var _) sfa_nil)))) (sfs_rt (sfe_call sf_F_words_by (sfa_cons (sfe_var _) (sfa_cons (sfe_var _) sfa_nil)))))
theorem sf_F_first_over : SFC F_first_over := sfc_fnP (sfs_seq (sfs_ex (sfe_call sf_F_need_two (sfa_cons (sfe_var _) (sfa_cons (sfe_var _) sfa_nil)))) (sfs_seq (sfs_st (sfe_call sf_F_words_by (sfa_cons (sfe_var _) (sfa_cons (sfe_var _) sfa_nil))) (sfg_tp _ (sfgs_cons (sfg_nm _) (sfgs_cons (sfg_nm _) sfgs_nil)))) (sfs_seq (sfs_set _ (sfe_call sf_gList (sfa_cons (sfe_bin sf_gAdd (sfe_var _) (sfe_var _)) sfa_nil))) (sfs_rt (sfe_if (sft_tb (sfe_bin (sf_gInB _) (sfe_K _) (sfe_var _))) (sfe_meth sf_gIndexM (sfe_var _) (sfa_cons (sfe_K _) sfa_nil)) (sfe_K _))))))
end DL
/-! what the laws' own draws give -/
namespace DL
open PySem L2
def SrcAt (n : Nat) (S : Sto) : Prop := ∃ a b : Int, S[n]? = some (.lst [.int a, .int b]) ∧ 0 ≤ b ∧ b < 2147483648
/-- the source n has drawn, all else is as it was -/
structure Upd (n : Nat) (S S' : Sto) : Prop where
  len : S'.length = S.length
  oth : ∀ m, m ≠ n → S'[m]? = S[m]?
  src : SrcAt n S'
theorem Upd.refl {n : Nat} {S : Sto} (h : SrcAt n S) : Upd n S S := ⟨rfl, fun _ _ => rfl, h⟩
theorem Upd.trans {n : Nat} {S S1 S2 : Sto} (a : Upd n S S1) (b : Upd n S1 S2) : Upd n S S2 := ⟨b.len.trans a.len, fun m h => (b.oth m h).trans (a.oth m h), b.src⟩
theorem SrcAt.lt {n : Nat} {S : Sto} (h : SrcAt n S) : n < S.length := by
  obtain ⟨a, b, e, _⟩ := h
  exact (List.getElem?_eq_some_iff.mp e).1
theorem atI0 {α : Type} (x : α) (r : List α) : atI (x :: r) 0 = some x := atI_nat (j := 0) rfl
theorem atI1 {α : Type} (x y : α) (r : List α) : atI (x :: y :: r) 1 = some y := atI_nat (j := 1) rfl
theorem upd_set {n : Nat} {S : Sto} {a b : Int} (h : n < S.length) (h0 : 0 ≤ b) (h1 : b < 2147483648) : Upd n S (S.set n (.lst [.int a, .int b])) :=
  ⟨by simp, fun m hm => by rw [List.getElem?_set_ne (fun z => hm z.symm)], a, b, by rw [List.getElem?_set_self h], h0, h1⟩
theorem log2_lt {m : Int} {k : Nat} (h : m.natAbs < 2 ^ k) (hk : 0 < k) : m.natAbs.log2 < k := by
  by_cases z : m.natAbs = 0
  · rw [z]; simpa using hk
  · exact (Nat.log2_lt z).mpr h
theorem draw_spec {n : Nat} {S : Sto} {m : Int} (h : SrcAt n S) (hm : 0 < m) (hl : m.natAbs.log2 < 9000) :
    ∃ d S', F__law_draw [.obj n, .int m] S = .ok (.int d) S' ∧ 0 ≤ d ∧ d < m ∧ Upd n S S' := by
  have hn := h.lt
  obtain ⟨a, b, e, hb0, hb1⟩ := h
  have i0 : gIdx (.obj n) (.int 0) S = .ok (.int a) S := gIdx_obj _ e (atI0 _ _)
  have i1 : gIdx (.obj n) (.int 1) S = .ok (.int b) S := gIdx_obj _ e (atI1 _ _ _)
  by_cases ha : 0 < a
  · refine ⟨a % m, S.set n (.lst [.int (a / m), .int b]), ?_, Int.emod_nonneg _ (by omega), Int.emod_lt_of_pos _ hm, upd_set hn hb0 hb1⟩
    simp [F__law_draw, fnP_ap, i0, ha, gMod_int, gDiv_int, hm, hl, e, ixN, popR_le]
  · have m1 : (b * 48271).natAbs.log2 < 1000 := log2_lt (by omega) (by decide)
    have x0 := Int.emod_nonneg (b * 48271) (show (2147483647 : Int) ≠ 0 by decide)
    have x1 := Int.emod_lt_of_pos (b * 48271) (show (0 : Int) < 2147483647 by decide)
    generalize hx : b * 48271 % 2147483647 = x at x0 x1
    let S' := S.set n (.lst [.int a, .int x])
    have e' : S'[n]? = some (.lst [.int a, .int x]) := List.getElem?_set_self hn
    have j1 : gIdx (.obj n) (.int 1) S' = .ok (.int x) S' := gIdx_obj _ e' (atI1 _ _ _)
    refine ⟨(x * x % 2147483629 / 64) % m, S', ?_, Int.emod_nonneg _ (by omega), Int.emod_lt_of_pos _ hm, upd_set hn x0 (by omega)⟩
    have k1 : gMul (.int b) (.int 48271) S = .ok (.int (b * 48271)) S := gMul_int _ (by
      have : b.natAbs.log2 < 1000 := log2_lt (by omega) (by decide)
      have : (48271 : Int).natAbs.log2 < 1000 := by decide
      omega)
    have k2 : gMul (.int x) (.int x) S' = .ok (.int (x * x)) S' := gMul_int _ (by
      have : x.natAbs.log2 < 1000 := log2_lt (by omega) (by decide)
      omega)
    have k3 : ∀ z, gDiv (.int z) (.int 64) S' = .ok (.int (z / 64)) S' := fun z => gDiv_int _ (by decide) (by decide)
    have k4 : ∀ z, gMod (.int z) (.int 2147483629) S' = .ok (.int (z % 2147483629)) S' := fun z => gMod_int _ (by decide)
    have k5 : ∀ z, gMod (.int z) (.int m) S' = .ok (.int (z % m)) S' := fun z => gMod_int _ hm
    have k6 : gMod (.int (b * 48271)) (.int 2147483647) S = .ok (.int x) S := by rw [gMod_int _ (by decide), hx]
    have hS' : S.set n (.lst [.int a, .int x]) = S' := rfl
    have hlen : S'.length = S.length := by simp [S']
    simp [F__law_draw, fnP_ap, i0, i1, ha, k1, k6, e, ixN, hS', j1, k2, k4, k3, k5, popR_le, hlen]

theorem of_spec {n : Nat} {S : Sto} {items : List D} (h : SrcAt n S) (h0 : items ≠ []) (hl : items.length < 1000) :
    ∃ x S', F__law_of [.obj n, .lst items] S = .ok x S' ∧ x ∈ items ∧ Upd n S S' := by
  have hp : 0 < items.length := by cases items with
    | nil => exact absurd rfl h0
    | cons _ _ => simp
  obtain ⟨d, S', e, d0, d1, u⟩ := draw_spec (m := (items.length : Int)) h (by omega) (by
    have : ((items.length : Int)).natAbs.log2 < 10 := log2_lt (by
      have : (2 : Nat) ^ 10 = 1024 := by decide
      omega) (by decide)
    omega)
  obtain ⟨j, rfl⟩ : ∃ j : Nat, d = (j : Int) := ⟨d.toNat, by omega⟩
  have hj : j < items.length := by omega
  refine ⟨items[j], S', ?_, List.getElem_mem hj, u⟩
  have k := gIdx_lst S' (xs := items) (i := (j : Int)) (d := items[j]) (atI_nat (List.getElem?_eq_getElem hj))
  simp [F__law_of, fnP_ap, e, k, popR_le, u.len]
/-- a round -/
structure RoundOk (st : List Int) : Prop where
  pos : 1 ≤ st.length
  le : st.length ≤ 4
  bd : ∀ x ∈ st, -3 ≤ x ∧ x ≤ 3
def roundD (st : List Int) : D := .tup (st.map D.int)
theorem round_spec {n : Nat} {S : Sto} (h : SrcAt n S) : ∃ st S', F__law_round [.obj n] S = .ok (roundD st) S' ∧ RoundOk st ∧ Upd n S S' := by
  obtain ⟨d, S1, e1, d0, d1, u1⟩ := draw_spec (m := 3) h (by decide) (by decide)
  by_cases hd : d = 0
  · subst hd
    obtain ⟨x, S2, e2, hx, u2⟩ := of_spec (n := n) (S := S1) (items := [roundD [1], roundD [3, -2], roundD [2, -1], roundD [3, -1, -1], roundD [1, 0], roundD [2, 1, -2], roundD [3, 3, -3, 0], roundD [-1, 2]]) u1.src (by simp) (by simp)
    have hx2 : ∃ st, x = roundD st ∧ RoundOk st := by
      simp only [List.mem_cons, List.not_mem_nil, or_false] at hx
      rcases hx with rfl | rfl | rfl | rfl | rfl | rfl | rfl | rfl <;> exact ⟨_, rfl, by simp, by simp, by simp⟩
    obtain ⟨st, rfl, hst⟩ := hx2
    refine ⟨st, S2, ?_, hst, u1.trans u2⟩
    simp only [roundD, List.map_cons, List.map_nil] at e2
    simp [F__law_round, fnP_ap, e1, e2, popR_le, u2.len, u1.len, roundD]
  · obtain ⟨m, S2, e2, m0, m1, u2⟩ := draw_spec (m := 4) u1.src (by decide) (by decide)
    obtain ⟨k, rfl⟩ : ∃ k : Nat, m = (k : Int) := ⟨m.toNat, by omega⟩
    have key := forR_inv (g := gNm 3) (b := sSet 2 (eBin gAdd (eVar 2) (eTup [(eCall F__law_of [(eVar 0), (eLst [(eNeg (eK (.int 3))), (eNeg (eK (.int 2))), (eNeg (eK (.int 1))), (eK (.int 0)), (eK (.int 1)), (eK (.int 2)), (eK (.int 3)), (eK (.int 3)), (eK (.int 2)), (eK (.int 1))])])])))
      (fun r _ ρ S' => ∃ (st : List Int) (y z : Option D), st.length + r = 1 + k ∧ (∀ x ∈ st, -3 ≤ x ∧ x ≤ 3) ∧ ρ = [some (.obj n), y, some (roundD st), z] ∧ Upd n S2 S')
      (1 + k) 0 [some (.obj n), some (.lst [roundD [1], roundD [3, -2], roundD [2, -1], roundD [3, -1, -1], roundD [1, 0], roundD [2, 1, -2], roundD [3, 3, -3, 0], roundD [-1, 2]]), some (roundD []), none] S2
      ⟨[], _, _, by simp, by simp, rfl, Upd.refl u2.src⟩ (by
        rintro r lo ρ S' ⟨st, y, z, h1, h2, rfl, u⟩
        obtain ⟨x, S3, e3, hx, u3⟩ := of_spec (n := n) (S := S') (items := [.int (-3), .int (-2), .int (-1), .int 0, .int 1, .int 2, .int 3, .int 3, .int 2, .int 1]) u.src (by simp) (by simp)
        have hx2 : ∃ i : Int, x = .int i ∧ -3 ≤ i ∧ i ≤ 3 := by
          simp only [List.mem_cons, List.not_mem_nil, or_false] at hx
          rcases hx with rfl | rfl | rfl | rfl | rfl | rfl | rfl | rfl | rfl | rfl <;> exact ⟨_, rfl, by decide, by decide⟩
        obtain ⟨i, rfl, hi⟩ := hx2
        refine ⟨_, _, _, _, rfl, .inl ?_, st ++ [i], y, some (.int lo), by simp; omega, ?_, rfl, u.trans u3⟩
        · have hlen : (st.map D.int).length + [D.int i].length ≤ 16777216 := by simp; omega
          simp [e3, roundD, gAdd_tup _ hlen]
        · intro x hx
          rcases List.mem_append.mp hx with hx | hx
          · exact h2 x hx
          · rw [List.mem_singleton] at hx; rw [hx]; exact hi)
    obtain ⟨ρ', S', hi, e3, st, y, z, h1, h2, rfl, u3⟩ := key
    have hlen : st.length = 1 + k := by omega
    refine ⟨st, S', ?_, ⟨by omega, by omega, h2⟩, (u1.trans u2).trans u3⟩
    have hsm : smallI (1 + (k : Int)) = true := smallI_mk (by omega) (by omega)
    have ht : (1 + (k : Int)).toNat = 1 + k := by omega
    simp only [roundD, List.map_cons, List.map_nil] at e3
    simp [F__law_round, fnP_ap, e1, e2, hd, hsm, ht, roundD]
    rw [sFor_rng (lo := 0) (n := 1 + k) (S1 := S2) (by simp [e2, hsm, ht]), e3]
    simp [popR_le, u3.len, u2.len, u1.len]
/-- a snail -/
structure Sn where
  start : Int
  height : Int
  steps : List Int
structure Sn.Ok (s : Sn) : Prop where
  s0 : 0 ≤ s.start
  s1 : s.start ≤ 20
  h0 : 0 ≤ s.height
  h1 : s.height ≤ 5
  rd : RoundOk s.steps
def Sn.d (s : Sn) : D := .tup [.int s.start, .int s.height, roundD s.steps]
theorem snail_spec {n : Nat} {S : Sto} (h : SrcAt n S) : ∃ (s : Sn) (S' : Sto), F__law_snail [.obj n] S = .ok s.d S' ∧ s.Ok ∧ Upd n S S' := by
  obtain ⟨d, S1, e1, d0, d1, u1⟩ := draw_spec (m := 21) h (by decide) (by decide)
  obtain ⟨x, S2, e2, hx, u2⟩ := of_spec (n := n) (S := S1) (items := [.int 0, .int 0, .int 1, .int 3, .int d]) u1.src (by simp) (by simp)
  obtain ⟨d', S3, e3, d0', d1', u3⟩ := draw_spec (m := 6) u2.src (by decide) (by decide)
  obtain ⟨y, S4, e4, hy, u4⟩ := of_spec (n := n) (S := S3) (items := [.int 0, .int 0, .int 0, .int 1, .int d']) u3.src (by simp) (by simp)
  obtain ⟨st, S5, e5, hst, u5⟩ := round_spec u4.src
  have hx2 : ∃ i : Int, x = .int i ∧ 0 ≤ i ∧ i ≤ 20 := by
    simp only [List.mem_cons, List.not_mem_nil, or_false] at hx
    rcases hx with rfl | rfl | rfl | rfl | rfl <;> exact ⟨_, rfl, by omega, by omega⟩
  have hy2 : ∃ i : Int, y = .int i ∧ 0 ≤ i ∧ i ≤ 5 := by
    simp only [List.mem_cons, List.not_mem_nil, or_false] at hy
    rcases hy with rfl | rfl | rfl | rfl | rfl <;> exact ⟨_, rfl, by omega, by omega⟩
  obtain ⟨i, rfl, hi⟩ := hx2
  obtain ⟨j, rfl, hj⟩ := hy2
  refine ⟨⟨i, j, st⟩, S5, ?_, ⟨hi.1, hi.2, hj.1, hj.2, hst⟩, (((u1.trans u2).trans u3).trans u4).trans u5⟩
  simp [F__law_snail, fnP_ap, e1, e2, e3, e4, e5, popR_le, u5.len, u4.len, u3.len, u2.len, u1.len, Sn.d]
theorem source_spec (ns : List Int) (k : Nat) (S : Sto) (hk : k ≤ 63) : ∃ a b : Int, F__law_source [.frz (ns.map D.int), .int k] S = .ok (.obj S.length) (S ++ [.lst [.int a, .int b]]) ∧ 0 ≤ b ∧ b < 2147483648 := by
  have hp : gPow (.int 10) (.int 18) S = .ok (.int 1000000000000000000) S := by simp [gPow]
  have fin : ∀ cell : Int, 0 ≤ cell → ∃ a b : Int, (sSeq (sIf (eTb (eBin gLt (eVar 2) (eBin gPow (eK (.int 10)) (eK (.int 18)))))
    (sRt (eNewL [(eK (.int 0)), (eBin gAdd (eK (.int 1)) (eBin gMod (eCall gInt [(eBin gAdd (eBin gMul (eVar 2) (eK (.int 7919))) (eBin gMul (eK (.int 104729)) (eVar 1)))]) (eK (.int 2147483646))))]))
    sNx)
    (sRt (eNewL [(eVar 2), (eBin gAdd (eK (.int 1)) (eBin gMod (eCall gInt [(eBin gAdd (eVar 2) (eVar 1))]) (eK (.int 2147483646))))]))) [some (.frz (ns.map D.int)), some (.int k), some (.int cell)] S = .rt (.obj S.length) (S ++ [.lst [.int a, .int b]]) ∧ 0 ≤ b ∧ b < 2147483648 := by
    intro cell hc
    have kM : ∀ z, gMod (.int z) (.int 2147483646) S = .ok (.int (z % 2147483646)) S := fun z => gMod_int _ (by decide)
    by_cases hlt : cell < 1000000000000000000
    · have k1 : gMul (.int cell) (.int 7919) S = .ok (.int (cell * 7919)) S := gMul_int _ (by
        have : cell.natAbs.log2 < 60 := log2_lt (by
          have : (2 : Nat) ^ 60 = 1152921504606846976 := by decide
          omega) (by decide)
        have : (7919 : Int).natAbs.log2 < 1000 := by decide
        omega)
      have k2 : gMul (.int 104729) (.int k) S = .ok (.int (104729 * (k : Int))) S := gMul_int _ (by
        have : ((k : Int)).natAbs.log2 < 10 := log2_lt (by
          have : (2 : Nat) ^ 10 = 1024 := by decide
          omega) (by decide)
        have : (104729 : Int).natAbs.log2 < 1000 := by decide
        omega)
      refine ⟨0, 1 + (cell * 7919 + 104729 * (k : Int)) % 2147483646, ?_, ?_, ?_⟩
      · simp [hp, hlt, k1, k2, kM]
      · have := Int.emod_nonneg (cell * 7919 + 104729 * (k : Int)) (show (2147483646 : Int) ≠ 0 by decide); omega
      · have := Int.emod_lt_of_pos (cell * 7919 + 104729 * (k : Int)) (show (0 : Int) < 2147483646 by decide); omega
    · refine ⟨cell, 1 + (cell + (k : Int)) % 2147483646, ?_, ?_, ?_⟩
      · simp [hp, hlt, kM]
      · have := Int.emod_nonneg (cell + (k : Int)) (show (2147483646 : Int) ≠ 0 by decide); omega
      · have := Int.emod_lt_of_pos (cell + (k : Int)) (show (0 : Int) < 2147483646 by decide); omega
  by_cases hlen : (k : Int) < (ns.length : Int)
  · have hk2 : k < ns.length := by omega
    have ki : gIdx (.frz (ns.map D.int)) (.int k) S = .ok (.int ns[k]) S := gIdx_frz _ (atI_nat (by simp [List.getElem?_eq_getElem hk2]))
    obtain ⟨a, b, e, hb⟩ := fin (if ns[k] < 0 then -ns[k] else ns[k]) (by split <;> omega)
    refine ⟨a, b, ?_, hb⟩
    simp only [sSeq_ap] at e
    simp only [F__law_source, fnQ_ap, sSeq_ap]
    simp [hlen, ki]
    simp at e
    rw [e]
    rfl
  · obtain ⟨a, b, e, hb⟩ := fin 0 (by decide)
    refine ⟨a, b, ?_, hb⟩
    simp only [sSeq_ap] at e
    simp only [F__law_source, fnQ_ap, sSeq_ap]
    simp [hlen]
    simp at e
    rw [e]
    rfl
end DL
/-! which values are numbers, rounds, snails -/
namespace DL
open PySem L2
mutual
def tg : D → Bool
  | .tup xs => tgs xs
  | .lst xs => tgs xs
  | .obj _ => false
  | .ref _ => false
  | .frz _ => false
  | _ => true
def tgs : List D → Bool
  | [] => true
  | d :: ds => tg d && tgs ds
end
theorem tgs_mem : ∀ {xs : List D}, tgs xs = true → ∀ x ∈ xs, tg x = true
  | x :: xs, h, y, hy => by
    simp only [tgs, Bool.and_eq_true] at h
    rcases List.mem_cons.mp hy with rfl | hy
    · exact h.1
    · exact tgs_mem h.2 y hy
theorem tgs_of : ∀ {xs : List D}, (∀ x ∈ xs, tg x = true) → tgs xs = true
  | [], _ => rfl
  | x :: xs, h => by
    simp only [tgs, Bool.and_eq_true]
    exact ⟨h x List.mem_cons_self, tgs_of fun y hy => h y (List.mem_cons_of_mem _ hy)⟩
def isNum (v : D) (a b : Int) : Bool := match v with
  | .int i => decide (a ≤ i) && decide (i ≤ b)
  | _ => false
def isTup (v : D) (a b : Int) : Bool := match v with
  | .tup xs => decide (a ≤ (xs.length : Int)) && decide ((xs.length : Int) ≤ b)
  | _ => false
def isRd (v : D) : Bool := match v with
  | .tup xs => decide (1 ≤ (xs.length : Int)) && decide ((xs.length : Int) ≤ 4) && xs.all fun x => isNum x (-3) 3
  | _ => false
def isSn (v : D) : Bool := match v with
  | .tup [x, y, z] => isNum x 0 20 && isNum y 0 5 && isRd z
  | _ => false
def areSn (v : D) : Bool := match v with
  | .tup xs => decide (1 ≤ (xs.length : Int)) && decide ((xs.length : Int) ≤ 3) && xs.all isSn
  | _ => false
section
variable {S : Sto}
theorem is_number_eq {v : D} (h : tg v = true) (a b : Int) : F_is_number [v, .int a, .int b] S = .ok (.bl (isNum v a b)) S := by
  cases v with
  | int i =>
    by_cases h1 : a ≤ i <;> by_cases h2 : i ≤ b <;> simp [F_is_number, fnP_ap, isiN, isNum, h1, h2]
  | obj _ => cases h
  | ref _ => cases h
  | frz _ => cases h
  | _ => simp [F_is_number, fnP_ap, isiN, isNum]
theorem is_tuple_eq {v : D} (h : tg v = true) (a b : Int) : F_is_tuple [v, .int a, .int b] S = .ok (.bl (isTup v a b)) S := by
  cases v with
  | tup xs =>
    by_cases h1 : a ≤ (xs.length : Int) <;> by_cases h2 : (xs.length : Int) ≤ b <;> simp [F_is_tuple, fnP_ap, isiN, isTup, h1, h2]
  | obj _ => cases h
  | ref _ => cases h
  | frz _ => cases h
  | _ => simp [F_is_tuple, fnP_ap, isiN, isTup]
theorem blsOf_fun (p : D → Bool) (xs : List D) : blsOf (xs.map fun x => .bl (p x)) = some (xs.map p) := by
  have := blsOf_map (xs.map p)
  rwa [List.map_map] at this
theorem all_map_id {α : Type} (p : α → Bool) (xs : List α) : (xs.map p).all id = xs.all p := by
  induction xs with
  | nil => rfl
  | cons x xs ih => simp [ih]
theorem is_round_eq {v : D} (h : tg v = true) : F_is_round [v] S = .ok (.bl (isRd v)) S := by
  have ht := is_tuple_eq (S := S) h 1 4
  cases v with
  | tup xs =>
    by_cases h1 : 1 ≤ (xs.length : Int) ∧ (xs.length : Int) ≤ 4
    · have e : isTup (.tup xs) 1 4 = true := by simp [isTup]; omega
      rw [e] at ht
      have hm : ∀ x ∈ xs, tg x = true := tgs_mem (by simpa only [tg] using h)
      have hc : eLc (eItS (eVar 0)) (.nm 1) tYesD (eCall F_is_number [(eVar 1), (eNeg (eK (.int 3))), (eK (.int 3))]) [1] [some (.tup xs), none] S = .ok (.lst (xs.map fun x => .bl (isNum x (-3) 3))) S := by
        rw [eLc_tup (xs := xs) (S1 := S) (by simp) (by omega)]
        rw [lcL_map (φ := fun x => .bl (isNum x (-3) 3)) xs fun x hx => ⟨_, rfl, by simp [wipeR, is_number_eq (hm x hx)]⟩]
        rfl
      simp [F_is_round, fnP_ap, ht, hc, gAll_lst _ (blsOf_fun _ xs), all_map_id, isRd]
      intro _
      exact h1
    · have e : isTup (.tup xs) 1 4 = false := by
        simp only [isTup, Bool.and_eq_false_iff, decide_eq_false_iff_not]
        omega
      rw [e] at ht
      have e2 : isRd (.tup xs) = false := by
        simp only [isRd, Bool.and_eq_false_iff, decide_eq_false_iff_not]
        omega
      simp [F_is_round, fnP_ap, ht, e2]
  | obj _ => cases h
  | ref _ => cases h
  | frz _ => cases h
  | _ => simp [F_is_round, fnP_ap, ht, isTup, isRd]
theorem atI2 {α : Type} (x y z : α) (r : List α) : atI (x :: y :: z :: r) 2 = some z := atI_nat (j := 2) rfl
theorem is_good_snail_eq {v : D} (h : tg v = true) : F_is_good_snail [v] S = .ok (.bl (isSn v)) S := by
  have ht := is_tuple_eq (S := S) h 3 3
  by_cases h3 : ∃ x y z, v = .tup [x, y, z]
  · obtain ⟨x, y, z, rfl⟩ := h3
    have hm : ∀ w ∈ [x, y, z], tg w = true := tgs_mem (by simpa only [tg] using h)
    have n1 := is_number_eq (S := S) (hm x (by simp)) 0 20
    have n2 := is_number_eq (S := S) (hm y (by simp)) 0 5
    have n3 := is_round_eq (S := S) (hm z (by simp))
    have i0 : gIdx (.tup [x, y, z]) (.int 0) S = .ok x S := gIdx_tup _ (atI0 _ _)
    have i1 : gIdx (.tup [x, y, z]) (.int 1) S = .ok y S := gIdx_tup _ (atI1 _ _ _)
    have i2 : gIdx (.tup [x, y, z]) (.int 2) S = .ok z S := gIdx_tup _ (atI2 _ _ _ _)
    have e : isTup (.tup [x, y, z]) 3 3 = true := by simp [isTup]
    rw [e] at ht
    cases c1 : isNum x 0 20 <;> cases c2 : isNum y 0 5 <;> simp [F_is_good_snail, fnP_ap, ht, i0, i1, i2, n1, n2, n3, c1, c2, isSn]
  · have e : isTup v 3 3 = false := by
      cases v with
      | tup xs =>
        match xs, h3 with
        | [], _ => simp [isTup]
        | [_], _ => simp [isTup]
        | [_, _], _ => simp [isTup]
        | [x, y, z], h3 => exact absurd ⟨x, y, z, rfl⟩ h3
        | _ :: _ :: _ :: _ :: r, _ => simp [isTup]; omega
      | _ => rfl
    have e2 : isSn v = false := by
      cases v with
      | tup xs =>
        match xs, h3 with
        | [], _ => rfl
        | [_], _ => rfl
        | [_, _], _ => rfl
        | [x, y, z], h3 => exact absurd ⟨x, y, z, rfl⟩ h3
        | _ :: _ :: _ :: _ :: r, _ => rfl
      | _ => rfl
    rw [e] at ht
    simp [F_is_good_snail, fnP_ap, ht, e2]
theorem are_good_snails_eq {v : D} (h : tg v = true) : F_are_good_snails [v] S = .ok (.bl (areSn v)) S := by
  have ht := is_tuple_eq (S := S) h 1 3
  cases v with
  | tup xs =>
    by_cases h1 : 1 ≤ (xs.length : Int) ∧ (xs.length : Int) ≤ 3
    · have e : isTup (.tup xs) 1 3 = true := by simp [isTup]; omega
      rw [e] at ht
      have hm : ∀ x ∈ xs, tg x = true := tgs_mem (by simpa only [tg] using h)
      have hc : eLc (eItS (eVar 0)) (.nm 1) tYesD (eCall F_is_good_snail [(eVar 1)]) [1] [some (.tup xs), none] S = .ok (.lst (xs.map fun x => .bl (isSn x))) S := by
        rw [eLc_tup (xs := xs) (S1 := S) (by simp) (by omega)]
        rw [lcL_map (φ := fun x => .bl (isSn x)) xs fun x hx => ⟨_, rfl, by simp [wipeR, is_good_snail_eq (hm x hx)]⟩]
        rfl
      simp [F_are_good_snails, fnP_ap, ht, hc, gAll_lst _ (blsOf_fun _ xs), all_map_id, areSn]
      intro _
      exact h1
    · have e : isTup (.tup xs) 1 3 = false := by
        simp only [isTup, Bool.and_eq_false_iff, decide_eq_false_iff_not]
        omega
      rw [e] at ht
      have e2 : areSn (.tup xs) = false := by
        simp only [areSn, Bool.and_eq_false_iff, decide_eq_false_iff_not]
        omega
      simp [F_are_good_snails, fnP_ap, ht, e2]
  | obj _ => cases h
  | ref _ => cases h
  | frz _ => cases h
  | _ => simp [F_are_good_snails, fnP_ap, ht, isTup, areSn]
theorem is_snail_eq {v : D} (h : tg v = true) : F_is_snail [v] S = .ok (.bl (isSn v)) S := by simp [F_is_snail, fnP_ap, is_good_snail_eq h]
theorem are_snails_eq {v : D} (h : tg v = true) : F_are_snails [v] S = .ok (.bl (areSn v)) S := by simp [F_are_snails, fnP_ap, are_good_snails_eq h]
/-- what the draws make is a snail -/
theorem tgs_ints (l : List Int) : tgs (l.map D.int) = true := by
  induction l with
  | nil => rfl
  | cons x l ih => simpa [tgs, tg] using ih
theorem Sn.tg (s : Sn) : DL.tg s.d = true := by simp [Sn.d, DL.tg, tgs, roundD, tgs_ints]
theorem rd_of {st : List Int} (h : RoundOk st) : isRd (roundD st) = true := by
  have h1 := h.pos
  have h2 := h.le
  simp only [isRd, roundD, List.length_map, Bool.and_eq_true, decide_eq_true_eq, List.all_eq_true, List.mem_map]
  refine ⟨by omega, fun x hx => ?_⟩
  obtain ⟨i, hi, rfl⟩ := hx
  have := h.bd i hi
  simp [isNum]; omega
theorem Sn.is {s : Sn} (h : s.Ok) : isSn s.d = true := by
  have a := h.s0
  have b := h.s1
  have c := h.h0
  have d := h.h1
  simp only [isSn, Sn.d, rd_of h.rd, isNum, Bool.and_true, Bool.and_eq_true, decide_eq_true_eq]
  omega
theorem need_snail_eq {s : Sn} (h : s.Ok) : F_need_snail [s.d] S = .ok .non S := by
  simp [F_need_snail, fnP_ap, is_good_snail_eq s.tg, Sn.is h]
theorem need_number_eq {i a : Int} (h : a ≤ i) (h2 : i ≤ 1000000000000000000000000000000) : F_need_number [.int i, .int a] S = .ok .non S := by
  have e : isNum (.int i) a 1000000000000000000000000000000 = true := by simp [isNum, h, h2]
  simp [F_need_number, fnP_ap, is_number_eq (v := .int i) rfl, e]
end
end DL
/-! plain values: no references in them, of little width and depth -/
namespace DL
open PySem L2
def plB (w : Nat) : Nat → D → Bool
  | _, .non => true
  | _, .bl _ => true
  | _, .int _ => true
  | _, .str x => PyData.strOk x
  | 0, _ => false
  | n + 1, .tup xs => decide (xs.length ≤ w) && xs.all (plB w n)
  | n + 1, .lst xs => decide (xs.length ≤ w) && xs.all (plB w n)
  | _, _ => false
theorem plB_mono {w w' : Nat} (hw : w ≤ w') : ∀ {n m : Nat} {d : D}, n ≤ m → plB w n d = true → plB w' m d = true
  | n, m, .non, _, _ => by cases m <;> rfl
  | n, m, .bl _, _, _ => by cases m <;> rfl
  | n, m, .int _, _, _ => by cases m <;> rfl
  | n, m, .str x, _, h => by cases n <;> cases m <;> simpa [plB] using h
  | 0, _, .tup _, _, h => by simp [plB] at h
  | 0, _, .lst _, _, h => by simp [plB] at h
  | n + 1, m + 1, .tup xs, hl, h => by
    simp only [plB, Bool.and_eq_true, decide_eq_true_eq, List.all_eq_true] at h ⊢
    exact ⟨by omega, fun x hx => plB_mono hw (by omega) (h.2 x hx)⟩
  | n + 1, m + 1, .lst xs, hl, h => by
    simp only [plB, Bool.and_eq_true, decide_eq_true_eq, List.all_eq_true] at h ⊢
    exact ⟨by omega, fun x hx => plB_mono hw (by omega) (h.2 x hx)⟩
  | n, _, .obj _, _, h => by cases n <;> simp [plB] at h
  | n, _, .ref _, _, h => by cases n <;> simp [plB] at h
  | n, _, .frz _, _, h => by cases n <;> simp [plB] at h
theorem plB_py {w : Nat} : ∀ {n : Nat} {d : D}, plB w n d = true → ∃ p, toPy d = some p ∧ p.canLay0 = true ∧ p.depth ≤ n
  | n, .non, _ => ⟨.none, rfl, rfl, by simp [PyData.depth]⟩
  | n, .bl b, _ => ⟨.bool b, rfl, rfl, by simp [PyData.depth]⟩
  | n, .int i, _ => ⟨.int i, rfl, rfl, by simp [PyData.depth]⟩
  | n, .str x, h => ⟨.str x, rfl, by cases n <;> simpa [plB, PyData.canLay0] using h, by simp [PyData.depth]⟩
  | 0, .tup _, h => by simp [plB] at h
  | 0, .lst _, h => by simp [plB] at h
  | n + 1, .tup xs, h => by
    simp only [plB, Bool.and_eq_true, decide_eq_true_eq, List.all_eq_true] at h
    have : ∃ ps, toPys xs = some ps ∧ PyData.canLayAll0 ps = true ∧ PyData.depthAll ps ≤ n := by
      have hx := h.2
      clear h
      induction xs with
      | nil => exact ⟨[], rfl, rfl, by simp [PyData.depthAll]⟩
      | cons x xs ih =>
        obtain ⟨p, e1, e2, e3⟩ := plB_py (hx x List.mem_cons_self)
        obtain ⟨ps, f1, f2, f3⟩ := ih fun y hy => hx y (List.mem_cons_of_mem _ hy)
        refine ⟨p :: ps, by simp [toPys, e1, f1], by simp [PyData.canLayAll0, e2, f2], ?_⟩
        simp only [PyData.depthAll]
        omega
    obtain ⟨ps, e1, e2, e3⟩ := this
    exact ⟨.tuple ps, by simp [toPy, e1], by simpa [PyData.canLay0] using e2, by simp only [PyData.depth]; omega⟩
  | n + 1, .lst xs, h => by
    simp only [plB, Bool.and_eq_true, decide_eq_true_eq, List.all_eq_true] at h
    have : ∃ ps, toPys xs = some ps ∧ PyData.canLayAll0 ps = true ∧ PyData.depthAll ps ≤ n := by
      have hx := h.2
      clear h
      induction xs with
      | nil => exact ⟨[], rfl, rfl, by simp [PyData.depthAll]⟩
      | cons x xs ih =>
        obtain ⟨p, e1, e2, e3⟩ := plB_py (hx x List.mem_cons_self)
        obtain ⟨ps, f1, f2, f3⟩ := ih fun y hy => hx y (List.mem_cons_of_mem _ hy)
        refine ⟨p :: ps, by simp [toPys, e1, f1], by simp [PyData.canLayAll0, e2, f2], ?_⟩
        simp only [PyData.depthAll]
        omega
    obtain ⟨ps, e1, e2, e3⟩ := this
    exact ⟨.list ps, by simp [toPy, e1], by simpa [PyData.canLay0] using e2, by simp only [PyData.depth]; omega⟩
  | n, .obj _, h => by cases n <;> simp [plB] at h
  | n, .ref _, h => by cases n <;> simp [plB] at h
  | n, .frz _, h => by cases n <;> simp [plB] at h
theorem plB_tg {w : Nat} : ∀ {n : Nat} {d : D}, plB w n d = true → tg d = true
  | n, .non, _ => rfl
  | n, .bl b, _ => rfl
  | n, .int i, _ => rfl
  | n, .str x, h => rfl
  | 0, .tup _, h => by simp [plB] at h
  | 0, .lst _, h => by simp [plB] at h
  | n + 1, .tup xs, h => by
    simp only [plB, Bool.and_eq_true, decide_eq_true_eq, List.all_eq_true] at h
    simp only [tg]
    exact tgs_of fun x hx => plB_tg (h.2 x hx)
  | n + 1, .lst xs, h => by
    simp only [plB, Bool.and_eq_true, decide_eq_true_eq, List.all_eq_true] at h
    simp only [tg]
    exact tgs_of fun x hx => plB_tg (h.2 x hx)
  | n, .obj _, h => by cases n <;> simp [plB] at h
  | n, .ref _, h => by cases n <;> simp [plB] at h
  | n, .frz _, h => by cases n <;> simp [plB] at h
theorem plB_shaped {w n : Nat} {d : D} (h : plB w n d = true) (hn : n ≤ 64) (S : Sto) : ∃ p, toPy (view S d) = some p ∧ SeqAt.shaped p = true := by
  obtain ⟨p, e1, e2, e3⟩ := plB_py h
  refine ⟨p, ?_, by simp [SeqAt.shaped, e2]; omega⟩
  cases d with
  | obj _ => cases n <;> simp [plB] at h
  | _ => exact e1
theorem toPys_nil {xs : List D} {ps : List PyData} (h : toPys xs = some ps) : ps.isEmpty = xs.isEmpty := by
  cases xs with
  | nil => simp [toPys] at h; rw [h]; rfl
  | cons x xs =>
    simp only [toPys] at h
    split at h
    · cases h; rfl
    · cases h
theorem eqv_list_nil (ps : List PyData) : PyData.eqv (.list ps) (.list []) = ps.isEmpty := by
  cases ps <;> simp [PyData.eqv, PyData.eqvAll]
theorem eqv_tuple_nil (ps : List PyData) : PyData.eqv (.tuple ps) (.tuple []) = ps.isEmpty := by
  cases ps <;> simp [PyData.eqv, PyData.eqvAll]
/-- a == [] -/
theorem gEq_lst_nil {w n : Nat} {xs : List D} (h : plB w n (.lst xs) = true) (hn : n ≤ 64) (S : Sto) : gEqB false (.lst xs) (.lst []) S = .ok (.bl xs.isEmpty) S := by
  obtain ⟨p, e1, e2⟩ := plB_shaped h hn S
  have e3 : SeqAt.shaped (.list []) = true := by decide
  have e0 := e1
  simp only [view_lst_, toPy] at e1
  split at e1
  · next ps hp =>
    cases e1
    rw [view_lst_] at e0
    simp only [gEqB, view_lst_, e0, show toPy (.lst []) = some (.list []) from rfl, e2, e3, and_self, if_true, eqv_list_nil, toPys_nil hp]
    rfl
  · cases e1
/-- a == () -/
theorem gEq_tup_nil {w n : Nat} {xs : List D} (h : plB w n (.tup xs) = true) (hn : n ≤ 64) (S : Sto) : gEqB false (.tup xs) (.tup []) S = .ok (.bl xs.isEmpty) S := by
  obtain ⟨p, e1, e2⟩ := plB_shaped h hn S
  have e3 : SeqAt.shaped (.tuple []) = true := by decide
  have e0 := e1
  simp only [view_tup_, toPy] at e1
  split at e1
  · next ps hp =>
    cases e1
    rw [view_tup_] at e0
    simp only [gEqB, view_tup_, e0, show toPy (.tup []) = some (.tuple []) from rfl, e2, e3, and_self, if_true, eqv_tuple_nil, toPys_nil hp]
    rfl
  · cases e1
theorem plB_tup {w n : Nat} {xs : List D} (h : plB w (n + 1) (.tup xs) = true) : xs.length ≤ w ∧ ∀ x ∈ xs, plB w n x = true := by
  simpa only [plB, Bool.and_eq_true, decide_eq_true_eq, List.all_eq_true] using h
theorem plB_mk {w n : Nat} {xs : List D} (h : xs.length ≤ w) (h2 : ∀ x ∈ xs, plB w n x = true) : plB w (n + 1) (.tup xs) = true := by
  simpa only [plB, Bool.and_eq_true, decide_eq_true_eq, List.all_eq_true] using ⟨h, h2⟩
theorem plB_mkL {w n : Nat} {xs : List D} (h : xs.length ≤ w) (h2 : ∀ x ∈ xs, plB w n x = true) : plB w (n + 1) (.lst xs) = true := by
  simpa only [plB, Bool.and_eq_true, decide_eq_true_eq, List.all_eq_true] using ⟨h, h2⟩
theorem plB_tup0 {w n : Nat} {xs : List D} (h : plB w n (.tup xs) = true) : ∃ m, n = m + 1 := by
  cases n with
  | zero => simp [plB] at h
  | succ m => exact ⟨m, rfl⟩
/-! slices up to a place and from it on -/
theorem sIx_nat (n : Nat) (d : Nat) (k : Nat) (h : k ≤ n) : HT.sIx n d (some (k : Int)) = k := by
  rw [HT.sIx_nat]
  omega
theorem cutD_to {xs : List D} {k : Nat} (h : k ≤ xs.length) : cutD xs none (some (k : Int)) = xs.take k := by
  unfold cutD
  rw [sIx_nat _ _ _ h]
  simp [HT.sIx]
theorem cutD_from {xs : List D} {k : Nat} (h : k ≤ xs.length) : cutD xs (some (k : Int)) none = xs.drop k := by
  unfold cutD
  rw [sIx_nat _ _ _ h]
  simp only [HT.sIx]
  exact List.take_of_length_le (by simp)
theorem Sn.pl {s : Sn} (h : s.Ok) : plB 5 2 s.d = true := by
  have := h.rd.le
  refine plB_mk (by simp) fun x hx => ?_
  simp only [List.mem_cons, List.not_mem_nil, or_false] at hx
  rcases hx with rfl | rfl | rfl
  · rfl
  · rfl
  · refine plB_mk (by simp; omega) fun x hx => ?_
    simp only [List.mem_map] at hx
    obtain ⟨i, _, rfl⟩ := hx
    rfl
end DL
/-! plain values with no bools in them: equal as Python compares exactly if they are the same data -/
namespace DL
open PySem L2
def plN (w : Nat) : Nat → D → Bool
  | _, .non => true
  | _, .int _ => true
  | _, .str x => PyData.strOk x
  | 0, _ => false
  | n + 1, .tup xs => decide (xs.length ≤ w) && xs.all (plN w n)
  | n + 1, .lst xs => decide (xs.length ≤ w) && xs.all (plN w n)
  | _, _ => false
theorem plN_plB {w : Nat} : ∀ {n : Nat} {d : D}, plN w n d = true → plB w n d = true
  | n, .non, _ => by cases n <;> rfl
  | n, .int _, _ => by cases n <;> rfl
  | n, .str x, h => by cases n <;> simpa [plB, plN] using h
  | n, .bl _, h => by cases n <;> simp [plN] at h
  | 0, .tup _, h => by simp [plN] at h
  | 0, .lst _, h => by simp [plN] at h
  | n + 1, .tup xs, h => by
    simp only [plN, plB, Bool.and_eq_true, decide_eq_true_eq, List.all_eq_true] at h ⊢
    exact ⟨h.1, fun x hx => plN_plB (h.2 x hx)⟩
  | n + 1, .lst xs, h => by
    simp only [plN, plB, Bool.and_eq_true, decide_eq_true_eq, List.all_eq_true] at h ⊢
    exact ⟨h.1, fun x hx => plN_plB (h.2 x hx)⟩
  | n, .obj _, h => by cases n <;> simp [plN] at h
  | n, .ref _, h => by cases n <;> simp [plN] at h
  | n, .frz _, h => by cases n <;> simp [plN] at h
/-- as Python compares -/
def EqvN (n w : Nat) : Prop := ∀ (d : D), plN w n d = true → ∀ (m w' : Nat) (d' : D), plN w' m d' = true → ∀ p q, toPy d = some p → toPy d' = some q → (PyData.eqv p q = true ↔ d = d')
theorem eqvN_all {n w m w' : Nat} (ih : EqvN n w) : ∀ (xs ys : List D), (∀ x ∈ xs, plN w n x = true) → (∀ y ∈ ys, plN w' m y = true) → ∀ ps qs, toPys xs = some ps → toPys ys = some qs → (PyData.eqvAll ps qs = true ↔ xs = ys)
  | [], [], _, _, ps, qs, e1, e2 => by
    simp [toPys] at e1 e2; subst e1; subst e2; simp [PyData.eqvAll]
  | [], y :: ys, _, _, ps, qs, e1, e2 => by
    simp only [toPys] at e1 e2
    split at e2
    · cases e1; cases e2; simp [PyData.eqvAll]
    · cases e2
  | x :: xs, [], _, _, ps, qs, e1, e2 => by
    simp only [toPys] at e1 e2
    split at e1
    · cases e1; cases e2; simp [PyData.eqvAll]
    · cases e1
  | x :: xs, y :: ys, h1, h2, ps, qs, e1, e2 => by
    simp only [toPys] at e1 e2
    split at e1
    · next p ps1 a1 a2 =>
      split at e2
      · next q qs1 b1 b2 =>
        cases e1; cases e2
        have k1 := ih x (h1 x List.mem_cons_self) m w' y (h2 y List.mem_cons_self) p q a1 b1
        have k2 := eqvN_all ih xs ys (fun z hz => h1 z (List.mem_cons_of_mem _ hz)) (fun z hz => h2 z (List.mem_cons_of_mem _ hz)) ps1 qs1 a2 b2
        simp only [PyData.eqvAll, Bool.and_eq_true, k1, k2, List.cons.injEq]
      · cases e2
    · cases e1
theorem toPy_tup {xs : List D} {p : PyData} (h : toPy (.tup xs) = some p) : ∃ ps, toPys xs = some ps ∧ p = .tuple ps := by
  simp only [toPy] at h
  split at h
  · next ps hp => cases h; exact ⟨ps, hp, rfl⟩
  · cases h
theorem toPy_lst {xs : List D} {p : PyData} (h : toPy (.lst xs) = some p) : ∃ ps, toPys xs = some ps ∧ p = .list ps := by
  simp only [toPy] at h
  split at h
  · next ps hp => cases h; exact ⟨ps, hp, rfl⟩
  · cases h
theorem eqvN (w : Nat) : ∀ n, EqvN n w := by
  intro n
  induction n with
  | zero =>
    intro d hd m w' d' hd' p q e1 e2
    cases d with
    | non => cases d' with
      | tup ys => obtain ⟨_, _, rfl⟩ := toPy_tup e2; cases e1; simp [PyData.eqv]
      | lst ys => obtain ⟨_, _, rfl⟩ := toPy_lst e2; cases e1; simp [PyData.eqv]
      | bl _ => cases m <;> simp [plN] at hd'
      | _ => cases e1; cases e2 <;> simp [PyData.eqv]
    | int i => cases d' with
      | tup ys => obtain ⟨_, _, rfl⟩ := toPy_tup e2; cases e1; simp [PyData.eqv]
      | lst ys => obtain ⟨_, _, rfl⟩ := toPy_lst e2; cases e1; simp [PyData.eqv]
      | bl _ => cases m <;> simp [plN] at hd'
      | _ => cases e1; cases e2 <;> simp [PyData.eqv]
    | str x => cases d' with
      | tup ys => obtain ⟨_, _, rfl⟩ := toPy_tup e2; cases e1; simp [PyData.eqv]
      | lst ys => obtain ⟨_, _, rfl⟩ := toPy_lst e2; cases e1; simp [PyData.eqv]
      | bl _ => cases m <;> simp [plN] at hd'
      | _ => cases e1; cases e2 <;> simp [PyData.eqv]
    | _ => simp [plN] at hd
  | succ n ih =>
    intro d hd m w' d' hd' p q e1 e2
    cases d with
    | non => cases d' with
      | tup ys => obtain ⟨_, _, rfl⟩ := toPy_tup e2; cases e1; simp [PyData.eqv]
      | lst ys => obtain ⟨_, _, rfl⟩ := toPy_lst e2; cases e1; simp [PyData.eqv]
      | bl _ => cases m <;> simp [plN] at hd'
      | _ => cases e1; cases e2 <;> simp [PyData.eqv]
    | int i => cases d' with
      | tup ys => obtain ⟨_, _, rfl⟩ := toPy_tup e2; cases e1; simp [PyData.eqv]
      | lst ys => obtain ⟨_, _, rfl⟩ := toPy_lst e2; cases e1; simp [PyData.eqv]
      | bl _ => cases m <;> simp [plN] at hd'
      | _ => cases e1; cases e2 <;> simp [PyData.eqv]
    | str x => cases d' with
      | tup ys => obtain ⟨_, _, rfl⟩ := toPy_tup e2; cases e1; simp [PyData.eqv]
      | lst ys => obtain ⟨_, _, rfl⟩ := toPy_lst e2; cases e1; simp [PyData.eqv]
      | bl _ => cases m <;> simp [plN] at hd'
      | _ => cases e1; cases e2 <;> simp [PyData.eqv]
    | tup xs =>
      obtain ⟨ps, a1, rfl⟩ := toPy_tup e1
      cases d' with
      | tup ys =>
        obtain ⟨qs, a2, rfl⟩ := toPy_tup e2
        cases m with
        | zero => simp [plN] at hd'
        | succ m =>
          simp only [plN, Bool.and_eq_true, decide_eq_true_eq, List.all_eq_true] at hd hd'
          simp only [PyData.eqv, eqvN_all ih xs ys hd.2 hd'.2 ps qs a1 a2, D.tup.injEq]
      | lst ys => obtain ⟨_, _, rfl⟩ := toPy_lst e2; simp [PyData.eqv]
      | bl _ => cases m <;> simp [plN] at hd'
      | _ => cases e2 <;> simp [PyData.eqv]
    | lst xs =>
      obtain ⟨ps, a1, rfl⟩ := toPy_lst e1
      cases d' with
      | lst ys =>
        obtain ⟨qs, a2, rfl⟩ := toPy_lst e2
        cases m with
        | zero => simp [plN] at hd'
        | succ m =>
          simp only [plN, Bool.and_eq_true, decide_eq_true_eq, List.all_eq_true] at hd hd'
          simp only [PyData.eqv, eqvN_all ih xs ys hd.2 hd'.2 ps qs a1 a2, D.lst.injEq]
      | tup ys => obtain ⟨_, _, rfl⟩ := toPy_tup e2; simp [PyData.eqv]
      | bl _ => cases m <;> simp [plN] at hd'
      | _ => cases e2 <;> simp [PyData.eqv]
    | _ => simp [plN] at hd
theorem gEq_plN {w n w' m : Nat} {d d' : D} (h : plN w n d = true) (h' : plN w' m d' = true) (hn : n ≤ 64) (hm : m ≤ 64) (neg : Bool) (S : Sto) : ∃ b : Bool, gEqB neg d d' S = .ok (.bl (if neg then !b else b)) S ∧ (b = true ↔ d = d') := by
  obtain ⟨p, e1, e2⟩ := plB_shaped (plN_plB h) hn S
  obtain ⟨q, f1, f2⟩ := plB_shaped (plN_plB h') hm S
  refine ⟨PyData.eqv p q, by simp only [gEqB, e1, f1, e2, f2, and_self, if_true], ?_⟩
  have v1 : view S d = d := by cases d <;> first | rfl | (cases n <;> simp [plN] at h)
  have v2 : view S d' = d' := by cases d' <;> first | rfl | (cases m <;> simp [plN] at h')
  rw [v1] at e1
  rw [v2] at f1
  exact eqvN w n d h m w' d' h' p q e1 f1
/-- values of one kind, told by an injective function -/
theorem gEq_inj {α : Type} [DecidableEq α] {f : α → D} (hf : ∀ a b, f a = f b → a = b) {w n : Nat} {a b : α} (h : plN w n (f a) = true) (h' : plN w n (f b) = true) (hn : n ≤ 64) (neg : Bool) (S : Sto) : gEqB neg (f a) (f b) S = .ok (.bl (if neg then !decide (a = b) else decide (a = b))) S := by
  obtain ⟨c, e, i⟩ := gEq_plN h h' hn hn neg S
  have : c = decide (a = b) := by
    by_cases z : a = b
    · rw [decide_eq_true z]; exact i.mpr (by rw [z])
    · rw [decide_eq_false z]
      cases c with
      | false => rfl
      | true => exact absurd (hf a b (i.mp rfl)) z
  rw [e, this]
theorem plN_mono {w w' : Nat} (hw : w ≤ w') : ∀ {n m : Nat} {d : D}, n ≤ m → plN w n d = true → plN w' m d = true
  | n, m, .non, _, _ => by cases m <;> rfl
  | n, m, .bl _, _, h => by cases n <;> simp [plN] at h
  | n, m, .int _, _, _ => by cases m <;> rfl
  | n, m, .str x, _, h => by cases n <;> cases m <;> simpa [plN] using h
  | 0, _, .tup _, _, h => by simp [plN] at h
  | 0, _, .lst _, _, h => by simp [plN] at h
  | n + 1, m + 1, .tup xs, hl, h => by
    simp only [plN, Bool.and_eq_true, decide_eq_true_eq, List.all_eq_true] at h ⊢
    exact ⟨by omega, fun x hx => plN_mono hw (by omega) (h.2 x hx)⟩
  | n + 1, m + 1, .lst xs, hl, h => by
    simp only [plN, Bool.and_eq_true, decide_eq_true_eq, List.all_eq_true] at h ⊢
    exact ⟨by omega, fun x hx => plN_mono hw (by omega) (h.2 x hx)⟩
  | n, _, .obj _, _, h => by cases n <;> simp [plN] at h
  | n, _, .ref _, _, h => by cases n <;> simp [plN] at h
  | n, _, .frz _, _, h => by cases n <;> simp [plN] at h
theorem plN_tup {w n : Nat} {xs : List D} (h : xs.length ≤ w) (h2 : ∀ x ∈ xs, plN w n x = true) : plN w (n + 1) (.tup xs) = true := by
  simpa only [plN, Bool.and_eq_true, decide_eq_true_eq, List.all_eq_true] using ⟨h, h2⟩
theorem plN_lst {w n : Nat} {xs : List D} (h : xs.length ≤ w) (h2 : ∀ x ∈ xs, plN w n x = true) : plN w (n + 1) (.lst xs) = true := by
  simpa only [plN, Bool.and_eq_true, decide_eq_true_eq, List.all_eq_true] using ⟨h, h2⟩
theorem plN_int (w n : Nat) (i : Int) : plN w n (.int i) = true := by cases n <;> rfl
theorem plN_non (w n : Nat) : plN w n .non = true := by cases n <;> rfl
theorem plN_ints {w n : Nat} {l : List Int} (h : l.length ≤ w) : plN w (n + 1) (.tup (l.map D.int)) = true := plN_tup (by simpa using h) (fun x hx => by
  simp only [List.mem_map] at hx
  obtain ⟨i, _, rfl⟩ := hx
  exact plN_int _ _ _)
theorem plN_intsL {w n : Nat} {l : List Int} (h : l.length ≤ w) : plN w (n + 1) (.lst (l.map D.int)) = true := plN_lst (by simpa using h) (fun x hx => by
  simp only [List.mem_map] at hx
  obtain ⟨i, _, rfl⟩ := hx
  exact plN_int _ _ _)
theorem map_int_inj {a b : List Int} (h : a.map D.int = b.map D.int) : a = b := by
  have : ∀ (a b : List Int), a.map D.int = b.map D.int → a = b := by
    intro a
    induction a with
    | nil => intro b h; cases b with
      | nil => rfl
      | cons _ _ => simp at h
    | cons x a ih => intro b h; cases b with
      | nil => simp at h
      | cons y b => simp at h; rw [h.1, ih b h.2]
  exact this a b h
end DL
/-! many draws, and the loop over the cells -/
namespace DL
open PySem L2
/-- a comprehension each item of which draws -/
theorem lcL_draw {n : Nat} {c : Ct} {e : Ee} {ρ : Rho} {Pd : D → Prop} (h : ∀ x S, SrcAt n S → ∃ ρ1 y S', c.put x ρ = some ρ1 ∧ e ρ1 S = .ok y S' ∧ Pd y ∧ Upd n S S') : ∀ (xs : List D) (S : Sto), SrcAt n S → ∃ ys S', lcL c tYesD e ρ xs S = .ok ys S' ∧ ys.length = xs.length ∧ (∀ y ∈ ys, Pd y) ∧ Upd n S S'
  | [], S, hs => ⟨[], S, rfl, rfl, by simp, Upd.refl hs⟩
  | x :: xs, S, hs => by
    obtain ⟨ρ1, y, S1, h1, h2, h3, u1⟩ := h x S hs
    obtain ⟨ys, S2, h4, h5, h6, u2⟩ := lcL_draw h xs S1 u1.src
    refine ⟨y :: ys, S2, by simp [lcL, h1, h2, h4], by simp [h5], ?_, u1.trans u2⟩
    intro z hz
    rcases List.mem_cons.mp hz with rfl | hz
    · exact h3
    · exact h6 z hz
/-- snails out of their values -/
theorem sns_of : ∀ (ys : List D), (∀ y ∈ ys, ∃ s : Sn, y = s.d ∧ s.Ok) → ∃ ss : List Sn, ys = ss.map Sn.d ∧ ∀ s ∈ ss, s.Ok
  | [], _ => ⟨[], rfl, by simp⟩
  | y :: ys, h => by
    obtain ⟨s, e, hs⟩ := h y List.mem_cons_self
    obtain ⟨ss, e2, hss⟩ := sns_of ys fun z hz => h z (List.mem_cons_of_mem _ hz)
    refine ⟨s :: ss, by simp [e, e2], ?_⟩
    intro t ht
    rcases List.mem_cons.mp ht with rfl | ht
    · exact hs
    · exact hss t ht
/-- [_law_snail(source) for .. in range(..)] -/
theorem snails_spec {n i w : Nat} {f : Es} {ρ : Rho} {S S1 : Sto} {lo : Int} {m : Nat} (hs : SrcAt n S1) (hf : f ρ S = .ok (.rng lo m) S1) (hm : m ≤ 1000)
    (hv : ∀ d, ((wipeR ρ [w]).set w (some d))[i]? = some (some (.obj n))) :
    ∃ (ss : List Sn) (S' : Sto), eLc f (.nm w) tYesD (eCall F__law_snail [eVar i]) [w] ρ S = .ok (.lst (ss.map Sn.d)) S' ∧ ss.length = m ∧ (∀ s ∈ ss, s.Ok) ∧ Upd n S1 S' := by
  obtain ⟨ys, S', h1, h2, h3, u⟩ := lcL_draw (n := n) (c := .nm w) (e := eCall F__law_snail [eVar i]) (ρ := wipeR ρ [w]) (Pd := fun y => ∃ s : Sn, y = s.d ∧ s.Ok) (fun x S hS => by
    obtain ⟨s, S', e, hs, u⟩ := snail_spec hS
    have hi : eVar i ((wipeR ρ [w]).set w (some x)) S = .ok (.obj n) S := by simp [eVar, hv x]
    exact ⟨_, s.d, S', rfl, by simp [hi, e], ⟨s, rfl, hs⟩, u⟩) (rgN lo m) S1 hs
  obtain ⟨ss, rfl, hss⟩ := sns_of ys h3
  refine ⟨ss, S', ?_, by simpa [rgN_len] using h2, hss, u⟩
  rw [eLc_rng hf (by omega), h1]
  rfl
theorem Upd.at {n m : Nat} {S S' : Sto} (u : Upd n S S') (h : m ≠ n) : S'[m]? = S[m]? := u.oth m h
/-- the source just made -/
theorem src_new {S : Sto} {a b : Int} (h0 : 0 ≤ b) (h1 : b < 2147483648) : SrcAt S.length (S ++ [.lst [.int a, .int b]]) := ⟨a, b, by simp, h0, h1⟩
/-- for k in range(1 + min(len(script), c)) -/
theorem cells {ns : List Int} {c : Nat} (hc : c ≤ 60) : ∃ m : Nat, m ≤ 1 + c ∧ (1 + if (c : Int) < (ns.length : Int) then (c : Int) else (ns.length : Int)) = (m : Int) ∧ smallI (m : Int) = true := by
  by_cases h : (c : Int) < (ns.length : Int)
  · exact ⟨1 + c, by omega, by rw [if_pos h]; omega, smallI_mk (by omega) (by omega)⟩
  · exact ⟨1 + ns.length, by omega, by rw [if_neg h]; omega, smallI_mk (by omega) (by omega)⟩
/-- what a law gives back -/
theorem popR_top (b : Bool) (S : Sto) : ∃ S', popR 0 (.ok (.bl b) S) = .ok (.bl b) S' := by
  by_cases h : S.length ≤ 0
  · exact ⟨S, popR_le h⟩
  · refine ⟨[], ?_⟩
    simp only [popR, if_neg h]
    rfl
end DL
namespace DL
open PySem PySem.Spec PyProof.Rows L2
/-! ### the text -/
def topS (i : Nat) : Stmt := PySem.Challenge.pw_wellsnails_k22_examples_of_the_document.main.body.getD i (.Pass ⟨0, 0, 0, 0⟩)
abbrev s_Well_minute : Stmt := clsS (topS 46) 3
abbrev N_Well_minute : List Str := ["self"]
abbrev s_Well_keep : Stmt := clsS (topS 46) 6
abbrev N_Well_keep : List Str := ["self", "now"]
abbrev s_Well_undo : Stmt := clsS (topS 46) 10
abbrev N_Well_undo : List Str := ["self"]
abbrev s_Well___len__ : Stmt := clsS (topS 46) 15
abbrev N_Well___len__ : List Str := ["self"]
abbrev s_Snail_source : Stmt := clsS (topS 116) 3
abbrev N_Snail_source : List Str := ["self"]
abbrev s_Snail_base_of : Stmt := clsS (topS 116) 5
abbrev N_Snail_base_of : List Str := ["self", "other"]
abbrev s_Snail___len__ : Stmt := clsS (topS 116) 16
abbrev N_Snail___len__ : List Str := ["self"]
abbrev s_Snail___eq__ : Stmt := clsS (topS 116) 19
abbrev N_Snail___eq__ : List Str := ["self", "other"]
abbrev s_is_number : Stmt := topS 15
abbrev N_is_number : List Str := ["value", "least", "most"]
abbrev s_is_tuple : Stmt := topS 16
abbrev N_is_tuple : List Str := ["value", "least", "most"]
abbrev s_stepped : Stmt := topS 24
abbrev N_stepped : List Str := ["height", "step"]
abbrev s_lowest_sum : Stmt := topS 26
abbrev N_lowest_sum : List Str := ["steps", "here", "found", "step"]
abbrev s_least_turn : Stmt := topS 36
abbrev N_least_turn : List Str := ["items", "rise", "many", "part", "more", "late", "item"]
abbrev s_minute_in : Stmt := topS 38
abbrev N_minute_in : List Str := ["told", "depth", "early", "again", "rise", "place", "item"]
abbrev s_divisor : Stmt := topS 48
abbrev N_divisor : List Str := ["one", "other"]
abbrev s_rise_in : Stmt := topS 50
abbrev N_rise_in : List Str := ["told", "turn"]
abbrev s_is_endless : Stmt := topS 51
abbrev N_is_endless : List Str := ["told"]
abbrev s_shortened : Stmt := topS 54
abbrev N_shortened : List Str := ["early", "again", "many", "part", "same", "place", "size"]
abbrev s_first_of : Stmt := topS 55
abbrev N_first_of : List Str := ["minutes", "some", "minute", "index"]
abbrev s_is_later : Stmt := topS 64
abbrev N_is_later : List Str := ["minute", "other"]
abbrev s_word_of : Stmt := topS 72
abbrev N_word_of : List Str := ["far"]
abbrev s_with_round : Stmt := topS 84
abbrev N_with_round : List Str := ["snail", "steps"]
abbrev s_without : Stmt := topS 85
abbrev N_without : List Str := ["steps", "index"]
abbrev s_exchanged : Stmt := topS 86
abbrev N_exchanged : List Str := ["steps", "index"]
abbrev s_started : Stmt := topS 92
abbrev N_started : List Str := ["snail", "start"]
abbrev s_both : Stmt := topS 100
abbrev N_both : List Str := ["one", "other", "least", "greatest"]
abbrev s_words_of : Stmt := topS 105
abbrev N_words_of : List Str := ["snail", "start", "height", "steps", "step"]
abbrev s_number_in : Stmt := topS 108
abbrev N_number_in : List Str := ["word", "sign"]
abbrev s__law_source : Stmt := topS 118
abbrev N__law_source : List Str := ["script", "k", "cell"]
abbrev s__law_draw : Stmt := topS 119
abbrev N__law_draw : List Str := ["source", "many", "found"]
abbrev s__law_snails : Stmt := topS 120
abbrev N__law_snails : List Str := []
abbrev s_Snail___contains__ : Stmt := clsS (topS 116) 15
abbrev N_Snail___contains__ : List Str := ["self", "value"]
abbrev s_Snail___str__ : Stmt := clsS (topS 116) 20
abbrev N_Snail___str__ : List Str := ["self"]
abbrev s_is_round : Stmt := topS 17
abbrev N_is_round : List Str := ["value", "step"]
abbrev s_need_number : Stmt := topS 22
abbrev N_need_number : List Str := ["value", "least"]
abbrev s_need_index : Stmt := topS 23
abbrev N_need_index : List Str := ["some", "value"]
abbrev s_behind : Stmt := topS 25
abbrev N_behind : List Str := ["height", "steps", "step"]
abbrev s_records_of : Stmt := topS 35
abbrev N_records_of : List Str := ["snail", "rounds", "start", "height", "steps", "found", "minute", "turn", "step"]
abbrev s_common_turn : Stmt := topS 49
abbrev N_common_turn : List Str := ["calendars", "found", "early", "again", "rise"]
abbrev s_blocks_until : Stmt := topS 52
abbrev N_blocks_until : List Str := ["one", "other", "first", "turn", "more", "found", "depth", "far"]
abbrev s_first_at : Stmt := topS 56
abbrev N_first_at : List Str := ["calendars", "depth", "told"]
abbrev s_is_fact : Stmt := topS 97
abbrev N_is_fact : List Str := ["snails", "value"]
abbrev s_depths_at : Stmt := topS 99
abbrev N_depths_at : List Str := ["told", "minute", "early", "again", "rise", "turns", "first", "depths", "found", "depth"]
abbrev s_line_of : Stmt := topS 106
abbrev N_line_of : List Str := ["snail"]
abbrev s_Well___init__ : Stmt := clsS (topS 46) 1
abbrev N_Well___init__ : List Str := ["self", "depth"]
abbrev s_Snail___getitem__ : Stmt := clsS (topS 116) 14
abbrev N_Snail___getitem__ : List Str := ["self", "index"]
abbrev s_is_good_snail : Stmt := topS 18
abbrev N_is_good_snail : List Str := ["value"]
abbrev s_is_settled : Stmt := topS 27
abbrev N_is_settled : List Str := ["height", "steps", "gain"]
abbrev s_gain_of : Stmt := topS 29
abbrev N_gain_of : List Str := ["height", "steps"]
abbrev s_is_row : Stmt := topS 45
abbrev N_is_row : List Str := ["value"]
abbrev s_settled_from : Stmt := topS 53
abbrev N_settled_from : List Str := ["calendars", "turn", "first", "some", "blocks", "told", "one", "other", "many"]
abbrev s_need_seen : Stmt := topS 98
abbrev N_need_seen : List Str := ["snails", "value", "fact"]
abbrev s_lines_of : Stmt := topS 107
abbrev N_lines_of : List Str := ["snails", "snail"]
abbrev s_fewer : Stmt := topS 115
abbrev N_fewer : List Str := ["steps", "index"]
abbrev s_Well_drop : Stmt := clsS (topS 46) 7
abbrev N_Well_drop : List Str := ["self", "height", "round_so", "minute", "snails"]
abbrev s_are_good_snails : Stmt := topS 19
abbrev N_are_good_snails : List Str := ["value", "snail"]
abbrev s_need_snail : Stmt := topS 20
abbrev N_need_snail : List Str := ["value"]
abbrev s_settled : Stmt := topS 28
abbrev N_settled : List Str := ["height", "steps", "found"]
abbrev s_is_snail : Stmt := topS 31
abbrev N_is_snail : List Str := ["value"]
abbrev s_winners_by : Stmt := topS 57
abbrev N_winners_by : List Str := ["calendars", "start", "turn", "early", "depth"]
abbrev s_later_depth : Stmt := topS 65
abbrev N_later_depth : List Str := ["one", "other", "start", "turn", "depth"]
abbrev s_leads_by : Stmt := topS 66
abbrev N_leads_by : List Str := ["one", "other", "start", "turn", "found", "depth", "mine", "yours", "low", "high", "more", "far"]
abbrev s_parting_depth : Stmt := topS 83
abbrev N_parting_depth : List Str := ["one", "other", "start", "turn", "depth"]
abbrev s_snail_in : Stmt := topS 109
abbrev N_snail_in : List Str := ["line", "words", "found", "word"]
abbrev s_Snail___init__ : Stmt := clsS (topS 116) 1
abbrev N_Snail___init__ : List Str := ["self", "start", "height", "steps"]
abbrev s_need_snails : Stmt := topS 21
abbrev N_need_snails : List Str := ["value"]
abbrev s_height_of : Stmt := topS 30
abbrev N_height_of : List Str := ["snail", "minute", "start", "height", "steps", "rounds", "rest", "heights", "base"]
abbrev s_are_snails : Stmt := topS 32
abbrev N_are_snails : List Str := ["value"]
abbrev s_calendar_of : Stmt := topS 37
abbrev N_calendar_of : List Str := ["snail", "start", "height", "steps", "heights", "gain", "rounds", "early", "late", "again", "rise", "part"]
abbrev s_need_two : Stmt := topS 67
abbrev N_need_two : List Str := ["one", "other"]
abbrev s_settled_minute : Stmt := topS 73
abbrev N_settled_minute : List Str := ["snail", "start", "height", "steps"]
abbrev s_gain_in : Stmt := topS 74
abbrev N_gain_in : List Str := ["snail", "minutes", "start", "height", "steps"]
abbrev s_top_of : Stmt := topS 77
abbrev N_top_of : List Str := ["snail", "start", "height", "steps", "heights", "best", "turn", "step"]
abbrev s_with_start : Stmt := topS 94
abbrev N_with_start : List Str := ["snail", "start"]
abbrev s_snails_in : Stmt := topS 110
abbrev N_snails_in : List Str := ["value", "found", "line"]
abbrev s_good_snail : Stmt := topS 114
abbrev N_good_snail : List Str := ["value"]
abbrev s_Well_height_now : Stmt := clsS (topS 46) 12
abbrev N_Well_height_now : List Str := ["self", "index", "begun", "height", "steps"]
abbrev s_Snail___call__ : Stmt := clsS (topS 116) 13
abbrev N_Snail___call__ : List Str := ["self", "depth"]
abbrev s_Snail___bool__ : Stmt := clsS (topS 116) 17
abbrev N_Snail___bool__ : List Str := ["self"]
abbrev s_Snail_beats : Stmt := clsS (topS 116) 22
abbrev N_Snail_beats : List Str := ["self", "other", "more"]
abbrev s_height_at : Stmt := topS 33
abbrev N_height_at : List Str := ["snail", "minute"]
abbrev s_out_at : Stmt := topS 39
abbrev N_out_at : List Str := ["snail", "depth"]
abbrev s_calendar : Stmt := topS 40
abbrev N_calendar : List Str := ["snail"]
abbrev s_out_in : Stmt := topS 43
abbrev N_out_in : List Str := ["depth", "put", "minute", "found", "late"]
abbrev s_all_calendars : Stmt := topS 58
abbrev N_all_calendars : List Str := ["snails", "snail"]
abbrev s_leads : Stmt := topS 68
abbrev N_leads : List Str := ["one", "other"]
abbrev s_never_later : Stmt := topS 69
abbrev N_never_later : List Str := ["one", "other"]
abbrev s_first_later : Stmt := topS 70
abbrev N_first_later : List Str := ["one", "other"]
abbrev s_far_at : Stmt := topS 75
abbrev N_far_at : List Str := ["one", "other", "minute"]
abbrev s_highest : Stmt := topS 80
abbrev N_highest : List Str := ["snail"]
abbrev s_are_alike : Stmt := topS 82
abbrev N_are_alike : List Str := ["one", "other"]
abbrev s_parting : Stmt := topS 88
abbrev N_parting : List Str := ["one", "other"]
abbrev s_latest_start : Stmt := topS 93
abbrev N_latest_start : List Str := ["one", "other", "late", "some", "start"]
abbrev s_depths_told : Stmt := topS 101
abbrev N_depths_told : List Str := ["snails", "seen", "found", "index", "minute"]
abbrev s_is_seen : Stmt := topS 102
abbrev N_is_seen : List Str := ["snails", "depth", "seen", "index", "minute"]
abbrev s_snails_text : Stmt := topS 111
abbrev N_snails_text : List Str := ["snails"]
abbrev s_read_snails : Stmt := topS 112
abbrev N_read_snails : List Str := ["value"]
abbrev s_Snail_read : Stmt := clsS (topS 116) 2
abbrev N_Snail_read : List Str := ["cls", "value", "found", "start", "height", "steps"]
abbrev s_Snail_made : Stmt := clsS (topS 116) 4
abbrev N_Snail_made : List Str := ["self", "snail", "start", "height", "steps"]
abbrev s_Snail_like : Stmt := clsS (topS 116) 21
abbrev N_Snail_like : List Str := ["self", "other"]
abbrev s_all_out : Stmt := topS 44
abbrev N_all_out : List Str := ["depth", "snails", "minute", "minutes", "put", "index", "late"]
abbrev s_winners : Stmt := topS 59
abbrev N_winners : List Str := ["snails", "depth"]
abbrev s_winner_calendar : Stmt := topS 60
abbrev N_winner_calendar : List Str := ["snails"]
abbrev s_how : Stmt := topS 61
abbrev N_how : List Str := ["snails", "index", "early", "again", "truths", "some"]
abbrev s_first_depth : Stmt := topS 62
abbrev N_first_depth : List Str := ["snails", "index", "early", "again", "found", "depth", "some"]
abbrev s_words_by : Stmt := topS 76
abbrev N_words_by : List Str := ["one", "other", "many", "late", "turn", "start", "more", "fars", "early", "minute", "far"]
abbrev s_alike : Stmt := topS 87
abbrev N_alike : List Str := ["one", "other"]
abbrev s_idle_steps : Stmt := topS 89
abbrev N_idle_steps : List Str := ["snail", "steps", "places", "index"]
abbrev s_exchangeable : Stmt := topS 90
abbrev N_exchangeable : List Str := ["snail", "steps", "places", "index"]
abbrev s__law_third_right : Stmt := topS 123
abbrev N__law_third_right : List Str := ["one", "two", "low", "quick", "late", "found"]
abbrev s_Well_out : Stmt := clsS (topS 46) 4
abbrev N_Well_out : List Str := ["self"]
abbrev s_order_calendar : Stmt := topS 78
abbrev N_order_calendar : List Str := ["one", "other"]
abbrev s_first_over : Stmt := topS 79
abbrev N_first_over : List Str := ["one", "other", "early", "again", "words"]
abbrev s__law_first_right : Stmt := topS 121
abbrev N__law_first_right : List Str := ["one", "two", "low", "quick", "late", "found", "minute"]
abbrev s_Snail___add__ : Stmt := clsS (topS 116) 6
abbrev N_Snail___add__ : List Str := ["self", "step"]
abbrev s_Snail___sub__ : Stmt := clsS (topS 116) 8
abbrev N_Snail___sub__ : List Str := ["self", "index"]
abbrev s_Snail___rshift__ : Stmt := clsS (topS 116) 10
abbrev N_Snail___rshift__ : List Str := ["self", "minutes"]
abbrev s_Snail___xor__ : Stmt := clsS (topS 116) 11
abbrev N_Snail___xor__ : List Str := ["self", "height"]
abbrev s_Snail___invert__ : Stmt := clsS (topS 116) 12
abbrev N_Snail___invert__ : List Str := ["self"]
abbrev s__law_second_right : Stmt := topS 122
abbrev N__law_second_right : List Str := ["one", "two", "low", "quick", "late", "found"]
abbrev s_Well_inside : Stmt := clsS (topS 46) 5
abbrev N_Well_inside : List Str := ["self", "away", "minute", "index"]
abbrev s_Well_wait : Stmt := clsS (topS 46) 8
abbrev N_Well_wait : List Str := ["self", "minutes", "minute", "snails", "pair"]
abbrev s_Well_log : Stmt := clsS (topS 46) 19
abbrev N_Well_log : List Str := ["self", "minute", "index"]
abbrev s_Well___getitem__ : Stmt := clsS (topS 46) 13
abbrev N_Well___getitem__ : List Str := ["self", "index"]
abbrev s_Well___contains__ : Stmt := clsS (topS 46) 14
abbrev N_Well___contains__ : List Str := ["self", "value", "index"]
abbrev s_Well___bool__ : Stmt := clsS (topS 46) 16
abbrev N_Well___bool__ : List Str := ["self"]
abbrev s__law_fourth_right : Stmt := topS 124
abbrev N__law_fourth_right : List Str := ["value", "low", "found", "well"]
abbrev s_law : Stmt := topS 125
abbrev N_law : List Str := ["script", "k", "source"]
structure C_Snail (K : PySem.W.Frag) (mg : Str → Option Value) (cS : Addr) : Prop where
  n_Snail : mg "Snail" = some (.ref cS)
  x_Snail : Cls K cS
  a_Snail_base : NoAttr K cS "base"
  t_Snail_Add_int : OpT K cS .Add "int"
  t_Snail_BitXor_int : OpT K cS .BitXor "int"
  t_Snail_RShift_int : OpT K cS .RShift "int"
  t_Snail_Sub_int : OpT K cS .Sub "int"
  i_Snail : IsC K cS
  f_Snail_source : ∃ p f, PropOf K cS "source" p f ∧ ∃ fd, Fun K "source" "Snail.source" s_Snail_source f fd ∧ Binds K fd ["self"] []
  f_Snail_base_of : ∃ f, Meth K cS "base_of" f ∧ ∃ fd, Fun K "base_of" "Snail.base_of" s_Snail_base_of f fd ∧ Binds K fd ["self", "other"] []
  f_Snail___len__ : ∃ f, SpF K cS f "__len__" ∧ ∃ fd, Fun K "__len__" "Snail.__len__" s_Snail___len__ f fd ∧ Binds K fd ["self"] []
  f_Snail___eq__ : ∃ f, SpF K cS f "__eq__" ∧ ∃ fd, Fun K "__eq__" "Snail.__eq__" s_Snail___eq__ f fd ∧ Binds K fd ["self", "other"] []
  f_Snail___contains__ : ∃ f, SpF K cS f "__contains__" ∧ ∃ fd, Fun K "__contains__" "Snail.__contains__" s_Snail___contains__ f fd ∧ Binds K fd ["self", "value"] []
  f_Snail___str__ : ∃ f, PySem.W.findIn K (.ref cS) "__str__" = some (some (.ref f)) ∧ PySem.W.isFn K (.ref f) = true ∧ ∃ fd, Fun K "__str__" "Snail.__str__" s_Snail___str__ f fd ∧ Binds K fd ["self"] []
  f_Snail___getitem__ : ∃ f, SpF K cS f "__getitem__" ∧ ∃ fd, Fun K "__getitem__" "Snail.__getitem__" s_Snail___getitem__ f fd ∧ Binds K fd ["self", "index"] []
  f_Snail___init__ : ∃ f, Mk K cS f ∧ ∃ fd, Fun K "__init__" "Snail.__init__" s_Snail___init__ f fd
  f_Snail___call__ : ∃ f, SpF K cS f "__call__" ∧ ∃ fd, Fun K "__call__" "Snail.__call__" s_Snail___call__ f fd ∧ Binds K fd ["self", "depth"] []
  f_Snail___bool__ : ∃ f, SpF K cS f "__bool__" ∧ ∃ fd, Fun K "__bool__" "Snail.__bool__" s_Snail___bool__ f fd ∧ Binds K fd ["self"] []
  f_Snail_beats : ∃ f, Meth K cS "beats" f ∧ ∃ fd, Fun K "beats" "Snail.beats" s_Snail_beats f fd ∧ Binds K fd ["self", "other"] []
  f_Snail_read : ∃ mc pr f, ClX.CRead K cS mc ∧ ClX.CMet K cS mc "read" pr f ∧ ∃ fd, Fun K "read" "Snail.read" s_Snail_read f fd ∧ Binds K fd ["cls", "value"] []
  f_Snail_made : ∃ f, Meth K cS "made" f ∧ ∃ fd, Fun K "made" "Snail.made" s_Snail_made f fd ∧ Binds K fd ["self", "snail"] []
  f_Snail_like : ∃ f, Meth K cS "like" f ∧ ∃ fd, Fun K "like" "Snail.like" s_Snail_like f fd ∧ Binds K fd ["self", "other"] []
  f_Snail___add__ : ∃ f, OpF K cS f .Add ∧ ∃ fd, Fun K "__add__" "Snail.__add__" s_Snail___add__ f fd ∧ Binds K fd ["self", "step"] []
  f_Snail___sub__ : ∃ f, OpF K cS f .Sub ∧ ∃ fd, Fun K "__sub__" "Snail.__sub__" s_Snail___sub__ f fd ∧ Binds K fd ["self", "index"] []
  f_Snail___rshift__ : ∃ f, OpF K cS f .RShift ∧ ∃ fd, Fun K "__rshift__" "Snail.__rshift__" s_Snail___rshift__ f fd ∧ Binds K fd ["self", "minutes"] []
  f_Snail___xor__ : ∃ f, OpF K cS f .BitXor ∧ ∃ fd, Fun K "__xor__" "Snail.__xor__" s_Snail___xor__ f fd ∧ Binds K fd ["self", "height"] []
  f_Snail___invert__ : ∃ f, SpF K cS f "__invert__" ∧ ∃ fd, Fun K "__invert__" "Snail.__invert__" s_Snail___invert__ f fd ∧ Binds K fd ["self"] []
structure C_Well (K : PySem.W.Frag) (mg : Str → Option Value) (cW : Addr) : Prop where
  n_Well : mg "Well" = some (.ref cW)
  x_Well : Cls K cW
  a_Well_deep : NoAttr K cW "deep"
  a_Well_now : NoAttr K cW "now"
  a_Well_past : NoAttr K cW "past"
  f_Well_minute : ∃ p f, PropOf K cW "minute" p f ∧ ∃ fd, Fun K "minute" "Well.minute" s_Well_minute f fd ∧ Binds K fd ["self"] []
  f_Well_keep : ∃ f, Meth K cW "keep" f ∧ ∃ fd, Fun K "keep" "Well.keep" s_Well_keep f fd ∧ Binds K fd ["self", "now"] []
  f_Well_undo : ∃ f, Meth K cW "undo" f ∧ ∃ fd, Fun K "undo" "Well.undo" s_Well_undo f fd ∧ Binds K fd ["self"] []
  f_Well___len__ : ∃ f, SpF K cW f "__len__" ∧ ∃ fd, Fun K "__len__" "Well.__len__" s_Well___len__ f fd ∧ Binds K fd ["self"] []
  f_Well___init__ : ∃ f, Mk K cW f ∧ ∃ fd, Fun K "__init__" "Well.__init__" s_Well___init__ f fd ∧ Binds K fd ["self", "depth"] []
  f_Well_drop : ∃ f, Meth K cW "drop" f ∧ ∃ fd, Fun K "drop" "Well.drop" s_Well_drop f fd ∧ Binds K fd ["self", "height", "round_so"] []
  f_Well_height_now : ∃ f, Meth K cW "height_now" f ∧ ∃ fd, Fun K "height_now" "Well.height_now" s_Well_height_now f fd ∧ Binds K fd ["self", "index"] []
  f_Well_out : ∃ p f, PropOf K cW "out" p f ∧ ∃ fd, Fun K "out" "Well.out" s_Well_out f fd ∧ Binds K fd ["self"] []
  f_Well_inside : ∃ p f, PropOf K cW "inside" p f ∧ ∃ fd, Fun K "inside" "Well.inside" s_Well_inside f fd ∧ Binds K fd ["self"] []
  f_Well_wait : ∃ f, Meth K cW "wait" f ∧ ∃ fd, Fun K "wait" "Well.wait" s_Well_wait f fd ∧ Binds K fd ["self", "minutes"] []
  f_Well_log : ∃ f, Meth K cW "log" f ∧ ∃ fd, Fun K "log" "Well.log" s_Well_log f fd ∧ Binds K fd ["self"] []
  f_Well___getitem__ : ∃ f, SpF K cW f "__getitem__" ∧ ∃ fd, Fun K "__getitem__" "Well.__getitem__" s_Well___getitem__ f fd ∧ Binds K fd ["self", "index"] []
  f_Well___contains__ : ∃ f, SpF K cW f "__contains__" ∧ ∃ fd, Fun K "__contains__" "Well.__contains__" s_Well___contains__ f fd ∧ Binds K fd ["self", "value"] []
  f_Well___bool__ : ∃ f, SpF K cW f "__bool__" ∧ ∃ fd, Fun K "__bool__" "Well.__bool__" s_Well___bool__ f fd ∧ Binds K fd ["self"] []
structure Top (K : PySem.W.Frag) (mg : Str → Option Value) (cS : Addr) (cW : Addr) : Prop where
  m_MOST : ∃ t, mg "MOST" = some (.int (1000000000000000000000000000000) t)
  m_LIMIT : ∃ t, mg "LIMIT" = some (.int (60) t)
  m_FAR : ∃ t, mg "FAR" = some (.int (100000000000000000000000000000000) t)
  m_STEPS : ∃ a, mg "STEPS" = some (.ref a) ∧ KTup K a (([Str.ofString "-3", Str.ofString "-2", Str.ofString "-1", Str.ofString "0", Str.ofString "1", Str.ofString "2", Str.ofString "3"] : List Str).map V.str)
  n_Snail : mg "Snail" = some (.ref cS)
  x_Snail : Cls K cS
  a_Snail_base : NoAttr K cS "base"
  t_Snail_Add_int : OpT K cS .Add "int"
  t_Snail_BitXor_int : OpT K cS .BitXor "int"
  t_Snail_RShift_int : OpT K cS .RShift "int"
  t_Snail_Sub_int : OpT K cS .Sub "int"
  i_Snail : IsC K cS
  n_Well : mg "Well" = some (.ref cW)
  x_Well : Cls K cW
  a_Well_deep : NoAttr K cW "deep"
  a_Well_now : NoAttr K cW "now"
  a_Well_past : NoAttr K cW "past"
  f_Well_minute : ∃ p f, PropOf K cW "minute" p f ∧ ∃ fd, Fun K "minute" "Well.minute" s_Well_minute f fd ∧ Binds K fd ["self"] []
  f_Well_keep : ∃ f, Meth K cW "keep" f ∧ ∃ fd, Fun K "keep" "Well.keep" s_Well_keep f fd ∧ Binds K fd ["self", "now"] []
  f_Well_undo : ∃ f, Meth K cW "undo" f ∧ ∃ fd, Fun K "undo" "Well.undo" s_Well_undo f fd ∧ Binds K fd ["self"] []
  f_Well___len__ : ∃ f, SpF K cW f "__len__" ∧ ∃ fd, Fun K "__len__" "Well.__len__" s_Well___len__ f fd ∧ Binds K fd ["self"] []
  f_Snail_source : ∃ p f, PropOf K cS "source" p f ∧ ∃ fd, Fun K "source" "Snail.source" s_Snail_source f fd ∧ Binds K fd ["self"] []
  f_Snail_base_of : ∃ f, Meth K cS "base_of" f ∧ ∃ fd, Fun K "base_of" "Snail.base_of" s_Snail_base_of f fd ∧ Binds K fd ["self", "other"] []
  f_Snail___len__ : ∃ f, SpF K cS f "__len__" ∧ ∃ fd, Fun K "__len__" "Snail.__len__" s_Snail___len__ f fd ∧ Binds K fd ["self"] []
  f_Snail___eq__ : ∃ f, SpF K cS f "__eq__" ∧ ∃ fd, Fun K "__eq__" "Snail.__eq__" s_Snail___eq__ f fd ∧ Binds K fd ["self", "other"] []
  f_Snail___contains__ : ∃ f, SpF K cS f "__contains__" ∧ ∃ fd, Fun K "__contains__" "Snail.__contains__" s_Snail___contains__ f fd ∧ Binds K fd ["self", "value"] []
  f_Snail___str__ : ∃ f, PySem.W.findIn K (.ref cS) "__str__" = some (some (.ref f)) ∧ PySem.W.isFn K (.ref f) = true ∧ ∃ fd, Fun K "__str__" "Snail.__str__" s_Snail___str__ f fd ∧ Binds K fd ["self"] []
  f_Well___init__ : ∃ f, Mk K cW f ∧ ∃ fd, Fun K "__init__" "Well.__init__" s_Well___init__ f fd ∧ Binds K fd ["self", "depth"] []
  f_Snail___getitem__ : ∃ f, SpF K cS f "__getitem__" ∧ ∃ fd, Fun K "__getitem__" "Snail.__getitem__" s_Snail___getitem__ f fd ∧ Binds K fd ["self", "index"] []
  f_Well_drop : ∃ f, Meth K cW "drop" f ∧ ∃ fd, Fun K "drop" "Well.drop" s_Well_drop f fd ∧ Binds K fd ["self", "height", "round_so"] []
  f_Snail___init__ : ∃ f, Mk K cS f ∧ ∃ fd, Fun K "__init__" "Snail.__init__" s_Snail___init__ f fd
  f_Well_height_now : ∃ f, Meth K cW "height_now" f ∧ ∃ fd, Fun K "height_now" "Well.height_now" s_Well_height_now f fd ∧ Binds K fd ["self", "index"] []
  f_Snail___call__ : ∃ f, SpF K cS f "__call__" ∧ ∃ fd, Fun K "__call__" "Snail.__call__" s_Snail___call__ f fd ∧ Binds K fd ["self", "depth"] []
  f_Snail___bool__ : ∃ f, SpF K cS f "__bool__" ∧ ∃ fd, Fun K "__bool__" "Snail.__bool__" s_Snail___bool__ f fd ∧ Binds K fd ["self"] []
  f_Snail_beats : ∃ f, Meth K cS "beats" f ∧ ∃ fd, Fun K "beats" "Snail.beats" s_Snail_beats f fd ∧ Binds K fd ["self", "other"] []
  f_Snail_read : ∃ mc pr f, ClX.CRead K cS mc ∧ ClX.CMet K cS mc "read" pr f ∧ ∃ fd, Fun K "read" "Snail.read" s_Snail_read f fd ∧ Binds K fd ["cls", "value"] []
  f_Snail_made : ∃ f, Meth K cS "made" f ∧ ∃ fd, Fun K "made" "Snail.made" s_Snail_made f fd ∧ Binds K fd ["self", "snail"] []
  f_Snail_like : ∃ f, Meth K cS "like" f ∧ ∃ fd, Fun K "like" "Snail.like" s_Snail_like f fd ∧ Binds K fd ["self", "other"] []
  f_Well_out : ∃ p f, PropOf K cW "out" p f ∧ ∃ fd, Fun K "out" "Well.out" s_Well_out f fd ∧ Binds K fd ["self"] []
  f_Snail___add__ : ∃ f, OpF K cS f .Add ∧ ∃ fd, Fun K "__add__" "Snail.__add__" s_Snail___add__ f fd ∧ Binds K fd ["self", "step"] []
  f_Snail___sub__ : ∃ f, OpF K cS f .Sub ∧ ∃ fd, Fun K "__sub__" "Snail.__sub__" s_Snail___sub__ f fd ∧ Binds K fd ["self", "index"] []
  f_Snail___rshift__ : ∃ f, OpF K cS f .RShift ∧ ∃ fd, Fun K "__rshift__" "Snail.__rshift__" s_Snail___rshift__ f fd ∧ Binds K fd ["self", "minutes"] []
  f_Snail___xor__ : ∃ f, OpF K cS f .BitXor ∧ ∃ fd, Fun K "__xor__" "Snail.__xor__" s_Snail___xor__ f fd ∧ Binds K fd ["self", "height"] []
  f_Snail___invert__ : ∃ f, SpF K cS f "__invert__" ∧ ∃ fd, Fun K "__invert__" "Snail.__invert__" s_Snail___invert__ f fd ∧ Binds K fd ["self"] []
  f_Well_inside : ∃ p f, PropOf K cW "inside" p f ∧ ∃ fd, Fun K "inside" "Well.inside" s_Well_inside f fd ∧ Binds K fd ["self"] []
  f_Well_wait : ∃ f, Meth K cW "wait" f ∧ ∃ fd, Fun K "wait" "Well.wait" s_Well_wait f fd ∧ Binds K fd ["self", "minutes"] []
  f_Well_log : ∃ f, Meth K cW "log" f ∧ ∃ fd, Fun K "log" "Well.log" s_Well_log f fd ∧ Binds K fd ["self"] []
  f_Well___getitem__ : ∃ f, SpF K cW f "__getitem__" ∧ ∃ fd, Fun K "__getitem__" "Well.__getitem__" s_Well___getitem__ f fd ∧ Binds K fd ["self", "index"] []
  f_Well___contains__ : ∃ f, SpF K cW f "__contains__" ∧ ∃ fd, Fun K "__contains__" "Well.__contains__" s_Well___contains__ f fd ∧ Binds K fd ["self", "value"] []
  f_Well___bool__ : ∃ f, SpF K cW f "__bool__" ∧ ∃ fd, Fun K "__bool__" "Well.__bool__" s_Well___bool__ f fd ∧ Binds K fd ["self"] []
  m_abs : mg "abs" = none
  m_all : mg "all" = none
  m_bool : mg "bool" = none
  m_enumerate : mg "enumerate" = none
  m_int : mg "int" = none
  m_isinstance : mg "isinstance" = none
  m_len : mg "len" = none
  m_list : mg "list" = none
  m_max : mg "max" = none
  m_min : mg "min" = none
  m_range : mg "range" = none
  m_sorted : mg "sorted" = none
  m_str : mg "str" = none
  m_sum : mg "sum" = none
  m_tuple : mg "tuple" = none
  c_InvalidIndex : ExC K mg "InvalidIndex"
  c_InvalidNumber : ExC K mg "InvalidNumber"
  c_InvalidSeen : ExC K mg "InvalidSeen"
  c_InvalidSnail : ExC K mg "InvalidSnail"
  c_InvalidSnails : ExC K mg "InvalidSnails"
  c_NothingToUndo : ExC K mg "NothingToUndo"
  c_Unlike : ExC K mg "Unlike"
  d_is_number : ∃ f fd, mg "is_number" = some (.ref f) ∧ Fun K "is_number" "is_number" s_is_number f fd ∧ Binds K fd ["value", "least", "most"] []
  d_is_tuple : ∃ f fd, mg "is_tuple" = some (.ref f) ∧ Fun K "is_tuple" "is_tuple" s_is_tuple f fd ∧ Binds K fd ["value", "least", "most"] []
  d_stepped : ∃ f fd, mg "stepped" = some (.ref f) ∧ Fun K "stepped" "stepped" s_stepped f fd ∧ Binds K fd ["height", "step"] []
  d_lowest_sum : ∃ f fd, mg "lowest_sum" = some (.ref f) ∧ Fun K "lowest_sum" "lowest_sum" s_lowest_sum f fd ∧ Binds K fd ["steps"] []
  d_least_turn : ∃ f fd, mg "least_turn" = some (.ref f) ∧ Fun K "least_turn" "least_turn" s_least_turn f fd ∧ Binds K fd ["items", "rise"] []
  d_minute_in : ∃ f fd, mg "minute_in" = some (.ref f) ∧ Fun K "minute_in" "minute_in" s_minute_in f fd ∧ Binds K fd ["told", "depth"] []
  d_divisor : ∃ f fd, mg "divisor" = some (.ref f) ∧ Fun K "divisor" "divisor" s_divisor f fd ∧ Binds K fd ["one", "other"] []
  d_rise_in : ∃ f fd, mg "rise_in" = some (.ref f) ∧ Fun K "rise_in" "rise_in" s_rise_in f fd ∧ Binds K fd ["told", "turn"] []
  d_is_endless : ∃ f fd, mg "is_endless" = some (.ref f) ∧ Fun K "is_endless" "is_endless" s_is_endless f fd ∧ Binds K fd ["told"] []
  d_shortened : ∃ f fd, mg "shortened" = some (.ref f) ∧ Fun K "shortened" "shortened" s_shortened f fd ∧ Binds K fd ["early", "again"] []
  d_first_of : ∃ f fd, mg "first_of" = some (.ref f) ∧ Fun K "first_of" "first_of" s_first_of f fd ∧ Binds K fd ["minutes"] []
  d_is_later : ∃ f fd, mg "is_later" = some (.ref f) ∧ Fun K "is_later" "is_later" s_is_later f fd ∧ Binds K fd ["minute", "other"] []
  d_word_of : ∃ f fd, mg "word_of" = some (.ref f) ∧ Fun K "word_of" "word_of" s_word_of f fd ∧ Binds K fd ["far"] []
  d_with_round : ∃ f fd, mg "with_round" = some (.ref f) ∧ Fun K "with_round" "with_round" s_with_round f fd ∧ Binds K fd ["snail", "steps"] []
  d_without : ∃ f fd, mg "without" = some (.ref f) ∧ Fun K "without" "without" s_without f fd ∧ Binds K fd ["steps", "index"] []
  d_exchanged : ∃ f fd, mg "exchanged" = some (.ref f) ∧ Fun K "exchanged" "exchanged" s_exchanged f fd ∧ Binds K fd ["steps", "index"] []
  d_started : ∃ f fd, mg "started" = some (.ref f) ∧ Fun K "started" "started" s_started f fd ∧ Binds K fd ["snail", "start"] []
  d_both : ∃ f fd, mg "both" = some (.ref f) ∧ Fun K "both" "both" s_both f fd ∧ Binds K fd ["one", "other"] []
  d_words_of : ∃ f fd, mg "words_of" = some (.ref f) ∧ Fun K "words_of" "words_of" s_words_of f fd ∧ Binds K fd ["snail"] []
  d_number_in : ∃ f fd, mg "number_in" = some (.ref f) ∧ Fun K "number_in" "number_in" s_number_in f fd ∧ Binds K fd ["word"] []
  d__law_source : ∃ f fd, mg "_law_source" = some (.ref f) ∧ Fun K "_law_source" "_law_source" s__law_source f fd ∧ Binds K fd ["script", "k"] []
  d__law_draw : ∃ f fd, mg "_law_draw" = some (.ref f) ∧ Fun K "_law_draw" "_law_draw" s__law_draw f fd ∧ Binds K fd ["source", "many"] []
  d__law_snails : ∃ f fd, mg "_law_snails" = some (.ref f) ∧ Fun K "_law_snails" "_law_snails" s__law_snails f fd ∧ Binds K fd [] []
  d_is_round : ∃ f fd, mg "is_round" = some (.ref f) ∧ Fun K "is_round" "is_round" s_is_round f fd ∧ Binds K fd ["value"] []
  d_need_number : ∃ f fd, mg "need_number" = some (.ref f) ∧ Fun K "need_number" "need_number" s_need_number f fd ∧ Binds K fd ["value", "least"] []
  d_need_index : ∃ f fd, mg "need_index" = some (.ref f) ∧ Fun K "need_index" "need_index" s_need_index f fd ∧ Binds K fd ["some", "value"] []
  d_behind : ∃ f fd, mg "behind" = some (.ref f) ∧ Fun K "behind" "behind" s_behind f fd ∧ Binds K fd ["height", "steps"] []
  d_records_of : ∃ f fd, mg "records_of" = some (.ref f) ∧ Fun K "records_of" "records_of" s_records_of f fd ∧ Binds K fd ["snail", "rounds"] []
  d_common_turn : ∃ f fd, mg "common_turn" = some (.ref f) ∧ Fun K "common_turn" "common_turn" s_common_turn f fd ∧ Binds K fd ["calendars"] []
  d_blocks_until : ∃ f fd, mg "blocks_until" = some (.ref f) ∧ Fun K "blocks_until" "blocks_until" s_blocks_until f fd ∧ Binds K fd ["one", "other", "first", "turn"] []
  d_first_at : ∃ f fd, mg "first_at" = some (.ref f) ∧ Fun K "first_at" "first_at" s_first_at f fd ∧ Binds K fd ["calendars", "depth"] []
  d_is_fact : ∃ f fd, mg "is_fact" = some (.ref f) ∧ Fun K "is_fact" "is_fact" s_is_fact f fd ∧ Binds K fd ["snails", "value"] []
  d_depths_at : ∃ f fd, mg "depths_at" = some (.ref f) ∧ Fun K "depths_at" "depths_at" s_depths_at f fd ∧ Binds K fd ["told", "minute"] []
  d_line_of : ∃ f fd, mg "line_of" = some (.ref f) ∧ Fun K "line_of" "line_of" s_line_of f fd ∧ Binds K fd ["snail"] []
  d_is_good_snail : ∃ f fd, mg "is_good_snail" = some (.ref f) ∧ Fun K "is_good_snail" "is_good_snail" s_is_good_snail f fd ∧ Binds K fd ["value"] []
  d_is_settled : ∃ f fd, mg "is_settled" = some (.ref f) ∧ Fun K "is_settled" "is_settled" s_is_settled f fd ∧ Binds K fd ["height", "steps"] []
  d_gain_of : ∃ f fd, mg "gain_of" = some (.ref f) ∧ Fun K "gain_of" "gain_of" s_gain_of f fd ∧ Binds K fd ["height", "steps"] []
  d_is_row : ∃ f fd, mg "is_row" = some (.ref f) ∧ Fun K "is_row" "is_row" s_is_row f fd ∧ Binds K fd ["value"] []
  d_settled_from : ∃ f fd, mg "settled_from" = some (.ref f) ∧ Fun K "settled_from" "settled_from" s_settled_from f fd ∧ Binds K fd ["calendars"] []
  d_need_seen : ∃ f fd, mg "need_seen" = some (.ref f) ∧ Fun K "need_seen" "need_seen" s_need_seen f fd ∧ Binds K fd ["snails", "value"] []
  d_lines_of : ∃ f fd, mg "lines_of" = some (.ref f) ∧ Fun K "lines_of" "lines_of" s_lines_of f fd ∧ Binds K fd ["snails"] []
  d_fewer : ∃ f fd, mg "fewer" = some (.ref f) ∧ Fun K "fewer" "fewer" s_fewer f fd ∧ Binds K fd ["steps", "index"] []
  d_are_good_snails : ∃ f fd, mg "are_good_snails" = some (.ref f) ∧ Fun K "are_good_snails" "are_good_snails" s_are_good_snails f fd ∧ Binds K fd ["value"] []
  d_need_snail : ∃ f fd, mg "need_snail" = some (.ref f) ∧ Fun K "need_snail" "need_snail" s_need_snail f fd ∧ Binds K fd ["value"] []
  d_settled : ∃ f fd, mg "settled" = some (.ref f) ∧ Fun K "settled" "settled" s_settled f fd ∧ Binds K fd ["height", "steps"] []
  d_is_snail : ∃ f fd, mg "is_snail" = some (.ref f) ∧ Fun K "is_snail" "is_snail" s_is_snail f fd ∧ Binds K fd ["value"] []
  d_winners_by : ∃ f fd, mg "winners_by" = some (.ref f) ∧ Fun K "winners_by" "winners_by" s_winners_by f fd ∧ Binds K fd ["calendars"] []
  d_later_depth : ∃ f fd, mg "later_depth" = some (.ref f) ∧ Fun K "later_depth" "later_depth" s_later_depth f fd ∧ Binds K fd ["one", "other"] []
  d_leads_by : ∃ f fd, mg "leads_by" = some (.ref f) ∧ Fun K "leads_by" "leads_by" s_leads_by f fd ∧ Binds K fd ["one", "other"] []
  d_parting_depth : ∃ f fd, mg "parting_depth" = some (.ref f) ∧ Fun K "parting_depth" "parting_depth" s_parting_depth f fd ∧ Binds K fd ["one", "other"] []
  d_snail_in : ∃ f fd, mg "snail_in" = some (.ref f) ∧ Fun K "snail_in" "snail_in" s_snail_in f fd ∧ Binds K fd ["line"] []
  d_need_snails : ∃ f fd, mg "need_snails" = some (.ref f) ∧ Fun K "need_snails" "need_snails" s_need_snails f fd ∧ Binds K fd ["value"] []
  d_height_of : ∃ f fd, mg "height_of" = some (.ref f) ∧ Fun K "height_of" "height_of" s_height_of f fd ∧ Binds K fd ["snail", "minute"] []
  d_are_snails : ∃ f fd, mg "are_snails" = some (.ref f) ∧ Fun K "are_snails" "are_snails" s_are_snails f fd ∧ Binds K fd ["value"] []
  d_calendar_of : ∃ f fd, mg "calendar_of" = some (.ref f) ∧ Fun K "calendar_of" "calendar_of" s_calendar_of f fd ∧ Binds K fd ["snail"] []
  d_need_two : ∃ f fd, mg "need_two" = some (.ref f) ∧ Fun K "need_two" "need_two" s_need_two f fd ∧ Binds K fd ["one", "other"] []
  d_settled_minute : ∃ f fd, mg "settled_minute" = some (.ref f) ∧ Fun K "settled_minute" "settled_minute" s_settled_minute f fd ∧ Binds K fd ["snail"] []
  d_gain_in : ∃ f fd, mg "gain_in" = some (.ref f) ∧ Fun K "gain_in" "gain_in" s_gain_in f fd ∧ Binds K fd ["snail", "minutes"] []
  d_top_of : ∃ f fd, mg "top_of" = some (.ref f) ∧ Fun K "top_of" "top_of" s_top_of f fd ∧ Binds K fd ["snail"] []
  d_with_start : ∃ f fd, mg "with_start" = some (.ref f) ∧ Fun K "with_start" "with_start" s_with_start f fd ∧ Binds K fd ["snail", "start"] []
  d_snails_in : ∃ f fd, mg "snails_in" = some (.ref f) ∧ Fun K "snails_in" "snails_in" s_snails_in f fd ∧ Binds K fd ["value"] []
  d_good_snail : ∃ f fd, mg "good_snail" = some (.ref f) ∧ Fun K "good_snail" "good_snail" s_good_snail f fd ∧ Binds K fd ["value"] []
  d_height_at : ∃ f fd, mg "height_at" = some (.ref f) ∧ Fun K "height_at" "height_at" s_height_at f fd ∧ Binds K fd ["snail", "minute"] []
  d_out_at : ∃ f fd, mg "out_at" = some (.ref f) ∧ Fun K "out_at" "out_at" s_out_at f fd ∧ Binds K fd ["snail", "depth"] []
  d_calendar : ∃ f fd, mg "calendar" = some (.ref f) ∧ Fun K "calendar" "calendar" s_calendar f fd ∧ Binds K fd ["snail"] []
  d_out_in : ∃ f fd, mg "out_in" = some (.ref f) ∧ Fun K "out_in" "out_in" s_out_in f fd ∧ Binds K fd ["depth", "put", "minute"] []
  d_all_calendars : ∃ f fd, mg "all_calendars" = some (.ref f) ∧ Fun K "all_calendars" "all_calendars" s_all_calendars f fd ∧ Binds K fd ["snails"] []
  d_leads : ∃ f fd, mg "leads" = some (.ref f) ∧ Fun K "leads" "leads" s_leads f fd ∧ Binds K fd ["one", "other"] []
  d_never_later : ∃ f fd, mg "never_later" = some (.ref f) ∧ Fun K "never_later" "never_later" s_never_later f fd ∧ Binds K fd ["one", "other"] []
  d_first_later : ∃ f fd, mg "first_later" = some (.ref f) ∧ Fun K "first_later" "first_later" s_first_later f fd ∧ Binds K fd ["one", "other"] []
  d_far_at : ∃ f fd, mg "far_at" = some (.ref f) ∧ Fun K "far_at" "far_at" s_far_at f fd ∧ Binds K fd ["one", "other", "minute"] []
  d_highest : ∃ f fd, mg "highest" = some (.ref f) ∧ Fun K "highest" "highest" s_highest f fd ∧ Binds K fd ["snail"] []
  d_are_alike : ∃ f fd, mg "are_alike" = some (.ref f) ∧ Fun K "are_alike" "are_alike" s_are_alike f fd ∧ Binds K fd ["one", "other"] []
  d_parting : ∃ f fd, mg "parting" = some (.ref f) ∧ Fun K "parting" "parting" s_parting f fd ∧ Binds K fd ["one", "other"] []
  d_latest_start : ∃ f fd, mg "latest_start" = some (.ref f) ∧ Fun K "latest_start" "latest_start" s_latest_start f fd ∧ Binds K fd ["one", "other"] []
  d_depths_told : ∃ f fd, mg "depths_told" = some (.ref f) ∧ Fun K "depths_told" "depths_told" s_depths_told f fd ∧ Binds K fd ["snails", "seen"] []
  d_is_seen : ∃ f fd, mg "is_seen" = some (.ref f) ∧ Fun K "is_seen" "is_seen" s_is_seen f fd ∧ Binds K fd ["snails", "depth", "seen"] []
  d_snails_text : ∃ f fd, mg "snails_text" = some (.ref f) ∧ Fun K "snails_text" "snails_text" s_snails_text f fd ∧ Binds K fd ["snails"] []
  d_read_snails : ∃ f fd, mg "read_snails" = some (.ref f) ∧ Fun K "read_snails" "read_snails" s_read_snails f fd ∧ Binds K fd ["value"] []
  d_all_out : ∃ f fd, mg "all_out" = some (.ref f) ∧ Fun K "all_out" "all_out" s_all_out f fd ∧ Binds K fd ["depth", "snails", "minute"] []
  d_winners : ∃ f fd, mg "winners" = some (.ref f) ∧ Fun K "winners" "winners" s_winners f fd ∧ Binds K fd ["snails", "depth"] []
  d_winner_calendar : ∃ f fd, mg "winner_calendar" = some (.ref f) ∧ Fun K "winner_calendar" "winner_calendar" s_winner_calendar f fd ∧ Binds K fd ["snails"] []
  d_how : ∃ f fd, mg "how" = some (.ref f) ∧ Fun K "how" "how" s_how f fd ∧ Binds K fd ["snails", "index"] []
  d_first_depth : ∃ f fd, mg "first_depth" = some (.ref f) ∧ Fun K "first_depth" "first_depth" s_first_depth f fd ∧ Binds K fd ["snails", "index"] []
  d_words_by : ∃ f fd, mg "words_by" = some (.ref f) ∧ Fun K "words_by" "words_by" s_words_by f fd ∧ Binds K fd ["one", "other"] []
  d_alike : ∃ f fd, mg "alike" = some (.ref f) ∧ Fun K "alike" "alike" s_alike f fd ∧ Binds K fd ["one", "other"] []
  d_idle_steps : ∃ f fd, mg "idle_steps" = some (.ref f) ∧ Fun K "idle_steps" "idle_steps" s_idle_steps f fd ∧ Binds K fd ["snail"] []
  d_exchangeable : ∃ f fd, mg "exchangeable" = some (.ref f) ∧ Fun K "exchangeable" "exchangeable" s_exchangeable f fd ∧ Binds K fd ["snail"] []
  d__law_third_right : ∃ f fd, mg "_law_third_right" = some (.ref f) ∧ Fun K "_law_third_right" "_law_third_right" s__law_third_right f fd ∧ Binds K fd [] []
  d_order_calendar : ∃ f fd, mg "order_calendar" = some (.ref f) ∧ Fun K "order_calendar" "order_calendar" s_order_calendar f fd ∧ Binds K fd ["one", "other"] []
  d_first_over : ∃ f fd, mg "first_over" = some (.ref f) ∧ Fun K "first_over" "first_over" s_first_over f fd ∧ Binds K fd ["one", "other"] []
  d__law_first_right : ∃ f fd, mg "_law_first_right" = some (.ref f) ∧ Fun K "_law_first_right" "_law_first_right" s__law_first_right f fd ∧ Binds K fd [] []
  d__law_second_right : ∃ f fd, mg "_law_second_right" = some (.ref f) ∧ Fun K "_law_second_right" "_law_second_right" s__law_second_right f fd ∧ Binds K fd [] []
  d__law_fourth_right : ∃ f fd, mg "_law_fourth_right" = some (.ref f) ∧ Fun K "_law_fourth_right" "_law_fourth_right" s__law_fourth_right f fd ∧ Binds K fd [] []
def F_k22_law_snails : Fn := fnP 0 0
    (sRt (eTup [(eTup [(eK (.int 0)), (eK (.int 0)), (eTup [(eK (.int 3)), (eNeg (eK (.int 2)))])]), (eTup [(eK (.int 4)), (eK (.int 0)), (eTup [(eK (.int 1))])]), (eTup [(eK (.int 0)), (eK (.int 2)), (eTup [(eK (.int 1)), (eNeg (eK (.int 1)))])]), (eTup [(eK (.int 0)), (eK (.int 0)), (eTup [(eK (.int 2)), (eK (.int 1)), (eNeg (eK (.int 1)))])]), (eTup [(eK (.int 0)), (eK (.int 0)), (eTup [(eK (.int 1)), (eK (.int 2)), (eNeg (eK (.int 1)))])])]))
def F_k22_law_third_right : Fn := fnP 0 6
    (sSeq (sSt (eCall F_k22_law_snails []) (gTp 5 (gsCons (gNm 0) (gsCons (gNm 1) (gsCons (gNm 2) (gsCons (gNm 3) (gsCons (gNm 4) gsNil)))))))
    (sSeq (sSet 5 (eNewL [(eBin gEq (eCall F_latest_start [(eVar 3), (eVar 4)]) (eK (.int 0)))]))
    (sSeq (sEx (eAppend (eVar 5) (eBin gIsN (eCall F_latest_start [(eVar 0), (eVar 1)]) (eK .non))))
    (sSeq (sEx (eAppend (eVar 5) (eBin gIsN (eCall F_latest_start [(eVar 1), (eVar 0)]) (eK .non))))
    (sSeq (sEx (eAppend (eVar 5) (eBin gEq (eCall F_latest_start [(eTup [(eK (.int 0)), (eK (.int 0)), (eTup [(eK (.int 3))])]), (eVar 1)]) (eK (.int 4)))))
    (sSeq (sEx (eAppend (eVar 5) (eBin gEq (eCall F_with_start [(eVar 0), (eK (.int 7))]) (eTup [(eK (.int 7)), (eK (.int 0)), (eTup [(eK (.int 3)), (eNeg (eK (.int 2)))])]))))
    (sSeq (sEx (eAppend (eVar 5) (eBin gEq (eCall F_depths_told [(eTup [(eVar 0), (eVar 1)]), (eTup [(eTup [(eK (.int 0)), (eK (.int 1))])])]) (eTup [(eK (.int 1)), (eK (.int 3))]))))
    (sSeq (sEx (eAppend (eVar 5) (eBin gEq (eCall F_depths_told [(eTup [(eVar 0), (eVar 1)]), (eTup [(eTup [(eK (.int 0)), (eK (.int 7))]), (eTup [(eK (.int 1)), (eK (.int 10))])])]) (eTup [(eK (.int 6)), (eK (.int 6))]))))
    (sSeq (sSet 5 (eBin gAddN (eVar 5) (eLst [(eBin gEq (eCall F_depths_told [(eTup [(eVar 0), (eVar 2)]), (eTup [(eTup [(eK (.int 1)), (eK .non)])])]) (eTup [(eK (.int 4)), (eK .non)]))])))
    (sSeq (sEx (eAppend (eVar 5) (eBin gIsN (eCall F_depths_told [(eTup [(eVar 0), (eVar 2)]), (eTup [(eTup [(eK (.int 0)), (eK (.int 3))]), (eTup [(eK (.int 1)), (eK (.int 1))])])]) (eK .non))))
    (sSeq (sEx (eAppend (eVar 5) (eCall F_is_seen [(eTup [(eVar 0), (eVar 1)]), (eK (.int 3)), (eTup [(eTup [(eK (.int 0)), (eK (.int 1))]), (eTup [(eK (.int 1)), (eK (.int 7))])])])))
    (sSeq (sEx (eAppend (eVar 5) (eBin gEq (eCall F_snails_text [(eTup [(eVar 0), (eVar 1)])]) (eK (.str (Str.ofString "snail 0 0 3 -2\nsnail 4 0 1"))))))
    (sRt (eBin gAdd (eVar 5) (eLst [(eBin gEq (eCall F_read_snails [(eCall F_snails_text [(eTup [(eVar 2), (eVar 3)])])]) (eTup [(eVar 2), (eVar 3)]))])))))))))))))))
def F_k22_law_first_right : Fn := fnP 0 7
    (sSeq (sSt (eCall F_k22_law_snails []) (gTp 5 (gsCons (gNm 0) (gsCons (gNm 1) (gsCons (gNm 2) (gsCons (gNm 3) (gsCons (gNm 4) gsNil)))))))
    (sSeq (sSet 5 (eNewL [(eCall F_is_snail [(eVar 0)])]))
    (sSeq (sEx (eAppend (eVar 5) (eNot (eCall F_is_snail [(eTup [(eK (.int 0)), (eK (.int 0)), (eTup [])])]))))
    (sSeq (sEx (eAppend (eVar 5) (eNot (eCall F_is_snail [(eTup [(eK (.int 21)), (eK (.int 0)), (eTup [(eK (.int 1))])])]))))
    (sSeq (sEx (eAppend (eVar 5) (eCall F_are_snails [(eTup [(eVar 0), (eVar 1)])])))
    (sSeq (sEx (eAppend (eVar 5) (eNot (eCall F_are_snails [(eTup [])]))))
    (sSeq (sEx (eAppend (eVar 5) (eBin gEq (eLc (eRng1 (eK (.int 6))) (.nm 6) tYesD (eCall F_height_at [(eVar 0), (eVar 6)]) [6]) (eLst [(eK (.int 0)), (eK (.int 3)), (eK (.int 1)), (eK (.int 4)), (eK (.int 2)), (eK (.int 5))]))))
    (sSeq (sSet 5 (eBin gAddN (eVar 5) (eLst [(eBin gEq (eCall F_height_at [(eVar 2), (eK (.int 5))]) (eK (.int 3))), (eBin gEq (eCall F_height_at [(eTup [(eK (.int 0)), (eK (.int 1)), (eTup [(eNeg (eK (.int 3))), (eK (.int 2))])]), (eK (.int 2))]) (eK (.int 2)))])))
    (sSeq (sEx (eAppend (eVar 5) (eBin gEq (eCall F_height_at [(eVar 0), (eBin gPow (eK (.int 10)) (eK (.int 30)))]) (eBin gMul (eK (.int 5)) (eBin gPow (eK (.int 10)) (eK (.int 29)))))))
    (sSeq (sEx (eAppend (eVar 5) (eBin gEq (eCall F_out_at [(eVar 0), (eK (.int 3))]) (eK (.int 1)))))
    (sSeq (sEx (eAppend (eVar 5) (eBin gEq (eCall F_out_at [(eVar 0), (eK (.int 4))]) (eK (.int 3)))))
    (sSeq (sSet 5 (eBin gAddN (eVar 5) (eLst [(eBin gEq (eCall F_out_at [(eVar 1), (eK (.int 1))]) (eK (.int 5))), (eBin gEq (eCall F_out_at [(eVar 2), (eK (.int 2))]) (eK (.int 0))), (eBin gIsN (eCall F_out_at [(eVar 2), (eK (.int 4))]) (eK .non))])))
    (sSeq (sEx (eAppend (eVar 5) (eBin gEq (eCall F_out_at [(eVar 0), (eBin gPow (eK (.int 10)) (eK (.int 30)))]) (eBin gSub (eBin gMul (eK (.int 2)) (eBin gPow (eK (.int 10)) (eK (.int 30)))) (eK (.int 5))))))
    (sSeq (sEx (eAppend (eVar 5) (eBin gEq (eCall F_calendar [(eVar 0)]) (eTup [(eTup [(eK (.int 1)), (eK (.int 1))]), (eTup [(eK (.int 1))]), (eK (.int 2))]))))
    (sSeq (sEx (eAppend (eVar 5) (eBin gEq (eCall F_calendar [(eVar 1)]) (eTup [(eTup []), (eTup [(eK (.int 5))]), (eK (.int 1))]))))
    (sSeq (sEx (eAppend (eVar 5) (eBin gEq (eCall F_calendar [(eVar 2)]) (eTup [(eTup [(eK (.int 0)), (eK (.int 0)), (eK (.int 1))]), (eTup [(eK .non)]), (eK (.int 0))]))))
    (sSeq (sEx (eAppend (eVar 5) (eBin gEq (eCall F_calendar [(eTup [(eK (.int 0)), (eK (.int 0)), (eTup [(eNeg (eK (.int 1)))])])]) (eTup [(eTup []), (eTup [(eK .non)]), (eK (.int 0))]))))
    (sSeq (sEx (eAppend (eVar 5) (eBin gEq (eCall F_winners [(eTup [(eVar 0), (eVar 1)]), (eK (.int 6))]) (eTup [(eK (.int 0))]))))
    (sSeq (sSet 5 (eBin gAddN (eVar 5) (eLst [(eBin gEq (eCall F_winners [(eTup [(eVar 0), (eVar 1)]), (eK (.int 7))]) (eTup [(eK (.int 0))])), (eBin gEq (eCall F_winners [(eTup [(eVar 2)]), (eK (.int 9))]) (eTup []))])))
    (sSeq (sEx (eAppend (eVar 5) (eBin gEq (eCall F_winner_calendar [(eTup [(eVar 0), (eVar 1)])]) (eTup [(eBin gAdd (eBin gMul (eTup [(eTup [(eK (.int 0))])]) (eK (.int 8))) (eTup [(eTup [(eK (.int 0)), (eK (.int 1))])])), (eTup [(eTup [(eK (.int 1))])])]))))
    (sSeq (sEx (eAppend (eVar 5) (eBin gEq (eCall F_winner_calendar [(eTup [(eVar 0), (eVar 2)])]) (eTup [(eTup [(eTup [(eK (.int 1))]), (eTup [(eK (.int 1))]), (eTup [(eK (.int 0)), (eK (.int 1))])]), (eTup [(eTup [(eK (.int 0))])])]))))
    (sSeq (sEx (eAppend (eVar 5) (eBin gEq (eCall F_winner_calendar [(eTup [(eVar 2)])]) (eTup [(eBin gMul (eTup [(eTup [(eK (.int 0))])]) (eK (.int 3))), (eTup [(eTup [])])]))))
    (sSeq (sEx (eAppend (eVar 5) (eBin gEq (eCall F_how [(eTup [(eVar 0), (eVar 1)]), (eK (.int 0))]) (eK (.str (Str.ofString "sometimes"))))))
    (sSeq (sEx (eAppend (eVar 5) (eBin gEq (eCall F_how [(eTup [(eVar 0), (eVar 0)]), (eK (.int 1))]) (eK (.str (Str.ofString "always"))))))
    (sSeq (sEx (eAppend (eVar 5) (eBin gEq (eCall F_how [(eTup [(eVar 1), (eVar 0), (eVar 2)]), (eK (.int 0))]) (eK (.str (Str.ofString "sometimes"))))))
    (sRt (eBin gAdd (eVar 5) (eLst [(eBin gEq (eCall F_first_depth [(eTup [(eVar 0), (eVar 1)]), (eK (.int 1))]) (eK (.int 9))), (eBin gEq (eCall F_first_depth [(eTup [(eVar 1), (eVar 2)]), (eK (.int 0))]) (eK (.int 4)))]))))))))))))))))))))))))))))
def F_k22_law_second_right : Fn := fnP 0 6
    (sSeq (sSt (eCall F_k22_law_snails []) (gTp 5 (gsCons (gNm 0) (gsCons (gNm 1) (gsCons (gNm 2) (gsCons (gNm 3) (gsCons (gNm 4) gsNil)))))))
    (sSeq (sSet 5 (eNewL [(eBin gEq (eCall F_leads [(eVar 0), (eVar 1)]) (eTup [(eK .non), (eK (.int 6))]))]))
    (sSeq (sEx (eAppend (eVar 5) (eBin gEq (eCall F_leads [(eVar 3), (eVar 4)]) (eTup [(eK (.int 0)), (eK (.int 1))]))))
    (sSeq (sEx (eAppend (eVar 5) (eBin gEq (eCall F_leads [(eVar 2), (eVar 1)]) (eTup [(eK (.int 5)), (eK (.int 6))]))))
    (sSeq (sEx (eAppend (eVar 5) (eBin gIsN (eCall F_leads [(eTup [(eK (.int 0)), (eK (.int 0)), (eTup [(eNeg (eK (.int 1)))])]), (eVar 1)]) (eK .non))))
    (sSeq (sEx (eAppend (eVar 5) (eNot (eCall F_never_later [(eVar 0), (eVar 1)]))))
    (sSeq (sEx (eAppend (eVar 5) (eBin gEq (eCall F_first_later [(eVar 0), (eVar 1)]) (eK (.int 10)))))
    (sSeq (sEx (eAppend (eVar 5) (eCall F_never_later [(eVar 3), (eVar 4)])))
    (sSeq (sEx (eAppend (eVar 5) (eBin gEq (eCall F_first_later [(eVar 2), (eVar 1)]) (eK (.int 4)))))
    (sSeq (sEx (eAppend (eVar 5) (eBin gEq (eCall F_first_later [(eVar 4), (eVar 3)]) (eK (.int 2)))))
    (sSeq (sEx (eAppend (eVar 5) (eBin gEq (eCall F_order_calendar [(eVar 3), (eVar 4)]) (eTup [(eTup []), (eTup [(eK (.str (Str.ofString "same"))), (eK (.str (Str.ofString "over"))), (eK (.str (Str.ofString "same")))])]))))
    (sSeq (sEx (eAppend (eVar 5) (eBin gEq (eCall F_order_calendar [(eVar 1), (eVar 2)]) (eTup [(eBin gAdd (eBin gMul (eTup [(eK (.str (Str.ofString "under")))]) (eK (.int 6))) (eBin gMul (eTup [(eK (.str (Str.ofString "same")))]) (eK (.int 2)))), (eTup [(eK (.str (Str.ofString "over")))])]))))
    (sSeq (sEx (eAppend (eVar 5) (eBin gEq (eCall F_first_over [(eVar 3), (eVar 4)]) (eK (.int 1)))))
    (sSeq (sEx (eAppend (eVar 5) (eBin gIsN (eCall F_first_over [(eVar 4), (eVar 3)]) (eK .non))))
    (sSeq (sEx (eAppend (eVar 5) (eBin gEq (eCall F_first_over [(eVar 1), (eVar 0)]) (eK (.int 10)))))
    (sSeq (sSet 5 (eBin gAddN (eVar 5) (eLst [(eBin gIsN (eCall F_highest [(eVar 0)]) (eK .non)), (eBin gEq (eCall F_highest [(eVar 2)]) (eK (.int 3))), (eBin gEq (eCall F_highest [(eTup [(eK (.int 0)), (eK (.int 5)), (eTup [(eNeg (eK (.int 3))), (eK (.int 1))])])]) (eK (.int 5)))])))
    (sSeq (sEx (eAppend (eVar 5) (eNot (eCall F_alike [(eVar 3), (eVar 4)]))))
    (sSeq (sEx (eAppend (eVar 5) (eBin gEq (eCall F_parting [(eVar 3), (eVar 4)]) (eK (.int 2)))))
    (sSeq (sEx (eAppend (eVar 5) (eCall F_alike [(eTup [(eK (.int 0)), (eK (.int 0)), (eTup [(eK (.int 0)), (eK (.int 1))])]), (eTup [(eK (.int 1)), (eK (.int 0)), (eTup [(eK (.int 1)), (eK (.int 0))])])])))
    (sSeq (sSet 5 (eBin gAddN (eVar 5) (eLst [(eBin gIsN (eCall F_parting [(eVar 1), (eTup [(eK (.int 4)), (eK (.int 0)), (eTup [(eK (.int 1)), (eK (.int 1))])])]) (eK .non)), (eBin gEq (eCall F_idle_steps [(eTup [(eK (.int 0)), (eK (.int 0)), (eTup [(eK (.int 1)), (eK (.int 1))])])]) (eLst [(eK (.int 0)), (eK (.int 1))]))])))
    (sSeq (sEx (eAppend (eVar 5) (eBin gEq (eCall F_idle_steps [(eVar 0)]) (eLst []))))
    (sSeq (sEx (eAppend (eVar 5) (eBin gEq (eCall F_idle_steps [(eTup [(eK (.int 0)), (eK (.int 2)), (eTup [(eNeg (eK (.int 1))), (eNeg (eK (.int 2)))])])]) (eLst [(eK (.int 0)), (eK (.int 1))]))))
    (sSeq (sEx (eAppend (eVar 5) (eBin gEq (eCall F_exchangeable [(eVar 3)]) (eLst []))))
    (sRt (eBin gAdd (eVar 5) (eLst [(eBin gEq (eCall F_exchangeable [(eTup [(eK (.int 0)), (eK (.int 0)), (eTup [(eK (.int 1)), (eK (.int 1)), (eK (.int 2))])])]) (eLst [(eK (.int 0))]))]))))))))))))))))))))))))))
def F_k22_law_fourth_right (cS : Addr) (cW : Addr) : Fn := fnP 0 4
    (sSeq (sPar 0 1 (eMk cS (F_Snail___init__ cS) (aCons (eK (.int 0)) (aCons (eK (.int 0)) (aCons (eK (.int 3)) (aCons (eNeg (eK (.int 2))) (eArgs [])))))) (eMk cS (F_Snail___init__ cS) (aCons (eK (.int 0)) (aCons (eK (.int 2)) (aCons (eK (.int 1)) (aCons (eNeg (eK (.int 1))) (eArgs [])))))))
    (sSeq (sSet 2 (eNewL [(eBin gEq (eProp1 cS (F_Snail_source cS) (eBin (gOwnB cS "int" (F_Snail___add__ cS)) (eVar 0) (eK (.int 1)))) (eTup [(eK (.int 0)), (eK (.int 0)), (eTup [(eK (.int 3)), (eNeg (eK (.int 2))), (eK (.int 1))])])), (eBin gEq (eProp1 cS (F_Snail_source cS) (eBin (gOwnB cS "int" (F_Snail___sub__ cS)) (eVar 0) (eK (.int 1)))) (eTup [(eK (.int 0)), (eK (.int 0)), (eTup [(eK (.int 3))])]))]))
    (sSeq (sEx (eAppend (eVar 2) (eBin gEq (eProp1 cS (F_Snail_source cS) (eBin (gOwnB cS "int" (F_Snail___rshift__ cS)) (eVar 0) (eK (.int 4)))) (eTup [(eK (.int 4)), (eK (.int 0)), (eTup [(eK (.int 3)), (eNeg (eK (.int 2)))])]))))
    (sSeq (sEx (eAppend (eVar 2) (eBin gEq (eCallO cS (F_Snail___call__ cS) (eBin (gOwnB cS "int" (F_Snail___xor__ cS)) (eVar 0) (eK (.int 5))) (aCons (eK (.int 5)) (eArgs []))) (eK (.int 0)))))
    (sSeq (sEx (eAppend (eVar 2) (eBin gEq (eProp1 cS (F_Snail_source cS) (eOwn1 cS (F_Snail___invert__ cS) (eVar 0))) (eTup [(eK (.int 0)), (eK (.int 0)), (eTup [(eNeg (eK (.int 2))), (eK (.int 3))])]))))
    (sSeq (sEx (eAppend (eVar 2) (eBin gEq (eCallO cS (F_Snail___call__ cS) (eVar 0) (aCons (eK (.int 4)) (eArgs []))) (eK (.int 3)))))
    (sSeq (sEx (eAppend (eVar 2) (eBin gEq (eBin (gOwnI cS (F_Snail___getitem__ cS)) (eVar 0) (eK (.int 1))) (eNeg (eK (.int 2))))))
    (sSeq (sEx (eAppend (eVar 2) (eBin (gOwnIn cS false (F_Snail___contains__ cS)) (eK (.int 3)) (eVar 0))))
    (sSeq (sEx (eAppend (eVar 2) (eBin gEq (eCall (gOwnLen cS (F_Snail___len__ cS)) [(eVar 0)]) (eK (.int 2)))))
    (sSeq (sEx (eAppend (eVar 2) (eCall (gOwnBool cS (F_Snail___bool__ cS)) [(eVar 0)])))
    (sSeq (sEx (eAppend (eVar 2) (eNot (eCall (gOwnBool cS (F_Snail___bool__ cS)) [(eVar 1)]))))
    (sSeq (sEx (eAppend (eVar 2) (eNot (eMt cS "like" (F_Snail_like cS) (eVar 0) (aCons (eBin (gOwnB cS "int" (F_Snail___rshift__ cS)) (eVar 0) (eK (.int 1))) (eArgs []))))))
    (sSeq (sEx (eAppend (eVar 2) (eMt cS "beats" (F_Snail_beats cS) (eVar 0) (aCons (eBin (gOwnB cS "int" (F_Snail___rshift__ cS)) (eVar 0) (eK (.int 1))) (eArgs [])))))
    (sSeq (sEx (eAppend (eVar 2) (eBin gEq (eStrO cS (F_Snail___str__ cS) (eVar 0)) (eK (.str (Str.ofString "snail 0 0 3 -2"))))))
    (sSeq (sEx (eAppend (eVar 2) (eBin (gOwnEq cS (F_Snail___eq__ cS)) (eCm cS (F_Snail_read cS) (aCons (eStrO cS (F_Snail___str__ cS) (eVar 0)) (eArgs []))) (eVar 0))))
    (sSeq (sSet 3 (eMk cW (F_Well___init__ cW) (aCons (eK (.int 4)) (eArgs []))))
    (sSeq (sEx (eAppend (eVar 2) (eBin gEq (eMt cW "drop" (F_Well_drop cW) (eVar 3) (aCons (eK (.int 0)) (aCons (eTup [(eK (.int 3)), (eNeg (eK (.int 2)))]) (eArgs [])))) (eK (.int 0)))))
    (sSeq (sEx (eAppend (eVar 2) (eBin gEq (eMt cW "wait" (F_Well_wait cW) (eVar 3) (aCons (eK (.int 1)) (eArgs []))) (eTup []))))
    (sSeq (sEx (eAppend (eVar 2) (eBin gEq (eMt cW "drop" (F_Well_drop cW) (eVar 3) (aCons (eK (.int 3)) (aCons (eTup [(eK (.int 0)), (eK (.int 1))]) (eArgs [])))) (eK (.int 1)))))
    (sSeq (sEx (eAppend (eVar 2) (eBin gEq (eBin (gOwnI cW (F_Well___getitem__ cW)) (eVar 3) (eK (.int 0))) (eK (.int 3)))))
    (sSeq (sEx (eAppend (eVar 2) (eBin gEq (eProp1 cW (F_Well_inside cW) (eVar 3)) (eLst [(eK (.int 0)), (eK (.int 1))]))))
    (sSeq (sEx (eAppend (eVar 2) (eBin gEq (eMt cW "wait" (F_Well_wait cW) (eVar 3) (aCons (eK (.int 3)) (eArgs []))) (eTup [(eTup [(eK (.int 3)), (eK (.int 0))]), (eTup [(eK (.int 3)), (eK (.int 1))])]))))
    (sSeq (sEx (eAppend (eVar 2) (eBin gEq (eProp1 cW (F_Well_out cW) (eVar 3)) (eTup [(eTup [(eK (.int 3)), (eK (.int 0))]), (eTup [(eK (.int 3)), (eK (.int 1))])]))))
    (sSeq (sEx (eAppend (eVar 2) (eBin gEq (eBin gIdx (eListG cW "log" (F_Well_log cW) (eVar 3)) (eK (.int 1))) (eK (.str (Str.ofString "3 1"))))))
    (sSeq (sEx (eAppend (eVar 2) (eBin gEq (eMt cW "drop" (F_Well_drop cW) (eVar 3) (aCons (eK (.int 5)) (aCons (eTup [(eK (.int 1))]) (eArgs [])))) (eK (.int 2)))))
    (sSeq (sEx (eAppend (eVar 2) (eBin gEq (eBin gIdx (eProp1 cW (F_Well_out cW) (eVar 3)) (eK (.int 2))) (eTup [(eK (.int 4)), (eK (.int 2))]))))
    (sSeq (sEx (eAppend (eVar 2) (eNot (eCall (gOwnBool cW (F_Well___bool__ cW)) [(eVar 3)]))))
    (sSeq (sEx (eAppend (eVar 2) (eBin gIsN (eMt cW "undo" (F_Well_undo cW) (eVar 3) (eArgs [])) (eK .non))))
    (sSeq (sEx (eAppend (eVar 2) (eBin gIsN (eMt cW "undo" (F_Well_undo cW) (eVar 3) (eArgs [])) (eK .non))))
    (sSeq (sEx (eAppend (eVar 2) (eBin gEq (eProp1 cW (F_Well_minute cW) (eVar 3)) (eK (.int 1)))))
    (sSeq (sEx (eAppend (eVar 2) (eBin gEq (eBin (gOwnI cW (F_Well___getitem__ cW)) (eVar 3) (eK (.int 1))) (eK (.int 3)))))
    (sRt (eBin gAdd (eVar 2) (eLst [(eBin (gOwnIn cW false (F_Well___contains__ cW)) (eK (.int 3)) (eVar 3)), (eBin gEq (eCall (gOwnLen cW (F_Well___len__ cW)) [(eVar 3)]) (eK (.int 3)))]))))))))))))))))))))))))))))))))))
def F_law (cS : Addr) (cW : Addr) : Fn := fnP 1 3
    (sSeq (sFor (eRng1 (eBin gAdd (eK (.int 1)) (eCall gMin [(eCall gLen [(eVar 0)]), (eK (.int 3))]))) (gNm 1)
    (sSeq (sSet 2 (eCall F__law_source [(eVar 0), (eVar 1)]))
    (sSeq (sIf (eAndT (eTb (eBin gEq (eCall F__law_draw [(eVar 2), (eK (.int 2))]) (eK (.int 0)))) (eTb (eBin gIn (eK (.bl false)) (eCall (F_k22_law_fourth_right cS cW) []))))
    (sRt (eK (.bl false)))
    sNx)
    (sSeq (sIf (eOrT (eTb (eBin gIn (eK (.bl false)) (eCall F_k22_law_first_right []))) (eTb (eBin gIn (eK (.bl false)) (eCall F_k22_law_second_right []))))
    (sRt (eK (.bl false)))
    sNx)
    (sIf (eAndT (eTb (eBin gEq (eVar 1) (eK (.int 0)))) (eTb (eBin gIn (eK (.bl false)) (eBin gAdd (eCall F_k22_law_third_right []) (eCall (F_k22_law_fourth_right cS cW) [])))))
    (sRt (eK (.bl false)))
    sNx)))))
    (sRt (eK (.bl true))))
section
variable {P : Program} {w : World} {K : PySem.W.Frag} {mg : Str → Option Value} {base : Heap} {cS : Addr} {cW : Addr}
theorem sc_Well_minute : FnScope N_Well_minute ["self"] (defScope s_Well_minute) := ⟨rfl, rfl, rfl, by decide +kernel, rfl, by decide +kernel, by decide +kernel⟩
theorem ok_Well_minute (T : Top K mg cS cW) : DProp P w K mg base cW "minute" 1 (F_Well_minute cW) := by
  obtain ⟨p, f, hp, fd, Ff, hb⟩ := T.f_Well_minute
  exact ⟨p, f, fd, _, hp, hb, fnP_fnM (N := N_Well_minute) (k := 0) Ff sc_Well_minute fun cdv A outer s H E hr =>
    (dss_one (ds_ret (de_idx (de_fld T.x_Well T.a_Well_now (de_var (pv 0))) de_int)))⟩
theorem sc_Well_keep : FnScope N_Well_keep ["self", "now"] (defScope s_Well_keep) := ⟨rfl, rfl, rfl, by decide +kernel, rfl, by decide +kernel, by decide +kernel⟩
theorem ok_Well_keep (T : Top K mg cS cW) : DMt P w K mg base cW "keep" 1 (F_Well_keep cW) := by
  obtain ⟨f, hm, fd, Ff, hb⟩ := T.f_Well_keep
  exact ⟨f, fd, _, _, hm, hb, fnP_fnM (N := N_Well_keep) (k := 0) Ff sc_Well_keep fun cdv A outer s H E hr =>
    (dss_cons (ds_if (dt_cmp op_ge od_ge (de_callB call_len cd_len rfl T.m_len b_len (da_cons (de_fld T.x_Well T.a_Well_past (de_var (pv 0))) da_nil)) (de_gint T.m_LIMIT) (nomark _))
    (dss_one ds_bad)
    dss_nil)
    (dss_cons (ds_expr (de_append (de_fld T.x_Well T.a_Well_past (de_var (pv 0))) (da_cons (de_fld T.x_Well T.a_Well_now (de_var (pv 0))) da_nil)))
    (dss_one (ds_fld T.x_Well T.a_Well_now (de_var (pv 0)) (de_var (pv 1)))))), rfl⟩
theorem sc_Well_undo : FnScope N_Well_undo ["self"] (defScope s_Well_undo) := ⟨rfl, rfl, rfl, by decide +kernel, rfl, by decide +kernel, by decide +kernel⟩
theorem ok_Well_undo (T : Top K mg cS cW) : DMt P w K mg base cW "undo" 1 (F_Well_undo cW) := by
  obtain ⟨f, hm, fd, Ff, hb⟩ := T.f_Well_undo
  exact ⟨f, fd, _, _, hm, hb, fnP_fnM (N := N_Well_undo) (k := 0) Ff sc_Well_undo fun cdv A outer s H E hr =>
    (dss_cons (ds_if (dt_cmp (op_eqD hr.units) od_eq (de_fld T.x_Well T.a_Well_past (de_var (pv 0))) (de_lst da_nil) (nomark _))
    (dss_one (ds_raise rfl (takes_of rfl rfl rfl rfl) T.c_NothingToUndo))
    dss_nil)
    (dss_one (ds_fld T.x_Well T.a_Well_now (de_var (pv 0)) (de_pop (de_fld T.x_Well T.a_Well_past (de_var (pv 0))))))), rfl⟩
theorem sc_Well___len__ : FnScope N_Well___len__ ["self"] (defScope s_Well___len__) := ⟨rfl, rfl, rfl, by decide +kernel, rfl, by decide +kernel, by decide +kernel⟩
theorem ok_Well___len__ (T : Top K mg cS cW) : DSp P w K mg base cW "__len__" 1 (F_Well___len__ cW) := by
  obtain ⟨f, h1, fd, Ff, hb⟩ := T.f_Well___len__
  exact ⟨f, h1, FnR_num (FnR_of (fnP_fnM (N := N_Well___len__) (k := 0) Ff sc_Well___len__ fun cdv A outer s H E hr =>
    (dss_one (ds_ret (de_callB call_len cd_len rfl T.m_len b_len (da_cons (de_fld T.x_Well T.a_Well_past (de_var (pv 0))) da_nil))))) hb)⟩
theorem sc_Snail_source : FnScope N_Snail_source ["self"] (defScope s_Snail_source) := ⟨rfl, rfl, rfl, by decide +kernel, rfl, by decide +kernel, by decide +kernel⟩
theorem ok_Snail_source (T : Top K mg cS cW) : DProp P w K mg base cS "source" 1 (F_Snail_source cS) := by
  obtain ⟨p, f, hp, fd, Ff, hb⟩ := T.f_Snail_source
  exact ⟨p, f, fd, _, hp, hb, fnP_fnM (N := N_Snail_source) (k := 0) Ff sc_Snail_source fun cdv A outer s H E hr =>
    (dss_one (ds_ret (de_fld T.x_Snail T.a_Snail_base (de_var (pv 0)))))⟩
theorem sc_Snail_base_of : FnScope N_Snail_base_of ["self", "other"] (defScope s_Snail_base_of) := ⟨rfl, rfl, rfl, by decide +kernel, rfl, by decide +kernel, by decide +kernel⟩
theorem ok_Snail_base_of (T : Top K mg cS cW) : DMt P w K mg base cS "base_of" 1 (F_Snail_base_of cS) := by
  obtain ⟨f, hm, fd, Ff, hb⟩ := T.f_Snail_base_of
  exact ⟨f, fd, _, _, hm, hb, fnP_fnM (N := N_Snail_base_of) (k := 0) Ff sc_Snail_base_of fun cdv A outer s H E hr =>
    (dss_cons (ds_if (dt_not (dt_truth (de_isC T.i_Snail T.m_isinstance T.n_Snail (de_var (pv 1))) (by intro _; rfl)))
    (dss_one (ds_raise rfl (takes_of rfl rfl rfl rfl) T.c_Unlike))
    dss_nil)
    (dss_one (ds_ret (de_fld T.x_Snail T.a_Snail_base (de_var (pv 1)))))), rfl⟩
theorem sc_Snail___len__ : FnScope N_Snail___len__ ["self"] (defScope s_Snail___len__) := ⟨rfl, rfl, rfl, by decide +kernel, rfl, by decide +kernel, by decide +kernel⟩
theorem ok_Snail___len__ (T : Top K mg cS cW) : DSp P w K mg base cS "__len__" 1 (F_Snail___len__ cS) := by
  obtain ⟨f, h1, fd, Ff, hb⟩ := T.f_Snail___len__
  exact ⟨f, h1, FnR_num (FnR_of (fnP_fnM (N := N_Snail___len__) (k := 0) Ff sc_Snail___len__ fun cdv A outer s H E hr =>
    (dss_one (ds_ret (de_callB call_len cd_len rfl T.m_len b_len (da_cons (de_idx (de_fld T.x_Snail T.a_Snail_base (de_var (pv 0))) de_int) da_nil))))) hb)⟩
theorem sc_Snail___eq__ : FnScope N_Snail___eq__ ["self", "other"] (defScope s_Snail___eq__) := ⟨rfl, rfl, rfl, by decide +kernel, rfl, by decide +kernel, by decide +kernel⟩
theorem ok_Snail___eq__ (T : Top K mg cS cW) : DSp P w K mg base cS "__eq__" 1 (F_Snail___eq__ cS) := by
  obtain ⟨f, h1, fd, Ff, hb⟩ := T.f_Snail___eq__
  exact ⟨f, h1, FnR_num (FnR_of (fnP_fnM (N := N_Snail___eq__) (k := 0) Ff sc_Snail___eq__ fun cdv A outer s H E hr =>
    (dss_one (ds_ret (de_and (de_isC T.i_Snail T.m_isinstance T.n_Snail (de_var (pv 1))) (de_one (de_cmp (op_eqD hr.units) od_eq (de_fld T.x_Snail T.a_Snail_base (de_var (pv 0))) (de_fld T.x_Snail T.a_Snail_base (de_var (pv 1))) (nomark _))))))) hb)⟩
theorem sc_is_number : FnScope N_is_number ["value", "least", "most"] (defScope s_is_number) := ⟨rfl, rfl, rfl, by decide +kernel, rfl, by decide +kernel, by decide +kernel⟩
theorem ok_is_number (T : Top K mg cS cW) : DFn P w K mg base "is_number" ["value", "least", "most"] 1 F_is_number := by
  obtain ⟨f, fd, hm, Ff, hb⟩ := T.d_is_number
  exact fnP_ok (N := N_is_number) (k := 0) hm Ff hb sc_is_number fun cdv A outer s H E hr =>
    (dss_one (ds_ret (de_and (de_isi 2 (by decide) b_int T.m_isinstance T.m_int (de_var (pv 0))) (de_and (de_not (de_isi 1 (by decide) b_bool T.m_isinstance T.m_bool (de_var (pv 0)))) (de_one (de_chain op_le op_le od_le od_le (de_var (pv 1)) (de_var (pv 0)) (de_var (pv 2))))))))
theorem sc_is_tuple : FnScope N_is_tuple ["value", "least", "most"] (defScope s_is_tuple) := ⟨rfl, rfl, rfl, by decide +kernel, rfl, by decide +kernel, by decide +kernel⟩
theorem ok_is_tuple (T : Top K mg cS cW) : DFn P w K mg base "is_tuple" ["value", "least", "most"] 1 F_is_tuple := by
  obtain ⟨f, fd, hm, Ff, hb⟩ := T.d_is_tuple
  exact fnP_ok (N := N_is_tuple) (k := 0) hm Ff hb sc_is_tuple fun cdv A outer s H E hr =>
    (dss_one (ds_ret (de_and (de_isi 4 (by decide) b_tuple T.m_isinstance T.m_tuple (de_var (pv 0))) (de_one (de_chain op_le op_le od_le od_le (de_var (pv 1)) (de_callB call_len cd_len rfl T.m_len b_len (da_cons (de_var (pv 0)) da_nil)) (de_var (pv 2)))))))
theorem sc_stepped : FnScope N_stepped ["height", "step"] (defScope s_stepped) := ⟨rfl, rfl, rfl, by decide +kernel, rfl, by decide +kernel, by decide +kernel⟩
theorem ok_stepped (T : Top K mg cS cW) : DFn P w K mg base "stepped" ["height", "step"] 1 F_stepped := by
  obtain ⟨f, fd, hm, Ff, hb⟩ := T.d_stepped
  exact fnP_ok (N := N_stepped) (k := 0) hm Ff hb sc_stepped fun cdv A outer s H E hr =>
    (dss_one (ds_ret (de_if (dt_cmp op_gt od_gt (de_add (de_var (pv 0)) (de_var (pv 1))) de_int (nomark _)) (de_add (de_var (pv 0)) (de_var (pv 1))) de_int)))
theorem sc_lowest_sum : FnScope N_lowest_sum ["steps"] (defScope s_lowest_sum) := ⟨rfl, rfl, rfl, by decide +kernel, rfl, by decide +kernel, by decide +kernel⟩
theorem ok_lowest_sum (T : Top K mg cS cW) : DFn P w K mg base "lowest_sum" ["steps"] 1 F_lowest_sum := by
  obtain ⟨f, fd, hm, Ff, hb⟩ := T.d_lowest_sum
  exact fnP_ok (N := N_lowest_sum) (k := 0) hm Ff hb sc_lowest_sum fun cdv A outer s H E hr =>
    (dss_cons (ds_asg (de_tup (da_cons de_int (da_cons de_int da_nil))) (dg_tup rfl (dgs_cons (dg_name (i := 1) sc_lowest_sum.nd) (dgs_cons (dg_name (i := 2) sc_lowest_sum.nd) dgs_nil))))
    (dss_cons (ds_for (passes_of rfl) rfl (di_seq (de_var (pv 0))) (dg_name (i := 3) sc_lowest_sum.nd)
    (dss_cons (ds_set (i := 1) sc_lowest_sum.nd (de_add (de_var (pv 1)) (de_var (pv 3))))
    (dss_one (ds_set (i := 2) sc_lowest_sum.nd (de_if (dt_cmp op_lt od_lt (de_var (pv 1)) (de_var (pv 2)) (nomark _)) (de_var (pv 1)) (de_var (pv 2)))))))
    (dss_one (ds_ret (de_var (pv 2))))))
theorem sc_least_turn : FnScope N_least_turn ["items", "rise"] (defScope s_least_turn) := ⟨rfl, rfl, rfl, by decide +kernel, rfl, by decide +kernel, by decide +kernel⟩
theorem ok_least_turn (T : Top K mg cS cW) : DFn P w K mg base "least_turn" ["items", "rise"] 1 F_least_turn := by
  obtain ⟨f, fd, hm, Ff, hb⟩ := T.d_least_turn
  exact fnP_ok (N := N_least_turn) (k := 0) hm Ff hb sc_least_turn fun cdv A outer s H E hr =>
    (dss_cons (ds_set (i := 2) sc_least_turn.nd (de_callB call_len cd_len rfl T.m_len b_len (da_cons (de_var (pv 0)) da_nil)))
    (dss_cons (ds_for (passes_of rfl) rfl (di_rng2 rfl T.m_range (da_cons de_int (da_cons (de_add (de_var (pv 2)) de_int) da_nil))) (dg_name (i := 3) sc_least_turn.nd)
    (dss_one (ds_if (dt_w (dw_and (dt_cmp (op_eqD hr.units) od_eq (de_mod (de_var (pv 2)) (de_var (pv 3))) de_int (nomark _)) (dw_and1 (dt_cmp (op_eqD hr.units) od_eq (de_mod (de_mul (de_var (pv 1)) (de_var (pv 3))) (de_var (pv 2))) de_int (nomark _)))))
    (dss_cons (ds_set (i := 4) sc_least_turn.nd (de_div (de_mul (de_var (pv 1)) (de_var (pv 3))) (de_var (pv 2))))
    (dss_cons (ds_set (i := 5) sc_least_turn.nd (de_add (de_slice (de_var (pv 0)) (do_some (de_var (pv 3))) do_none) (de_lc (own := [(("item" : Str), 6)]) (c := (.nm 6)) rfl sc_least_turn.nd (di_seq (de_slice (de_var (pv 0)) do_none (do_some (de_var (pv 3))))) (blkOk_by (N := N_least_turn) (sc := defScope s_least_turn) (by decide +kernel)) (by decide) (fun _ _ _ _ _ => (pg_name (i := 6) sc_least_turn.nd rfl (Or.inl rfl))) (fun _ _ _ _ _ => dts_nil) (fun _ _ _ _ _ => (de_add (de_var (pv 6)) (de_var (pv 1)))))))
    (dss_one (ds_if (dt_cmp (op_eqD hr.units) od_eq (de_var (pv 5)) (de_lc (own := [(("item" : Str), 6)]) (c := (.nm 6)) rfl sc_least_turn.nd (di_seq (de_var (pv 0))) (blkOk_by (N := N_least_turn) (sc := defScope s_least_turn) (by decide +kernel)) (by decide) (fun _ _ _ _ _ => (pg_name (i := 6) sc_least_turn.nd rfl (Or.inl rfl))) (fun _ _ _ _ _ => dts_nil) (fun _ _ _ _ _ => (de_add (de_var (pv 6)) (de_var (pv 4))))) (nomark _))
    (dss_one (ds_ret (de_var (pv 3))))
    dss_nil))))
    dss_nil)))
    (dss_one (ds_ret (de_var (pv 2))))))
theorem sc_minute_in : FnScope N_minute_in ["told", "depth"] (defScope s_minute_in) := ⟨rfl, rfl, rfl, by decide +kernel, rfl, by decide +kernel, by decide +kernel⟩
theorem ok_minute_in (T : Top K mg cS cW) : DFn P w K mg base "minute_in" ["told", "depth"] 1 F_minute_in := by
  obtain ⟨f, fd, hm, Ff, hb⟩ := T.d_minute_in
  exact fnP_ok (N := N_minute_in) (k := 0) hm Ff hb sc_minute_in fun cdv A outer s H E hr =>
    (dss_cons (ds_asg (de_var (pv 0)) (dg_tup rfl (dgs_cons (dg_name (i := 2) sc_minute_in.nd) (dgs_cons (dg_name (i := 3) sc_minute_in.nd) (dgs_cons (dg_name (i := 4) sc_minute_in.nd) dgs_nil)))))
    (dss_cons (ds_if (dt_cmp op_le od_le (de_var (pv 1)) (de_callB call_len cd_len rfl T.m_len b_len (da_cons (de_var (pv 2)) da_nil)) (nomark _))
    (dss_one (ds_ret (de_idx (de_var (pv 2)) (de_sub (de_var (pv 1)) de_int))))
    dss_nil)
    (dss_cons (ds_set (i := 5) sc_minute_in.nd (de_sub (de_sub (de_var (pv 1)) de_int) (de_callB call_len cd_len rfl T.m_len b_len (da_cons (de_var (pv 2)) da_nil))))
    (dss_cons (ds_set (i := 6) sc_minute_in.nd (de_idx (de_var (pv 3)) (de_mod (de_var (pv 5)) (de_callB call_len cd_len rfl T.m_len b_len (da_cons (de_var (pv 3)) da_nil)))))
    (dss_one (ds_ret (de_if (dt_cmp op_isN od_isN (de_var (pv 6)) de_non (nomark _)) de_non (de_add (de_var (pv 6)) (de_mul (de_div (de_var (pv 5)) (de_callB call_len cd_len rfl T.m_len b_len (da_cons (de_var (pv 3)) da_nil))) (de_var (pv 4)))))))))))
theorem sc_divisor : FnScope N_divisor ["one", "other"] (defScope s_divisor) := ⟨rfl, rfl, rfl, by decide +kernel, rfl, by decide +kernel, by decide +kernel⟩
theorem ok_divisor (T : Top K mg cS cW) : DFn P w K mg base "divisor" ["one", "other"] 1 F_divisor := by
  obtain ⟨f, fd, hm, Ff, hb⟩ := T.d_divisor
  exact fnP_ok (N := N_divisor) (k := 0) hm Ff hb sc_divisor fun cdv A outer s H E hr =>
    (dss_cons (ds_while 4096 (passes_of rfl) (dt_cmp (op_neD hr.units) od_ne (de_var (pv 1)) de_int (nomark _))
    (dss_one (ds_par (i := 0) (j := 1) rfl sc_divisor.nd (de_var (pv 1)) (de_mod (de_var (pv 0)) (de_var (pv 1))))))
    (dss_one (ds_ret (de_var (pv 0)))))
theorem sc_rise_in : FnScope N_rise_in ["told", "turn"] (defScope s_rise_in) := ⟨rfl, rfl, rfl, by decide +kernel, rfl, by decide +kernel, by decide +kernel⟩
theorem ok_rise_in (T : Top K mg cS cW) : DFn P w K mg base "rise_in" ["told", "turn"] 1 F_rise_in := by
  obtain ⟨f, fd, hm, Ff, hb⟩ := T.d_rise_in
  exact fnP_ok (N := N_rise_in) (k := 0) hm Ff hb sc_rise_in fun cdv A outer s H E hr =>
    (dss_one (ds_ret (de_mul (de_idx (de_var (pv 0)) de_int) (de_div (de_var (pv 1)) (de_callB call_len cd_len rfl T.m_len b_len (da_cons (de_idx (de_var (pv 0)) de_int) da_nil))))))
theorem sc_is_endless : FnScope N_is_endless ["told"] (defScope s_is_endless) := ⟨rfl, rfl, rfl, by decide +kernel, rfl, by decide +kernel, by decide +kernel⟩
theorem ok_is_endless (T : Top K mg cS cW) : DFn P w K mg base "is_endless" ["told"] 1 F_is_endless := by
  obtain ⟨f, fd, hm, Ff, hb⟩ := T.d_is_endless
  exact fnP_ok (N := N_is_endless) (k := 0) hm Ff hb sc_is_endless fun cdv A outer s H E hr =>
    (dss_one (ds_ret (de_cmp (op_neD hr.units) od_ne (de_idx (de_var (pv 0)) de_int) (de_tup (da_cons de_non da_nil)) (nomark _))))
theorem sc_shortened : FnScope N_shortened ["early", "again"] (defScope s_shortened) := ⟨rfl, rfl, rfl, by decide +kernel, rfl, by decide +kernel, by decide +kernel⟩
theorem ok_shortened (T : Top K mg cS cW) : DFn P w K mg base "shortened" ["early", "again"] 1 F_shortened := by
  obtain ⟨f, fd, hm, Ff, hb⟩ := T.d_shortened
  exact fnP_ok (N := N_shortened) (k := 0) hm Ff hb sc_shortened fun cdv A outer s H E hr =>
    (dss_cons (ds_set (i := 2) sc_shortened.nd (de_callB call_len cd_len rfl T.m_len b_len (da_cons (de_var (pv 1)) da_nil)))
    (dss_cons (ds_set (i := 3) sc_shortened.nd (de_callB (call_minD rfl) cd_min rfl T.m_min b_min (da_cons (de_lc (own := [(("size" : Str), 6)]) (c := (.nm 6)) rfl sc_shortened.nd (di_rng2 rfl T.m_range (da_cons de_int (da_cons (de_add (de_var (pv 2)) de_int) da_nil))) (blkOk_by (N := N_shortened) (sc := defScope s_shortened) (by decide +kernel)) (by decide) (fun _ _ _ _ _ => (pg_name (i := 6) sc_shortened.nd rfl (Or.inl rfl))) (fun _ _ _ _ _ => (dts_one (dt_w (dw_and (dt_cmp (op_eqD hr.units) od_eq (de_mod (de_var (pv 2)) (de_var (pv 6))) de_int (nomark _)) (dw_and1 (dt_cmp (op_eqD hr.units) od_eq (de_add (de_slice (de_var (pv 1)) (do_some (de_var (pv 6))) do_none) (de_slice (de_var (pv 1)) do_none (do_some (de_var (pv 6))))) (de_var (pv 1)) (nomark _))))))) (fun _ _ _ _ _ => (de_var (pv 6)))) da_nil)))
    (dss_cons (ds_asg (de_tup (da_cons (de_slice (de_var (pv 1)) do_none (do_some (de_var (pv 3)))) (da_cons de_int da_nil))) (dg_tup rfl (dgs_cons (dg_name (i := 1) sc_shortened.nd) (dgs_cons (dg_name (i := 4) sc_shortened.nd) dgs_nil))))
    (dss_cons (ds_while 20000000 (passes_of rfl) (dt_w (dw_and (dt_cmp op_lt od_lt (de_var (pv 4)) (de_callB call_len cd_len rfl T.m_len b_len (da_cons (de_var (pv 0)) da_nil)) (nomark _)) (dw_and1 (dt_cmp (op_eqD hr.units) od_eq (de_idx (de_var (pv 0)) (de_sub (de_sub (de_callB call_len cd_len rfl T.m_len b_len (da_cons (de_var (pv 0)) da_nil)) de_int) (de_var (pv 4)))) (de_idx (de_var (pv 1)) (de_mod (de_sub (de_sub (de_var (pv 3)) de_int) (de_var (pv 4))) (de_var (pv 3)))) (nomark _)))))
    (dss_one (ds_set (i := 4) sc_shortened.nd (de_add (de_var (pv 4)) de_int))))
    (dss_cons (ds_set (i := 5) sc_shortened.nd (de_sub (de_var (pv 3)) (de_mod (de_var (pv 4)) (de_var (pv 3)))))
    (dss_one (ds_ret (de_tup (da_cons (de_callTy call_tuple_of cd_tuple rfl T.m_tuple b_tuple (da_cons (de_slice (de_var (pv 0)) do_none (do_some (de_sub (de_callB call_len cd_len rfl T.m_len b_len (da_cons (de_var (pv 0)) da_nil)) (de_var (pv 4))))) da_nil)) (da_cons (de_callTy call_tuple_of cd_tuple rfl T.m_tuple b_tuple (da_cons (de_add (de_slice (de_var (pv 1)) (do_some (de_var (pv 5))) do_none) (de_slice (de_var (pv 1)) do_none (do_some (de_var (pv 5))))) da_nil)) da_nil))))))))))
theorem sc_first_of : FnScope N_first_of ["minutes"] (defScope s_first_of) := ⟨rfl, rfl, rfl, by decide +kernel, rfl, by decide +kernel, by decide +kernel⟩
theorem ok_first_of (T : Top K mg cS cW) : DFn P w K mg base "first_of" ["minutes"] 1 F_first_of := by
  obtain ⟨f, fd, hm, Ff, hb⟩ := T.d_first_of
  exact fnP_ok (N := N_first_of) (k := 0) hm Ff hb sc_first_of fun cdv A outer s H E hr =>
    (dss_cons (ds_set (i := 1) sc_first_of.nd (de_lc (own := [(("minute" : Str), 2)]) (c := (.nm 2)) rfl sc_first_of.nd (di_seq (de_var (pv 0))) (blkOk_by (N := N_first_of) (sc := defScope s_first_of) (by decide +kernel)) (by decide) (fun _ _ _ _ _ => (pg_name (i := 2) sc_first_of.nd rfl (Or.inl rfl))) (fun _ _ _ _ _ => (dts_one (dt_cmp op_notN od_notN (de_var (pv 2)) de_non (nomark _)))) (fun _ _ _ _ _ => (de_callTy call_int1 cd_int rfl T.m_int b_int (da_cons (de_var (pv 2)) da_nil)))))
    (dss_cons (ds_if (dt_cmp (op_eqD hr.units) od_eq (de_var (pv 1)) (de_lst da_nil) (nomark _))
    (dss_one (ds_ret (de_tup da_nil)))
    dss_nil)
    (dss_one (ds_ret (de_callTy call_tuple_of cd_tuple rfl T.m_tuple b_tuple (da_cons (de_lc (own := [(("index" : Str), 3), (("minute" : Str), 2)]) (c := (.tp [3, 2])) rfl sc_first_of.nd (di_enum rfl T.m_enumerate (da_cons (de_var (pv 0)) da_nil)) (blkOk_by (N := N_first_of) (sc := defScope s_first_of) (by decide +kernel)) (by decide) (fun _ _ _ _ _ => (pg_tup rfl (pgs_cons (pg_name (i := 3) sc_first_of.nd rfl (Or.inl rfl)) (pgs_cons (pg_name (i := 2) sc_first_of.nd rfl (Or.inl rfl)) pgs_nil)))) (fun _ _ _ _ _ => (dts_one (dt_cmp (op_eqD hr.units) od_eq (de_var (pv 2)) (de_callB (call_minD rfl) cd_min rfl T.m_min b_min (da_cons (de_var (pv 1)) da_nil)) (nomark _)))) (fun _ _ _ _ _ => (de_var (pv 3)))) da_nil))))))
theorem sc_is_later : FnScope N_is_later ["minute", "other"] (defScope s_is_later) := ⟨rfl, rfl, rfl, by decide +kernel, rfl, by decide +kernel, by decide +kernel⟩
theorem ok_is_later (T : Top K mg cS cW) : DFn P w K mg base "is_later" ["minute", "other"] 1 F_is_later := by
  obtain ⟨f, fd, hm, Ff, hb⟩ := T.d_is_later
  exact fnP_ok (N := N_is_later) (k := 0) hm Ff hb sc_is_later fun cdv A outer s H E hr =>
    (dss_one (ds_ret (de_and (de_cmp op_notN od_notN (de_var (pv 1)) de_non (nomark _)) (de_one (de_or (de_cmp op_isN od_isN (de_var (pv 0)) de_non (nomark _)) (de_one (de_cmp op_gt od_gt (de_var (pv 0)) (de_var (pv 1)) (nomark _))))))))
theorem sc_word_of : FnScope N_word_of ["far"] (defScope s_word_of) := ⟨rfl, rfl, rfl, by decide +kernel, rfl, by decide +kernel, by decide +kernel⟩
theorem ok_word_of (T : Top K mg cS cW) : DFn P w K mg base "word_of" ["far"] 1 F_word_of := by
  obtain ⟨f, fd, hm, Ff, hb⟩ := T.d_word_of
  exact fnP_ok (N := N_word_of) (k := 0) hm Ff hb sc_word_of fun cdv A outer s H E hr =>
    (dss_one (ds_ret (de_if (dt_cmp op_gt od_gt (de_var (pv 0)) de_int (nomark _)) de_str (de_if (dt_cmp op_lt od_lt (de_var (pv 0)) de_int (nomark _)) de_str de_str))))
theorem sc_with_round : FnScope N_with_round ["snail", "steps"] (defScope s_with_round) := ⟨rfl, rfl, rfl, by decide +kernel, rfl, by decide +kernel, by decide +kernel⟩
theorem ok_with_round (T : Top K mg cS cW) : DFn P w K mg base "with_round" ["snail", "steps"] 1 F_with_round := by
  obtain ⟨f, fd, hm, Ff, hb⟩ := T.d_with_round
  exact fnP_ok (N := N_with_round) (k := 0) hm Ff hb sc_with_round fun cdv A outer s H E hr =>
    (dss_one (ds_ret (de_tup (da_cons (de_idx (de_var (pv 0)) de_int) (da_cons (de_idx (de_var (pv 0)) de_int) (da_cons (de_var (pv 1)) da_nil))))))
theorem sc_without : FnScope N_without ["steps", "index"] (defScope s_without) := ⟨rfl, rfl, rfl, by decide +kernel, rfl, by decide +kernel, by decide +kernel⟩
theorem ok_without (T : Top K mg cS cW) : DFn P w K mg base "without" ["steps", "index"] 1 F_without := by
  obtain ⟨f, fd, hm, Ff, hb⟩ := T.d_without
  exact fnP_ok (N := N_without) (k := 0) hm Ff hb sc_without fun cdv A outer s H E hr =>
    (dss_one (ds_ret (de_add (de_slice (de_var (pv 0)) do_none (do_some (de_var (pv 1)))) (de_slice (de_var (pv 0)) (do_some (de_add (de_var (pv 1)) de_int)) do_none))))
theorem sc_exchanged : FnScope N_exchanged ["steps", "index"] (defScope s_exchanged) := ⟨rfl, rfl, rfl, by decide +kernel, rfl, by decide +kernel, by decide +kernel⟩
theorem ok_exchanged (T : Top K mg cS cW) : DFn P w K mg base "exchanged" ["steps", "index"] 1 F_exchanged := by
  obtain ⟨f, fd, hm, Ff, hb⟩ := T.d_exchanged
  exact fnP_ok (N := N_exchanged) (k := 0) hm Ff hb sc_exchanged fun cdv A outer s H E hr =>
    (dss_one (ds_ret (de_add (de_add (de_slice (de_var (pv 0)) do_none (do_some (de_var (pv 1)))) (de_tup (da_cons (de_idx (de_var (pv 0)) (de_add (de_var (pv 1)) de_int)) (da_cons (de_idx (de_var (pv 0)) (de_var (pv 1))) da_nil)))) (de_slice (de_var (pv 0)) (do_some (de_add (de_var (pv 1)) de_int)) do_none))))
theorem sc_started : FnScope N_started ["snail", "start"] (defScope s_started) := ⟨rfl, rfl, rfl, by decide +kernel, rfl, by decide +kernel, by decide +kernel⟩
theorem ok_started (T : Top K mg cS cW) : DFn P w K mg base "started" ["snail", "start"] 1 F_started := by
  obtain ⟨f, fd, hm, Ff, hb⟩ := T.d_started
  exact fnP_ok (N := N_started) (k := 0) hm Ff hb sc_started fun cdv A outer s H E hr =>
    (dss_one (ds_ret (de_add (de_tup (da_cons (de_var (pv 1)) da_nil)) (de_slice (de_var (pv 0)) (do_some de_int) do_none))))
theorem sc_both : FnScope N_both ["one", "other"] (defScope s_both) := ⟨rfl, rfl, rfl, by decide +kernel, rfl, by decide +kernel, by decide +kernel⟩
theorem ok_both (T : Top K mg cS cW) : DFn P w K mg base "both" ["one", "other"] 1 F_both := by
  obtain ⟨f, fd, hm, Ff, hb⟩ := T.d_both
  exact fnP_ok (N := N_both) (k := 0) hm Ff hb sc_both fun cdv A outer s H E hr =>
    (dss_cons (ds_if (dt_w (dw_or (dt_cmp op_isN od_isN (de_var (pv 0)) de_non (nomark _)) (dw_or1 (dt_cmp op_isN od_isN (de_var (pv 1)) de_non (nomark _)))))
    (dss_one (ds_ret de_non))
    dss_nil)
    (dss_cons (ds_set (i := 2) sc_both.nd (de_if (dt_cmp op_gt od_gt (de_idx (de_var (pv 0)) de_int) (de_idx (de_var (pv 1)) de_int) (nomark _)) (de_idx (de_var (pv 0)) de_int) (de_idx (de_var (pv 1)) de_int)))
    (dss_cons (ds_set (i := 3) sc_both.nd (de_if (dt_cmp op_isN od_isN (de_idx (de_var (pv 1)) de_int) de_non (nomark _)) (de_idx (de_var (pv 0)) de_int) (de_idx (de_var (pv 1)) de_int)))
    (dss_cons (ds_if (dt_w (dw_and (dt_cmp op_notN od_notN (de_idx (de_var (pv 0)) de_int) de_non (nomark _)) (dw_and (dt_cmp op_notN od_notN (de_idx (de_var (pv 1)) de_int) de_non (nomark _)) (dw_and1 (dt_cmp op_lt od_lt (de_idx (de_var (pv 0)) de_int) (de_idx (de_var (pv 1)) de_int) (nomark _))))))
    (dss_one (ds_set (i := 3) sc_both.nd (de_idx (de_var (pv 0)) de_int)))
    dss_nil)
    (dss_one (ds_ret (de_if (dt_w (dw_or (dt_cmp op_isN od_isN (de_var (pv 3)) de_non (nomark _)) (dw_or1 (dt_cmp op_le od_le (de_var (pv 2)) (de_var (pv 3)) (nomark _))))) (de_tup (da_cons (de_var (pv 2)) (da_cons (de_var (pv 3)) da_nil))) de_non)))))))
theorem sc_words_of : FnScope N_words_of ["snail"] (defScope s_words_of) := ⟨rfl, rfl, rfl, by decide +kernel, rfl, by decide +kernel, by decide +kernel⟩
theorem ok_words_of (T : Top K mg cS cW) : DFn P w K mg base "words_of" ["snail"] 1 F_words_of := by
  obtain ⟨f, fd, hm, Ff, hb⟩ := T.d_words_of
  exact fnP_ok (N := N_words_of) (k := 0) hm Ff hb sc_words_of fun cdv A outer s H E hr =>
    (dss_cons (ds_asg (de_var (pv 0)) (dg_tup rfl (dgs_cons (dg_name (i := 1) sc_words_of.nd) (dgs_cons (dg_name (i := 2) sc_words_of.nd) (dgs_cons (dg_name (i := 3) sc_words_of.nd) dgs_nil)))))
    (dss_one (ds_ret (de_add (de_lst (da_cons de_str (da_cons (de_callTy call_strD cd_str rfl T.m_str b_str (da_cons (de_var (pv 1)) da_nil)) (da_cons (de_callTy call_strD cd_str rfl T.m_str b_str (da_cons (de_var (pv 2)) da_nil)) da_nil)))) (de_lc (own := [(("step" : Str), 4)]) (c := (.nm 4)) rfl sc_words_of.nd (di_seq (de_var (pv 3))) (blkOk_by (N := N_words_of) (sc := defScope s_words_of) (by decide +kernel)) (by decide) (fun _ _ _ _ _ => (pg_name (i := 4) sc_words_of.nd rfl (Or.inl rfl))) (fun _ _ _ _ _ => dts_nil) (fun _ _ _ _ _ => (de_callTy call_strD cd_str rfl T.m_str b_str (da_cons (de_var (pv 4)) da_nil))))))))
theorem sc_number_in : FnScope N_number_in ["word"] (defScope s_number_in) := ⟨rfl, rfl, rfl, by decide +kernel, rfl, by decide +kernel, by decide +kernel⟩
theorem ok_number_in (T : Top K mg cS cW) : DFn P w K mg base "number_in" ["word"] 1 F_number_in := by
  obtain ⟨f, fd, hm, Ff, hb⟩ := T.d_number_in
  exact fnP_ok (N := N_number_in) (k := 0) hm Ff hb sc_number_in fun cdv A outer s H E hr =>
    (dss_cons (ds_if (dt_w (dw_or (dt_cmp (op_eqD hr.units) od_eq (de_var (pv 0)) de_str (nomark _)) (dw_or (dt_cmp op_gt od_gt (de_callB call_len cd_len rfl T.m_len b_len (da_cons (de_var (pv 0)) da_nil)) de_int (nomark _)) (dw_or1 (dt_not (dt_truth (de_callB (cr_all rfl) cd_all rfl T.m_all b_all (da_cons (de_lc (own := [(("sign" : Str), 1)]) (c := (.nm 1)) rfl sc_number_in.nd (di_str (de_var (pv 0))) (blkOk_by (N := N_number_in) (sc := defScope s_number_in) (by decide +kernel)) (by decide) (fun _ _ _ _ _ => (pg_name (i := 1) sc_number_in.nd rfl (Or.inl rfl))) (fun _ _ _ _ _ => dts_nil) (fun _ _ _ _ _ => (de_cmp op_in_str od_inS (de_var (pv 1)) de_str (by with_unfolding_all rfl)))) da_nil)) (by intro _; rfl)))))))
    (dss_one (ds_ret de_non))
    dss_nil)
    (dss_one (ds_ret (de_if (dt_cmp (op_eqD hr.units) od_eq (de_callTy call_strD cd_str rfl T.m_str b_str (da_cons (de_callTy call_int_str cd_intT rfl T.m_int b_int (da_cons (de_var (pv 0)) da_nil)) da_nil)) (de_var (pv 0)) (nomark _)) (de_callTy call_int_str cd_intT rfl T.m_int b_int (da_cons (de_var (pv 0)) da_nil)) de_non))))
theorem sc__law_source : FnScope N__law_source ["script", "k"] (defScope s__law_source) := ⟨rfl, rfl, rfl, by decide +kernel, rfl, by decide +kernel, by decide +kernel⟩
theorem ok__law_source (T : Top K mg cS cW) : DFn P w K mg base "_law_source" ["script", "k"] 1 F__law_source := by
  obtain ⟨f, fd, hm, Ff, hb⟩ := T.d__law_source
  exact fnQ_ok (N := N__law_source) (k := 0) hm Ff hb sc__law_source fun cdv A outer s H E hr =>
    (dss_cons (ds_set (i := 2) sc__law_source.nd de_int)
    (dss_cons (ds_if (dt_cmp op_lt od_lt (de_var (pv 1)) (de_callB call_len cd_len rfl T.m_len b_len (da_cons (de_var (pv 0)) da_nil)) (nomark _))
    (dss_one (ds_set (i := 2) sc__law_source.nd (de_callB call_abs cd_abs rfl T.m_abs b_abs (da_cons (de_callTy call_int1 cd_int rfl T.m_int b_int (da_cons (de_idx (de_var (pv 0)) (de_var (pv 1))) da_nil)) da_nil))))
    dss_nil)
    (dss_cons (ds_if (dt_cmp op_lt od_lt (de_var (pv 2)) (de_pow de_int de_int) (nomark _))
    (dss_one (ds_ret (de_newL (da_cons de_int (da_cons (de_add de_int (de_mod (de_callTy call_int1 cd_int rfl T.m_int b_int (da_cons (de_add (de_mul (de_var (pv 2)) de_int) (de_mul de_int (de_var (pv 1)))) da_nil)) de_int)) da_nil)))))
    dss_nil)
    (dss_one (ds_ret (de_newL (da_cons (de_var (pv 2)) (da_cons (de_add de_int (de_mod (de_callTy call_int1 cd_int rfl T.m_int b_int (da_cons (de_add (de_var (pv 2)) (de_var (pv 1))) da_nil)) de_int)) da_nil))))))))
theorem sc__law_draw : FnScope N__law_draw ["source", "many"] (defScope s__law_draw) := ⟨rfl, rfl, rfl, by decide +kernel, rfl, by decide +kernel, by decide +kernel⟩
theorem ok__law_draw (T : Top K mg cS cW) : DFn P w K mg base "_law_draw" ["source", "many"] 1 F__law_draw := by
  obtain ⟨f, fd, hm, Ff, hb⟩ := T.d__law_draw
  exact fnP_ok (N := N__law_draw) (k := 0) hm Ff hb sc__law_draw fun cdv A outer s H E hr =>
    (dss_cons (ds_if (dt_cmp op_gt od_gt (de_idx (de_var (pv 0)) de_int) de_int (nomark _))
    (dss_cons (ds_set (i := 2) sc__law_draw.nd (de_mod (de_callTy call_int1 cd_int rfl T.m_int b_int (da_cons (de_idx (de_var (pv 0)) de_int) da_nil)) (de_var (pv 1))))
    (dss_cons (ds_ix (de_div (de_idx (de_var (pv 0)) de_int) (de_var (pv 1))) (de_var (pv 0)) de_int)
    (dss_one (ds_ret (de_var (pv 2))))))
    dss_nil)
    (dss_cons (ds_ix (de_mod (de_callTy call_int1 cd_int rfl T.m_int b_int (da_cons (de_mul (de_idx (de_var (pv 0)) de_int) de_int) da_nil)) de_int) (de_var (pv 0)) de_int)
    (dss_one (ds_ret (de_mod (de_callTy call_int1 cd_int rfl T.m_int b_int (da_cons (de_div (de_mod (de_callTy call_int1 cd_int rfl T.m_int b_int (da_cons (de_mul (de_idx (de_var (pv 0)) de_int) (de_idx (de_var (pv 0)) de_int)) da_nil)) de_int) de_int) da_nil)) (de_var (pv 1)))))))
theorem sc__law_snails : FnScope N__law_snails [] (defScope s__law_snails) := ⟨rfl, rfl, rfl, by decide +kernel, rfl, by decide +kernel, by decide +kernel⟩
theorem ok__law_snails (T : Top K mg cS cW) : DFn P w K mg base "_law_snails" [] 1 F_k22_law_snails := by
  obtain ⟨f, fd, hm, Ff, hb⟩ := T.d__law_snails
  exact fnP_ok (N := N__law_snails) (k := 0) hm Ff hb sc__law_snails fun cdv A outer s H E hr =>
    (dss_one (ds_ret (de_tup (da_cons (de_tup (da_cons de_int (da_cons de_int (da_cons (de_tup (da_cons de_int (da_cons (de_neg de_int) da_nil))) da_nil)))) (da_cons (de_tup (da_cons de_int (da_cons de_int (da_cons (de_tup (da_cons de_int da_nil)) da_nil)))) (da_cons (de_tup (da_cons de_int (da_cons de_int (da_cons (de_tup (da_cons de_int (da_cons (de_neg de_int) da_nil))) da_nil)))) (da_cons (de_tup (da_cons de_int (da_cons de_int (da_cons (de_tup (da_cons de_int (da_cons de_int (da_cons (de_neg de_int) da_nil)))) da_nil)))) (da_cons (de_tup (da_cons de_int (da_cons de_int (da_cons (de_tup (da_cons de_int (da_cons de_int (da_cons (de_neg de_int) da_nil)))) da_nil)))) da_nil))))))))
theorem sc_Snail___contains__ : FnScope N_Snail___contains__ ["self", "value"] (defScope s_Snail___contains__) := ⟨rfl, rfl, rfl, by decide +kernel, rfl, by decide +kernel, by decide +kernel⟩
theorem ok_Snail___contains__ (T : Top K mg cS cW) : DSp P w K mg base cS "__contains__" 2 (F_Snail___contains__ cS) := by
  obtain ⟨f, h1, fd, Ff, hb⟩ := T.f_Snail___contains__
  exact ⟨f, h1, FnR_num (FnR_of (fnP_fnM (N := N_Snail___contains__) (k := 1) Ff sc_Snail___contains__ fun cdv A outer s H E hr =>
    (dss_one (ds_ret (de_and (de_call (ok_is_number (P := P) (w := w) (base := base) T) (hr.mono (by decide)) (takes_of rfl rfl rfl rfl) (da_cons (de_var (pv 1)) (da_cons (de_neg de_int) (da_cons de_int da_nil)))) (de_one (de_cmp (op_inA hr) od_in (de_var (pv 1)) (de_idx (de_fld T.x_Snail T.a_Snail_base (de_var (pv 0))) de_int) (by with_unfolding_all rfl))))))) hb)⟩
theorem sc_Snail___str__ : FnScope N_Snail___str__ ["self"] (defScope s_Snail___str__) := ⟨rfl, rfl, rfl, by decide +kernel, rfl, by decide +kernel, by decide +kernel⟩
theorem ok_Snail___str__ (T : Top K mg cS cW) : DStr P w K mg base cS 2 (F_Snail___str__ cS) := by
  obtain ⟨f, h1, h2, fd, Ff, hb⟩ := T.f_Snail___str__
  exact ⟨f, h1, h2, FnR_num (FnR_of (fnP_fnM (N := N_Snail___str__) (k := 1) Ff sc_Snail___str__ fun cdv A outer s H E hr =>
    (dss_one (ds_ret (de_join de_str (da_cons (de_call (ok_words_of (P := P) (w := w) (base := base) T) (hr.mono (by decide)) (takes_of rfl rfl rfl rfl) (da_cons (de_fld T.x_Snail T.a_Snail_base (de_var (pv 0))) da_nil)) da_nil))))) hb)⟩
theorem sc_is_round : FnScope N_is_round ["value"] (defScope s_is_round) := ⟨rfl, rfl, rfl, by decide +kernel, rfl, by decide +kernel, by decide +kernel⟩
theorem ok_is_round (T : Top K mg cS cW) : DFn P w K mg base "is_round" ["value"] 2 F_is_round := by
  obtain ⟨f, fd, hm, Ff, hb⟩ := T.d_is_round
  exact fnP_ok (N := N_is_round) (k := 1) hm Ff hb sc_is_round fun cdv A outer s H E hr =>
    (dss_one (ds_ret (de_and (de_call (ok_is_tuple (P := P) (w := w) (base := base) T) (hr.mono (by decide)) (takes_of rfl rfl rfl rfl) (da_cons (de_var (pv 0)) (da_cons de_int (da_cons de_int da_nil)))) (de_one (de_callB (cr_all rfl) cd_all rfl T.m_all b_all (da_cons (de_lc (own := [(("step" : Str), 1)]) (c := (.nm 1)) rfl sc_is_round.nd (di_seq (de_var (pv 0))) (blkOk_by (N := N_is_round) (sc := defScope s_is_round) (by decide +kernel)) (by decide) (fun _ _ _ _ _ => (pg_name (i := 1) sc_is_round.nd rfl (Or.inl rfl))) (fun _ _ _ _ _ => dts_nil) (fun _ _ _ _ _ => (de_call (ok_is_number (P := P) (w := w) (base := base) T) (hr.mono (by decide)) takes0 (da_cons (de_var (pv 1)) (da_cons (de_neg de_int) (da_cons de_int da_nil)))))) da_nil))))))
theorem sc_need_number : FnScope N_need_number ["value", "least"] (defScope s_need_number) := ⟨rfl, rfl, rfl, by decide +kernel, rfl, by decide +kernel, by decide +kernel⟩
theorem ok_need_number (T : Top K mg cS cW) : DFn P w K mg base "need_number" ["value", "least"] 2 F_need_number := by
  obtain ⟨f, fd, hm, Ff, hb⟩ := T.d_need_number
  exact fnP_ok (N := N_need_number) (k := 1) hm Ff hb sc_need_number fun cdv A outer s H E hr =>
    (dss_one (ds_if (dt_not (dt_truth (de_call (ok_is_number (P := P) (w := w) (base := base) T) (hr.mono (by decide)) (takes_of rfl rfl rfl rfl) (da_cons (de_var (pv 0)) (da_cons (de_var (pv 1)) (da_cons (de_gint T.m_MOST) da_nil)))) (by intro _; rfl)))
    (dss_one (ds_raise rfl (takes_of rfl rfl rfl rfl) T.c_InvalidNumber))
    dss_nil))
theorem sc_need_index : FnScope N_need_index ["some", "value"] (defScope s_need_index) := ⟨rfl, rfl, rfl, by decide +kernel, rfl, by decide +kernel, by decide +kernel⟩
theorem ok_need_index (T : Top K mg cS cW) : DFn P w K mg base "need_index" ["some", "value"] 2 F_need_index := by
  obtain ⟨f, fd, hm, Ff, hb⟩ := T.d_need_index
  exact fnP_ok (N := N_need_index) (k := 1) hm Ff hb sc_need_index fun cdv A outer s H E hr =>
    (dss_one (ds_if (dt_not (dt_truth (de_call (ok_is_number (P := P) (w := w) (base := base) T) (hr.mono (by decide)) (takes_of rfl rfl rfl rfl) (da_cons (de_var (pv 1)) (da_cons de_int (da_cons (de_sub (de_callB call_len cd_len rfl T.m_len b_len (da_cons (de_var (pv 0)) da_nil)) de_int) da_nil)))) (by intro _; rfl)))
    (dss_one (ds_raise rfl (takes_of rfl rfl rfl rfl) T.c_InvalidIndex))
    dss_nil))
theorem sc_behind : FnScope N_behind ["height", "steps"] (defScope s_behind) := ⟨rfl, rfl, rfl, by decide +kernel, rfl, by decide +kernel, by decide +kernel⟩
theorem ok_behind (T : Top K mg cS cW) : DFn P w K mg base "behind" ["height", "steps"] 2 F_behind := by
  obtain ⟨f, fd, hm, Ff, hb⟩ := T.d_behind
  exact fnP_ok (N := N_behind) (k := 1) hm Ff hb sc_behind fun cdv A outer s H E hr =>
    (dss_cons (ds_for (passes_of rfl) rfl (di_seq (de_var (pv 1))) (dg_name (i := 2) sc_behind.nd)
    (dss_one (ds_set (i := 0) sc_behind.nd (de_call (ok_stepped (P := P) (w := w) (base := base) T) (hr.mono (by decide)) (takes_of rfl rfl rfl rfl) (da_cons (de_var (pv 0)) (da_cons (de_var (pv 2)) da_nil))))))
    (dss_one (ds_ret (de_var (pv 0)))))
theorem sc_records_of : FnScope N_records_of ["snail", "rounds"] (defScope s_records_of) := ⟨rfl, rfl, rfl, by decide +kernel, rfl, by decide +kernel, by decide +kernel⟩
theorem ok_records_of (T : Top K mg cS cW) : DFn P w K mg base "records_of" ["snail", "rounds"] 2 F_records_of := by
  obtain ⟨f, fd, hm, Ff, hb⟩ := T.d_records_of
  exact fnP_ok (N := N_records_of) (k := 1) hm Ff hb sc_records_of fun cdv A outer s H E hr =>
    (dss_cons (ds_asg (de_var (pv 0)) (dg_tup rfl (dgs_cons (dg_name (i := 2) sc_records_of.nd) (dgs_cons (dg_name (i := 3) sc_records_of.nd) (dgs_cons (dg_name (i := 4) sc_records_of.nd) dgs_nil)))))
    (dss_cons (ds_set (i := 5) sc_records_of.nd (de_mul (de_lst (da_cons de_int da_nil)) (de_var (pv 3))))
    (dss_cons (ds_set (i := 6) sc_records_of.nd (de_var (pv 2)))
    (dss_cons (ds_for (passes_of rfl) rfl (di_rng1 rfl T.m_range (da_cons (de_var (pv 1)) da_nil)) (dg_name (i := 7) sc_records_of.nd)
    (dss_one (ds_for (passes_of rfl) rfl (di_seq (de_var (pv 4))) (dg_name (i := 8) sc_records_of.nd)
    (dss_cons (ds_par (i := 3) (j := 6) rfl sc_records_of.nd (de_call (ok_stepped (P := P) (w := w) (base := base) T) (hr.mono (by decide)) (takes_of rfl rfl rfl rfl) (da_cons (de_var (pv 3)) (da_cons (de_var (pv 8)) da_nil))) (de_add (de_var (pv 6)) de_int))
    (dss_one (ds_set (i := 5) sc_records_of.nd (de_add (de_var (pv 5)) (de_mul (de_lst (da_cons (de_var (pv 6)) da_nil)) (de_callB (call_maxD rfl) cd_max rfl T.m_max b_max (da_cons de_int (da_cons (de_sub (de_var (pv 3)) (de_callB call_len cd_len rfl T.m_len b_len (da_cons (de_var (pv 5)) da_nil))) da_nil)))))))))))
    (dss_one (ds_ret (de_var (pv 5))))))))
theorem sc_common_turn : FnScope N_common_turn ["calendars"] (defScope s_common_turn) := ⟨rfl, rfl, rfl, by decide +kernel, rfl, by decide +kernel, by decide +kernel⟩
theorem ok_common_turn (T : Top K mg cS cW) : DFn P w K mg base "common_turn" ["calendars"] 2 F_common_turn := by
  obtain ⟨f, fd, hm, Ff, hb⟩ := T.d_common_turn
  exact fnP_ok (N := N_common_turn) (k := 1) hm Ff hb sc_common_turn fun cdv A outer s H E hr =>
    (dss_cons (ds_set (i := 1) sc_common_turn.nd de_int)
    (dss_cons (ds_for (passes_of rfl) rfl (di_seq (de_var (pv 0))) (dg_tup rfl (dgs_cons (dg_name (i := 2) sc_common_turn.nd) (dgs_cons (dg_name (i := 3) sc_common_turn.nd) (dgs_cons (dg_name (i := 4) sc_common_turn.nd) dgs_nil))))
    (dss_one (ds_set (i := 1) sc_common_turn.nd (de_div (de_mul (de_var (pv 1)) (de_callB call_len cd_len rfl T.m_len b_len (da_cons (de_var (pv 3)) da_nil))) (de_call (ok_divisor (P := P) (w := w) (base := base) T) (hr.mono (by decide)) (takes_of rfl rfl rfl rfl) (da_cons (de_var (pv 1)) (da_cons (de_callB call_len cd_len rfl T.m_len b_len (da_cons (de_var (pv 3)) da_nil)) da_nil)))))))
    (dss_one (ds_ret (de_var (pv 1))))))
theorem sc_blocks_until : FnScope N_blocks_until ["one", "other", "first", "turn"] (defScope s_blocks_until) := ⟨rfl, rfl, rfl, by decide +kernel, rfl, by decide +kernel, by decide +kernel⟩
theorem ok_blocks_until (T : Top K mg cS cW) : DFn P w K mg base "blocks_until" ["one", "other", "first", "turn"] 2 F_blocks_until := by
  obtain ⟨f, fd, hm, Ff, hb⟩ := T.d_blocks_until
  exact fnP_ok (N := N_blocks_until) (k := 1) hm Ff hb sc_blocks_until fun cdv A outer s H E hr =>
    (dss_cons (ds_set (i := 4) sc_blocks_until.nd (de_sub (de_call (ok_rise_in (P := P) (w := w) (base := base) T) (hr.mono (by decide)) (takes_of rfl rfl rfl rfl) (da_cons (de_var (pv 0)) (da_cons (de_var (pv 3)) da_nil))) (de_call (ok_rise_in (P := P) (w := w) (base := base) T) (hr.mono (by decide)) (takes_of rfl rfl rfl rfl) (da_cons (de_var (pv 1)) (da_cons (de_var (pv 3)) da_nil)))))
    (dss_cons (ds_set (i := 5) sc_blocks_until.nd de_int)
    (dss_cons (ds_if (dt_cmp (op_neD hr.units) od_ne (de_var (pv 4)) de_int (nomark _))
    (dss_one (ds_for (passes_of rfl) rfl (di_rng2 rfl T.m_range (da_cons (de_var (pv 2)) (da_cons (de_add (de_var (pv 2)) (de_var (pv 3))) da_nil))) (dg_name (i := 6) sc_blocks_until.nd)
    (dss_cons (ds_set (i := 7) sc_blocks_until.nd (de_sub (de_call (ok_minute_in (P := P) (w := w) (base := base) T) (hr.mono (by decide)) (takes_of rfl rfl rfl rfl) (da_cons (de_var (pv 0)) (da_cons (de_var (pv 6)) da_nil))) (de_call (ok_minute_in (P := P) (w := w) (base := base) T) (hr.mono (by decide)) (takes_of rfl rfl rfl rfl) (da_cons (de_var (pv 1)) (da_cons (de_var (pv 6)) da_nil)))))
    (dss_cons (ds_set (i := 7) sc_blocks_until.nd (de_if (dt_cmp op_gt od_gt (de_var (pv 4)) de_int (nomark _)) (de_var (pv 7)) (de_neg (de_var (pv 7)))))
    (dss_one (ds_set (i := 5) sc_blocks_until.nd (de_callB (call_maxD rfl) cd_max rfl T.m_max b_max (da_cons (de_var (pv 5)) (da_cons (de_add (de_callTy call_int1 cd_int rfl T.m_int b_int (da_cons (de_div (de_neg (de_var (pv 7))) (de_callB call_abs cd_abs rfl T.m_abs b_abs (da_cons (de_var (pv 4)) da_nil))) da_nil)) de_int) da_nil)))))))))
    dss_nil)
    (dss_one (ds_ret (de_var (pv 5)))))))
theorem sc_first_at : FnScope N_first_at ["calendars", "depth"] (defScope s_first_at) := ⟨rfl, rfl, rfl, by decide +kernel, rfl, by decide +kernel, by decide +kernel⟩
theorem ok_first_at (T : Top K mg cS cW) : DFn P w K mg base "first_at" ["calendars", "depth"] 2 F_first_at := by
  obtain ⟨f, fd, hm, Ff, hb⟩ := T.d_first_at
  exact fnP_ok (N := N_first_at) (k := 1) hm Ff hb sc_first_at fun cdv A outer s H E hr =>
    (dss_one (ds_ret (de_call (ok_first_of (P := P) (w := w) (base := base) T) (hr.mono (by decide)) (takes_of rfl rfl rfl rfl) (da_cons (de_lc (own := [(("told" : Str), 2)]) (c := (.nm 2)) rfl sc_first_at.nd (di_seq (de_var (pv 0))) (blkOk_by (N := N_first_at) (sc := defScope s_first_at) (by decide +kernel)) (by decide) (fun _ _ _ _ _ => (pg_name (i := 2) sc_first_at.nd rfl (Or.inl rfl))) (fun _ _ _ _ _ => dts_nil) (fun _ _ _ _ _ => (de_call (ok_minute_in (P := P) (w := w) (base := base) T) (hr.mono (by decide)) takes0 (da_cons (de_var (pv 2)) (da_cons (de_var (pv 1)) da_nil))))) da_nil))))
theorem sc_is_fact : FnScope N_is_fact ["snails", "value"] (defScope s_is_fact) := ⟨rfl, rfl, rfl, by decide +kernel, rfl, by decide +kernel, by decide +kernel⟩
theorem ok_is_fact (T : Top K mg cS cW) : DFn P w K mg base "is_fact" ["snails", "value"] 2 F_is_fact := by
  obtain ⟨f, fd, hm, Ff, hb⟩ := T.d_is_fact
  exact fnP_ok (N := N_is_fact) (k := 1) hm Ff hb sc_is_fact fun cdv A outer s H E hr =>
    (dss_cons (ds_if (dt_w (dw_or (dt_not (dt_truth (de_call (ok_is_tuple (P := P) (w := w) (base := base) T) (hr.mono (by decide)) (takes_of rfl rfl rfl rfl) (da_cons (de_var (pv 1)) (da_cons de_int (da_cons de_int da_nil)))) (by intro _; rfl))) (dw_or1 (dt_not (dt_truth (de_call (ok_is_number (P := P) (w := w) (base := base) T) (hr.mono (by decide)) (takes_of rfl rfl rfl rfl) (da_cons (de_idx (de_var (pv 1)) de_int) (da_cons de_int (da_cons (de_sub (de_callB call_len cd_len rfl T.m_len b_len (da_cons (de_var (pv 0)) da_nil)) de_int) da_nil)))) (by intro _; rfl))))))
    (dss_one (ds_ret de_bl))
    dss_nil)
    (dss_one (ds_ret (de_or (de_cmp op_isN od_isN (de_idx (de_var (pv 1)) de_int) de_non (nomark _)) (de_one (de_call (ok_is_number (P := P) (w := w) (base := base) T) (hr.mono (by decide)) (takes_of rfl rfl rfl rfl) (da_cons (de_idx (de_var (pv 1)) de_int) (da_cons de_int (da_cons (de_gint T.m_FAR) da_nil)))))))))
theorem sc_depths_at : FnScope N_depths_at ["told", "minute"] (defScope s_depths_at) := ⟨rfl, rfl, rfl, by decide +kernel, rfl, by decide +kernel, by decide +kernel⟩
theorem ok_depths_at (T : Top K mg cS cW) : DFn P w K mg base "depths_at" ["told", "minute"] 2 F_depths_at := by
  obtain ⟨f, fd, hm, Ff, hb⟩ := T.d_depths_at
  exact fnP_ok (N := N_depths_at) (k := 1) hm Ff hb sc_depths_at fun cdv A outer s H E hr =>
    (dss_cons (ds_asg (de_var (pv 0)) (dg_tup rfl (dgs_cons (dg_name (i := 2) sc_depths_at.nd) (dgs_cons (dg_name (i := 3) sc_depths_at.nd) (dgs_cons (dg_name (i := 4) sc_depths_at.nd) dgs_nil)))))
    (dss_cons (ds_if (dt_cmp op_isN od_isN (de_var (pv 1)) de_non (nomark _))
    (dss_one (ds_ret (de_if (dt_truth (de_call (ok_is_endless (P := P) (w := w) (base := base) T) (hr.mono (by decide)) (takes_of rfl rfl rfl rfl) (da_cons (de_var (pv 0)) da_nil)) (by intro _; rfl)) de_non (de_tup (da_cons (de_add (de_callB call_len cd_len rfl T.m_len b_len (da_cons (de_var (pv 2)) da_nil)) de_int) (da_cons de_non da_nil))))))
    dss_nil)
    (dss_cons (ds_set (i := 5) sc_depths_at.nd (de_if (dt_truth (de_call (ok_is_endless (P := P) (w := w) (base := base) T) (hr.mono (by decide)) (takes_of rfl rfl rfl rfl) (da_cons (de_var (pv 0)) da_nil)) (by intro _; rfl)) (de_callB (call_maxD rfl) cd_max rfl T.m_max b_max (da_cons de_int (da_cons (de_sub (de_div (de_sub (de_var (pv 1)) (de_idx (de_var (pv 3)) de_int)) (de_var (pv 4))) de_int) da_nil))) de_int))
    (dss_cons (ds_set (i := 6) sc_depths_at.nd (de_add (de_add (de_callB call_len cd_len rfl T.m_len b_len (da_cons (de_var (pv 2)) da_nil)) de_int) (de_mul (de_var (pv 5)) (de_callB call_len cd_len rfl T.m_len b_len (da_cons (de_var (pv 3)) da_nil)))))
    (dss_cons (ds_set (i := 7) sc_depths_at.nd (de_listRg2 rfl T.m_list T.m_range de_int (de_add (de_callB call_len cd_len rfl T.m_len b_len (da_cons (de_var (pv 2)) da_nil)) de_int)))
    (dss_cons (ds_if (dt_truth (de_call (ok_is_endless (P := P) (w := w) (base := base) T) (hr.mono (by decide)) (takes_of rfl rfl rfl rfl) (da_cons (de_var (pv 0)) da_nil)) (by intro _; rfl))
    (dss_one (ds_set (i := 7) sc_depths_at.nd (de_add (de_var (pv 7)) (de_listRg2 rfl T.m_list T.m_range (de_var (pv 6)) (de_add (de_var (pv 6)) (de_mul de_int (de_callB call_len cd_len rfl T.m_len b_len (da_cons (de_var (pv 3)) da_nil))))))))
    dss_nil)
    (dss_cons (ds_setLc (i := 8) (own := [(("depth" : Str), 9)]) (c := (.nm 9)) rfl sc_depths_at.nd (di_seq (de_var (pv 7))) (blkOk_by (N := N_depths_at) (sc := defScope s_depths_at) (by decide +kernel)) (by decide) (fun _ _ _ _ _ => (pg_name (i := 9) sc_depths_at.nd rfl (Or.inl rfl))) (fun _ _ _ _ _ => (dts_one (dt_cmp (op_eqD hr.units) od_eq (de_call (ok_minute_in (P := P) (w := w) (base := base) T) (hr.mono (by decide)) takes0 (da_cons (de_var (pv 0)) (da_cons (de_var (pv 9)) da_nil))) (de_var (pv 1)) (nomark _)))) (fun _ _ _ _ _ => (de_var (pv 9))))
    (dss_one (ds_ret (de_if (dt_cmp (op_neD hr.units) od_ne (de_var (pv 8)) (de_lst da_nil) (nomark _)) (de_tup (da_cons (de_idx (de_var (pv 8)) de_int) (da_cons (de_idx (de_var (pv 8)) (de_neg de_int)) da_nil))) de_non))))))))))
theorem sc_line_of : FnScope N_line_of ["snail"] (defScope s_line_of) := ⟨rfl, rfl, rfl, by decide +kernel, rfl, by decide +kernel, by decide +kernel⟩
theorem ok_line_of (T : Top K mg cS cW) : DFn P w K mg base "line_of" ["snail"] 2 F_line_of := by
  obtain ⟨f, fd, hm, Ff, hb⟩ := T.d_line_of
  exact fnP_ok (N := N_line_of) (k := 1) hm Ff hb sc_line_of fun cdv A outer s H E hr =>
    (dss_one (ds_ret (de_join de_str (da_cons (de_call (ok_words_of (P := P) (w := w) (base := base) T) (hr.mono (by decide)) (takes_of rfl rfl rfl rfl) (da_cons (de_var (pv 0)) da_nil)) da_nil))))
theorem sc_Well___init__ : FnScope N_Well___init__ ["self", "depth"] (defScope s_Well___init__) := ⟨rfl, rfl, rfl, by decide +kernel, rfl, by decide +kernel, by decide +kernel⟩
theorem ok_Well___init__ (T : Top K mg cS cW) : DInit P w K mg base cW 3 (F_Well___init__ cW) := by
  obtain ⟨f, M, fd, Ff, hb⟩ := T.f_Well___init__
  exact ⟨f, M, FnR_num (FnR_of (fnQ_fnM (N := N_Well___init__) (k := 2) Ff sc_Well___init__ fun cdv A outer s H E hr =>
    (dss_cons (ds_expr (de_call (ok_need_number (P := P) (w := w) (base := base) T) (hr.mono (by decide)) (takes_of rfl rfl rfl rfl) (da_cons (de_var (pv 1)) (da_cons de_int da_nil))))
    (dss_cons (ds_fld T.x_Well T.a_Well_deep (de_var (pv 0)) (de_var (pv 1)))
    (dss_cons (ds_fld T.x_Well T.a_Well_now (de_var (pv 0)) (de_tup (da_cons de_int (da_cons (de_tup da_nil) da_nil))))
    (dss_one (ds_fld T.x_Well T.a_Well_past (de_var (pv 0)) (de_newL da_nil))))))) hb)⟩
theorem sc_Snail___getitem__ : FnScope N_Snail___getitem__ ["self", "index"] (defScope s_Snail___getitem__) := ⟨rfl, rfl, rfl, by decide +kernel, rfl, by decide +kernel, by decide +kernel⟩
theorem ok_Snail___getitem__ (T : Top K mg cS cW) : DSp P w K mg base cS "__getitem__" 3 (F_Snail___getitem__ cS) := by
  obtain ⟨f, h1, fd, Ff, hb⟩ := T.f_Snail___getitem__
  exact ⟨f, h1, FnR_num (FnR_of (fnP_fnM (N := N_Snail___getitem__) (k := 2) Ff sc_Snail___getitem__ fun cdv A outer s H E hr =>
    (dss_cons (ds_expr (de_call (ok_need_index (P := P) (w := w) (base := base) T) (hr.mono (by decide)) (takes_of rfl rfl rfl rfl) (da_cons (de_idx (de_fld T.x_Snail T.a_Snail_base (de_var (pv 0))) de_int) (da_cons (de_var (pv 1)) da_nil))))
    (dss_one (ds_ret (de_idx (de_idx (de_fld T.x_Snail T.a_Snail_base (de_var (pv 0))) de_int) (de_var (pv 1))))))) hb)⟩
theorem sc_is_good_snail : FnScope N_is_good_snail ["value"] (defScope s_is_good_snail) := ⟨rfl, rfl, rfl, by decide +kernel, rfl, by decide +kernel, by decide +kernel⟩
theorem ok_is_good_snail (T : Top K mg cS cW) : DFn P w K mg base "is_good_snail" ["value"] 3 F_is_good_snail := by
  obtain ⟨f, fd, hm, Ff, hb⟩ := T.d_is_good_snail
  exact fnP_ok (N := N_is_good_snail) (k := 2) hm Ff hb sc_is_good_snail fun cdv A outer s H E hr =>
    (dss_cons (ds_if (dt_w (dw_or (dt_not (dt_truth (de_call (ok_is_tuple (P := P) (w := w) (base := base) T) (hr.mono (by decide)) (takes_of rfl rfl rfl rfl) (da_cons (de_var (pv 0)) (da_cons de_int (da_cons de_int da_nil)))) (by intro _; rfl))) (dw_or1 (dt_not (dt_truth (de_call (ok_is_number (P := P) (w := w) (base := base) T) (hr.mono (by decide)) (takes_of rfl rfl rfl rfl) (da_cons (de_idx (de_var (pv 0)) de_int) (da_cons de_int (da_cons de_int da_nil)))) (by intro _; rfl))))))
    (dss_one (ds_ret de_bl))
    dss_nil)
    (dss_one (ds_ret (de_and (de_call (ok_is_number (P := P) (w := w) (base := base) T) (hr.mono (by decide)) (takes_of rfl rfl rfl rfl) (da_cons (de_idx (de_var (pv 0)) de_int) (da_cons de_int (da_cons de_int da_nil)))) (de_one (de_call (ok_is_round (P := P) (w := w) (base := base) T) (hr.mono (by decide)) (takes_of rfl rfl rfl rfl) (da_cons (de_idx (de_var (pv 0)) de_int) da_nil)))))))
theorem sc_is_settled : FnScope N_is_settled ["height", "steps"] (defScope s_is_settled) := ⟨rfl, rfl, rfl, by decide +kernel, rfl, by decide +kernel, by decide +kernel⟩
theorem ok_is_settled (T : Top K mg cS cW) : DFn P w K mg base "is_settled" ["height", "steps"] 3 F_is_settled := by
  obtain ⟨f, fd, hm, Ff, hb⟩ := T.d_is_settled
  exact fnP_ok (N := N_is_settled) (k := 2) hm Ff hb sc_is_settled fun cdv A outer s H E hr =>
    (dss_cons (ds_set (i := 2) sc_is_settled.nd (de_callB (call_sumD rfl) cd_sum rfl T.m_sum b_sum (da_cons (de_var (pv 1)) da_nil)))
    (dss_one (ds_ret (de_or (de_and (de_cmp op_ge od_ge (de_add (de_var (pv 0)) (de_call (ok_lowest_sum (P := P) (w := w) (base := base) T) (hr.mono (by decide)) (takes_of rfl rfl rfl rfl) (da_cons (de_var (pv 1)) da_nil))) de_int (nomark _)) (de_one (de_cmp op_ge od_ge (de_var (pv 2)) de_int (nomark _)))) (de_one (de_cmp (op_eqD hr.units) od_eq (de_call (ok_behind (P := P) (w := w) (base := base) T) (hr.mono (by decide)) (takes_of rfl rfl rfl rfl) (da_cons (de_var (pv 0)) (da_cons (de_var (pv 1)) da_nil))) (de_var (pv 0)) (nomark _)))))))
theorem sc_gain_of : FnScope N_gain_of ["height", "steps"] (defScope s_gain_of) := ⟨rfl, rfl, rfl, by decide +kernel, rfl, by decide +kernel, by decide +kernel⟩
theorem ok_gain_of (T : Top K mg cS cW) : DFn P w K mg base "gain_of" ["height", "steps"] 3 F_gain_of := by
  obtain ⟨f, fd, hm, Ff, hb⟩ := T.d_gain_of
  exact fnP_ok (N := N_gain_of) (k := 2) hm Ff hb sc_gain_of fun cdv A outer s H E hr =>
    (dss_one (ds_ret (de_sub (de_call (ok_behind (P := P) (w := w) (base := base) T) (hr.mono (by decide)) (takes_of rfl rfl rfl rfl) (da_cons (de_var (pv 0)) (da_cons (de_var (pv 1)) da_nil))) (de_var (pv 0)))))
theorem sc_is_row : FnScope N_is_row ["value"] (defScope s_is_row) := ⟨rfl, rfl, rfl, by decide +kernel, rfl, by decide +kernel, by decide +kernel⟩
theorem ok_is_row (T : Top K mg cS cW) : DFn P w K mg base "is_row" ["value"] 3 F_is_row := by
  obtain ⟨f, fd, hm, Ff, hb⟩ := T.d_is_row
  exact fnP_ok (N := N_is_row) (k := 2) hm Ff hb sc_is_row fun cdv A outer s H E hr =>
    (dss_cons (ds_if (dt_w (dw_or (dt_not (dt_truth (de_call (ok_is_tuple (P := P) (w := w) (base := base) T) (hr.mono (by decide)) (takes_of rfl rfl rfl rfl) (da_cons (de_var (pv 0)) (da_cons de_int (da_cons de_int da_nil)))) (by intro _; rfl))) (dw_or1 (dt_not (dt_truth (de_call (ok_is_number (P := P) (w := w) (base := base) T) (hr.mono (by decide)) (takes_of rfl rfl rfl rfl) (da_cons (de_idx (de_var (pv 0)) de_int) (da_cons de_int (da_cons de_int da_nil)))) (by intro _; rfl))))))
    (dss_one (ds_ret de_bl))
    dss_nil)
    (dss_one (ds_ret (de_and (de_call (ok_is_number (P := P) (w := w) (base := base) T) (hr.mono (by decide)) (takes_of rfl rfl rfl rfl) (da_cons (de_idx (de_var (pv 0)) de_int) (da_cons de_int (da_cons de_int da_nil)))) (de_one (de_call (ok_is_round (P := P) (w := w) (base := base) T) (hr.mono (by decide)) (takes_of rfl rfl rfl rfl) (da_cons (de_idx (de_var (pv 0)) de_int) da_nil)))))))
theorem sc_settled_from : FnScope N_settled_from ["calendars"] (defScope s_settled_from) := ⟨rfl, rfl, rfl, by decide +kernel, rfl, by decide +kernel, by decide +kernel⟩
theorem ok_settled_from (T : Top K mg cS cW) : DFn P w K mg base "settled_from" ["calendars"] 3 F_settled_from := by
  obtain ⟨f, fd, hm, Ff, hb⟩ := T.d_settled_from
  exact fnP_ok (N := N_settled_from) (k := 2) hm Ff hb sc_settled_from fun cdv A outer s H E hr =>
    (dss_cons (ds_set (i := 1) sc_settled_from.nd (de_call (ok_common_turn (P := P) (w := w) (base := base) T) (hr.mono (by decide)) (takes_of rfl rfl rfl rfl) (da_cons (de_var (pv 0)) da_nil)))
    (dss_cons (ds_set (i := 2) sc_settled_from.nd (de_add de_int (de_callB (call_maxD rfl) cd_max rfl T.m_max b_max (da_cons (de_lc (own := [(("told" : Str), 5)]) (c := (.nm 5)) rfl sc_settled_from.nd (di_seq (de_var (pv 0))) (blkOk_by (N := N_settled_from) (sc := defScope s_settled_from) (by decide +kernel)) (by decide) (fun _ _ _ _ _ => (pg_name (i := 5) sc_settled_from.nd rfl (Or.inl rfl))) (fun _ _ _ _ _ => dts_nil) (fun _ _ _ _ _ => (de_callB call_len cd_len rfl T.m_len b_len (da_cons (de_idx (de_var (pv 5)) de_int) da_nil)))) da_nil))))
    (dss_cons (ds_set (i := 3) sc_settled_from.nd (de_lc (own := [(("told" : Str), 5)]) (c := (.nm 5)) rfl sc_settled_from.nd (di_seq (de_var (pv 0))) (blkOk_by (N := N_settled_from) (sc := defScope s_settled_from) (by decide +kernel)) (by decide) (fun _ _ _ _ _ => (pg_name (i := 5) sc_settled_from.nd rfl (Or.inl rfl))) (fun _ _ _ _ _ => (dts_one (dt_truth (de_call (ok_is_endless (P := P) (w := w) (base := base) T) (hr.mono (by decide)) takes0 (da_cons (de_var (pv 5)) da_nil)) (by intro _; rfl)))) (fun _ _ _ _ _ => (de_var (pv 5)))))
    (dss_cons (ds_setLc2 (i := 4) (own := [(("one" : Str), 6), (("other" : Str), 7)]) (ws1 := [7]) (c := (.nm 6)) (c1 := (.nm 7)) rfl sc_settled_from.nd (di_seq (de_var (pv 3))) (blkOk_by (N := N_settled_from) (sc := defScope s_settled_from) (by decide +kernel)) (by decide) (by decide) (by decide) (fun _ _ _ _ _ => (pg_name (i := 6) sc_settled_from.nd rfl (Or.inl rfl))) (fun _ _ _ _ _ => dts_nil) (fun _ _ _ _ _ => (di_seq (de_var (pv 3)))) (fun _ _ _ _ _ => (pg_name (i := 7) sc_settled_from.nd rfl (Or.inl rfl))) (fun _ _ _ _ _ => dts_nil) (fun _ _ _ _ _ => (de_call (ok_blocks_until (P := P) (w := w) (base := base) T) (hr.mono (by decide)) takes0 (da_cons (de_var (pv 6)) (da_cons (de_var (pv 7)) (da_cons (de_var (pv 2)) (da_cons (de_var (pv 1)) da_nil)))))))
    (dss_one (ds_ret (de_tup (da_cons (de_add (de_var (pv 2)) (de_mul (de_var (pv 1)) (de_callB (call_maxD rfl) cd_max rfl T.m_max b_max (da_cons (de_add (de_lst (da_cons de_int da_nil)) (de_lc (own := [(("many" : Str), 8)]) (c := (.nm 8)) rfl sc_settled_from.nd (di_seq (de_var (pv 4))) (blkOk_by (N := N_settled_from) (sc := defScope s_settled_from) (by decide +kernel)) (by decide) (fun _ _ _ _ _ => (pg_name (i := 8) sc_settled_from.nd rfl (Or.inl rfl))) (fun _ _ _ _ _ => dts_nil) (fun _ _ _ _ _ => (de_callTy call_int1 cd_int rfl T.m_int b_int (da_cons (de_var (pv 8)) da_nil))))) da_nil)))) (da_cons (de_var (pv 1)) da_nil)))))))))
theorem sc_need_seen : FnScope N_need_seen ["snails", "value"] (defScope s_need_seen) := ⟨rfl, rfl, rfl, by decide +kernel, rfl, by decide +kernel, by decide +kernel⟩
theorem ok_need_seen (T : Top K mg cS cW) : DFn P w K mg base "need_seen" ["snails", "value"] 3 F_need_seen := by
  obtain ⟨f, fd, hm, Ff, hb⟩ := T.d_need_seen
  exact fnP_ok (N := N_need_seen) (k := 2) hm Ff hb sc_need_seen fun cdv A outer s H E hr =>
    (dss_one (ds_if (dt_w (dw_or (dt_not (dt_truth (de_call (ok_is_tuple (P := P) (w := w) (base := base) T) (hr.mono (by decide)) (takes_of rfl rfl rfl rfl) (da_cons (de_var (pv 1)) (da_cons de_int (da_cons de_int da_nil)))) (by intro _; rfl))) (dw_or1 (dt_not (dt_truth (de_callB (cr_all rfl) cd_all rfl T.m_all b_all (da_cons (de_lc (own := [(("fact" : Str), 2)]) (c := (.nm 2)) rfl sc_need_seen.nd (di_seq (de_var (pv 1))) (blkOk_by (N := N_need_seen) (sc := defScope s_need_seen) (by decide +kernel)) (by decide) (fun _ _ _ _ _ => (pg_name (i := 2) sc_need_seen.nd rfl (Or.inl rfl))) (fun _ _ _ _ _ => dts_nil) (fun _ _ _ _ _ => (de_call (ok_is_fact (P := P) (w := w) (base := base) T) (hr.mono (by decide)) takes0 (da_cons (de_var (pv 0)) (da_cons (de_var (pv 2)) da_nil))))) da_nil)) (by intro _; rfl))))))
    (dss_one (ds_raise rfl (takes_of rfl rfl rfl rfl) T.c_InvalidSeen))
    dss_nil))
theorem sc_lines_of : FnScope N_lines_of ["snails"] (defScope s_lines_of) := ⟨rfl, rfl, rfl, by decide +kernel, rfl, by decide +kernel, by decide +kernel⟩
theorem ok_lines_of (T : Top K mg cS cW) : DFn P w K mg base "lines_of" ["snails"] 3 F_lines_of := by
  obtain ⟨f, fd, hm, Ff, hb⟩ := T.d_lines_of
  exact fnP_ok (N := N_lines_of) (k := 2) hm Ff hb sc_lines_of fun cdv A outer s H E hr =>
    (dss_one (ds_ret (de_lc (own := [(("snail" : Str), 1)]) (c := (.nm 1)) rfl sc_lines_of.nd (di_seq (de_var (pv 0))) (blkOk_by (N := N_lines_of) (sc := defScope s_lines_of) (by decide +kernel)) (by decide) (fun _ _ _ _ _ => (pg_name (i := 1) sc_lines_of.nd rfl (Or.inl rfl))) (fun _ _ _ _ _ => dts_nil) (fun _ _ _ _ _ => (de_call (ok_line_of (P := P) (w := w) (base := base) T) (hr.mono (by decide)) takes0 (da_cons (de_var (pv 1)) da_nil))))))
theorem sc_fewer : FnScope N_fewer ["steps", "index"] (defScope s_fewer) := ⟨rfl, rfl, rfl, by decide +kernel, rfl, by decide +kernel, by decide +kernel⟩
theorem ok_fewer (T : Top K mg cS cW) : DFn P w K mg base "fewer" ["steps", "index"] 3 F_fewer := by
  obtain ⟨f, fd, hm, Ff, hb⟩ := T.d_fewer
  exact fnP_ok (N := N_fewer) (k := 2) hm Ff hb sc_fewer fun cdv A outer s H E hr =>
    (dss_cons (ds_expr (de_call (ok_need_index (P := P) (w := w) (base := base) T) (hr.mono (by decide)) (takes_of rfl rfl rfl rfl) (da_cons (de_var (pv 0)) (da_cons (de_var (pv 1)) da_nil))))
    (dss_one (ds_ret (de_call (ok_without (P := P) (w := w) (base := base) T) (hr.mono (by decide)) (takes_of rfl rfl rfl rfl) (da_cons (de_var (pv 0)) (da_cons (de_var (pv 1)) da_nil))))))
theorem sc_Well_drop : FnScope N_Well_drop ["self", "height", "round_so"] (defScope s_Well_drop) := ⟨rfl, rfl, rfl, by decide +kernel, rfl, by decide +kernel, by decide +kernel⟩
theorem ok_Well_drop (T : Top K mg cS cW) : DMt P w K mg base cW "drop" 4 (F_Well_drop cW) := by
  obtain ⟨f, hm, fd, Ff, hb⟩ := T.f_Well_drop
  exact ⟨f, fd, _, _, hm, hb, fnP_fnM (N := N_Well_drop) (k := 3) Ff sc_Well_drop fun cdv A outer s H E hr =>
    (dss_cons (ds_asg (de_fld T.x_Well T.a_Well_now (de_var (pv 0))) (dg_tup rfl (dgs_cons (dg_name (i := 3) sc_Well_drop.nd) (dgs_cons (dg_name (i := 4) sc_Well_drop.nd) dgs_nil))))
    (dss_cons (ds_if (dt_not (dt_truth (de_call (ok_is_row (P := P) (w := w) (base := base) T) (hr.mono (by decide)) (takes_of rfl rfl rfl rfl) (da_cons (de_tup (da_cons de_int (da_cons (de_var (pv 1)) (da_cons (de_var (pv 2)) da_nil)))) da_nil)) (by intro _; rfl)))
    (dss_one (ds_raise rfl (takes_of rfl rfl rfl rfl) T.c_InvalidSnail))
    dss_nil)
    (dss_cons (ds_expr (de_mtE T.x_Well (ok_Well_keep (P := P) (w := w) (base := base) T) (hr.mono (by decide)) (takes_of rfl rfl rfl rfl) (de_var (pv 0)) (da_one (de_tup (da_cons (de_var (pv 3)) (da_cons (de_add (de_var (pv 4)) (de_tup (da_cons (de_tup (da_cons (de_var (pv 3)) (da_cons (de_var (pv 1)) (da_cons (de_var (pv 2)) da_nil)))) da_nil))) da_nil))) da_nil)))
    (dss_one (ds_ret (de_callB call_len cd_len rfl T.m_len b_len (da_cons (de_var (pv 4)) da_nil))))))), rfl⟩
theorem sc_are_good_snails : FnScope N_are_good_snails ["value"] (defScope s_are_good_snails) := ⟨rfl, rfl, rfl, by decide +kernel, rfl, by decide +kernel, by decide +kernel⟩
theorem ok_are_good_snails (T : Top K mg cS cW) : DFn P w K mg base "are_good_snails" ["value"] 4 F_are_good_snails := by
  obtain ⟨f, fd, hm, Ff, hb⟩ := T.d_are_good_snails
  exact fnP_ok (N := N_are_good_snails) (k := 3) hm Ff hb sc_are_good_snails fun cdv A outer s H E hr =>
    (dss_one (ds_ret (de_and (de_call (ok_is_tuple (P := P) (w := w) (base := base) T) (hr.mono (by decide)) (takes_of rfl rfl rfl rfl) (da_cons (de_var (pv 0)) (da_cons de_int (da_cons de_int da_nil)))) (de_one (de_callB (cr_all rfl) cd_all rfl T.m_all b_all (da_cons (de_lc (own := [(("snail" : Str), 1)]) (c := (.nm 1)) rfl sc_are_good_snails.nd (di_seq (de_var (pv 0))) (blkOk_by (N := N_are_good_snails) (sc := defScope s_are_good_snails) (by decide +kernel)) (by decide) (fun _ _ _ _ _ => (pg_name (i := 1) sc_are_good_snails.nd rfl (Or.inl rfl))) (fun _ _ _ _ _ => dts_nil) (fun _ _ _ _ _ => (de_call (ok_is_good_snail (P := P) (w := w) (base := base) T) (hr.mono (by decide)) takes0 (da_cons (de_var (pv 1)) da_nil)))) da_nil))))))
theorem sc_need_snail : FnScope N_need_snail ["value"] (defScope s_need_snail) := ⟨rfl, rfl, rfl, by decide +kernel, rfl, by decide +kernel, by decide +kernel⟩
theorem ok_need_snail (T : Top K mg cS cW) : DFn P w K mg base "need_snail" ["value"] 4 F_need_snail := by
  obtain ⟨f, fd, hm, Ff, hb⟩ := T.d_need_snail
  exact fnP_ok (N := N_need_snail) (k := 3) hm Ff hb sc_need_snail fun cdv A outer s H E hr =>
    (dss_one (ds_if (dt_not (dt_truth (de_call (ok_is_good_snail (P := P) (w := w) (base := base) T) (hr.mono (by decide)) (takes_of rfl rfl rfl rfl) (da_cons (de_var (pv 0)) da_nil)) (by intro _; rfl)))
    (dss_one (ds_raise rfl (takes_of rfl rfl rfl rfl) T.c_InvalidSnail))
    dss_nil))
theorem sc_settled : FnScope N_settled ["height", "steps"] (defScope s_settled) := ⟨rfl, rfl, rfl, by decide +kernel, rfl, by decide +kernel, by decide +kernel⟩
theorem ok_settled (T : Top K mg cS cW) : DFn P w K mg base "settled" ["height", "steps"] 4 F_settled := by
  obtain ⟨f, fd, hm, Ff, hb⟩ := T.d_settled
  exact fnP_ok (N := N_settled) (k := 3) hm Ff hb sc_settled fun cdv A outer s H E hr =>
    (dss_cons (ds_set (i := 2) sc_settled.nd (de_lst (da_cons (de_var (pv 0)) da_nil)))
    (dss_cons (ds_while 4096 (passes_of rfl) (dt_not (dt_truth (de_call (ok_is_settled (P := P) (w := w) (base := base) T) (hr.mono (by decide)) (takes_of rfl rfl rfl rfl) (da_cons (de_idx (de_var (pv 2)) (de_neg de_int)) (da_cons (de_var (pv 1)) da_nil))) (by intro _; rfl)))
    (dss_one (ds_set (i := 2) sc_settled.nd (de_add (de_var (pv 2)) (de_lst (da_cons (de_call (ok_behind (P := P) (w := w) (base := base) T) (hr.mono (by decide)) (takes_of rfl rfl rfl rfl) (da_cons (de_idx (de_var (pv 2)) (de_neg de_int)) (da_cons (de_var (pv 1)) da_nil))) da_nil))))))
    (dss_one (ds_ret (de_var (pv 2))))))
theorem sc_is_snail : FnScope N_is_snail ["value"] (defScope s_is_snail) := ⟨rfl, rfl, rfl, by decide +kernel, rfl, by decide +kernel, by decide +kernel⟩
theorem ok_is_snail (T : Top K mg cS cW) : DFn P w K mg base "is_snail" ["value"] 4 F_is_snail := by
  obtain ⟨f, fd, hm, Ff, hb⟩ := T.d_is_snail
  exact fnP_ok (N := N_is_snail) (k := 3) hm Ff hb sc_is_snail fun cdv A outer s H E hr =>
    (dss_one (ds_ret (de_call (ok_is_good_snail (P := P) (w := w) (base := base) T) (hr.mono (by decide)) (takes_of rfl rfl rfl rfl) (da_cons (de_var (pv 0)) da_nil))))
theorem sc_winners_by : FnScope N_winners_by ["calendars"] (defScope s_winners_by) := ⟨rfl, rfl, rfl, by decide +kernel, rfl, by decide +kernel, by decide +kernel⟩
theorem ok_winners_by (T : Top K mg cS cW) : DFn P w K mg base "winners_by" ["calendars"] 4 F_winners_by := by
  obtain ⟨f, fd, hm, Ff, hb⟩ := T.d_winners_by
  exact fnP_ok (N := N_winners_by) (k := 3) hm Ff hb sc_winners_by fun cdv A outer s H E hr =>
    (dss_cons (ds_asg (de_call (ok_settled_from (P := P) (w := w) (base := base) T) (hr.mono (by decide)) (takes_of rfl rfl rfl rfl) (da_cons (de_var (pv 0)) da_nil)) (dg_tup rfl (dgs_cons (dg_name (i := 1) sc_winners_by.nd) (dgs_cons (dg_name (i := 2) sc_winners_by.nd) dgs_nil))))
    (dss_cons (ds_setLc (i := 3) (own := [(("depth" : Str), 4)]) (c := (.nm 4)) rfl sc_winners_by.nd (di_rng2 rfl T.m_range (da_cons de_int (da_cons (de_var (pv 1)) da_nil))) (blkOk_by (N := N_winners_by) (sc := defScope s_winners_by) (by decide +kernel)) (by decide) (fun _ _ _ _ _ => (pg_name (i := 4) sc_winners_by.nd rfl (Or.inl rfl))) (fun _ _ _ _ _ => dts_nil) (fun _ _ _ _ _ => (de_call (ok_first_at (P := P) (w := w) (base := base) T) (hr.mono (by decide)) takes0 (da_cons (de_var (pv 0)) (da_cons (de_var (pv 4)) da_nil)))))
    (dss_one (ds_ret (de_call (ok_shortened (P := P) (w := w) (base := base) T) (hr.mono (by decide)) (takes_of rfl rfl rfl rfl) (da_cons (de_var (pv 3)) (da_cons (de_lc (own := [(("depth" : Str), 4)]) (c := (.nm 4)) rfl sc_winners_by.nd (di_rng2 rfl T.m_range (da_cons (de_var (pv 1)) (da_cons (de_add (de_var (pv 1)) (de_var (pv 2))) da_nil))) (blkOk_by (N := N_winners_by) (sc := defScope s_winners_by) (by decide +kernel)) (by decide) (fun _ _ _ _ _ => (pg_name (i := 4) sc_winners_by.nd rfl (Or.inl rfl))) (fun _ _ _ _ _ => dts_nil) (fun _ _ _ _ _ => (de_call (ok_first_at (P := P) (w := w) (base := base) T) (hr.mono (by decide)) takes0 (da_cons (de_var (pv 0)) (da_cons (de_var (pv 4)) da_nil))))) da_nil)))))))
theorem sc_later_depth : FnScope N_later_depth ["one", "other"] (defScope s_later_depth) := ⟨rfl, rfl, rfl, by decide +kernel, rfl, by decide +kernel, by decide +kernel⟩
theorem ok_later_depth (T : Top K mg cS cW) : DFn P w K mg base "later_depth" ["one", "other"] 4 F_later_depth := by
  obtain ⟨f, fd, hm, Ff, hb⟩ := T.d_later_depth
  exact fnP_ok (N := N_later_depth) (k := 3) hm Ff hb sc_later_depth fun cdv A outer s H E hr =>
    (dss_cons (ds_asg (de_call (ok_settled_from (P := P) (w := w) (base := base) T) (hr.mono (by decide)) (takes_of rfl rfl rfl rfl) (da_cons (de_lst (da_cons (de_var (pv 0)) (da_cons (de_var (pv 1)) da_nil))) da_nil)) (dg_tup rfl (dgs_cons (dg_name (i := 2) sc_later_depth.nd) (dgs_cons (dg_name (i := 3) sc_later_depth.nd) dgs_nil))))
    (dss_cons (ds_for (passes_of rfl) rfl (di_rng2 rfl T.m_range (da_cons de_int (da_cons (de_add (de_var (pv 2)) (de_var (pv 3))) da_nil))) (dg_name (i := 4) sc_later_depth.nd)
    (dss_one (ds_if (dt_truth (de_call (ok_is_later (P := P) (w := w) (base := base) T) (hr.mono (by decide)) (takes_of rfl rfl rfl rfl) (da_cons (de_call (ok_minute_in (P := P) (w := w) (base := base) T) (hr.mono (by decide)) (takes_of rfl rfl rfl rfl) (da_cons (de_var (pv 0)) (da_cons (de_var (pv 4)) da_nil))) (da_cons (de_call (ok_minute_in (P := P) (w := w) (base := base) T) (hr.mono (by decide)) (takes_of rfl rfl rfl rfl) (da_cons (de_var (pv 1)) (da_cons (de_var (pv 4)) da_nil))) da_nil))) (by intro _; rfl))
    (dss_one (ds_ret (de_var (pv 4))))
    dss_nil)))
    (dss_one (ds_ret de_non))))
theorem sc_leads_by : FnScope N_leads_by ["one", "other"] (defScope s_leads_by) := ⟨rfl, rfl, rfl, by decide +kernel, rfl, by decide +kernel, by decide +kernel⟩
theorem ok_leads_by (T : Top K mg cS cW) : DFn P w K mg base "leads_by" ["one", "other"] 4 F_leads_by := by
  obtain ⟨f, fd, hm, Ff, hb⟩ := T.d_leads_by
  exact fnP_ok (N := N_leads_by) (k := 3) hm Ff hb sc_leads_by fun cdv A outer s H E hr =>
    (dss_cons (ds_asg (de_call (ok_settled_from (P := P) (w := w) (base := base) T) (hr.mono (by decide)) (takes_of rfl rfl rfl rfl) (da_cons (de_lst (da_cons (de_var (pv 0)) (da_cons (de_var (pv 1)) da_nil))) da_nil)) (dg_tup rfl (dgs_cons (dg_name (i := 2) sc_leads_by.nd) (dgs_cons (dg_name (i := 3) sc_leads_by.nd) dgs_nil))))
    (dss_cons (ds_set (i := 4) sc_leads_by.nd (de_lst da_nil))
    (dss_cons (ds_for (passes_of rfl) rfl (di_rng2 rfl T.m_range (da_cons de_int (da_cons (de_add (de_var (pv 2)) (de_var (pv 3))) da_nil))) (dg_name (i := 5) sc_leads_by.nd)
    (dss_cons (ds_par (i := 6) (j := 7) rfl sc_leads_by.nd (de_call (ok_minute_in (P := P) (w := w) (base := base) T) (hr.mono (by decide)) (takes_of rfl rfl rfl rfl) (da_cons (de_var (pv 0)) (da_cons (de_var (pv 5)) da_nil))) (de_call (ok_minute_in (P := P) (w := w) (base := base) T) (hr.mono (by decide)) (takes_of rfl rfl rfl rfl) (da_cons (de_var (pv 1)) (da_cons (de_var (pv 5)) da_nil))))
    (dss_one (ds_set (i := 4) sc_leads_by.nd (de_add (de_var (pv 4)) (de_if (dt_w (dw_and (dt_cmp op_notN od_notN (de_var (pv 6)) de_non (nomark _)) (dw_and1 (dt_cmp op_notN od_notN (de_var (pv 7)) de_non (nomark _))))) (de_lst (da_cons (de_sub (de_var (pv 7)) (de_var (pv 6))) da_nil)) (de_lst da_nil)))))))
    (dss_cons (ds_if (dt_cmp (op_eqD hr.units) od_eq (de_var (pv 4)) (de_lst da_nil) (nomark _))
    (dss_one (ds_ret de_non))
    dss_nil)
    (dss_cons (ds_par (i := 8) (j := 9) rfl sc_leads_by.nd (de_callB (call_minD rfl) cd_min rfl T.m_min b_min (da_cons (de_lc (own := [(("far" : Str), 11)]) (c := (.nm 11)) rfl sc_leads_by.nd (di_seq (de_var (pv 4))) (blkOk_by (N := N_leads_by) (sc := defScope s_leads_by) (by decide +kernel)) (by decide) (fun _ _ _ _ _ => (pg_name (i := 11) sc_leads_by.nd rfl (Or.inl rfl))) (fun _ _ _ _ _ => dts_nil) (fun _ _ _ _ _ => (de_callTy call_int1 cd_int rfl T.m_int b_int (da_cons (de_var (pv 11)) da_nil)))) da_nil)) (de_callB (call_maxD rfl) cd_max rfl T.m_max b_max (da_cons (de_lc (own := [(("far" : Str), 11)]) (c := (.nm 11)) rfl sc_leads_by.nd (di_seq (de_var (pv 4))) (blkOk_by (N := N_leads_by) (sc := defScope s_leads_by) (by decide +kernel)) (by decide) (fun _ _ _ _ _ => (pg_name (i := 11) sc_leads_by.nd rfl (Or.inl rfl))) (fun _ _ _ _ _ => dts_nil) (fun _ _ _ _ _ => (de_callTy call_int1 cd_int rfl T.m_int b_int (da_cons (de_var (pv 11)) da_nil)))) da_nil)))
    (dss_cons (ds_set (i := 10) sc_leads_by.nd (de_if (dt_w (dw_and (dt_truth (de_call (ok_is_endless (P := P) (w := w) (base := base) T) (hr.mono (by decide)) (takes_of rfl rfl rfl rfl) (da_cons (de_var (pv 0)) da_nil)) (by intro _; rfl)) (dw_and1 (dt_truth (de_call (ok_is_endless (P := P) (w := w) (base := base) T) (hr.mono (by decide)) (takes_of rfl rfl rfl rfl) (da_cons (de_var (pv 1)) da_nil)) (by intro _; rfl))))) (de_sub (de_call (ok_rise_in (P := P) (w := w) (base := base) T) (hr.mono (by decide)) (takes_of rfl rfl rfl rfl) (da_cons (de_var (pv 1)) (da_cons (de_var (pv 3)) da_nil))) (de_call (ok_rise_in (P := P) (w := w) (base := base) T) (hr.mono (by decide)) (takes_of rfl rfl rfl rfl) (da_cons (de_var (pv 0)) (da_cons (de_var (pv 3)) da_nil)))) de_int))
    (dss_one (ds_ret (de_tup (da_cons (de_if (dt_cmp op_lt od_lt (de_var (pv 10)) de_int (nomark _)) de_non (de_var (pv 8))) (da_cons (de_if (dt_cmp op_gt od_gt (de_var (pv 10)) de_int (nomark _)) de_non (de_var (pv 9))) da_nil)))))))))))
theorem sc_parting_depth : FnScope N_parting_depth ["one", "other"] (defScope s_parting_depth) := ⟨rfl, rfl, rfl, by decide +kernel, rfl, by decide +kernel, by decide +kernel⟩
theorem ok_parting_depth (T : Top K mg cS cW) : DFn P w K mg base "parting_depth" ["one", "other"] 4 F_parting_depth := by
  obtain ⟨f, fd, hm, Ff, hb⟩ := T.d_parting_depth
  exact fnP_ok (N := N_parting_depth) (k := 3) hm Ff hb sc_parting_depth fun cdv A outer s H E hr =>
    (dss_cons (ds_asg (de_call (ok_settled_from (P := P) (w := w) (base := base) T) (hr.mono (by decide)) (takes_of rfl rfl rfl rfl) (da_cons (de_lst (da_cons (de_var (pv 0)) (da_cons (de_var (pv 1)) da_nil))) da_nil)) (dg_tup rfl (dgs_cons (dg_name (i := 2) sc_parting_depth.nd) (dgs_cons (dg_name (i := 3) sc_parting_depth.nd) dgs_nil))))
    (dss_cons (ds_for (passes_of rfl) rfl (di_rng2 rfl T.m_range (da_cons de_int (da_cons (de_add (de_var (pv 2)) (de_var (pv 3))) da_nil))) (dg_name (i := 4) sc_parting_depth.nd)
    (dss_one (ds_if (dt_cmp (op_neD hr.units) od_ne (de_call (ok_minute_in (P := P) (w := w) (base := base) T) (hr.mono (by decide)) (takes_of rfl rfl rfl rfl) (da_cons (de_var (pv 0)) (da_cons (de_var (pv 4)) da_nil))) (de_call (ok_minute_in (P := P) (w := w) (base := base) T) (hr.mono (by decide)) (takes_of rfl rfl rfl rfl) (da_cons (de_var (pv 1)) (da_cons (de_var (pv 4)) da_nil))) (nomark _))
    (dss_one (ds_ret (de_var (pv 4))))
    dss_nil)))
    (dss_one (ds_ret de_non))))
theorem sc_snail_in : FnScope N_snail_in ["line"] (defScope s_snail_in) := ⟨rfl, rfl, rfl, by decide +kernel, rfl, by decide +kernel, by decide +kernel⟩
theorem ok_snail_in (T : Top K mg cS cW) : DFn P w K mg base "snail_in" ["line"] 4 F_snail_in := by
  obtain ⟨f, fd, hm, Ff, hb⟩ := T.d_snail_in
  exact fnP_ok (N := N_snail_in) (k := 3) hm Ff hb sc_snail_in fun cdv A outer s H E hr =>
    (dss_cons (ds_set (i := 1) sc_snail_in.nd (de_split (de_var (pv 0)) (da_cons de_str da_nil)))
    (dss_cons (ds_if (dt_w (dw_or (dt_cmp (op_neD hr.units) od_ne (de_idx (de_var (pv 1)) de_int) de_str (nomark _)) (dw_or (dt_cmp op_lt od_lt (de_callB call_len cd_len rfl T.m_len b_len (da_cons (de_var (pv 1)) da_nil)) de_int (nomark _)) (dw_or1 (dt_not (dt_truth (de_callB (cr_all rfl) cd_all rfl T.m_all b_all (da_cons (de_lc (own := [(("word" : Str), 3)]) (c := (.nm 3)) rfl sc_snail_in.nd (di_seq (de_slice (de_var (pv 1)) (do_some de_int) do_none)) (blkOk_by (N := N_snail_in) (sc := defScope s_snail_in) (by decide +kernel)) (by decide) (fun _ _ _ _ _ => (pg_name (i := 3) sc_snail_in.nd rfl (Or.inl rfl))) (fun _ _ _ _ _ => dts_nil) (fun _ _ _ _ _ => (de_cmp (op_inA hr) od_in (de_var (pv 3)) (de_gtup T.m_STEPS) (by with_unfolding_all rfl)))) da_nil)) (by intro _; rfl)))))))
    (dss_one (ds_ret de_non))
    dss_nil)
    (dss_cons (ds_set (i := 2) sc_snail_in.nd (de_tup (da_cons (de_call (ok_number_in (P := P) (w := w) (base := base) T) (hr.mono (by decide)) (takes_of rfl rfl rfl rfl) (da_cons (de_idx (de_var (pv 1)) de_int) da_nil)) (da_cons (de_call (ok_number_in (P := P) (w := w) (base := base) T) (hr.mono (by decide)) (takes_of rfl rfl rfl rfl) (da_cons (de_idx (de_var (pv 1)) de_int) da_nil)) (da_cons (de_callTy call_tuple_of cd_tuple rfl T.m_tuple b_tuple (da_cons (de_lc (own := [(("word" : Str), 3)]) (c := (.nm 3)) rfl sc_snail_in.nd (di_seq (de_slice (de_var (pv 1)) (do_some de_int) do_none)) (blkOk_by (N := N_snail_in) (sc := defScope s_snail_in) (by decide +kernel)) (by decide) (fun _ _ _ _ _ => (pg_name (i := 3) sc_snail_in.nd rfl (Or.inl rfl))) (fun _ _ _ _ _ => dts_nil) (fun _ _ _ _ _ => (de_callTy call_int_str cd_intT rfl T.m_int b_int (da_cons (de_var (pv 3)) da_nil)))) da_nil)) da_nil)))))
    (dss_one (ds_ret (de_if (dt_truth (de_call (ok_is_good_snail (P := P) (w := w) (base := base) T) (hr.mono (by decide)) (takes_of rfl rfl rfl rfl) (da_cons (de_var (pv 2)) da_nil)) (by intro _; rfl)) (de_var (pv 2)) de_non))))))
theorem sc_Snail___init__ : FnScope N_Snail___init__ ["self", "start", "height", "steps"] (defScope s_Snail___init__) := ⟨rfl, rfl, rfl, by decide +kernel, rfl, by decide +kernel, by decide +kernel⟩
theorem ok_Snail___init__ (T : Top K mg cS cW) : DInit P w K mg base cS 5 (F_Snail___init__ cS) := by
  obtain ⟨f, M, fd, Ff⟩ := T.f_Snail___init__
  exact ⟨f, M, fnS_fn (ps := ["self", "start", "height"]) (N := N_Snail___init__) (k := 4) Ff sc_Snail___init__ (fun kV doc pm an cdv ct => bind_star3 (B := fun us => bindArgs (PySem.W.fnOf "__init__" "Snail.__init__" (defArgs s_Snail___init__) (defBody s_Snail___init__) (defScope s_Snail___init__) .none kV doc pm an cdv ct) ⟨us, []⟩) (fun _ _ _ => rfl) (fun _ _ _ _ _ => rfl)) fun cdv A outer s H E hr =>
    (dss_cons (ds_expr (de_call (ok_need_snail (P := P) (w := w) (base := base) T) (hr.mono (by decide)) (takes_of rfl rfl rfl rfl) (da_cons (de_tup (da_cons (de_var (pv 1)) (da_cons (de_var (pv 2)) (da_cons (de_var (pv 3)) da_nil)))) da_nil)))
    (dss_one (ds_fld T.x_Snail T.a_Snail_base (de_var (pv 0)) (de_tup (da_cons (de_var (pv 1)) (da_cons (de_var (pv 2)) (da_cons (de_var (pv 3)) da_nil)))))))⟩
theorem sc_need_snails : FnScope N_need_snails ["value"] (defScope s_need_snails) := ⟨rfl, rfl, rfl, by decide +kernel, rfl, by decide +kernel, by decide +kernel⟩
theorem ok_need_snails (T : Top K mg cS cW) : DFn P w K mg base "need_snails" ["value"] 5 F_need_snails := by
  obtain ⟨f, fd, hm, Ff, hb⟩ := T.d_need_snails
  exact fnP_ok (N := N_need_snails) (k := 4) hm Ff hb sc_need_snails fun cdv A outer s H E hr =>
    (dss_one (ds_if (dt_not (dt_truth (de_call (ok_are_good_snails (P := P) (w := w) (base := base) T) (hr.mono (by decide)) (takes_of rfl rfl rfl rfl) (da_cons (de_var (pv 0)) da_nil)) (by intro _; rfl)))
    (dss_one (ds_raise rfl (takes_of rfl rfl rfl rfl) T.c_InvalidSnails))
    dss_nil))
theorem sc_height_of : FnScope N_height_of ["snail", "minute"] (defScope s_height_of) := ⟨rfl, rfl, rfl, by decide +kernel, rfl, by decide +kernel, by decide +kernel⟩
theorem ok_height_of (T : Top K mg cS cW) : DFn P w K mg base "height_of" ["snail", "minute"] 5 F_height_of := by
  obtain ⟨f, fd, hm, Ff, hb⟩ := T.d_height_of
  exact fnP_ok (N := N_height_of) (k := 4) hm Ff hb sc_height_of fun cdv A outer s H E hr =>
    (dss_cons (ds_asg (de_var (pv 0)) (dg_tup rfl (dgs_cons (dg_name (i := 2) sc_height_of.nd) (dgs_cons (dg_name (i := 3) sc_height_of.nd) (dgs_cons (dg_name (i := 4) sc_height_of.nd) dgs_nil)))))
    (dss_cons (ds_if (dt_cmp op_le od_le (de_var (pv 1)) (de_var (pv 2)) (nomark _))
    (dss_one (ds_ret (de_var (pv 3))))
    dss_nil)
    (dss_cons (ds_par (i := 5) (j := 6) rfl sc_height_of.nd (de_div (de_sub (de_var (pv 1)) (de_var (pv 2))) (de_callB call_len cd_len rfl T.m_len b_len (da_cons (de_var (pv 4)) da_nil))) (de_mod (de_sub (de_var (pv 1)) (de_var (pv 2))) (de_callB call_len cd_len rfl T.m_len b_len (da_cons (de_var (pv 4)) da_nil))))
    (dss_cons (ds_set (i := 7) sc_height_of.nd (de_call (ok_settled (P := P) (w := w) (base := base) T) (hr.mono (by decide)) (takes_of rfl rfl rfl rfl) (da_cons (de_var (pv 3)) (da_cons (de_var (pv 4)) da_nil))))
    (dss_cons (ds_if (dt_cmp op_lt od_lt (de_var (pv 5)) (de_callB call_len cd_len rfl T.m_len b_len (da_cons (de_var (pv 7)) da_nil)) (nomark _))
    (dss_one (ds_ret (de_call (ok_behind (P := P) (w := w) (base := base) T) (hr.mono (by decide)) (takes_of rfl rfl rfl rfl) (da_cons (de_idx (de_var (pv 7)) (de_var (pv 5))) (da_cons (de_slice (de_var (pv 4)) do_none (do_some (de_var (pv 6)))) da_nil)))))
    dss_nil)
    (dss_cons (ds_set (i := 8) sc_height_of.nd (de_add (de_idx (de_var (pv 7)) (de_neg de_int)) (de_mul (de_add (de_sub (de_var (pv 5)) (de_callB call_len cd_len rfl T.m_len b_len (da_cons (de_var (pv 7)) da_nil))) de_int) (de_call (ok_gain_of (P := P) (w := w) (base := base) T) (hr.mono (by decide)) (takes_of rfl rfl rfl rfl) (da_cons (de_idx (de_var (pv 7)) (de_neg de_int)) (da_cons (de_var (pv 4)) da_nil))))))
    (dss_one (ds_ret (de_call (ok_behind (P := P) (w := w) (base := base) T) (hr.mono (by decide)) (takes_of rfl rfl rfl rfl) (da_cons (de_var (pv 8)) (da_cons (de_slice (de_var (pv 4)) do_none (do_some (de_var (pv 6)))) da_nil)))))))))))
theorem sc_are_snails : FnScope N_are_snails ["value"] (defScope s_are_snails) := ⟨rfl, rfl, rfl, by decide +kernel, rfl, by decide +kernel, by decide +kernel⟩
theorem ok_are_snails (T : Top K mg cS cW) : DFn P w K mg base "are_snails" ["value"] 5 F_are_snails := by
  obtain ⟨f, fd, hm, Ff, hb⟩ := T.d_are_snails
  exact fnP_ok (N := N_are_snails) (k := 4) hm Ff hb sc_are_snails fun cdv A outer s H E hr =>
    (dss_one (ds_ret (de_call (ok_are_good_snails (P := P) (w := w) (base := base) T) (hr.mono (by decide)) (takes_of rfl rfl rfl rfl) (da_cons (de_var (pv 0)) da_nil))))
theorem sc_calendar_of : FnScope N_calendar_of ["snail"] (defScope s_calendar_of) := ⟨rfl, rfl, rfl, by decide +kernel, rfl, by decide +kernel, by decide +kernel⟩
theorem ok_calendar_of (T : Top K mg cS cW) : DFn P w K mg base "calendar_of" ["snail"] 5 F_calendar_of := by
  obtain ⟨f, fd, hm, Ff, hb⟩ := T.d_calendar_of
  exact fnP_ok (N := N_calendar_of) (k := 4) hm Ff hb sc_calendar_of fun cdv A outer s H E hr =>
    (dss_cons (ds_asg (de_var (pv 0)) (dg_tup rfl (dgs_cons (dg_name (i := 1) sc_calendar_of.nd) (dgs_cons (dg_name (i := 2) sc_calendar_of.nd) (dgs_cons (dg_name (i := 3) sc_calendar_of.nd) dgs_nil)))))
    (dss_cons (ds_set (i := 4) sc_calendar_of.nd (de_call (ok_settled (P := P) (w := w) (base := base) T) (hr.mono (by decide)) (takes_of rfl rfl rfl rfl) (da_cons (de_var (pv 2)) (da_cons (de_var (pv 3)) da_nil))))
    (dss_cons (ds_set (i := 5) sc_calendar_of.nd (de_call (ok_gain_of (P := P) (w := w) (base := base) T) (hr.mono (by decide)) (takes_of rfl rfl rfl rfl) (da_cons (de_idx (de_var (pv 4)) (de_neg de_int)) (da_cons (de_var (pv 3)) da_nil))))
    (dss_cons (ds_if (dt_cmp (op_eqD hr.units) od_eq (de_var (pv 5)) de_int (nomark _))
    (dss_one (ds_ret (de_tup (da_cons (de_callTy call_tuple_of cd_tuple rfl T.m_tuple b_tuple (da_cons (de_call (ok_records_of (P := P) (w := w) (base := base) T) (hr.mono (by decide)) (takes_of rfl rfl rfl rfl) (da_cons (de_var (pv 0)) (da_cons (de_callB call_len cd_len rfl T.m_len b_len (da_cons (de_var (pv 4)) da_nil)) da_nil))) da_nil)) (da_cons (de_tup (da_cons de_non da_nil)) (da_cons de_int da_nil))))))
    dss_nil)
    (dss_cons (ds_set (i := 6) sc_calendar_of.nd (de_callB call_len cd_len rfl T.m_len b_len (da_cons (de_var (pv 4)) da_nil)))
    (dss_cons (ds_while 4096 (passes_of rfl) (dt_cmp (op_neD hr.units) od_ne (de_sub (de_callB call_len cd_len rfl T.m_len b_len (da_cons (de_call (ok_records_of (P := P) (w := w) (base := base) T) (hr.mono (by decide)) (takes_of rfl rfl rfl rfl) (da_cons (de_var (pv 0)) (da_cons (de_add (de_var (pv 6)) de_int) da_nil))) da_nil)) (de_callB call_len cd_len rfl T.m_len b_len (da_cons (de_call (ok_records_of (P := P) (w := w) (base := base) T) (hr.mono (by decide)) (takes_of rfl rfl rfl rfl) (da_cons (de_var (pv 0)) (da_cons (de_var (pv 6)) da_nil))) da_nil))) (de_var (pv 5)) (nomark _))
    (dss_one (ds_set (i := 6) sc_calendar_of.nd (de_add (de_var (pv 6)) de_int))))
    (dss_cons (ds_par (i := 7) (j := 8) rfl sc_calendar_of.nd (de_call (ok_records_of (P := P) (w := w) (base := base) T) (hr.mono (by decide)) (takes_of rfl rfl rfl rfl) (da_cons (de_var (pv 0)) (da_cons (de_var (pv 6)) da_nil))) (de_call (ok_records_of (P := P) (w := w) (base := base) T) (hr.mono (by decide)) (takes_of rfl rfl rfl rfl) (da_cons (de_var (pv 0)) (da_cons (de_add (de_var (pv 6)) de_int) da_nil))))
    (dss_cons (ds_par (i := 9) (j := 10) rfl sc_calendar_of.nd (de_slice (de_var (pv 8)) (do_some (de_callB call_len cd_len rfl T.m_len b_len (da_cons (de_var (pv 7)) da_nil))) do_none) (de_callB call_len cd_len rfl T.m_len b_len (da_cons (de_var (pv 3)) da_nil)))
    (dss_cons (ds_set (i := 11) sc_calendar_of.nd (de_call (ok_least_turn (P := P) (w := w) (base := base) T) (hr.mono (by decide)) (takes_of rfl rfl rfl rfl) (da_cons (de_var (pv 9)) (da_cons (de_var (pv 10)) da_nil))))
    (dss_cons (ds_par (i := 9) (j := 10) rfl sc_calendar_of.nd (de_slice (de_var (pv 9)) do_none (do_some (de_var (pv 11)))) (de_div (de_mul (de_var (pv 10)) (de_var (pv 11))) (de_var (pv 5))))
    (dss_cons (ds_while 4096 (passes_of rfl) (dt_w (dw_and (dt_cmp (op_neD hr.units) od_ne (de_var (pv 7)) (de_lst da_nil) (nomark _)) (dw_and1 (dt_cmp (op_eqD hr.units) od_eq (de_add (de_idx (de_var (pv 7)) (de_neg de_int)) (de_var (pv 10))) (de_idx (de_var (pv 9)) (de_neg de_int)) (nomark _)))))
    (dss_one (ds_par (i := 7) (j := 9) rfl sc_calendar_of.nd (de_slice (de_var (pv 7)) do_none (do_some (de_neg de_int))) (de_add (de_lst (da_cons (de_idx (de_var (pv 7)) (de_neg de_int)) da_nil)) (de_slice (de_var (pv 9)) do_none (do_some (de_neg de_int)))))))
    (dss_one (ds_ret (de_tup (da_cons (de_callTy call_tuple_of cd_tuple rfl T.m_tuple b_tuple (da_cons (de_var (pv 7)) da_nil)) (da_cons (de_callTy call_tuple_of cd_tuple rfl T.m_tuple b_tuple (da_cons (de_var (pv 9)) da_nil)) (da_cons (de_var (pv 10)) da_nil)))))))))))))))))
theorem sc_need_two : FnScope N_need_two ["one", "other"] (defScope s_need_two) := ⟨rfl, rfl, rfl, by decide +kernel, rfl, by decide +kernel, by decide +kernel⟩
theorem ok_need_two (T : Top K mg cS cW) : DFn P w K mg base "need_two" ["one", "other"] 5 F_need_two := by
  obtain ⟨f, fd, hm, Ff, hb⟩ := T.d_need_two
  exact fnP_ok (N := N_need_two) (k := 4) hm Ff hb sc_need_two fun cdv A outer s H E hr =>
    (dss_cons (ds_expr (de_call (ok_need_snail (P := P) (w := w) (base := base) T) (hr.mono (by decide)) (takes_of rfl rfl rfl rfl) (da_cons (de_var (pv 0)) da_nil)))
    (dss_one (ds_expr (de_call (ok_need_snail (P := P) (w := w) (base := base) T) (hr.mono (by decide)) (takes_of rfl rfl rfl rfl) (da_cons (de_var (pv 1)) da_nil)))))
theorem sc_settled_minute : FnScope N_settled_minute ["snail"] (defScope s_settled_minute) := ⟨rfl, rfl, rfl, by decide +kernel, rfl, by decide +kernel, by decide +kernel⟩
theorem ok_settled_minute (T : Top K mg cS cW) : DFn P w K mg base "settled_minute" ["snail"] 5 F_settled_minute := by
  obtain ⟨f, fd, hm, Ff, hb⟩ := T.d_settled_minute
  exact fnP_ok (N := N_settled_minute) (k := 4) hm Ff hb sc_settled_minute fun cdv A outer s H E hr =>
    (dss_cons (ds_asg (de_var (pv 0)) (dg_tup rfl (dgs_cons (dg_name (i := 1) sc_settled_minute.nd) (dgs_cons (dg_name (i := 2) sc_settled_minute.nd) (dgs_cons (dg_name (i := 3) sc_settled_minute.nd) dgs_nil)))))
    (dss_one (ds_ret (de_add (de_var (pv 1)) (de_mul (de_sub (de_callB call_len cd_len rfl T.m_len b_len (da_cons (de_call (ok_settled (P := P) (w := w) (base := base) T) (hr.mono (by decide)) (takes_of rfl rfl rfl rfl) (da_cons (de_var (pv 2)) (da_cons (de_var (pv 3)) da_nil))) da_nil)) de_int) (de_callB call_len cd_len rfl T.m_len b_len (da_cons (de_var (pv 3)) da_nil)))))))
theorem sc_gain_in : FnScope N_gain_in ["snail", "minutes"] (defScope s_gain_in) := ⟨rfl, rfl, rfl, by decide +kernel, rfl, by decide +kernel, by decide +kernel⟩
theorem ok_gain_in (T : Top K mg cS cW) : DFn P w K mg base "gain_in" ["snail", "minutes"] 5 F_gain_in := by
  obtain ⟨f, fd, hm, Ff, hb⟩ := T.d_gain_in
  exact fnP_ok (N := N_gain_in) (k := 4) hm Ff hb sc_gain_in fun cdv A outer s H E hr =>
    (dss_cons (ds_asg (de_var (pv 0)) (dg_tup rfl (dgs_cons (dg_name (i := 2) sc_gain_in.nd) (dgs_cons (dg_name (i := 3) sc_gain_in.nd) (dgs_cons (dg_name (i := 4) sc_gain_in.nd) dgs_nil)))))
    (dss_one (ds_ret (de_mul (de_call (ok_gain_of (P := P) (w := w) (base := base) T) (hr.mono (by decide)) (takes_of rfl rfl rfl rfl) (da_cons (de_idx (de_call (ok_settled (P := P) (w := w) (base := base) T) (hr.mono (by decide)) (takes_of rfl rfl rfl rfl) (da_cons (de_var (pv 3)) (da_cons (de_var (pv 4)) da_nil))) (de_neg de_int)) (da_cons (de_var (pv 4)) da_nil))) (de_div (de_var (pv 1)) (de_callB call_len cd_len rfl T.m_len b_len (da_cons (de_var (pv 4)) da_nil)))))))
theorem sc_top_of : FnScope N_top_of ["snail"] (defScope s_top_of) := ⟨rfl, rfl, rfl, by decide +kernel, rfl, by decide +kernel, by decide +kernel⟩
theorem ok_top_of (T : Top K mg cS cW) : DFn P w K mg base "top_of" ["snail"] 5 F_top_of := by
  obtain ⟨f, fd, hm, Ff, hb⟩ := T.d_top_of
  exact fnP_ok (N := N_top_of) (k := 4) hm Ff hb sc_top_of fun cdv A outer s H E hr =>
    (dss_cons (ds_asg (de_var (pv 0)) (dg_tup rfl (dgs_cons (dg_name (i := 1) sc_top_of.nd) (dgs_cons (dg_name (i := 2) sc_top_of.nd) (dgs_cons (dg_name (i := 3) sc_top_of.nd) dgs_nil)))))
    (dss_cons (ds_set (i := 4) sc_top_of.nd (de_call (ok_settled (P := P) (w := w) (base := base) T) (hr.mono (by decide)) (takes_of rfl rfl rfl rfl) (da_cons (de_var (pv 2)) (da_cons (de_var (pv 3)) da_nil))))
    (dss_cons (ds_if (dt_cmp op_gt od_gt (de_call (ok_gain_of (P := P) (w := w) (base := base) T) (hr.mono (by decide)) (takes_of rfl rfl rfl rfl) (da_cons (de_idx (de_var (pv 4)) (de_neg de_int)) (da_cons (de_var (pv 3)) da_nil))) de_int (nomark _))
    (dss_one (ds_ret de_non))
    dss_nil)
    (dss_cons (ds_set (i := 5) sc_top_of.nd (de_var (pv 2)))
    (dss_cons (ds_for (passes_of rfl) rfl (di_rng1 rfl T.m_range (da_cons (de_callB call_len cd_len rfl T.m_len b_len (da_cons (de_var (pv 4)) da_nil)) da_nil)) (dg_name (i := 6) sc_top_of.nd)
    (dss_one (ds_for (passes_of rfl) rfl (di_seq (de_var (pv 3))) (dg_name (i := 7) sc_top_of.nd)
    (dss_cons (ds_set (i := 2) sc_top_of.nd (de_call (ok_stepped (P := P) (w := w) (base := base) T) (hr.mono (by decide)) (takes_of rfl rfl rfl rfl) (da_cons (de_var (pv 2)) (da_cons (de_var (pv 7)) da_nil))))
    (dss_one (ds_set (i := 5) sc_top_of.nd (de_if (dt_cmp op_gt od_gt (de_var (pv 2)) (de_var (pv 5)) (nomark _)) (de_var (pv 2)) (de_var (pv 5)))))))))
    (dss_one (ds_ret (de_var (pv 5)))))))))
theorem sc_with_start : FnScope N_with_start ["snail", "start"] (defScope s_with_start) := ⟨rfl, rfl, rfl, by decide +kernel, rfl, by decide +kernel, by decide +kernel⟩
theorem ok_with_start (T : Top K mg cS cW) : DFn P w K mg base "with_start" ["snail", "start"] 5 F_with_start := by
  obtain ⟨f, fd, hm, Ff, hb⟩ := T.d_with_start
  exact fnP_ok (N := N_with_start) (k := 4) hm Ff hb sc_with_start fun cdv A outer s H E hr =>
    (dss_cons (ds_expr (de_call (ok_need_snail (P := P) (w := w) (base := base) T) (hr.mono (by decide)) (takes_of rfl rfl rfl rfl) (da_cons (de_var (pv 0)) da_nil)))
    (dss_cons (ds_if (dt_not (dt_truth (de_call (ok_is_number (P := P) (w := w) (base := base) T) (hr.mono (by decide)) (takes_of rfl rfl rfl rfl) (da_cons (de_var (pv 1)) (da_cons de_int (da_cons de_int da_nil)))) (by intro _; rfl)))
    (dss_one (ds_raise rfl (takes_of rfl rfl rfl rfl) T.c_InvalidNumber))
    dss_nil)
    (dss_one (ds_ret (de_call (ok_started (P := P) (w := w) (base := base) T) (hr.mono (by decide)) (takes_of rfl rfl rfl rfl) (da_cons (de_var (pv 0)) (da_cons (de_var (pv 1)) da_nil)))))))
theorem sc_snails_in : FnScope N_snails_in ["value"] (defScope s_snails_in) := ⟨rfl, rfl, rfl, by decide +kernel, rfl, by decide +kernel, by decide +kernel⟩
theorem ok_snails_in (T : Top K mg cS cW) : DFn P w K mg base "snails_in" ["value"] 5 F_snails_in := by
  obtain ⟨f, fd, hm, Ff, hb⟩ := T.d_snails_in
  exact fnP_ok (N := N_snails_in) (k := 4) hm Ff hb sc_snails_in fun cdv A outer s H E hr =>
    (dss_cons (ds_if (dt_not (dt_truth (de_isi 3 (by decide) b_str T.m_isinstance T.m_str (de_var (pv 0))) (by intro _; rfl)))
    (dss_one ds_bad)
    dss_nil)
    (dss_cons (ds_setLc (i := 1) (own := [(("line" : Str), 2)]) (c := (.nm 2)) rfl sc_snails_in.nd (di_seq (de_split (de_var (pv 0)) (da_cons de_str da_nil))) (blkOk_by (N := N_snails_in) (sc := defScope s_snails_in) (by decide +kernel)) (by decide) (fun _ _ _ _ _ => (pg_name (i := 2) sc_snails_in.nd rfl (Or.inl rfl))) (fun _ _ _ _ _ => dts_nil) (fun _ _ _ _ _ => (de_call (ok_snail_in (P := P) (w := w) (base := base) T) (hr.mono (by decide)) takes0 (da_cons (de_var (pv 2)) da_nil))))
    (dss_cons (ds_if (dt_cmp (op_inA hr) od_in de_non (de_var (pv 1)) (by with_unfolding_all rfl))
    (dss_one ds_bad)
    dss_nil)
    (dss_cons (ds_if (dt_not (dt_truth (de_call (ok_are_good_snails (P := P) (w := w) (base := base) T) (hr.mono (by decide)) (takes_of rfl rfl rfl rfl) (da_cons (de_callTy call_tuple_of cd_tuple rfl T.m_tuple b_tuple (da_cons (de_var (pv 1)) da_nil)) da_nil)) (by intro _; rfl)))
    (dss_one ds_bad)
    dss_nil)
    (dss_one (ds_ret (de_callTy call_tuple_of cd_tuple rfl T.m_tuple b_tuple (da_cons (de_var (pv 1)) da_nil))))))))
theorem sc_good_snail : FnScope N_good_snail ["value"] (defScope s_good_snail) := ⟨rfl, rfl, rfl, by decide +kernel, rfl, by decide +kernel, by decide +kernel⟩
theorem ok_good_snail (T : Top K mg cS cW) : DFn P w K mg base "good_snail" ["value"] 5 F_good_snail := by
  obtain ⟨f, fd, hm, Ff, hb⟩ := T.d_good_snail
  exact fnP_ok (N := N_good_snail) (k := 4) hm Ff hb sc_good_snail fun cdv A outer s H E hr =>
    (dss_cons (ds_expr (de_call (ok_need_snail (P := P) (w := w) (base := base) T) (hr.mono (by decide)) (takes_of rfl rfl rfl rfl) (da_cons (de_var (pv 0)) da_nil)))
    (dss_one (ds_ret (de_var (pv 0)))))
theorem sc_Well_height_now : FnScope N_Well_height_now ["self", "index"] (defScope s_Well_height_now) := ⟨rfl, rfl, rfl, by decide +kernel, rfl, by decide +kernel, by decide +kernel⟩
theorem ok_Well_height_now (T : Top K mg cS cW) : DMt P w K mg base cW "height_now" 6 (F_Well_height_now cW) := by
  obtain ⟨f, hm, fd, Ff, hb⟩ := T.f_Well_height_now
  exact ⟨f, fd, _, _, hm, hb, fnP_fnM (N := N_Well_height_now) (k := 5) Ff sc_Well_height_now fun cdv A outer s H E hr =>
    (dss_cons (ds_asg (de_idx (de_idx (de_fld T.x_Well T.a_Well_now (de_var (pv 0))) de_int) (de_var (pv 1))) (dg_tup rfl (dgs_cons (dg_name (i := 2) sc_Well_height_now.nd) (dgs_cons (dg_name (i := 3) sc_Well_height_now.nd) (dgs_cons (dg_name (i := 4) sc_Well_height_now.nd) dgs_nil)))))
    (dss_one (ds_ret (de_call (ok_height_of (P := P) (w := w) (base := base) T) (hr.mono (by decide)) (takes_of rfl rfl rfl rfl) (da_cons (de_tup (da_cons de_int (da_cons (de_var (pv 3)) (da_cons (de_var (pv 4)) da_nil)))) (da_cons (de_sub (de_idx (de_fld T.x_Well T.a_Well_now (de_var (pv 0))) de_int) (de_var (pv 2))) da_nil)))))), rfl⟩
theorem sc_Snail___call__ : FnScope N_Snail___call__ ["self", "depth"] (defScope s_Snail___call__) := ⟨rfl, rfl, rfl, by decide +kernel, rfl, by decide +kernel, by decide +kernel⟩
theorem ok_Snail___call__ (T : Top K mg cS cW) : DSp P w K mg base cS "__call__" 6 (F_Snail___call__ cS) := by
  obtain ⟨f, h1, fd, Ff, hb⟩ := T.f_Snail___call__
  exact ⟨f, h1, FnR_num (FnR_of (fnP_fnM (N := N_Snail___call__) (k := 5) Ff sc_Snail___call__ fun cdv A outer s H E hr =>
    (dss_cons (ds_expr (de_call (ok_need_number (P := P) (w := w) (base := base) T) (hr.mono (by decide)) (takes_of rfl rfl rfl rfl) (da_cons (de_var (pv 1)) (da_cons de_int da_nil))))
    (dss_one (ds_ret (de_call (ok_minute_in (P := P) (w := w) (base := base) T) (hr.mono (by decide)) (takes_of rfl rfl rfl rfl) (da_cons (de_call (ok_calendar_of (P := P) (w := w) (base := base) T) (hr.mono (by decide)) (takes_of rfl rfl rfl rfl) (da_cons (de_fld T.x_Snail T.a_Snail_base (de_var (pv 0))) da_nil)) (da_cons (de_var (pv 1)) da_nil))))))) hb)⟩
theorem sc_Snail___bool__ : FnScope N_Snail___bool__ ["self"] (defScope s_Snail___bool__) := ⟨rfl, rfl, rfl, by decide +kernel, rfl, by decide +kernel, by decide +kernel⟩
theorem ok_Snail___bool__ (T : Top K mg cS cW) : DSp P w K mg base cS "__bool__" 6 (F_Snail___bool__ cS) := by
  obtain ⟨f, h1, fd, Ff, hb⟩ := T.f_Snail___bool__
  exact ⟨f, h1, FnR_num (FnR_of (fnP_fnM (N := N_Snail___bool__) (k := 5) Ff sc_Snail___bool__ fun cdv A outer s H E hr =>
    (dss_one (ds_ret (de_callTy call_bool1 cd_bool rfl T.m_bool b_bool (da_cons (de_call (ok_is_endless (P := P) (w := w) (base := base) T) (hr.mono (by decide)) (takes_of rfl rfl rfl rfl) (da_cons (de_call (ok_calendar_of (P := P) (w := w) (base := base) T) (hr.mono (by decide)) (takes_of rfl rfl rfl rfl) (da_cons (de_fld T.x_Snail T.a_Snail_base (de_var (pv 0))) da_nil)) da_nil)) da_nil))))) hb)⟩
theorem sc_Snail_beats : FnScope N_Snail_beats ["self", "other"] (defScope s_Snail_beats) := ⟨rfl, rfl, rfl, by decide +kernel, rfl, by decide +kernel, by decide +kernel⟩
theorem ok_Snail_beats (T : Top K mg cS cW) : DMt P w K mg base cS "beats" 6 (F_Snail_beats cS) := by
  obtain ⟨f, hm, fd, Ff, hb⟩ := T.f_Snail_beats
  exact ⟨f, fd, _, _, hm, hb, fnP_fnM (N := N_Snail_beats) (k := 5) Ff sc_Snail_beats fun cdv A outer s H E hr =>
    (dss_cons (ds_set (i := 2) sc_Snail_beats.nd (de_mtE T.x_Snail (ok_Snail_base_of (P := P) (w := w) (base := base) T) (hr.mono (by decide)) (takes_of rfl rfl rfl rfl) (de_var (pv 0)) (da_one (de_var (pv 1)) da_nil)))
    (dss_one (ds_ret (de_cmp op_isN od_isN (de_call (ok_later_depth (P := P) (w := w) (base := base) T) (hr.mono (by decide)) (takes_of rfl rfl rfl rfl) (da_cons (de_call (ok_calendar_of (P := P) (w := w) (base := base) T) (hr.mono (by decide)) (takes_of rfl rfl rfl rfl) (da_cons (de_fld T.x_Snail T.a_Snail_base (de_var (pv 0))) da_nil)) (da_cons (de_call (ok_calendar_of (P := P) (w := w) (base := base) T) (hr.mono (by decide)) (takes_of rfl rfl rfl rfl) (da_cons (de_var (pv 2)) da_nil)) da_nil))) de_non (nomark _))))), rfl⟩
theorem sc_height_at : FnScope N_height_at ["snail", "minute"] (defScope s_height_at) := ⟨rfl, rfl, rfl, by decide +kernel, rfl, by decide +kernel, by decide +kernel⟩
theorem ok_height_at (T : Top K mg cS cW) : DFn P w K mg base "height_at" ["snail", "minute"] 6 F_height_at := by
  obtain ⟨f, fd, hm, Ff, hb⟩ := T.d_height_at
  exact fnP_ok (N := N_height_at) (k := 5) hm Ff hb sc_height_at fun cdv A outer s H E hr =>
    (dss_cons (ds_expr (de_call (ok_need_snail (P := P) (w := w) (base := base) T) (hr.mono (by decide)) (takes_of rfl rfl rfl rfl) (da_cons (de_var (pv 0)) da_nil)))
    (dss_cons (ds_expr (de_call (ok_need_number (P := P) (w := w) (base := base) T) (hr.mono (by decide)) (takes_of rfl rfl rfl rfl) (da_cons (de_var (pv 1)) (da_cons de_int da_nil))))
    (dss_one (ds_ret (de_call (ok_height_of (P := P) (w := w) (base := base) T) (hr.mono (by decide)) (takes_of rfl rfl rfl rfl) (da_cons (de_var (pv 0)) (da_cons (de_var (pv 1)) da_nil)))))))
theorem sc_out_at : FnScope N_out_at ["snail", "depth"] (defScope s_out_at) := ⟨rfl, rfl, rfl, by decide +kernel, rfl, by decide +kernel, by decide +kernel⟩
theorem ok_out_at (T : Top K mg cS cW) : DFn P w K mg base "out_at" ["snail", "depth"] 6 F_out_at := by
  obtain ⟨f, fd, hm, Ff, hb⟩ := T.d_out_at
  exact fnP_ok (N := N_out_at) (k := 5) hm Ff hb sc_out_at fun cdv A outer s H E hr =>
    (dss_cons (ds_expr (de_call (ok_need_snail (P := P) (w := w) (base := base) T) (hr.mono (by decide)) (takes_of rfl rfl rfl rfl) (da_cons (de_var (pv 0)) da_nil)))
    (dss_cons (ds_expr (de_call (ok_need_number (P := P) (w := w) (base := base) T) (hr.mono (by decide)) (takes_of rfl rfl rfl rfl) (da_cons (de_var (pv 1)) (da_cons de_int da_nil))))
    (dss_one (ds_ret (de_call (ok_minute_in (P := P) (w := w) (base := base) T) (hr.mono (by decide)) (takes_of rfl rfl rfl rfl) (da_cons (de_call (ok_calendar_of (P := P) (w := w) (base := base) T) (hr.mono (by decide)) (takes_of rfl rfl rfl rfl) (da_cons (de_var (pv 0)) da_nil)) (da_cons (de_var (pv 1)) da_nil)))))))
theorem sc_calendar : FnScope N_calendar ["snail"] (defScope s_calendar) := ⟨rfl, rfl, rfl, by decide +kernel, rfl, by decide +kernel, by decide +kernel⟩
theorem ok_calendar (T : Top K mg cS cW) : DFn P w K mg base "calendar" ["snail"] 6 F_calendar := by
  obtain ⟨f, fd, hm, Ff, hb⟩ := T.d_calendar
  exact fnP_ok (N := N_calendar) (k := 5) hm Ff hb sc_calendar fun cdv A outer s H E hr =>
    (dss_cons (ds_expr (de_call (ok_need_snail (P := P) (w := w) (base := base) T) (hr.mono (by decide)) (takes_of rfl rfl rfl rfl) (da_cons (de_var (pv 0)) da_nil)))
    (dss_one (ds_ret (de_call (ok_calendar_of (P := P) (w := w) (base := base) T) (hr.mono (by decide)) (takes_of rfl rfl rfl rfl) (da_cons (de_var (pv 0)) da_nil)))))
theorem sc_out_in : FnScope N_out_in ["depth", "put", "minute"] (defScope s_out_in) := ⟨rfl, rfl, rfl, by decide +kernel, rfl, by decide +kernel, by decide +kernel⟩
theorem ok_out_in (T : Top K mg cS cW) : DFn P w K mg base "out_in" ["depth", "put", "minute"] 6 F_out_in := by
  obtain ⟨f, fd, hm, Ff, hb⟩ := T.d_out_in
  exact fnP_ok (N := N_out_in) (k := 5) hm Ff hb sc_out_in fun cdv A outer s H E hr =>
    (dss_cons (ds_set (i := 3) sc_out_in.nd (de_call (ok_minute_in (P := P) (w := w) (base := base) T) (hr.mono (by decide)) (takes_of rfl rfl rfl rfl) (da_cons (de_call (ok_calendar_of (P := P) (w := w) (base := base) T) (hr.mono (by decide)) (takes_of rfl rfl rfl rfl) (da_cons (de_add (de_tup (da_cons de_int da_nil)) (de_slice (de_var (pv 1)) (do_some de_int) do_none)) da_nil)) (da_cons (de_var (pv 0)) da_nil))))
    (dss_cons (ds_set (i := 4) sc_out_in.nd (de_if (dt_cmp op_isN od_isN (de_var (pv 3)) de_non (nomark _)) de_non (de_add (de_idx (de_var (pv 1)) de_int) (de_var (pv 3)))))
    (dss_one (ds_ret (de_if (dt_w (dw_and (dt_cmp op_notN od_notN (de_var (pv 4)) de_non (nomark _)) (dw_and1 (dt_cmp op_le od_le (de_var (pv 4)) (de_var (pv 2)) (nomark _))))) (de_var (pv 4)) de_non)))))
theorem sc_all_calendars : FnScope N_all_calendars ["snails"] (defScope s_all_calendars) := ⟨rfl, rfl, rfl, by decide +kernel, rfl, by decide +kernel, by decide +kernel⟩
theorem ok_all_calendars (T : Top K mg cS cW) : DFn P w K mg base "all_calendars" ["snails"] 6 F_all_calendars := by
  obtain ⟨f, fd, hm, Ff, hb⟩ := T.d_all_calendars
  exact fnP_ok (N := N_all_calendars) (k := 5) hm Ff hb sc_all_calendars fun cdv A outer s H E hr =>
    (dss_one (ds_ret (de_lc (own := [(("snail" : Str), 1)]) (c := (.nm 1)) rfl sc_all_calendars.nd (di_seq (de_var (pv 0))) (blkOk_by (N := N_all_calendars) (sc := defScope s_all_calendars) (by decide +kernel)) (by decide) (fun _ _ _ _ _ => (pg_name (i := 1) sc_all_calendars.nd rfl (Or.inl rfl))) (fun _ _ _ _ _ => dts_nil) (fun _ _ _ _ _ => (de_call (ok_calendar_of (P := P) (w := w) (base := base) T) (hr.mono (by decide)) takes0 (da_cons (de_var (pv 1)) da_nil))))))
theorem sc_leads : FnScope N_leads ["one", "other"] (defScope s_leads) := ⟨rfl, rfl, rfl, by decide +kernel, rfl, by decide +kernel, by decide +kernel⟩
theorem ok_leads (T : Top K mg cS cW) : DFn P w K mg base "leads" ["one", "other"] 6 F_leads := by
  obtain ⟨f, fd, hm, Ff, hb⟩ := T.d_leads
  exact fnP_ok (N := N_leads) (k := 5) hm Ff hb sc_leads fun cdv A outer s H E hr =>
    (dss_cons (ds_expr (de_call (ok_need_two (P := P) (w := w) (base := base) T) (hr.mono (by decide)) (takes_of rfl rfl rfl rfl) (da_cons (de_var (pv 0)) (da_cons (de_var (pv 1)) da_nil))))
    (dss_one (ds_ret (de_call (ok_leads_by (P := P) (w := w) (base := base) T) (hr.mono (by decide)) (takes_of rfl rfl rfl rfl) (da_cons (de_call (ok_calendar_of (P := P) (w := w) (base := base) T) (hr.mono (by decide)) (takes_of rfl rfl rfl rfl) (da_cons (de_var (pv 0)) da_nil)) (da_cons (de_call (ok_calendar_of (P := P) (w := w) (base := base) T) (hr.mono (by decide)) (takes_of rfl rfl rfl rfl) (da_cons (de_var (pv 1)) da_nil)) da_nil))))))
theorem sc_never_later : FnScope N_never_later ["one", "other"] (defScope s_never_later) := ⟨rfl, rfl, rfl, by decide +kernel, rfl, by decide +kernel, by decide +kernel⟩
theorem ok_never_later (T : Top K mg cS cW) : DFn P w K mg base "never_later" ["one", "other"] 6 F_never_later := by
  obtain ⟨f, fd, hm, Ff, hb⟩ := T.d_never_later
  exact fnP_ok (N := N_never_later) (k := 5) hm Ff hb sc_never_later fun cdv A outer s H E hr =>
    (dss_cons (ds_expr (de_call (ok_need_two (P := P) (w := w) (base := base) T) (hr.mono (by decide)) (takes_of rfl rfl rfl rfl) (da_cons (de_var (pv 0)) (da_cons (de_var (pv 1)) da_nil))))
    (dss_one (ds_ret (de_cmp op_isN od_isN (de_call (ok_later_depth (P := P) (w := w) (base := base) T) (hr.mono (by decide)) (takes_of rfl rfl rfl rfl) (da_cons (de_call (ok_calendar_of (P := P) (w := w) (base := base) T) (hr.mono (by decide)) (takes_of rfl rfl rfl rfl) (da_cons (de_var (pv 0)) da_nil)) (da_cons (de_call (ok_calendar_of (P := P) (w := w) (base := base) T) (hr.mono (by decide)) (takes_of rfl rfl rfl rfl) (da_cons (de_var (pv 1)) da_nil)) da_nil))) de_non (nomark _)))))
theorem sc_first_later : FnScope N_first_later ["one", "other"] (defScope s_first_later) := ⟨rfl, rfl, rfl, by decide +kernel, rfl, by decide +kernel, by decide +kernel⟩
theorem ok_first_later (T : Top K mg cS cW) : DFn P w K mg base "first_later" ["one", "other"] 6 F_first_later := by
  obtain ⟨f, fd, hm, Ff, hb⟩ := T.d_first_later
  exact fnP_ok (N := N_first_later) (k := 5) hm Ff hb sc_first_later fun cdv A outer s H E hr =>
    (dss_cons (ds_expr (de_call (ok_need_two (P := P) (w := w) (base := base) T) (hr.mono (by decide)) (takes_of rfl rfl rfl rfl) (da_cons (de_var (pv 0)) (da_cons (de_var (pv 1)) da_nil))))
    (dss_one (ds_ret (de_call (ok_later_depth (P := P) (w := w) (base := base) T) (hr.mono (by decide)) (takes_of rfl rfl rfl rfl) (da_cons (de_call (ok_calendar_of (P := P) (w := w) (base := base) T) (hr.mono (by decide)) (takes_of rfl rfl rfl rfl) (da_cons (de_var (pv 0)) da_nil)) (da_cons (de_call (ok_calendar_of (P := P) (w := w) (base := base) T) (hr.mono (by decide)) (takes_of rfl rfl rfl rfl) (da_cons (de_var (pv 1)) da_nil)) da_nil))))))
theorem sc_far_at : FnScope N_far_at ["one", "other", "minute"] (defScope s_far_at) := ⟨rfl, rfl, rfl, by decide +kernel, rfl, by decide +kernel, by decide +kernel⟩
theorem ok_far_at (T : Top K mg cS cW) : DFn P w K mg base "far_at" ["one", "other", "minute"] 6 F_far_at := by
  obtain ⟨f, fd, hm, Ff, hb⟩ := T.d_far_at
  exact fnP_ok (N := N_far_at) (k := 5) hm Ff hb sc_far_at fun cdv A outer s H E hr =>
    (dss_one (ds_ret (de_sub (de_call (ok_height_of (P := P) (w := w) (base := base) T) (hr.mono (by decide)) (takes_of rfl rfl rfl rfl) (da_cons (de_var (pv 0)) (da_cons (de_var (pv 2)) da_nil))) (de_call (ok_height_of (P := P) (w := w) (base := base) T) (hr.mono (by decide)) (takes_of rfl rfl rfl rfl) (da_cons (de_var (pv 1)) (da_cons (de_var (pv 2)) da_nil))))))
theorem sc_highest : FnScope N_highest ["snail"] (defScope s_highest) := ⟨rfl, rfl, rfl, by decide +kernel, rfl, by decide +kernel, by decide +kernel⟩
theorem ok_highest (T : Top K mg cS cW) : DFn P w K mg base "highest" ["snail"] 6 F_highest := by
  obtain ⟨f, fd, hm, Ff, hb⟩ := T.d_highest
  exact fnP_ok (N := N_highest) (k := 5) hm Ff hb sc_highest fun cdv A outer s H E hr =>
    (dss_cons (ds_expr (de_call (ok_need_snail (P := P) (w := w) (base := base) T) (hr.mono (by decide)) (takes_of rfl rfl rfl rfl) (da_cons (de_var (pv 0)) da_nil)))
    (dss_one (ds_ret (de_call (ok_top_of (P := P) (w := w) (base := base) T) (hr.mono (by decide)) (takes_of rfl rfl rfl rfl) (da_cons (de_var (pv 0)) da_nil)))))
theorem sc_are_alike : FnScope N_are_alike ["one", "other"] (defScope s_are_alike) := ⟨rfl, rfl, rfl, by decide +kernel, rfl, by decide +kernel, by decide +kernel⟩
theorem ok_are_alike (T : Top K mg cS cW) : DFn P w K mg base "are_alike" ["one", "other"] 6 F_are_alike := by
  obtain ⟨f, fd, hm, Ff, hb⟩ := T.d_are_alike
  exact fnP_ok (N := N_are_alike) (k := 5) hm Ff hb sc_are_alike fun cdv A outer s H E hr =>
    (dss_one (ds_ret (de_cmp (op_eqD hr.units) od_eq (de_call (ok_calendar_of (P := P) (w := w) (base := base) T) (hr.mono (by decide)) (takes_of rfl rfl rfl rfl) (da_cons (de_var (pv 0)) da_nil)) (de_call (ok_calendar_of (P := P) (w := w) (base := base) T) (hr.mono (by decide)) (takes_of rfl rfl rfl rfl) (da_cons (de_var (pv 1)) da_nil)) (nomark _))))
theorem sc_parting : FnScope N_parting ["one", "other"] (defScope s_parting) := ⟨rfl, rfl, rfl, by decide +kernel, rfl, by decide +kernel, by decide +kernel⟩
theorem ok_parting (T : Top K mg cS cW) : DFn P w K mg base "parting" ["one", "other"] 6 F_parting := by
  obtain ⟨f, fd, hm, Ff, hb⟩ := T.d_parting
  exact fnP_ok (N := N_parting) (k := 5) hm Ff hb sc_parting fun cdv A outer s H E hr =>
    (dss_cons (ds_expr (de_call (ok_need_two (P := P) (w := w) (base := base) T) (hr.mono (by decide)) (takes_of rfl rfl rfl rfl) (da_cons (de_var (pv 0)) (da_cons (de_var (pv 1)) da_nil))))
    (dss_one (ds_ret (de_call (ok_parting_depth (P := P) (w := w) (base := base) T) (hr.mono (by decide)) (takes_of rfl rfl rfl rfl) (da_cons (de_call (ok_calendar_of (P := P) (w := w) (base := base) T) (hr.mono (by decide)) (takes_of rfl rfl rfl rfl) (da_cons (de_var (pv 0)) da_nil)) (da_cons (de_call (ok_calendar_of (P := P) (w := w) (base := base) T) (hr.mono (by decide)) (takes_of rfl rfl rfl rfl) (da_cons (de_var (pv 1)) da_nil)) da_nil))))))
theorem sc_latest_start : FnScope N_latest_start ["one", "other"] (defScope s_latest_start) := ⟨rfl, rfl, rfl, by decide +kernel, rfl, by decide +kernel, by decide +kernel⟩
theorem ok_latest_start (T : Top K mg cS cW) : DFn P w K mg base "latest_start" ["one", "other"] 6 F_latest_start := by
  obtain ⟨f, fd, hm, Ff, hb⟩ := T.d_latest_start
  exact fnP_ok (N := N_latest_start) (k := 5) hm Ff hb sc_latest_start fun cdv A outer s H E hr =>
    (dss_cons (ds_expr (de_call (ok_need_two (P := P) (w := w) (base := base) T) (hr.mono (by decide)) (takes_of rfl rfl rfl rfl) (da_cons (de_var (pv 0)) (da_cons (de_var (pv 1)) da_nil))))
    (dss_cons (ds_set (i := 2) sc_latest_start.nd (de_call (ok_calendar_of (P := P) (w := w) (base := base) T) (hr.mono (by decide)) (takes_of rfl rfl rfl rfl) (da_cons (de_var (pv 1)) da_nil)))
    (dss_cons (ds_setLc (i := 3) (own := [(("start" : Str), 4)]) (c := (.nm 4)) rfl sc_latest_start.nd (di_rng1 rfl T.m_range (da_cons de_int da_nil)) (blkOk_by (N := N_latest_start) (sc := defScope s_latest_start) (by decide +kernel)) (by decide) (fun _ _ _ _ _ => (pg_name (i := 4) sc_latest_start.nd rfl (Or.inl rfl))) (fun _ _ _ _ _ => (dts_one (dt_cmp op_isN od_isN (de_call (ok_later_depth (P := P) (w := w) (base := base) T) (hr.mono (by decide)) takes0 (da_cons (de_call (ok_calendar_of (P := P) (w := w) (base := base) T) (hr.mono (by decide)) takes0 (da_cons (de_call (ok_started (P := P) (w := w) (base := base) T) (hr.mono (by decide)) takes0 (da_cons (de_var (pv 0)) (da_cons (de_var (pv 4)) da_nil))) da_nil)) (da_cons (de_var (pv 2)) da_nil))) de_non (nomark _)))) (fun _ _ _ _ _ => (de_var (pv 4))))
    (dss_one (ds_ret (de_if (dt_cmp (op_neD hr.units) od_ne (de_var (pv 3)) (de_lst da_nil) (nomark _)) (de_idx (de_var (pv 3)) (de_neg de_int)) de_non))))))
theorem sc_depths_told : FnScope N_depths_told ["snails", "seen"] (defScope s_depths_told) := ⟨rfl, rfl, rfl, by decide +kernel, rfl, by decide +kernel, by decide +kernel⟩
theorem ok_depths_told (T : Top K mg cS cW) : DFn P w K mg base "depths_told" ["snails", "seen"] 6 F_depths_told := by
  obtain ⟨f, fd, hm, Ff, hb⟩ := T.d_depths_told
  exact fnP_ok (N := N_depths_told) (k := 5) hm Ff hb sc_depths_told fun cdv A outer s H E hr =>
    (dss_cons (ds_expr (de_call (ok_need_snails (P := P) (w := w) (base := base) T) (hr.mono (by decide)) (takes_of rfl rfl rfl rfl) (da_cons (de_var (pv 0)) da_nil)))
    (dss_cons (ds_expr (de_call (ok_need_seen (P := P) (w := w) (base := base) T) (hr.mono (by decide)) (takes_of rfl rfl rfl rfl) (da_cons (de_var (pv 0)) (da_cons (de_var (pv 1)) da_nil))))
    (dss_cons (ds_set (i := 2) sc_depths_told.nd (de_tup (da_cons de_int (da_cons de_non da_nil))))
    (dss_cons (ds_for (passes_of rfl) rfl (di_seq (de_var (pv 1))) (dg_tup rfl (dgs_cons (dg_name (i := 3) sc_depths_told.nd) (dgs_cons (dg_name (i := 4) sc_depths_told.nd) dgs_nil)))
    (dss_one (ds_set (i := 2) sc_depths_told.nd (de_call (ok_both (P := P) (w := w) (base := base) T) (hr.mono (by decide)) (takes_of rfl rfl rfl rfl) (da_cons (de_var (pv 2)) (da_cons (de_call (ok_depths_at (P := P) (w := w) (base := base) T) (hr.mono (by decide)) (takes_of rfl rfl rfl rfl) (da_cons (de_call (ok_calendar_of (P := P) (w := w) (base := base) T) (hr.mono (by decide)) (takes_of rfl rfl rfl rfl) (da_cons (de_idx (de_var (pv 0)) (de_var (pv 3))) da_nil)) (da_cons (de_var (pv 4)) da_nil))) da_nil))))))
    (dss_one (ds_ret (de_var (pv 2))))))))
theorem sc_is_seen : FnScope N_is_seen ["snails", "depth", "seen"] (defScope s_is_seen) := ⟨rfl, rfl, rfl, by decide +kernel, rfl, by decide +kernel, by decide +kernel⟩
theorem ok_is_seen (T : Top K mg cS cW) : DFn P w K mg base "is_seen" ["snails", "depth", "seen"] 6 F_is_seen := by
  obtain ⟨f, fd, hm, Ff, hb⟩ := T.d_is_seen
  exact fnP_ok (N := N_is_seen) (k := 5) hm Ff hb sc_is_seen fun cdv A outer s H E hr =>
    (dss_cons (ds_expr (de_call (ok_need_snails (P := P) (w := w) (base := base) T) (hr.mono (by decide)) (takes_of rfl rfl rfl rfl) (da_cons (de_var (pv 0)) da_nil)))
    (dss_cons (ds_expr (de_call (ok_need_number (P := P) (w := w) (base := base) T) (hr.mono (by decide)) (takes_of rfl rfl rfl rfl) (da_cons (de_var (pv 1)) (da_cons de_int da_nil))))
    (dss_cons (ds_expr (de_call (ok_need_seen (P := P) (w := w) (base := base) T) (hr.mono (by decide)) (takes_of rfl rfl rfl rfl) (da_cons (de_var (pv 0)) (da_cons (de_var (pv 2)) da_nil))))
    (dss_one (ds_ret (de_callB (cr_all rfl) cd_all rfl T.m_all b_all (da_cons (de_lc (own := [(("index" : Str), 3), (("minute" : Str), 4)]) (c := (.tp [3, 4])) rfl sc_is_seen.nd (di_seq (de_var (pv 2))) (blkOk_by (N := N_is_seen) (sc := defScope s_is_seen) (by decide +kernel)) (by decide) (fun _ _ _ _ _ => (pg_tup rfl (pgs_cons (pg_name (i := 3) sc_is_seen.nd rfl (Or.inl rfl)) (pgs_cons (pg_name (i := 4) sc_is_seen.nd rfl (Or.inl rfl)) pgs_nil)))) (fun _ _ _ _ _ => dts_nil) (fun _ _ _ _ _ => (de_cmp (op_eqD hr.units) od_eq (de_call (ok_minute_in (P := P) (w := w) (base := base) T) (hr.mono (by decide)) takes0 (da_cons (de_call (ok_calendar_of (P := P) (w := w) (base := base) T) (hr.mono (by decide)) takes0 (da_cons (de_idx (de_var (pv 0)) (de_var (pv 3))) da_nil)) (da_cons (de_var (pv 1)) da_nil))) (de_var (pv 4)) (nomark _)))) da_nil)))))))
theorem sc_snails_text : FnScope N_snails_text ["snails"] (defScope s_snails_text) := ⟨rfl, rfl, rfl, by decide +kernel, rfl, by decide +kernel, by decide +kernel⟩
theorem ok_snails_text (T : Top K mg cS cW) : DFn P w K mg base "snails_text" ["snails"] 6 F_snails_text := by
  obtain ⟨f, fd, hm, Ff, hb⟩ := T.d_snails_text
  exact fnP_ok (N := N_snails_text) (k := 5) hm Ff hb sc_snails_text fun cdv A outer s H E hr =>
    (dss_cons (ds_expr (de_call (ok_need_snails (P := P) (w := w) (base := base) T) (hr.mono (by decide)) (takes_of rfl rfl rfl rfl) (da_cons (de_var (pv 0)) da_nil)))
    (dss_one (ds_ret (de_join de_str (da_cons (de_call (ok_lines_of (P := P) (w := w) (base := base) T) (hr.mono (by decide)) (takes_of rfl rfl rfl rfl) (da_cons (de_var (pv 0)) da_nil)) da_nil)))))
theorem sc_read_snails : FnScope N_read_snails ["value"] (defScope s_read_snails) := ⟨rfl, rfl, rfl, by decide +kernel, rfl, by decide +kernel, by decide +kernel⟩
theorem ok_read_snails (T : Top K mg cS cW) : DFn P w K mg base "read_snails" ["value"] 6 F_read_snails := by
  obtain ⟨f, fd, hm, Ff, hb⟩ := T.d_read_snails
  exact fnP_ok (N := N_read_snails) (k := 5) hm Ff hb sc_read_snails fun cdv A outer s H E hr =>
    (dss_one (ds_ret (de_call (ok_snails_in (P := P) (w := w) (base := base) T) (hr.mono (by decide)) (takes_of rfl rfl rfl rfl) (da_cons (de_var (pv 0)) da_nil))))
theorem sc_Snail_read : FnScope N_Snail_read ["cls", "value"] (defScope s_Snail_read) := ⟨rfl, rfl, rfl, by decide +kernel, rfl, by decide +kernel, by decide +kernel⟩
theorem ok_Snail_read (T : Top K mg cS cW) : DCm P w K mg base cS "read" 7 (F_Snail_read cS) := by
  obtain ⟨mc, pr, f, r, cm, fd, Ff, hb⟩ := T.f_Snail_read
  exact ⟨mc, pr, f, r, cm, FnR_num (FnR_of (fnQ_fnM (N := N_Snail_read) (k := 6) Ff sc_Snail_read fun cdv A outer s H E hr =>
    (dss_cons (ds_set (i := 2) sc_Snail_read.nd (de_call (ok_snails_in (P := P) (w := w) (base := base) T) (hr.mono (by decide)) (takes_of rfl rfl rfl rfl) (da_cons (de_var (pv 1)) da_nil)))
    (dss_cons (ds_if (dt_cmp op_gt od_gt (de_callB call_len cd_len rfl T.m_len b_len (da_cons (de_var (pv 2)) da_nil)) de_int (nomark _))
    (dss_one ds_bad)
    dss_nil)
    (dss_cons (ds_asg (de_idx (de_var (pv 2)) de_int) (dg_tup rfl (dgs_cons (dg_name (i := 3) sc_Snail_read.nd) (dgs_cons (dg_name (i := 4) sc_Snail_read.nd) (dgs_cons (dg_name (i := 5) sc_Snail_read.nd) dgs_nil)))))
    (dss_one (ds_ret (de_mkVE (i := 0) (ok_Snail___init__ (P := P) (w := w) (base := base) T) (hr.mono (by decide)) (pv 0) (takes_of rfl rfl rfl rfl) (da_one (de_var (pv 3)) (da_one (de_var (pv 4)) (da_star (de_var (pv 5)) da_nil)))))))))) hb)⟩
theorem sc_Snail_made : FnScope N_Snail_made ["self", "snail"] (defScope s_Snail_made) := ⟨rfl, rfl, rfl, by decide +kernel, rfl, by decide +kernel, by decide +kernel⟩
theorem ok_Snail_made (T : Top K mg cS cW) : DMt P w K mg base cS "made" 7 (F_Snail_made cS) := by
  obtain ⟨f, hm, fd, Ff, hb⟩ := T.f_Snail_made
  exact ⟨f, fd, _, _, hm, hb, fnQ_fnM (N := N_Snail_made) (k := 6) Ff sc_Snail_made fun cdv A outer s H E hr =>
    (dss_cons (ds_asg (de_call (ok_good_snail (P := P) (w := w) (base := base) T) (hr.mono (by decide)) (takes_of rfl rfl rfl rfl) (da_cons (de_var (pv 1)) da_nil)) (dg_tup rfl (dgs_cons (dg_name (i := 2) sc_Snail_made.nd) (dgs_cons (dg_name (i := 3) sc_Snail_made.nd) (dgs_cons (dg_name (i := 4) sc_Snail_made.nd) dgs_nil)))))
    (dss_one (ds_ret (de_mkSE (ok_Snail___init__ (P := P) (w := w) (base := base) T) (hr.mono (by decide)) T.n_Snail (takes_of rfl rfl rfl rfl) (da_one (de_var (pv 2)) (da_one (de_var (pv 3)) (da_star (de_var (pv 4)) da_nil))))))), rfl⟩
theorem sc_Snail_like : FnScope N_Snail_like ["self", "other"] (defScope s_Snail_like) := ⟨rfl, rfl, rfl, by decide +kernel, rfl, by decide +kernel, by decide +kernel⟩
theorem ok_Snail_like (T : Top K mg cS cW) : DMt P w K mg base cS "like" 7 (F_Snail_like cS) := by
  obtain ⟨f, hm, fd, Ff, hb⟩ := T.f_Snail_like
  exact ⟨f, fd, _, _, hm, hb, fnP_fnM (N := N_Snail_like) (k := 6) Ff sc_Snail_like fun cdv A outer s H E hr =>
    (dss_one (ds_ret (de_call (ok_are_alike (P := P) (w := w) (base := base) T) (hr.mono (by decide)) (takes_of rfl rfl rfl rfl) (da_cons (de_fld T.x_Snail T.a_Snail_base (de_var (pv 0))) (da_cons (de_mtE T.x_Snail (ok_Snail_base_of (P := P) (w := w) (base := base) T) (hr.mono (by decide)) (takes_of rfl rfl rfl rfl) (de_var (pv 0)) (da_one (de_var (pv 1)) da_nil)) da_nil))))), rfl⟩
theorem sc_all_out : FnScope N_all_out ["depth", "snails", "minute"] (defScope s_all_out) := ⟨rfl, rfl, rfl, by decide +kernel, rfl, by decide +kernel, by decide +kernel⟩
theorem ok_all_out (T : Top K mg cS cW) : DFn P w K mg base "all_out" ["depth", "snails", "minute"] 7 F_all_out := by
  obtain ⟨f, fd, hm, Ff, hb⟩ := T.d_all_out
  exact fnP_ok (N := N_all_out) (k := 6) hm Ff hb sc_all_out fun cdv A outer s H E hr =>
    (dss_cons (ds_setLc (i := 3) (own := [(("put" : Str), 4)]) (c := (.nm 4)) rfl sc_all_out.nd (di_seq (de_var (pv 1))) (blkOk_by (N := N_all_out) (sc := defScope s_all_out) (by decide +kernel)) (by decide) (fun _ _ _ _ _ => (pg_name (i := 4) sc_all_out.nd rfl (Or.inl rfl))) (fun _ _ _ _ _ => dts_nil) (fun _ _ _ _ _ => (de_call (ok_out_in (P := P) (w := w) (base := base) T) (hr.mono (by decide)) takes0 (da_cons (de_var (pv 0)) (da_cons (de_var (pv 4)) (da_cons (de_var (pv 2)) da_nil))))))
    (dss_one (ds_ret (de_callTy call_tuple_of cd_tuple rfl T.m_tuple b_tuple (da_cons (de_callB cr_sorted2 cd_sorted rfl T.m_sorted b_sorted (da_cons (de_lc (own := [(("index" : Str), 5), (("late" : Str), 6)]) (c := (.tp [5, 6])) rfl sc_all_out.nd (di_enum rfl T.m_enumerate (da_cons (de_var (pv 3)) da_nil)) (blkOk_by (N := N_all_out) (sc := defScope s_all_out) (by decide +kernel)) (by decide) (fun _ _ _ _ _ => (pg_tup rfl (pgs_cons (pg_name (i := 5) sc_all_out.nd rfl (Or.inl rfl)) (pgs_cons (pg_name (i := 6) sc_all_out.nd rfl (Or.inl rfl)) pgs_nil)))) (fun _ _ _ _ _ => (dts_one (dt_cmp op_notN od_notN (de_var (pv 6)) de_non (nomark _)))) (fun _ _ _ _ _ => (de_tup (da_cons (de_var (pv 6)) (da_cons (de_var (pv 5)) da_nil))))) da_nil)) da_nil)))))
theorem sc_winners : FnScope N_winners ["snails", "depth"] (defScope s_winners) := ⟨rfl, rfl, rfl, by decide +kernel, rfl, by decide +kernel, by decide +kernel⟩
theorem ok_winners (T : Top K mg cS cW) : DFn P w K mg base "winners" ["snails", "depth"] 7 F_winners := by
  obtain ⟨f, fd, hm, Ff, hb⟩ := T.d_winners
  exact fnP_ok (N := N_winners) (k := 6) hm Ff hb sc_winners fun cdv A outer s H E hr =>
    (dss_cons (ds_expr (de_call (ok_need_snails (P := P) (w := w) (base := base) T) (hr.mono (by decide)) (takes_of rfl rfl rfl rfl) (da_cons (de_var (pv 0)) da_nil)))
    (dss_cons (ds_expr (de_call (ok_need_number (P := P) (w := w) (base := base) T) (hr.mono (by decide)) (takes_of rfl rfl rfl rfl) (da_cons (de_var (pv 1)) (da_cons de_int da_nil))))
    (dss_one (ds_ret (de_call (ok_first_at (P := P) (w := w) (base := base) T) (hr.mono (by decide)) (takes_of rfl rfl rfl rfl) (da_cons (de_call (ok_all_calendars (P := P) (w := w) (base := base) T) (hr.mono (by decide)) (takes_of rfl rfl rfl rfl) (da_cons (de_var (pv 0)) da_nil)) (da_cons (de_var (pv 1)) da_nil)))))))
theorem sc_winner_calendar : FnScope N_winner_calendar ["snails"] (defScope s_winner_calendar) := ⟨rfl, rfl, rfl, by decide +kernel, rfl, by decide +kernel, by decide +kernel⟩
theorem ok_winner_calendar (T : Top K mg cS cW) : DFn P w K mg base "winner_calendar" ["snails"] 7 F_winner_calendar := by
  obtain ⟨f, fd, hm, Ff, hb⟩ := T.d_winner_calendar
  exact fnP_ok (N := N_winner_calendar) (k := 6) hm Ff hb sc_winner_calendar fun cdv A outer s H E hr =>
    (dss_cons (ds_expr (de_call (ok_need_snails (P := P) (w := w) (base := base) T) (hr.mono (by decide)) (takes_of rfl rfl rfl rfl) (da_cons (de_var (pv 0)) da_nil)))
    (dss_one (ds_ret (de_call (ok_winners_by (P := P) (w := w) (base := base) T) (hr.mono (by decide)) (takes_of rfl rfl rfl rfl) (da_cons (de_call (ok_all_calendars (P := P) (w := w) (base := base) T) (hr.mono (by decide)) (takes_of rfl rfl rfl rfl) (da_cons (de_var (pv 0)) da_nil)) da_nil)))))
theorem sc_how : FnScope N_how ["snails", "index"] (defScope s_how) := ⟨rfl, rfl, rfl, by decide +kernel, rfl, by decide +kernel, by decide +kernel⟩
theorem ok_how (T : Top K mg cS cW) : DFn P w K mg base "how" ["snails", "index"] 7 F_how := by
  obtain ⟨f, fd, hm, Ff, hb⟩ := T.d_how
  exact fnP_ok (N := N_how) (k := 6) hm Ff hb sc_how fun cdv A outer s H E hr =>
    (dss_cons (ds_expr (de_call (ok_need_snails (P := P) (w := w) (base := base) T) (hr.mono (by decide)) (takes_of rfl rfl rfl rfl) (da_cons (de_var (pv 0)) da_nil)))
    (dss_cons (ds_expr (de_call (ok_need_index (P := P) (w := w) (base := base) T) (hr.mono (by decide)) (takes_of rfl rfl rfl rfl) (da_cons (de_var (pv 0)) (da_cons (de_var (pv 1)) da_nil))))
    (dss_cons (ds_asg (de_call (ok_winners_by (P := P) (w := w) (base := base) T) (hr.mono (by decide)) (takes_of rfl rfl rfl rfl) (da_cons (de_call (ok_all_calendars (P := P) (w := w) (base := base) T) (hr.mono (by decide)) (takes_of rfl rfl rfl rfl) (da_cons (de_var (pv 0)) da_nil)) da_nil)) (dg_tup rfl (dgs_cons (dg_name (i := 2) sc_how.nd) (dgs_cons (dg_name (i := 3) sc_how.nd) dgs_nil))))
    (dss_cons (ds_setLc (i := 4) (own := [(("some" : Str), 5)]) (c := (.nm 5)) rfl sc_how.nd (di_seq (de_add (de_var (pv 2)) (de_var (pv 3)))) (blkOk_by (N := N_how) (sc := defScope s_how) (by decide +kernel)) (by decide) (fun _ _ _ _ _ => (pg_name (i := 5) sc_how.nd rfl (Or.inl rfl))) (fun _ _ _ _ _ => dts_nil) (fun _ _ _ _ _ => (de_cmp (op_inA hr) od_in (de_var (pv 1)) (de_var (pv 5)) (by with_unfolding_all rfl))))
    (dss_cons (ds_if (dt_cmp (op_notInA hr) od_notIn de_bl (de_var (pv 4)) (by with_unfolding_all rfl))
    (dss_one (ds_ret de_str))
    dss_nil)
    (dss_one (ds_ret (de_if (dt_cmp (op_inA hr) od_in de_bl (de_var (pv 4)) (by with_unfolding_all rfl)) de_str de_str))))))))
theorem sc_first_depth : FnScope N_first_depth ["snails", "index"] (defScope s_first_depth) := ⟨rfl, rfl, rfl, by decide +kernel, rfl, by decide +kernel, by decide +kernel⟩
theorem ok_first_depth (T : Top K mg cS cW) : DFn P w K mg base "first_depth" ["snails", "index"] 7 F_first_depth := by
  obtain ⟨f, fd, hm, Ff, hb⟩ := T.d_first_depth
  exact fnP_ok (N := N_first_depth) (k := 6) hm Ff hb sc_first_depth fun cdv A outer s H E hr =>
    (dss_cons (ds_expr (de_call (ok_need_snails (P := P) (w := w) (base := base) T) (hr.mono (by decide)) (takes_of rfl rfl rfl rfl) (da_cons (de_var (pv 0)) da_nil)))
    (dss_cons (ds_expr (de_call (ok_need_index (P := P) (w := w) (base := base) T) (hr.mono (by decide)) (takes_of rfl rfl rfl rfl) (da_cons (de_var (pv 0)) (da_cons (de_var (pv 1)) da_nil))))
    (dss_cons (ds_asg (de_call (ok_winners_by (P := P) (w := w) (base := base) T) (hr.mono (by decide)) (takes_of rfl rfl rfl rfl) (da_cons (de_call (ok_all_calendars (P := P) (w := w) (base := base) T) (hr.mono (by decide)) (takes_of rfl rfl rfl rfl) (da_cons (de_var (pv 0)) da_nil)) da_nil)) (dg_tup rfl (dgs_cons (dg_name (i := 2) sc_first_depth.nd) (dgs_cons (dg_name (i := 3) sc_first_depth.nd) dgs_nil))))
    (dss_cons (ds_setLc (i := 4) (own := [(("depth" : Str), 5), (("some" : Str), 6)]) (c := (.tp [5, 6])) rfl sc_first_depth.nd (di_enum rfl T.m_enumerate (da_cons (de_add (de_var (pv 2)) (de_var (pv 3))) da_nil)) (blkOk_by (N := N_first_depth) (sc := defScope s_first_depth) (by decide +kernel)) (by decide) (fun _ _ _ _ _ => (pg_tup rfl (pgs_cons (pg_name (i := 5) sc_first_depth.nd rfl (Or.inl rfl)) (pgs_cons (pg_name (i := 6) sc_first_depth.nd rfl (Or.inl rfl)) pgs_nil)))) (fun _ _ _ _ _ => (dts_one (dt_cmp (op_inA hr) od_in (de_var (pv 1)) (de_var (pv 6)) (by with_unfolding_all rfl)))) (fun _ _ _ _ _ => (de_add (de_var (pv 5)) de_int)))
    (dss_one (ds_ret (de_if (dt_cmp (op_neD hr.units) od_ne (de_var (pv 4)) (de_lst da_nil) (nomark _)) (de_idx (de_var (pv 4)) de_int) de_non)))))))
theorem sc_words_by : FnScope N_words_by ["one", "other"] (defScope s_words_by) := ⟨rfl, rfl, rfl, by decide +kernel, rfl, by decide +kernel, by decide +kernel⟩
theorem ok_words_by (T : Top K mg cS cW) : DFn P w K mg base "words_by" ["one", "other"] 7 F_words_by := by
  obtain ⟨f, fd, hm, Ff, hb⟩ := T.d_words_by
  exact fnP_ok (N := N_words_by) (k := 6) hm Ff hb sc_words_by fun cdv A outer s H E hr =>
    (dss_cons (ds_par (i := 2) (j := 3) rfl sc_words_by.nd (de_callB call_len cd_len rfl T.m_len b_len (da_cons (de_idx (de_var (pv 0)) de_int) da_nil)) (de_callB call_len cd_len rfl T.m_len b_len (da_cons (de_idx (de_var (pv 1)) de_int) da_nil)))
    (dss_cons (ds_set (i := 4) sc_words_by.nd (de_div (de_mul (de_var (pv 2)) (de_var (pv 3))) (de_call (ok_divisor (P := P) (w := w) (base := base) T) (hr.mono (by decide)) (takes_of rfl rfl rfl rfl) (da_cons (de_var (pv 2)) (da_cons (de_var (pv 3)) da_nil)))))
    (dss_cons (ds_set (i := 5) sc_words_by.nd (de_callB (call_maxD rfl) cd_max rfl T.m_max b_max (da_cons (de_callTy call_int1 cd_int rfl T.m_int b_int (da_cons (de_call (ok_settled_minute (P := P) (w := w) (base := base) T) (hr.mono (by decide)) (takes_of rfl rfl rfl rfl) (da_cons (de_var (pv 0)) da_nil)) da_nil)) (da_cons (de_callTy call_int1 cd_int rfl T.m_int b_int (da_cons (de_call (ok_settled_minute (P := P) (w := w) (base := base) T) (hr.mono (by decide)) (takes_of rfl rfl rfl rfl) (da_cons (de_var (pv 1)) da_nil)) da_nil)) da_nil))))
    (dss_cons (ds_set (i := 6) sc_words_by.nd (de_sub (de_call (ok_gain_in (P := P) (w := w) (base := base) T) (hr.mono (by decide)) (takes_of rfl rfl rfl rfl) (da_cons (de_var (pv 0)) (da_cons (de_var (pv 4)) da_nil))) (de_call (ok_gain_in (P := P) (w := w) (base := base) T) (hr.mono (by decide)) (takes_of rfl rfl rfl rfl) (da_cons (de_var (pv 1)) (da_cons (de_var (pv 4)) da_nil)))))
    (dss_cons (ds_if (dt_cmp (op_neD hr.units) od_ne (de_var (pv 6)) de_int (nomark _))
    (dss_cons (ds_setLc (i := 7) (own := [(("minute" : Str), 9)]) (c := (.nm 9)) rfl sc_words_by.nd (di_rng2 rfl T.m_range (da_cons (de_var (pv 5)) (da_cons (de_add (de_var (pv 5)) (de_var (pv 4))) da_nil))) (blkOk_by (N := N_words_by) (sc := defScope s_words_by) (by decide +kernel)) (by decide) (fun _ _ _ _ _ => (pg_name (i := 9) sc_words_by.nd rfl (Or.inl rfl))) (fun _ _ _ _ _ => dts_nil) (fun _ _ _ _ _ => (de_call (ok_far_at (P := P) (w := w) (base := base) T) (hr.mono (by decide)) takes0 (da_cons (de_var (pv 0)) (da_cons (de_var (pv 1)) (da_cons (de_var (pv 9)) da_nil))))))
    (dss_cons (ds_setLc (i := 7) (own := [(("far" : Str), 10)]) (c := (.nm 10)) rfl sc_words_by.nd (di_seq (de_var (pv 7))) (blkOk_by (N := N_words_by) (sc := defScope s_words_by) (by decide +kernel)) (by decide) (fun _ _ _ _ _ => (pg_name (i := 10) sc_words_by.nd rfl (Or.inl rfl))) (fun _ _ _ _ _ => dts_nil) (fun _ _ _ _ _ => (de_if (dt_cmp op_gt od_gt (de_var (pv 6)) de_int (nomark _)) (de_var (pv 10)) (de_neg (de_var (pv 10))))))
    (dss_one (ds_set (i := 5) sc_words_by.nd (de_add (de_var (pv 5)) (de_mul (de_var (pv 4)) (de_callB (call_maxD rfl) cd_max rfl T.m_max b_max (da_cons (de_add (de_lst (da_cons de_int da_nil)) (de_lc (own := [(("far" : Str), 10)]) (c := (.nm 10)) rfl sc_words_by.nd (di_seq (de_var (pv 7))) (blkOk_by (N := N_words_by) (sc := defScope s_words_by) (by decide +kernel)) (by decide) (fun _ _ _ _ _ => (pg_name (i := 10) sc_words_by.nd rfl (Or.inl rfl))) (fun _ _ _ _ _ => dts_nil) (fun _ _ _ _ _ => (de_add (de_callTy call_int1 cd_int rfl T.m_int b_int (da_cons (de_div (de_neg (de_var (pv 10))) (de_callB call_abs cd_abs rfl T.m_abs b_abs (da_cons (de_var (pv 6)) da_nil))) da_nil)) de_int)))) da_nil))))))))
    dss_nil)
    (dss_cons (ds_setLc (i := 8) (own := [(("minute" : Str), 9)]) (c := (.nm 9)) rfl sc_words_by.nd (di_rng1 rfl T.m_range (da_cons (de_var (pv 5)) da_nil)) (blkOk_by (N := N_words_by) (sc := defScope s_words_by) (by decide +kernel)) (by decide) (fun _ _ _ _ _ => (pg_name (i := 9) sc_words_by.nd rfl (Or.inl rfl))) (fun _ _ _ _ _ => dts_nil) (fun _ _ _ _ _ => (de_call (ok_word_of (P := P) (w := w) (base := base) T) (hr.mono (by decide)) takes0 (da_cons (de_call (ok_far_at (P := P) (w := w) (base := base) T) (hr.mono (by decide)) takes0 (da_cons (de_var (pv 0)) (da_cons (de_var (pv 1)) (da_cons (de_var (pv 9)) da_nil)))) da_nil))))
    (dss_one (ds_ret (de_call (ok_shortened (P := P) (w := w) (base := base) T) (hr.mono (by decide)) (takes_of rfl rfl rfl rfl) (da_cons (de_var (pv 8)) (da_cons (de_lc (own := [(("minute" : Str), 9)]) (c := (.nm 9)) rfl sc_words_by.nd (di_rng2 rfl T.m_range (da_cons (de_var (pv 5)) (da_cons (de_add (de_var (pv 5)) (de_var (pv 4))) da_nil))) (blkOk_by (N := N_words_by) (sc := defScope s_words_by) (by decide +kernel)) (by decide) (fun _ _ _ _ _ => (pg_name (i := 9) sc_words_by.nd rfl (Or.inl rfl))) (fun _ _ _ _ _ => dts_nil) (fun _ _ _ _ _ => (de_call (ok_word_of (P := P) (w := w) (base := base) T) (hr.mono (by decide)) takes0 (da_cons (de_call (ok_far_at (P := P) (w := w) (base := base) T) (hr.mono (by decide)) takes0 (da_cons (de_var (pv 0)) (da_cons (de_var (pv 1)) (da_cons (de_var (pv 9)) da_nil)))) da_nil)))) da_nil)))))))))))
theorem sc_alike : FnScope N_alike ["one", "other"] (defScope s_alike) := ⟨rfl, rfl, rfl, by decide +kernel, rfl, by decide +kernel, by decide +kernel⟩
theorem ok_alike (T : Top K mg cS cW) : DFn P w K mg base "alike" ["one", "other"] 7 F_alike := by
  obtain ⟨f, fd, hm, Ff, hb⟩ := T.d_alike
  exact fnP_ok (N := N_alike) (k := 6) hm Ff hb sc_alike fun cdv A outer s H E hr =>
    (dss_cons (ds_expr (de_call (ok_need_two (P := P) (w := w) (base := base) T) (hr.mono (by decide)) (takes_of rfl rfl rfl rfl) (da_cons (de_var (pv 0)) (da_cons (de_var (pv 1)) da_nil))))
    (dss_one (ds_ret (de_call (ok_are_alike (P := P) (w := w) (base := base) T) (hr.mono (by decide)) (takes_of rfl rfl rfl rfl) (da_cons (de_var (pv 0)) (da_cons (de_var (pv 1)) da_nil))))))
theorem sc_idle_steps : FnScope N_idle_steps ["snail"] (defScope s_idle_steps) := ⟨rfl, rfl, rfl, by decide +kernel, rfl, by decide +kernel, by decide +kernel⟩
theorem ok_idle_steps (T : Top K mg cS cW) : DFn P w K mg base "idle_steps" ["snail"] 7 F_idle_steps := by
  obtain ⟨f, fd, hm, Ff, hb⟩ := T.d_idle_steps
  exact fnP_ok (N := N_idle_steps) (k := 6) hm Ff hb sc_idle_steps fun cdv A outer s H E hr =>
    (dss_cons (ds_expr (de_call (ok_need_snail (P := P) (w := w) (base := base) T) (hr.mono (by decide)) (takes_of rfl rfl rfl rfl) (da_cons (de_var (pv 0)) da_nil)))
    (dss_cons (ds_set (i := 1) sc_idle_steps.nd (de_idx (de_var (pv 0)) de_int))
    (dss_cons (ds_set (i := 2) sc_idle_steps.nd (de_if (dt_cmp op_gt od_gt (de_callB call_len cd_len rfl T.m_len b_len (da_cons (de_var (pv 1)) da_nil)) de_int (nomark _)) (de_listRg1 rfl T.m_list T.m_range (de_callB call_len cd_len rfl T.m_len b_len (da_cons (de_var (pv 1)) da_nil))) (de_lst da_nil)))
    (dss_one (ds_ret (de_lc (own := [(("index" : Str), 3)]) (c := (.nm 3)) rfl sc_idle_steps.nd (di_seq (de_var (pv 2))) (blkOk_by (N := N_idle_steps) (sc := defScope s_idle_steps) (by decide +kernel)) (by decide) (fun _ _ _ _ _ => (pg_name (i := 3) sc_idle_steps.nd rfl (Or.inl rfl))) (fun _ _ _ _ _ => (dts_one (dt_truth (de_call (ok_are_alike (P := P) (w := w) (base := base) T) (hr.mono (by decide)) takes0 (da_cons (de_var (pv 0)) (da_cons (de_call (ok_with_round (P := P) (w := w) (base := base) T) (hr.mono (by decide)) takes0 (da_cons (de_var (pv 0)) (da_cons (de_call (ok_without (P := P) (w := w) (base := base) T) (hr.mono (by decide)) takes0 (da_cons (de_var (pv 1)) (da_cons (de_var (pv 3)) da_nil))) da_nil))) da_nil))) (by intro _; rfl)))) (fun _ _ _ _ _ => (de_var (pv 3)))))))))
theorem sc_exchangeable : FnScope N_exchangeable ["snail"] (defScope s_exchangeable) := ⟨rfl, rfl, rfl, by decide +kernel, rfl, by decide +kernel, by decide +kernel⟩
theorem ok_exchangeable (T : Top K mg cS cW) : DFn P w K mg base "exchangeable" ["snail"] 7 F_exchangeable := by
  obtain ⟨f, fd, hm, Ff, hb⟩ := T.d_exchangeable
  exact fnP_ok (N := N_exchangeable) (k := 6) hm Ff hb sc_exchangeable fun cdv A outer s H E hr =>
    (dss_cons (ds_expr (de_call (ok_need_snail (P := P) (w := w) (base := base) T) (hr.mono (by decide)) (takes_of rfl rfl rfl rfl) (da_cons (de_var (pv 0)) da_nil)))
    (dss_cons (ds_set (i := 1) sc_exchangeable.nd (de_idx (de_var (pv 0)) de_int))
    (dss_cons (ds_set (i := 2) sc_exchangeable.nd (de_listRg1 rfl T.m_list T.m_range (de_sub (de_callB call_len cd_len rfl T.m_len b_len (da_cons (de_var (pv 1)) da_nil)) de_int)))
    (dss_one (ds_ret (de_lc (own := [(("index" : Str), 3)]) (c := (.nm 3)) rfl sc_exchangeable.nd (di_seq (de_var (pv 2))) (blkOk_by (N := N_exchangeable) (sc := defScope s_exchangeable) (by decide +kernel)) (by decide) (fun _ _ _ _ _ => (pg_name (i := 3) sc_exchangeable.nd rfl (Or.inl rfl))) (fun _ _ _ _ _ => (dts_one (dt_truth (de_call (ok_are_alike (P := P) (w := w) (base := base) T) (hr.mono (by decide)) takes0 (da_cons (de_var (pv 0)) (da_cons (de_call (ok_with_round (P := P) (w := w) (base := base) T) (hr.mono (by decide)) takes0 (da_cons (de_var (pv 0)) (da_cons (de_call (ok_exchanged (P := P) (w := w) (base := base) T) (hr.mono (by decide)) takes0 (da_cons (de_var (pv 1)) (da_cons (de_var (pv 3)) da_nil))) da_nil))) da_nil))) (by intro _; rfl)))) (fun _ _ _ _ _ => (de_var (pv 3)))))))))
theorem sc__law_third_right : FnScope N__law_third_right [] (defScope s__law_third_right) := ⟨rfl, rfl, rfl, by decide +kernel, rfl, by decide +kernel, by decide +kernel⟩
theorem ok__law_third_right (T : Top K mg cS cW) : DFn P w K mg base "_law_third_right" [] 7 F_k22_law_third_right := by
  obtain ⟨f, fd, hm, Ff, hb⟩ := T.d__law_third_right
  exact fnP_ok (N := N__law_third_right) (k := 6) hm Ff hb sc__law_third_right fun cdv A outer s H E hr =>
    (dss_cons (ds_asg (de_call0 (ok__law_snails (P := P) (w := w) (base := base) T) (hr.mono (by decide)) (takes_of rfl rfl rfl rfl)) (dg_tup rfl (dgs_cons (dg_name (i := 0) sc__law_third_right.nd) (dgs_cons (dg_name (i := 1) sc__law_third_right.nd) (dgs_cons (dg_name (i := 2) sc__law_third_right.nd) (dgs_cons (dg_name (i := 3) sc__law_third_right.nd) (dgs_cons (dg_name (i := 4) sc__law_third_right.nd) dgs_nil)))))))
    (dss_cons (ds_set (i := 5) sc__law_third_right.nd (de_newL (da_cons (de_cmp (op_eqD hr.units) od_eq (de_call (ok_latest_start (P := P) (w := w) (base := base) T) (hr.mono (by decide)) (takes_of rfl rfl rfl rfl) (da_cons (de_var (pv 3)) (da_cons (de_var (pv 4)) da_nil))) de_int (nomark _)) da_nil)))
    (dss_cons (ds_expr (de_append (de_var (pv 5)) (da_cons (de_cmp op_isN od_isN (de_call (ok_latest_start (P := P) (w := w) (base := base) T) (hr.mono (by decide)) (takes_of rfl rfl rfl rfl) (da_cons (de_var (pv 0)) (da_cons (de_var (pv 1)) da_nil))) de_non (nomark _)) da_nil)))
    (dss_cons (ds_expr (de_append (de_var (pv 5)) (da_cons (de_cmp op_isN od_isN (de_call (ok_latest_start (P := P) (w := w) (base := base) T) (hr.mono (by decide)) (takes_of rfl rfl rfl rfl) (da_cons (de_var (pv 1)) (da_cons (de_var (pv 0)) da_nil))) de_non (nomark _)) da_nil)))
    (dss_cons (ds_expr (de_append (de_var (pv 5)) (da_cons (de_cmp (op_eqD hr.units) od_eq (de_call (ok_latest_start (P := P) (w := w) (base := base) T) (hr.mono (by decide)) (takes_of rfl rfl rfl rfl) (da_cons (de_tup (da_cons de_int (da_cons de_int (da_cons (de_tup (da_cons de_int da_nil)) da_nil)))) (da_cons (de_var (pv 1)) da_nil))) de_int (nomark _)) da_nil)))
    (dss_cons (ds_expr (de_append (de_var (pv 5)) (da_cons (de_cmp (op_eqD hr.units) od_eq (de_call (ok_with_start (P := P) (w := w) (base := base) T) (hr.mono (by decide)) (takes_of rfl rfl rfl rfl) (da_cons (de_var (pv 0)) (da_cons de_int da_nil))) (de_tup (da_cons de_int (da_cons de_int (da_cons (de_tup (da_cons de_int (da_cons (de_neg de_int) da_nil))) da_nil)))) (nomark _)) da_nil)))
    (dss_cons (ds_expr (de_append (de_var (pv 5)) (da_cons (de_cmp (op_eqD hr.units) od_eq (de_call (ok_depths_told (P := P) (w := w) (base := base) T) (hr.mono (by decide)) (takes_of rfl rfl rfl rfl) (da_cons (de_tup (da_cons (de_var (pv 0)) (da_cons (de_var (pv 1)) da_nil))) (da_cons (de_tup (da_cons (de_tup (da_cons de_int (da_cons de_int da_nil))) da_nil)) da_nil))) (de_tup (da_cons de_int (da_cons de_int da_nil))) (nomark _)) da_nil)))
    (dss_cons (ds_expr (de_append (de_var (pv 5)) (da_cons (de_cmp (op_eqD hr.units) od_eq (de_call (ok_depths_told (P := P) (w := w) (base := base) T) (hr.mono (by decide)) (takes_of rfl rfl rfl rfl) (da_cons (de_tup (da_cons (de_var (pv 0)) (da_cons (de_var (pv 1)) da_nil))) (da_cons (de_tup (da_cons (de_tup (da_cons de_int (da_cons de_int da_nil))) (da_cons (de_tup (da_cons de_int (da_cons de_int da_nil))) da_nil))) da_nil))) (de_tup (da_cons de_int (da_cons de_int da_nil))) (nomark _)) da_nil)))
    (dss_cons (ds_set (i := 5) sc__law_third_right.nd (de_bin op_addD od_addN (de_var (pv 5)) (de_lst (da_cons (de_cmp (op_eqD hr.units) od_eq (de_call (ok_depths_told (P := P) (w := w) (base := base) T) (hr.mono (by decide)) (takes_of rfl rfl rfl rfl) (da_cons (de_tup (da_cons (de_var (pv 0)) (da_cons (de_var (pv 2)) da_nil))) (da_cons (de_tup (da_cons (de_tup (da_cons de_int (da_cons de_non da_nil))) da_nil)) da_nil))) (de_tup (da_cons de_int (da_cons de_non da_nil))) (nomark _)) da_nil))))
    (dss_cons (ds_expr (de_append (de_var (pv 5)) (da_cons (de_cmp op_isN od_isN (de_call (ok_depths_told (P := P) (w := w) (base := base) T) (hr.mono (by decide)) (takes_of rfl rfl rfl rfl) (da_cons (de_tup (da_cons (de_var (pv 0)) (da_cons (de_var (pv 2)) da_nil))) (da_cons (de_tup (da_cons (de_tup (da_cons de_int (da_cons de_int da_nil))) (da_cons (de_tup (da_cons de_int (da_cons de_int da_nil))) da_nil))) da_nil))) de_non (nomark _)) da_nil)))
    (dss_cons (ds_expr (de_append (de_var (pv 5)) (da_cons (de_call (ok_is_seen (P := P) (w := w) (base := base) T) (hr.mono (by decide)) (takes_of rfl rfl rfl rfl) (da_cons (de_tup (da_cons (de_var (pv 0)) (da_cons (de_var (pv 1)) da_nil))) (da_cons de_int (da_cons (de_tup (da_cons (de_tup (da_cons de_int (da_cons de_int da_nil))) (da_cons (de_tup (da_cons de_int (da_cons de_int da_nil))) da_nil))) da_nil)))) da_nil)))
    (dss_cons (ds_expr (de_append (de_var (pv 5)) (da_cons (de_cmp (op_eqD hr.units) od_eq (de_call (ok_snails_text (P := P) (w := w) (base := base) T) (hr.mono (by decide)) (takes_of rfl rfl rfl rfl) (da_cons (de_tup (da_cons (de_var (pv 0)) (da_cons (de_var (pv 1)) da_nil))) da_nil)) de_str (nomark _)) da_nil)))
    (dss_one (ds_ret (de_add (de_var (pv 5)) (de_lst (da_cons (de_cmp (op_eqD hr.units) od_eq (de_call (ok_read_snails (P := P) (w := w) (base := base) T) (hr.mono (by decide)) (takes_of rfl rfl rfl rfl) (da_cons (de_call (ok_snails_text (P := P) (w := w) (base := base) T) (hr.mono (by decide)) (takes_of rfl rfl rfl rfl) (da_cons (de_tup (da_cons (de_var (pv 2)) (da_cons (de_var (pv 3)) da_nil))) da_nil)) da_nil)) (de_tup (da_cons (de_var (pv 2)) (da_cons (de_var (pv 3)) da_nil))) (nomark _)) da_nil)))))))))))))))))
theorem sc_Well_out : FnScope N_Well_out ["self"] (defScope s_Well_out) := ⟨rfl, rfl, rfl, by decide +kernel, rfl, by decide +kernel, by decide +kernel⟩
theorem ok_Well_out (T : Top K mg cS cW) : DProp P w K mg base cW "out" 8 (F_Well_out cW) := by
  obtain ⟨p, f, hp, fd, Ff, hb⟩ := T.f_Well_out
  exact ⟨p, f, fd, _, hp, hb, fnP_fnM (N := N_Well_out) (k := 7) Ff sc_Well_out fun cdv A outer s H E hr =>
    (dss_one (ds_ret (de_call (ok_all_out (P := P) (w := w) (base := base) T) (hr.mono (by decide)) (takes_of rfl rfl rfl rfl) (da_cons (de_fld T.x_Well T.a_Well_deep (de_var (pv 0))) (da_cons (de_idx (de_fld T.x_Well T.a_Well_now (de_var (pv 0))) de_int) (da_cons (de_idx (de_fld T.x_Well T.a_Well_now (de_var (pv 0))) de_int) da_nil))))))⟩
theorem sc_order_calendar : FnScope N_order_calendar ["one", "other"] (defScope s_order_calendar) := ⟨rfl, rfl, rfl, by decide +kernel, rfl, by decide +kernel, by decide +kernel⟩
theorem ok_order_calendar (T : Top K mg cS cW) : DFn P w K mg base "order_calendar" ["one", "other"] 8 F_order_calendar := by
  obtain ⟨f, fd, hm, Ff, hb⟩ := T.d_order_calendar
  exact fnP_ok (N := N_order_calendar) (k := 7) hm Ff hb sc_order_calendar fun cdv A outer s H E hr =>
    (dss_cons (ds_expr (de_call (ok_need_two (P := P) (w := w) (base := base) T) (hr.mono (by decide)) (takes_of rfl rfl rfl rfl) (da_cons (de_var (pv 0)) (da_cons (de_var (pv 1)) da_nil))))
    (dss_one (ds_ret (de_call (ok_words_by (P := P) (w := w) (base := base) T) (hr.mono (by decide)) (takes_of rfl rfl rfl rfl) (da_cons (de_var (pv 0)) (da_cons (de_var (pv 1)) da_nil))))))
theorem sc_first_over : FnScope N_first_over ["one", "other"] (defScope s_first_over) := ⟨rfl, rfl, rfl, by decide +kernel, rfl, by decide +kernel, by decide +kernel⟩
theorem ok_first_over (T : Top K mg cS cW) : DFn P w K mg base "first_over" ["one", "other"] 8 F_first_over := by
  obtain ⟨f, fd, hm, Ff, hb⟩ := T.d_first_over
  exact fnP_ok (N := N_first_over) (k := 7) hm Ff hb sc_first_over fun cdv A outer s H E hr =>
    (dss_cons (ds_expr (de_call (ok_need_two (P := P) (w := w) (base := base) T) (hr.mono (by decide)) (takes_of rfl rfl rfl rfl) (da_cons (de_var (pv 0)) (da_cons (de_var (pv 1)) da_nil))))
    (dss_cons (ds_asg (de_call (ok_words_by (P := P) (w := w) (base := base) T) (hr.mono (by decide)) (takes_of rfl rfl rfl rfl) (da_cons (de_var (pv 0)) (da_cons (de_var (pv 1)) da_nil))) (dg_tup rfl (dgs_cons (dg_name (i := 2) sc_first_over.nd) (dgs_cons (dg_name (i := 3) sc_first_over.nd) dgs_nil))))
    (dss_cons (ds_set (i := 4) sc_first_over.nd (de_callTy call_list_of cd_list rfl T.m_list b_list (da_cons (de_add (de_var (pv 2)) (de_var (pv 3))) da_nil)))
    (dss_one (ds_ret (de_if (dt_cmp (op_inA hr) od_in de_str (de_var (pv 4)) (by with_unfolding_all rfl)) (de_index (de_var (pv 4)) (da_cons de_str da_nil)) de_non))))))
theorem sc__law_first_right : FnScope N__law_first_right [] (defScope s__law_first_right) := ⟨rfl, rfl, rfl, by decide +kernel, rfl, by decide +kernel, by decide +kernel⟩
theorem ok__law_first_right (T : Top K mg cS cW) : DFn P w K mg base "_law_first_right" [] 8 F_k22_law_first_right := by
  obtain ⟨f, fd, hm, Ff, hb⟩ := T.d__law_first_right
  exact fnP_ok (N := N__law_first_right) (k := 7) hm Ff hb sc__law_first_right fun cdv A outer s H E hr =>
    (dss_cons (ds_asg (de_call0 (ok__law_snails (P := P) (w := w) (base := base) T) (hr.mono (by decide)) (takes_of rfl rfl rfl rfl)) (dg_tup rfl (dgs_cons (dg_name (i := 0) sc__law_first_right.nd) (dgs_cons (dg_name (i := 1) sc__law_first_right.nd) (dgs_cons (dg_name (i := 2) sc__law_first_right.nd) (dgs_cons (dg_name (i := 3) sc__law_first_right.nd) (dgs_cons (dg_name (i := 4) sc__law_first_right.nd) dgs_nil)))))))
    (dss_cons (ds_set (i := 5) sc__law_first_right.nd (de_newL (da_cons (de_call (ok_is_snail (P := P) (w := w) (base := base) T) (hr.mono (by decide)) (takes_of rfl rfl rfl rfl) (da_cons (de_var (pv 0)) da_nil)) da_nil)))
    (dss_cons (ds_expr (de_append (de_var (pv 5)) (da_cons (de_not (de_call (ok_is_snail (P := P) (w := w) (base := base) T) (hr.mono (by decide)) (takes_of rfl rfl rfl rfl) (da_cons (de_tup (da_cons de_int (da_cons de_int (da_cons (de_tup da_nil) da_nil)))) da_nil))) da_nil)))
    (dss_cons (ds_expr (de_append (de_var (pv 5)) (da_cons (de_not (de_call (ok_is_snail (P := P) (w := w) (base := base) T) (hr.mono (by decide)) (takes_of rfl rfl rfl rfl) (da_cons (de_tup (da_cons de_int (da_cons de_int (da_cons (de_tup (da_cons de_int da_nil)) da_nil)))) da_nil))) da_nil)))
    (dss_cons (ds_expr (de_append (de_var (pv 5)) (da_cons (de_call (ok_are_snails (P := P) (w := w) (base := base) T) (hr.mono (by decide)) (takes_of rfl rfl rfl rfl) (da_cons (de_tup (da_cons (de_var (pv 0)) (da_cons (de_var (pv 1)) da_nil))) da_nil)) da_nil)))
    (dss_cons (ds_expr (de_append (de_var (pv 5)) (da_cons (de_not (de_call (ok_are_snails (P := P) (w := w) (base := base) T) (hr.mono (by decide)) (takes_of rfl rfl rfl rfl) (da_cons (de_tup da_nil) da_nil))) da_nil)))
    (dss_cons (ds_expr (de_append (de_var (pv 5)) (da_cons (de_cmp (op_eqD hr.units) od_eq (de_lc (own := [(("minute" : Str), 6)]) (c := (.nm 6)) rfl sc__law_first_right.nd (di_rng1 rfl T.m_range (da_cons de_int da_nil)) (blkOk_by (N := N__law_first_right) (sc := defScope s__law_first_right) (by decide +kernel)) (by decide) (fun _ _ _ _ _ => (pg_name (i := 6) sc__law_first_right.nd rfl (Or.inl rfl))) (fun _ _ _ _ _ => dts_nil) (fun _ _ _ _ _ => (de_call (ok_height_at (P := P) (w := w) (base := base) T) (hr.mono (by decide)) takes0 (da_cons (de_var (pv 0)) (da_cons (de_var (pv 6)) da_nil))))) (de_lst (da_cons de_int (da_cons de_int (da_cons de_int (da_cons de_int (da_cons de_int (da_cons de_int da_nil))))))) (nomark _)) da_nil)))
    (dss_cons (ds_set (i := 5) sc__law_first_right.nd (de_bin op_addD od_addN (de_var (pv 5)) (de_lst (da_cons (de_cmp (op_eqD hr.units) od_eq (de_call (ok_height_at (P := P) (w := w) (base := base) T) (hr.mono (by decide)) (takes_of rfl rfl rfl rfl) (da_cons (de_var (pv 2)) (da_cons de_int da_nil))) de_int (nomark _)) (da_cons (de_cmp (op_eqD hr.units) od_eq (de_call (ok_height_at (P := P) (w := w) (base := base) T) (hr.mono (by decide)) (takes_of rfl rfl rfl rfl) (da_cons (de_tup (da_cons de_int (da_cons de_int (da_cons (de_tup (da_cons (de_neg de_int) (da_cons de_int da_nil))) da_nil)))) (da_cons de_int da_nil))) de_int (nomark _)) da_nil)))))
    (dss_cons (ds_expr (de_append (de_var (pv 5)) (da_cons (de_cmp (op_eqD hr.units) od_eq (de_call (ok_height_at (P := P) (w := w) (base := base) T) (hr.mono (by decide)) (takes_of rfl rfl rfl rfl) (da_cons (de_var (pv 0)) (da_cons (de_pow de_int de_int) da_nil))) (de_mul de_int (de_pow de_int de_int)) (nomark _)) da_nil)))
    (dss_cons (ds_expr (de_append (de_var (pv 5)) (da_cons (de_cmp (op_eqD hr.units) od_eq (de_call (ok_out_at (P := P) (w := w) (base := base) T) (hr.mono (by decide)) (takes_of rfl rfl rfl rfl) (da_cons (de_var (pv 0)) (da_cons de_int da_nil))) de_int (nomark _)) da_nil)))
    (dss_cons (ds_expr (de_append (de_var (pv 5)) (da_cons (de_cmp (op_eqD hr.units) od_eq (de_call (ok_out_at (P := P) (w := w) (base := base) T) (hr.mono (by decide)) (takes_of rfl rfl rfl rfl) (da_cons (de_var (pv 0)) (da_cons de_int da_nil))) de_int (nomark _)) da_nil)))
    (dss_cons (ds_set (i := 5) sc__law_first_right.nd (de_bin op_addD od_addN (de_var (pv 5)) (de_lst (da_cons (de_cmp (op_eqD hr.units) od_eq (de_call (ok_out_at (P := P) (w := w) (base := base) T) (hr.mono (by decide)) (takes_of rfl rfl rfl rfl) (da_cons (de_var (pv 1)) (da_cons de_int da_nil))) de_int (nomark _)) (da_cons (de_cmp (op_eqD hr.units) od_eq (de_call (ok_out_at (P := P) (w := w) (base := base) T) (hr.mono (by decide)) (takes_of rfl rfl rfl rfl) (da_cons (de_var (pv 2)) (da_cons de_int da_nil))) de_int (nomark _)) (da_cons (de_cmp op_isN od_isN (de_call (ok_out_at (P := P) (w := w) (base := base) T) (hr.mono (by decide)) (takes_of rfl rfl rfl rfl) (da_cons (de_var (pv 2)) (da_cons de_int da_nil))) de_non (nomark _)) da_nil))))))
    (dss_cons (ds_expr (de_append (de_var (pv 5)) (da_cons (de_cmp (op_eqD hr.units) od_eq (de_call (ok_out_at (P := P) (w := w) (base := base) T) (hr.mono (by decide)) (takes_of rfl rfl rfl rfl) (da_cons (de_var (pv 0)) (da_cons (de_pow de_int de_int) da_nil))) (de_sub (de_mul de_int (de_pow de_int de_int)) de_int) (nomark _)) da_nil)))
    (dss_cons (ds_expr (de_append (de_var (pv 5)) (da_cons (de_cmp (op_eqD hr.units) od_eq (de_call (ok_calendar (P := P) (w := w) (base := base) T) (hr.mono (by decide)) (takes_of rfl rfl rfl rfl) (da_cons (de_var (pv 0)) da_nil)) (de_tup (da_cons (de_tup (da_cons de_int (da_cons de_int da_nil))) (da_cons (de_tup (da_cons de_int da_nil)) (da_cons de_int da_nil)))) (nomark _)) da_nil)))
    (dss_cons (ds_expr (de_append (de_var (pv 5)) (da_cons (de_cmp (op_eqD hr.units) od_eq (de_call (ok_calendar (P := P) (w := w) (base := base) T) (hr.mono (by decide)) (takes_of rfl rfl rfl rfl) (da_cons (de_var (pv 1)) da_nil)) (de_tup (da_cons (de_tup da_nil) (da_cons (de_tup (da_cons de_int da_nil)) (da_cons de_int da_nil)))) (nomark _)) da_nil)))
    (dss_cons (ds_expr (de_append (de_var (pv 5)) (da_cons (de_cmp (op_eqD hr.units) od_eq (de_call (ok_calendar (P := P) (w := w) (base := base) T) (hr.mono (by decide)) (takes_of rfl rfl rfl rfl) (da_cons (de_var (pv 2)) da_nil)) (de_tup (da_cons (de_tup (da_cons de_int (da_cons de_int (da_cons de_int da_nil)))) (da_cons (de_tup (da_cons de_non da_nil)) (da_cons de_int da_nil)))) (nomark _)) da_nil)))
    (dss_cons (ds_expr (de_append (de_var (pv 5)) (da_cons (de_cmp (op_eqD hr.units) od_eq (de_call (ok_calendar (P := P) (w := w) (base := base) T) (hr.mono (by decide)) (takes_of rfl rfl rfl rfl) (da_cons (de_tup (da_cons de_int (da_cons de_int (da_cons (de_tup (da_cons (de_neg de_int) da_nil)) da_nil)))) da_nil)) (de_tup (da_cons (de_tup da_nil) (da_cons (de_tup (da_cons de_non da_nil)) (da_cons de_int da_nil)))) (nomark _)) da_nil)))
    (dss_cons (ds_expr (de_append (de_var (pv 5)) (da_cons (de_cmp (op_eqD hr.units) od_eq (de_call (ok_winners (P := P) (w := w) (base := base) T) (hr.mono (by decide)) (takes_of rfl rfl rfl rfl) (da_cons (de_tup (da_cons (de_var (pv 0)) (da_cons (de_var (pv 1)) da_nil))) (da_cons de_int da_nil))) (de_tup (da_cons de_int da_nil)) (nomark _)) da_nil)))
    (dss_cons (ds_set (i := 5) sc__law_first_right.nd (de_bin op_addD od_addN (de_var (pv 5)) (de_lst (da_cons (de_cmp (op_eqD hr.units) od_eq (de_call (ok_winners (P := P) (w := w) (base := base) T) (hr.mono (by decide)) (takes_of rfl rfl rfl rfl) (da_cons (de_tup (da_cons (de_var (pv 0)) (da_cons (de_var (pv 1)) da_nil))) (da_cons de_int da_nil))) (de_tup (da_cons de_int da_nil)) (nomark _)) (da_cons (de_cmp (op_eqD hr.units) od_eq (de_call (ok_winners (P := P) (w := w) (base := base) T) (hr.mono (by decide)) (takes_of rfl rfl rfl rfl) (da_cons (de_tup (da_cons (de_var (pv 2)) da_nil)) (da_cons de_int da_nil))) (de_tup da_nil) (nomark _)) da_nil)))))
    (dss_cons (ds_expr (de_append (de_var (pv 5)) (da_cons (de_cmp (op_eqD hr.units) od_eq (de_call (ok_winner_calendar (P := P) (w := w) (base := base) T) (hr.mono (by decide)) (takes_of rfl rfl rfl rfl) (da_cons (de_tup (da_cons (de_var (pv 0)) (da_cons (de_var (pv 1)) da_nil))) da_nil)) (de_tup (da_cons (de_add (de_mul (de_tup (da_cons (de_tup (da_cons de_int da_nil)) da_nil)) de_int) (de_tup (da_cons (de_tup (da_cons de_int (da_cons de_int da_nil))) da_nil))) (da_cons (de_tup (da_cons (de_tup (da_cons de_int da_nil)) da_nil)) da_nil))) (nomark _)) da_nil)))
    (dss_cons (ds_expr (de_append (de_var (pv 5)) (da_cons (de_cmp (op_eqD hr.units) od_eq (de_call (ok_winner_calendar (P := P) (w := w) (base := base) T) (hr.mono (by decide)) (takes_of rfl rfl rfl rfl) (da_cons (de_tup (da_cons (de_var (pv 0)) (da_cons (de_var (pv 2)) da_nil))) da_nil)) (de_tup (da_cons (de_tup (da_cons (de_tup (da_cons de_int da_nil)) (da_cons (de_tup (da_cons de_int da_nil)) (da_cons (de_tup (da_cons de_int (da_cons de_int da_nil))) da_nil)))) (da_cons (de_tup (da_cons (de_tup (da_cons de_int da_nil)) da_nil)) da_nil))) (nomark _)) da_nil)))
    (dss_cons (ds_expr (de_append (de_var (pv 5)) (da_cons (de_cmp (op_eqD hr.units) od_eq (de_call (ok_winner_calendar (P := P) (w := w) (base := base) T) (hr.mono (by decide)) (takes_of rfl rfl rfl rfl) (da_cons (de_tup (da_cons (de_var (pv 2)) da_nil)) da_nil)) (de_tup (da_cons (de_mul (de_tup (da_cons (de_tup (da_cons de_int da_nil)) da_nil)) de_int) (da_cons (de_tup (da_cons (de_tup da_nil) da_nil)) da_nil))) (nomark _)) da_nil)))
    (dss_cons (ds_expr (de_append (de_var (pv 5)) (da_cons (de_cmp (op_eqD hr.units) od_eq (de_call (ok_how (P := P) (w := w) (base := base) T) (hr.mono (by decide)) (takes_of rfl rfl rfl rfl) (da_cons (de_tup (da_cons (de_var (pv 0)) (da_cons (de_var (pv 1)) da_nil))) (da_cons de_int da_nil))) de_str (nomark _)) da_nil)))
    (dss_cons (ds_expr (de_append (de_var (pv 5)) (da_cons (de_cmp (op_eqD hr.units) od_eq (de_call (ok_how (P := P) (w := w) (base := base) T) (hr.mono (by decide)) (takes_of rfl rfl rfl rfl) (da_cons (de_tup (da_cons (de_var (pv 0)) (da_cons (de_var (pv 0)) da_nil))) (da_cons de_int da_nil))) de_str (nomark _)) da_nil)))
    (dss_cons (ds_expr (de_append (de_var (pv 5)) (da_cons (de_cmp (op_eqD hr.units) od_eq (de_call (ok_how (P := P) (w := w) (base := base) T) (hr.mono (by decide)) (takes_of rfl rfl rfl rfl) (da_cons (de_tup (da_cons (de_var (pv 1)) (da_cons (de_var (pv 0)) (da_cons (de_var (pv 2)) da_nil)))) (da_cons de_int da_nil))) de_str (nomark _)) da_nil)))
    (dss_one (ds_ret (de_add (de_var (pv 5)) (de_lst (da_cons (de_cmp (op_eqD hr.units) od_eq (de_call (ok_first_depth (P := P) (w := w) (base := base) T) (hr.mono (by decide)) (takes_of rfl rfl rfl rfl) (da_cons (de_tup (da_cons (de_var (pv 0)) (da_cons (de_var (pv 1)) da_nil))) (da_cons de_int da_nil))) de_int (nomark _)) (da_cons (de_cmp (op_eqD hr.units) od_eq (de_call (ok_first_depth (P := P) (w := w) (base := base) T) (hr.mono (by decide)) (takes_of rfl rfl rfl rfl) (da_cons (de_tup (da_cons (de_var (pv 1)) (da_cons (de_var (pv 2)) da_nil))) (da_cons de_int da_nil))) de_int (nomark _)) da_nil)))))))))))))))))))))))))))))))
theorem sc_Snail___add__ : FnScope N_Snail___add__ ["self", "step"] (defScope s_Snail___add__) := ⟨rfl, rfl, rfl, by decide +kernel, rfl, by decide +kernel, by decide +kernel⟩
theorem ok_Snail___add__ (T : Top K mg cS cW) {ty : String} (t : OpT K cS .Add ty) : DOp P w K mg base cS .Add ty 9 (F_Snail___add__ cS) := by
  obtain ⟨f, h1, fd, Ff, hb⟩ := T.f_Snail___add__
  exact ⟨f, h1, t, FnR_num (FnR_of (fnQ_fnM (N := N_Snail___add__) (k := 8) Ff sc_Snail___add__ fun cdv A outer s H E hr =>
    (dss_one (ds_ret (de_mtE T.x_Snail (ok_Snail_made (P := P) (w := w) (base := base) T) (hr.mono (by decide)) (takes_of rfl rfl rfl rfl) (de_var (pv 0)) (da_one (de_add (de_slice (de_fld T.x_Snail T.a_Snail_base (de_var (pv 0))) do_none (do_some de_int)) (de_tup (da_cons (de_add (de_idx (de_fld T.x_Snail T.a_Snail_base (de_var (pv 0))) de_int) (de_tup (da_cons (de_var (pv 1)) da_nil))) da_nil))) da_nil))))) hb)⟩
theorem sc_Snail___sub__ : FnScope N_Snail___sub__ ["self", "index"] (defScope s_Snail___sub__) := ⟨rfl, rfl, rfl, by decide +kernel, rfl, by decide +kernel, by decide +kernel⟩
theorem ok_Snail___sub__ (T : Top K mg cS cW) {ty : String} (t : OpT K cS .Sub ty) : DOp P w K mg base cS .Sub ty 9 (F_Snail___sub__ cS) := by
  obtain ⟨f, h1, fd, Ff, hb⟩ := T.f_Snail___sub__
  exact ⟨f, h1, t, FnR_num (FnR_of (fnQ_fnM (N := N_Snail___sub__) (k := 8) Ff sc_Snail___sub__ fun cdv A outer s H E hr =>
    (dss_one (ds_ret (de_mtE T.x_Snail (ok_Snail_made (P := P) (w := w) (base := base) T) (hr.mono (by decide)) (takes_of rfl rfl rfl rfl) (de_var (pv 0)) (da_one (de_add (de_slice (de_fld T.x_Snail T.a_Snail_base (de_var (pv 0))) do_none (do_some de_int)) (de_tup (da_cons (de_call (ok_fewer (P := P) (w := w) (base := base) T) (hr.mono (by decide)) (takes_of rfl rfl rfl rfl) (da_cons (de_idx (de_fld T.x_Snail T.a_Snail_base (de_var (pv 0))) de_int) (da_cons (de_var (pv 1)) da_nil))) da_nil))) da_nil))))) hb)⟩
theorem sc_Snail___rshift__ : FnScope N_Snail___rshift__ ["self", "minutes"] (defScope s_Snail___rshift__) := ⟨rfl, rfl, rfl, by decide +kernel, rfl, by decide +kernel, by decide +kernel⟩
theorem ok_Snail___rshift__ (T : Top K mg cS cW) {ty : String} (t : OpT K cS .RShift ty) : DOp P w K mg base cS .RShift ty 9 (F_Snail___rshift__ cS) := by
  obtain ⟨f, h1, fd, Ff, hb⟩ := T.f_Snail___rshift__
  exact ⟨f, h1, t, FnR_num (FnR_of (fnQ_fnM (N := N_Snail___rshift__) (k := 8) Ff sc_Snail___rshift__ fun cdv A outer s H E hr =>
    (dss_cons (ds_if (dt_not (dt_truth (de_call (ok_is_number (P := P) (w := w) (base := base) T) (hr.mono (by decide)) (takes_of rfl rfl rfl rfl) (da_cons (de_var (pv 1)) (da_cons de_int (da_cons de_int da_nil)))) (by intro _; rfl)))
    (dss_one (ds_raise rfl (takes_of rfl rfl rfl rfl) T.c_InvalidSnail))
    dss_nil)
    (dss_one (ds_ret (de_mtE T.x_Snail (ok_Snail_made (P := P) (w := w) (base := base) T) (hr.mono (by decide)) (takes_of rfl rfl rfl rfl) (de_var (pv 0)) (da_one (de_add (de_tup (da_cons (de_add (de_idx (de_fld T.x_Snail T.a_Snail_base (de_var (pv 0))) de_int) (de_var (pv 1))) da_nil)) (de_slice (de_fld T.x_Snail T.a_Snail_base (de_var (pv 0))) (do_some de_int) do_none)) da_nil)))))) hb)⟩
theorem sc_Snail___xor__ : FnScope N_Snail___xor__ ["self", "height"] (defScope s_Snail___xor__) := ⟨rfl, rfl, rfl, by decide +kernel, rfl, by decide +kernel, by decide +kernel⟩
theorem ok_Snail___xor__ (T : Top K mg cS cW) {ty : String} (t : OpT K cS .BitXor ty) : DOp P w K mg base cS .BitXor ty 9 (F_Snail___xor__ cS) := by
  obtain ⟨f, h1, fd, Ff, hb⟩ := T.f_Snail___xor__
  exact ⟨f, h1, t, FnR_num (FnR_of (fnQ_fnM (N := N_Snail___xor__) (k := 8) Ff sc_Snail___xor__ fun cdv A outer s H E hr =>
    (dss_one (ds_ret (de_mtE T.x_Snail (ok_Snail_made (P := P) (w := w) (base := base) T) (hr.mono (by decide)) (takes_of rfl rfl rfl rfl) (de_var (pv 0)) (da_one (de_tup (da_cons (de_idx (de_fld T.x_Snail T.a_Snail_base (de_var (pv 0))) de_int) (da_cons (de_var (pv 1)) (da_cons (de_idx (de_fld T.x_Snail T.a_Snail_base (de_var (pv 0))) de_int) da_nil)))) da_nil))))) hb)⟩
theorem sc_Snail___invert__ : FnScope N_Snail___invert__ ["self"] (defScope s_Snail___invert__) := ⟨rfl, rfl, rfl, by decide +kernel, rfl, by decide +kernel, by decide +kernel⟩
theorem ok_Snail___invert__ (T : Top K mg cS cW) : DSp P w K mg base cS "__invert__" 9 (F_Snail___invert__ cS) := by
  obtain ⟨f, h1, fd, Ff, hb⟩ := T.f_Snail___invert__
  exact ⟨f, h1, FnR_num (FnR_of (fnQ_fnM (N := N_Snail___invert__) (k := 8) Ff sc_Snail___invert__ fun cdv A outer s H E hr =>
    (dss_one (ds_ret (de_mtE T.x_Snail (ok_Snail_made (P := P) (w := w) (base := base) T) (hr.mono (by decide)) (takes_of rfl rfl rfl rfl) (de_var (pv 0)) (da_one (de_add (de_slice (de_fld T.x_Snail T.a_Snail_base (de_var (pv 0))) do_none (do_some de_int)) (de_tup (da_cons (de_rev (de_idx (de_fld T.x_Snail T.a_Snail_base (de_var (pv 0))) de_int)) da_nil))) da_nil))))) hb)⟩
theorem sc__law_second_right : FnScope N__law_second_right [] (defScope s__law_second_right) := ⟨rfl, rfl, rfl, by decide +kernel, rfl, by decide +kernel, by decide +kernel⟩
theorem ok__law_second_right (T : Top K mg cS cW) : DFn P w K mg base "_law_second_right" [] 9 F_k22_law_second_right := by
  obtain ⟨f, fd, hm, Ff, hb⟩ := T.d__law_second_right
  exact fnP_ok (N := N__law_second_right) (k := 8) hm Ff hb sc__law_second_right fun cdv A outer s H E hr =>
    (dss_cons (ds_asg (de_call0 (ok__law_snails (P := P) (w := w) (base := base) T) (hr.mono (by decide)) (takes_of rfl rfl rfl rfl)) (dg_tup rfl (dgs_cons (dg_name (i := 0) sc__law_second_right.nd) (dgs_cons (dg_name (i := 1) sc__law_second_right.nd) (dgs_cons (dg_name (i := 2) sc__law_second_right.nd) (dgs_cons (dg_name (i := 3) sc__law_second_right.nd) (dgs_cons (dg_name (i := 4) sc__law_second_right.nd) dgs_nil)))))))
    (dss_cons (ds_set (i := 5) sc__law_second_right.nd (de_newL (da_cons (de_cmp (op_eqD hr.units) od_eq (de_call (ok_leads (P := P) (w := w) (base := base) T) (hr.mono (by decide)) (takes_of rfl rfl rfl rfl) (da_cons (de_var (pv 0)) (da_cons (de_var (pv 1)) da_nil))) (de_tup (da_cons de_non (da_cons de_int da_nil))) (nomark _)) da_nil)))
    (dss_cons (ds_expr (de_append (de_var (pv 5)) (da_cons (de_cmp (op_eqD hr.units) od_eq (de_call (ok_leads (P := P) (w := w) (base := base) T) (hr.mono (by decide)) (takes_of rfl rfl rfl rfl) (da_cons (de_var (pv 3)) (da_cons (de_var (pv 4)) da_nil))) (de_tup (da_cons de_int (da_cons de_int da_nil))) (nomark _)) da_nil)))
    (dss_cons (ds_expr (de_append (de_var (pv 5)) (da_cons (de_cmp (op_eqD hr.units) od_eq (de_call (ok_leads (P := P) (w := w) (base := base) T) (hr.mono (by decide)) (takes_of rfl rfl rfl rfl) (da_cons (de_var (pv 2)) (da_cons (de_var (pv 1)) da_nil))) (de_tup (da_cons de_int (da_cons de_int da_nil))) (nomark _)) da_nil)))
    (dss_cons (ds_expr (de_append (de_var (pv 5)) (da_cons (de_cmp op_isN od_isN (de_call (ok_leads (P := P) (w := w) (base := base) T) (hr.mono (by decide)) (takes_of rfl rfl rfl rfl) (da_cons (de_tup (da_cons de_int (da_cons de_int (da_cons (de_tup (da_cons (de_neg de_int) da_nil)) da_nil)))) (da_cons (de_var (pv 1)) da_nil))) de_non (nomark _)) da_nil)))
    (dss_cons (ds_expr (de_append (de_var (pv 5)) (da_cons (de_not (de_call (ok_never_later (P := P) (w := w) (base := base) T) (hr.mono (by decide)) (takes_of rfl rfl rfl rfl) (da_cons (de_var (pv 0)) (da_cons (de_var (pv 1)) da_nil)))) da_nil)))
    (dss_cons (ds_expr (de_append (de_var (pv 5)) (da_cons (de_cmp (op_eqD hr.units) od_eq (de_call (ok_first_later (P := P) (w := w) (base := base) T) (hr.mono (by decide)) (takes_of rfl rfl rfl rfl) (da_cons (de_var (pv 0)) (da_cons (de_var (pv 1)) da_nil))) de_int (nomark _)) da_nil)))
    (dss_cons (ds_expr (de_append (de_var (pv 5)) (da_cons (de_call (ok_never_later (P := P) (w := w) (base := base) T) (hr.mono (by decide)) (takes_of rfl rfl rfl rfl) (da_cons (de_var (pv 3)) (da_cons (de_var (pv 4)) da_nil))) da_nil)))
    (dss_cons (ds_expr (de_append (de_var (pv 5)) (da_cons (de_cmp (op_eqD hr.units) od_eq (de_call (ok_first_later (P := P) (w := w) (base := base) T) (hr.mono (by decide)) (takes_of rfl rfl rfl rfl) (da_cons (de_var (pv 2)) (da_cons (de_var (pv 1)) da_nil))) de_int (nomark _)) da_nil)))
    (dss_cons (ds_expr (de_append (de_var (pv 5)) (da_cons (de_cmp (op_eqD hr.units) od_eq (de_call (ok_first_later (P := P) (w := w) (base := base) T) (hr.mono (by decide)) (takes_of rfl rfl rfl rfl) (da_cons (de_var (pv 4)) (da_cons (de_var (pv 3)) da_nil))) de_int (nomark _)) da_nil)))
    (dss_cons (ds_expr (de_append (de_var (pv 5)) (da_cons (de_cmp (op_eqD hr.units) od_eq (de_call (ok_order_calendar (P := P) (w := w) (base := base) T) (hr.mono (by decide)) (takes_of rfl rfl rfl rfl) (da_cons (de_var (pv 3)) (da_cons (de_var (pv 4)) da_nil))) (de_tup (da_cons (de_tup da_nil) (da_cons (de_tup (da_cons de_str (da_cons de_str (da_cons de_str da_nil)))) da_nil))) (nomark _)) da_nil)))
    (dss_cons (ds_expr (de_append (de_var (pv 5)) (da_cons (de_cmp (op_eqD hr.units) od_eq (de_call (ok_order_calendar (P := P) (w := w) (base := base) T) (hr.mono (by decide)) (takes_of rfl rfl rfl rfl) (da_cons (de_var (pv 1)) (da_cons (de_var (pv 2)) da_nil))) (de_tup (da_cons (de_add (de_mul (de_tup (da_cons de_str da_nil)) de_int) (de_mul (de_tup (da_cons de_str da_nil)) de_int)) (da_cons (de_tup (da_cons de_str da_nil)) da_nil))) (nomark _)) da_nil)))
    (dss_cons (ds_expr (de_append (de_var (pv 5)) (da_cons (de_cmp (op_eqD hr.units) od_eq (de_call (ok_first_over (P := P) (w := w) (base := base) T) (hr.mono (by decide)) (takes_of rfl rfl rfl rfl) (da_cons (de_var (pv 3)) (da_cons (de_var (pv 4)) da_nil))) de_int (nomark _)) da_nil)))
    (dss_cons (ds_expr (de_append (de_var (pv 5)) (da_cons (de_cmp op_isN od_isN (de_call (ok_first_over (P := P) (w := w) (base := base) T) (hr.mono (by decide)) (takes_of rfl rfl rfl rfl) (da_cons (de_var (pv 4)) (da_cons (de_var (pv 3)) da_nil))) de_non (nomark _)) da_nil)))
    (dss_cons (ds_expr (de_append (de_var (pv 5)) (da_cons (de_cmp (op_eqD hr.units) od_eq (de_call (ok_first_over (P := P) (w := w) (base := base) T) (hr.mono (by decide)) (takes_of rfl rfl rfl rfl) (da_cons (de_var (pv 1)) (da_cons (de_var (pv 0)) da_nil))) de_int (nomark _)) da_nil)))
    (dss_cons (ds_set (i := 5) sc__law_second_right.nd (de_bin op_addD od_addN (de_var (pv 5)) (de_lst (da_cons (de_cmp op_isN od_isN (de_call (ok_highest (P := P) (w := w) (base := base) T) (hr.mono (by decide)) (takes_of rfl rfl rfl rfl) (da_cons (de_var (pv 0)) da_nil)) de_non (nomark _)) (da_cons (de_cmp (op_eqD hr.units) od_eq (de_call (ok_highest (P := P) (w := w) (base := base) T) (hr.mono (by decide)) (takes_of rfl rfl rfl rfl) (da_cons (de_var (pv 2)) da_nil)) de_int (nomark _)) (da_cons (de_cmp (op_eqD hr.units) od_eq (de_call (ok_highest (P := P) (w := w) (base := base) T) (hr.mono (by decide)) (takes_of rfl rfl rfl rfl) (da_cons (de_tup (da_cons de_int (da_cons de_int (da_cons (de_tup (da_cons (de_neg de_int) (da_cons de_int da_nil))) da_nil)))) da_nil)) de_int (nomark _)) da_nil))))))
    (dss_cons (ds_expr (de_append (de_var (pv 5)) (da_cons (de_not (de_call (ok_alike (P := P) (w := w) (base := base) T) (hr.mono (by decide)) (takes_of rfl rfl rfl rfl) (da_cons (de_var (pv 3)) (da_cons (de_var (pv 4)) da_nil)))) da_nil)))
    (dss_cons (ds_expr (de_append (de_var (pv 5)) (da_cons (de_cmp (op_eqD hr.units) od_eq (de_call (ok_parting (P := P) (w := w) (base := base) T) (hr.mono (by decide)) (takes_of rfl rfl rfl rfl) (da_cons (de_var (pv 3)) (da_cons (de_var (pv 4)) da_nil))) de_int (nomark _)) da_nil)))
    (dss_cons (ds_expr (de_append (de_var (pv 5)) (da_cons (de_call (ok_alike (P := P) (w := w) (base := base) T) (hr.mono (by decide)) (takes_of rfl rfl rfl rfl) (da_cons (de_tup (da_cons de_int (da_cons de_int (da_cons (de_tup (da_cons de_int (da_cons de_int da_nil))) da_nil)))) (da_cons (de_tup (da_cons de_int (da_cons de_int (da_cons (de_tup (da_cons de_int (da_cons de_int da_nil))) da_nil)))) da_nil))) da_nil)))
    (dss_cons (ds_set (i := 5) sc__law_second_right.nd (de_bin op_addD od_addN (de_var (pv 5)) (de_lst (da_cons (de_cmp op_isN od_isN (de_call (ok_parting (P := P) (w := w) (base := base) T) (hr.mono (by decide)) (takes_of rfl rfl rfl rfl) (da_cons (de_var (pv 1)) (da_cons (de_tup (da_cons de_int (da_cons de_int (da_cons (de_tup (da_cons de_int (da_cons de_int da_nil))) da_nil)))) da_nil))) de_non (nomark _)) (da_cons (de_cmp (op_eqD hr.units) od_eq (de_call (ok_idle_steps (P := P) (w := w) (base := base) T) (hr.mono (by decide)) (takes_of rfl rfl rfl rfl) (da_cons (de_tup (da_cons de_int (da_cons de_int (da_cons (de_tup (da_cons de_int (da_cons de_int da_nil))) da_nil)))) da_nil)) (de_lst (da_cons de_int (da_cons de_int da_nil))) (nomark _)) da_nil)))))
    (dss_cons (ds_expr (de_append (de_var (pv 5)) (da_cons (de_cmp (op_eqD hr.units) od_eq (de_call (ok_idle_steps (P := P) (w := w) (base := base) T) (hr.mono (by decide)) (takes_of rfl rfl rfl rfl) (da_cons (de_var (pv 0)) da_nil)) (de_lst da_nil) (nomark _)) da_nil)))
    (dss_cons (ds_expr (de_append (de_var (pv 5)) (da_cons (de_cmp (op_eqD hr.units) od_eq (de_call (ok_idle_steps (P := P) (w := w) (base := base) T) (hr.mono (by decide)) (takes_of rfl rfl rfl rfl) (da_cons (de_tup (da_cons de_int (da_cons de_int (da_cons (de_tup (da_cons (de_neg de_int) (da_cons (de_neg de_int) da_nil))) da_nil)))) da_nil)) (de_lst (da_cons de_int (da_cons de_int da_nil))) (nomark _)) da_nil)))
    (dss_cons (ds_expr (de_append (de_var (pv 5)) (da_cons (de_cmp (op_eqD hr.units) od_eq (de_call (ok_exchangeable (P := P) (w := w) (base := base) T) (hr.mono (by decide)) (takes_of rfl rfl rfl rfl) (da_cons (de_var (pv 3)) da_nil)) (de_lst da_nil) (nomark _)) da_nil)))
    (dss_one (ds_ret (de_add (de_var (pv 5)) (de_lst (da_cons (de_cmp (op_eqD hr.units) od_eq (de_call (ok_exchangeable (P := P) (w := w) (base := base) T) (hr.mono (by decide)) (takes_of rfl rfl rfl rfl) (da_cons (de_tup (da_cons de_int (da_cons de_int (da_cons (de_tup (da_cons de_int (da_cons de_int (da_cons de_int da_nil)))) da_nil)))) da_nil)) (de_lst (da_cons de_int da_nil)) (nomark _)) da_nil))))))))))))))))))))))))))))
theorem sc_Well_inside : FnScope N_Well_inside ["self"] (defScope s_Well_inside) := ⟨rfl, rfl, rfl, by decide +kernel, rfl, by decide +kernel, by decide +kernel⟩
theorem ok_Well_inside (T : Top K mg cS cW) : DProp P w K mg base cW "inside" 10 (F_Well_inside cW) := by
  obtain ⟨p, f, hp, fd, Ff, hb⟩ := T.f_Well_inside
  exact ⟨p, f, fd, _, hp, hb, fnP_fnM (N := N_Well_inside) (k := 9) Ff sc_Well_inside fun cdv A outer s H E hr =>
    (dss_cons (ds_set (i := 1) sc_Well_inside.nd (de_lc (own := [(("minute" : Str), 2), (("index" : Str), 3)]) (c := (.tp [2, 3])) rfl sc_Well_inside.nd (di_seq (de_propE T.x_Well (ok_Well_out (P := P) (w := w) (base := base) T) (hr.mono (by decide)) (de_var (pv 0)))) (blkOk_by (N := N_Well_inside) (sc := defScope s_Well_inside) (by decide +kernel)) (by decide) (fun _ _ _ _ _ => (pg_tup rfl (pgs_cons (pg_name (i := 2) sc_Well_inside.nd rfl (Or.inl rfl)) (pgs_cons (pg_name (i := 3) sc_Well_inside.nd rfl (Or.inl rfl)) pgs_nil)))) (fun _ _ _ _ _ => dts_nil) (fun _ _ _ _ _ => (de_var (pv 3)))))
    (dss_one (ds_ret (de_lc (own := [(("index" : Str), 3)]) (c := (.nm 3)) rfl sc_Well_inside.nd (di_rng1 rfl T.m_range (da_cons (de_callB call_len cd_len rfl T.m_len b_len (da_cons (de_idx (de_fld T.x_Well T.a_Well_now (de_var (pv 0))) de_int) da_nil)) da_nil)) (blkOk_by (N := N_Well_inside) (sc := defScope s_Well_inside) (by decide +kernel)) (by decide) (fun _ _ _ _ _ => (pg_name (i := 3) sc_Well_inside.nd rfl (Or.inl rfl))) (fun _ _ _ _ _ => (dts_one (dt_cmp (op_notInA hr) od_notIn (de_var (pv 3)) (de_var (pv 1)) (by with_unfolding_all rfl)))) (fun _ _ _ _ _ => (de_var (pv 3)))))))⟩
theorem sc_Well_wait : FnScope N_Well_wait ["self", "minutes"] (defScope s_Well_wait) := ⟨rfl, rfl, rfl, by decide +kernel, rfl, by decide +kernel, by decide +kernel⟩
theorem ok_Well_wait (T : Top K mg cS cW) : DMt P w K mg base cW "wait" 10 (F_Well_wait cW) := by
  obtain ⟨f, hm, fd, Ff, hb⟩ := T.f_Well_wait
  exact ⟨f, fd, _, _, hm, hb, fnP_fnM (N := N_Well_wait) (k := 9) Ff sc_Well_wait fun cdv A outer s H E hr =>
    (dss_cons (ds_if (dt_not (dt_truth (de_call (ok_is_number (P := P) (w := w) (base := base) T) (hr.mono (by decide)) (takes_of rfl rfl rfl rfl) (da_cons (de_var (pv 1)) (da_cons de_int (da_cons de_int da_nil)))) (by intro _; rfl)))
    (dss_one (ds_raise rfl (takes_of rfl rfl rfl rfl) T.c_InvalidNumber))
    dss_nil)
    (dss_cons (ds_asg (de_fld T.x_Well T.a_Well_now (de_var (pv 0))) (dg_tup rfl (dgs_cons (dg_name (i := 2) sc_Well_wait.nd) (dgs_cons (dg_name (i := 3) sc_Well_wait.nd) dgs_nil))))
    (dss_cons (ds_expr (de_mtE T.x_Well (ok_Well_keep (P := P) (w := w) (base := base) T) (hr.mono (by decide)) (takes_of rfl rfl rfl rfl) (de_var (pv 0)) (da_one (de_tup (da_cons (de_add (de_var (pv 2)) (de_var (pv 1))) (da_cons (de_var (pv 3)) da_nil))) da_nil)))
    (dss_one (ds_ret (de_callTy call_tuple_of cd_tuple rfl T.m_tuple b_tuple (da_cons (de_lc (own := [(("pair" : Str), 4)]) (c := (.nm 4)) rfl sc_Well_wait.nd (di_seq (de_propE T.x_Well (ok_Well_out (P := P) (w := w) (base := base) T) (hr.mono (by decide)) (de_var (pv 0)))) (blkOk_by (N := N_Well_wait) (sc := defScope s_Well_wait) (by decide +kernel)) (by decide) (fun _ _ _ _ _ => (pg_name (i := 4) sc_Well_wait.nd rfl (Or.inl rfl))) (fun _ _ _ _ _ => (dts_one (dt_cmp op_gt od_gt (de_idx (de_var (pv 4)) de_int) (de_var (pv 2)) (nomark _)))) (fun _ _ _ _ _ => (de_var (pv 4)))) da_nil))))))), rfl⟩
theorem sc_Well_log : GScope N_Well_log ["self"] (defScope s_Well_log) := ⟨rfl, rfl, rfl, by decide +kernel, rfl, by decide +kernel, by decide +kernel⟩
theorem ok_Well_log (T : Top K mg cS cW) : DGm P w K mg base cW "log" 10 (F_Well_log cW) := by
  obtain ⟨f, hm, fd, Ff, hb⟩ := T.f_Well_log
  exact ⟨f, fd, _, hm, hb, gnP_fn (N := N_Well_log) (k := 9) Ff sc_Well_log fun cdv A outer s H E pn hr =>
    (gss_one (gs_yfor owns_gcx rfl (di_seq (de_propE T.x_Well (ok_Well_out (P := P) (w := w) (base := base) T) (hr.mono (by decide)) (de_var (pv 0)))) (dg_tup rfl (dgs_cons (dg_name (i := 1) sc_Well_log.nd) (dgs_cons (dg_name (i := 2) sc_Well_log.nd) dgs_nil)))
    (de_joined (DJ.cons (de_fmt (de_var (pv 1))) (DJ.cons de_str (DJ.cons (de_fmt (de_var (pv 2))) DJ.nil))))))⟩
theorem sc_Well___getitem__ : FnScope N_Well___getitem__ ["self", "index"] (defScope s_Well___getitem__) := ⟨rfl, rfl, rfl, by decide +kernel, rfl, by decide +kernel, by decide +kernel⟩
theorem ok_Well___getitem__ (T : Top K mg cS cW) : DSp P w K mg base cW "__getitem__" 12 (F_Well___getitem__ cW) := by
  obtain ⟨f, h1, fd, Ff, hb⟩ := T.f_Well___getitem__
  exact ⟨f, h1, FnR_num (FnR_of (fnP_fnM (N := N_Well___getitem__) (k := 11) Ff sc_Well___getitem__ fun cdv A outer s H E hr =>
    (dss_cons (ds_if (dt_not (dt_truth (de_call (ok_is_number (P := P) (w := w) (base := base) T) (hr.mono (by decide)) (takes_of rfl rfl rfl rfl) (da_cons (de_var (pv 1)) (da_cons de_int (da_cons (de_sub (de_callB call_len cd_len rfl T.m_len b_len (da_cons (de_idx (de_fld T.x_Well T.a_Well_now (de_var (pv 0))) de_int) da_nil)) de_int) da_nil)))) (by intro _; rfl)))
    (dss_one (ds_raise rfl (takes_of rfl rfl rfl rfl) T.c_InvalidIndex))
    dss_nil)
    (dss_one (ds_ret (de_if (dt_cmp (op_inA hr) od_in (de_var (pv 1)) (de_propE T.x_Well (ok_Well_inside (P := P) (w := w) (base := base) T) (hr.mono (by decide)) (de_var (pv 0))) (by with_unfolding_all rfl)) (de_mtE T.x_Well (ok_Well_height_now (P := P) (w := w) (base := base) T) (hr.mono (by decide)) (takes_of rfl rfl rfl rfl) (de_var (pv 0)) (da_one (de_var (pv 1)) da_nil)) de_non))))) hb)⟩
theorem sc_Well___contains__ : FnScope N_Well___contains__ ["self", "value"] (defScope s_Well___contains__) := ⟨rfl, rfl, rfl, by decide +kernel, rfl, by decide +kernel, by decide +kernel⟩
theorem ok_Well___contains__ (T : Top K mg cS cW) : DSp P w K mg base cW "__contains__" 12 (F_Well___contains__ cW) := by
  obtain ⟨f, h1, fd, Ff, hb⟩ := T.f_Well___contains__
  exact ⟨f, h1, FnR_num (FnR_of (fnP_fnM (N := N_Well___contains__) (k := 11) Ff sc_Well___contains__ fun cdv A outer s H E hr =>
    (dss_one (ds_ret (de_and (de_call (ok_is_number (P := P) (w := w) (base := base) T) (hr.mono (by decide)) (takes_of rfl rfl rfl rfl) (da_cons (de_var (pv 1)) (da_cons de_int (da_cons (de_fld T.x_Well T.a_Well_deep (de_var (pv 0))) da_nil)))) (de_one (de_cmp (op_inA hr) od_in (de_var (pv 1)) (de_lc (own := [(("index" : Str), 2)]) (c := (.nm 2)) rfl sc_Well___contains__.nd (di_seq (de_propE T.x_Well (ok_Well_inside (P := P) (w := w) (base := base) T) (hr.mono (by decide)) (de_var (pv 0)))) (blkOk_by (N := N_Well___contains__) (sc := defScope s_Well___contains__) (by decide +kernel)) (by decide) (fun _ _ _ _ _ => (pg_name (i := 2) sc_Well___contains__.nd rfl (Or.inl rfl))) (fun _ _ _ _ _ => dts_nil) (fun _ _ _ _ _ => (de_mtE T.x_Well (ok_Well_height_now (P := P) (w := w) (base := base) T) (hr.mono (by decide)) takes0 (de_var (pv 0)) (da_one (de_var (pv 2)) da_nil)))) (by with_unfolding_all rfl))))))) hb)⟩
theorem sc_Well___bool__ : FnScope N_Well___bool__ ["self"] (defScope s_Well___bool__) := ⟨rfl, rfl, rfl, by decide +kernel, rfl, by decide +kernel, by decide +kernel⟩
theorem ok_Well___bool__ (T : Top K mg cS cW) : DSp P w K mg base cW "__bool__" 12 (F_Well___bool__ cW) := by
  obtain ⟨f, h1, fd, Ff, hb⟩ := T.f_Well___bool__
  exact ⟨f, h1, FnR_num (FnR_of (fnP_fnM (N := N_Well___bool__) (k := 11) Ff sc_Well___bool__ fun cdv A outer s H E hr =>
    (dss_one (ds_ret (de_callTy call_bool1 cd_bool rfl T.m_bool b_bool (da_cons (de_cmp (op_neD hr.units) od_ne (de_propE T.x_Well (ok_Well_inside (P := P) (w := w) (base := base) T) (hr.mono (by decide)) (de_var (pv 0))) (de_lst da_nil) (nomark _)) da_nil))))) hb)⟩
theorem sc__law_fourth_right : FnScope N__law_fourth_right [] (defScope s__law_fourth_right) := ⟨rfl, rfl, rfl, by decide +kernel, rfl, by decide +kernel, by decide +kernel⟩
theorem ok__law_fourth_right (T : Top K mg cS cW) : DFn P w K mg base "_law_fourth_right" [] 15 (F_k22_law_fourth_right cS cW) := by
  obtain ⟨f, fd, hm, Ff, hb⟩ := T.d__law_fourth_right
  exact fnP_ok (N := N__law_fourth_right) (k := 14) hm Ff hb sc__law_fourth_right fun cdv A outer s H E hr =>
    (dss_cons (ds_par (i := 0) (j := 1) rfl sc__law_fourth_right.nd (de_mkE (ok_Snail___init__ (P := P) (w := w) (base := base) T) (hr.mono (by decide)) T.n_Snail (takes_of rfl rfl rfl rfl) (da_one de_int (da_one de_int (da_one de_int (da_one (de_neg de_int) da_nil))))) (de_mkE (ok_Snail___init__ (P := P) (w := w) (base := base) T) (hr.mono (by decide)) T.n_Snail (takes_of rfl rfl rfl rfl) (da_one de_int (da_one de_int (da_one de_int (da_one (de_neg de_int) da_nil))))))
    (dss_cons (ds_set (i := 2) sc__law_fourth_right.nd (de_newL (da_cons (de_cmp (op_eqD hr.units) od_eq (de_propE T.x_Snail (ok_Snail_source (P := P) (w := w) (base := base) T) (hr.mono (by decide)) (de_opO (ok_Snail___add__ (P := P) (w := w) (base := base) T T.t_Snail_Add_int) (hr.mono (by decide)) (takes_of rfl rfl rfl rfl) (de_var (pv 0)) de_int)) (de_tup (da_cons de_int (da_cons de_int (da_cons (de_tup (da_cons de_int (da_cons (de_neg de_int) (da_cons de_int da_nil)))) da_nil)))) (nomark _)) (da_cons (de_cmp (op_eqD hr.units) od_eq (de_propE T.x_Snail (ok_Snail_source (P := P) (w := w) (base := base) T) (hr.mono (by decide)) (de_opO (ok_Snail___sub__ (P := P) (w := w) (base := base) T T.t_Snail_Sub_int) (hr.mono (by decide)) (takes_of rfl rfl rfl rfl) (de_var (pv 0)) de_int)) (de_tup (da_cons de_int (da_cons de_int (da_cons (de_tup (da_cons de_int da_nil)) da_nil)))) (nomark _)) da_nil))))
    (dss_cons (ds_expr (de_append (de_var (pv 2)) (da_cons (de_cmp (op_eqD hr.units) od_eq (de_propE T.x_Snail (ok_Snail_source (P := P) (w := w) (base := base) T) (hr.mono (by decide)) (de_opO (ok_Snail___rshift__ (P := P) (w := w) (base := base) T T.t_Snail_RShift_int) (hr.mono (by decide)) (takes_of rfl rfl rfl rfl) (de_var (pv 0)) de_int)) (de_tup (da_cons de_int (da_cons de_int (da_cons (de_tup (da_cons de_int (da_cons (de_neg de_int) da_nil))) da_nil)))) (nomark _)) da_nil)))
    (dss_cons (ds_expr (de_append (de_var (pv 2)) (da_cons (de_cmp (op_eqD hr.units) od_eq (de_callO (ok_Snail___call__ (P := P) (w := w) (base := base) T) (hr.mono (by decide)) (takes_of rfl rfl rfl rfl) (de_opO (ok_Snail___xor__ (P := P) (w := w) (base := base) T T.t_Snail_BitXor_int) (hr.mono (by decide)) (takes_of rfl rfl rfl rfl) (de_var (pv 0)) de_int) (da_one de_int da_nil)) de_int (nomark _)) da_nil)))
    (dss_cons (ds_expr (de_append (de_var (pv 2)) (da_cons (de_cmp (op_eqD hr.units) od_eq (de_propE T.x_Snail (ok_Snail_source (P := P) (w := w) (base := base) T) (hr.mono (by decide)) (de_inv (ok_Snail___invert__ (P := P) (w := w) (base := base) T) (hr.mono (by decide)) (takes_of rfl rfl rfl rfl) (de_var (pv 0)))) (de_tup (da_cons de_int (da_cons de_int (da_cons (de_tup (da_cons (de_neg de_int) (da_cons de_int da_nil))) da_nil)))) (nomark _)) da_nil)))
    (dss_cons (ds_expr (de_append (de_var (pv 2)) (da_cons (de_cmp (op_eqD hr.units) od_eq (de_callO (ok_Snail___call__ (P := P) (w := w) (base := base) T) (hr.mono (by decide)) (takes_of rfl rfl rfl rfl) (de_var (pv 0)) (da_one de_int da_nil)) de_int (nomark _)) da_nil)))
    (dss_cons (ds_expr (de_append (de_var (pv 2)) (da_cons (de_cmp (op_eqD hr.units) od_eq (de_ixO (ok_Snail___getitem__ (P := P) (w := w) (base := base) T) (hr.mono (by decide)) (takes_of rfl rfl rfl rfl) (de_var (pv 0)) de_int) (de_neg de_int) (nomark _)) da_nil)))
    (dss_cons (ds_expr (de_append (de_var (pv 2)) (da_cons (de_inO (ok_Snail___contains__ (P := P) (w := w) (base := base) T) (hr.mono (by decide)) (takes_of rfl rfl rfl rfl) de_int (de_var (pv 0))) da_nil)))
    (dss_cons (ds_expr (de_append (de_var (pv 2)) (da_cons (de_cmp (op_eqD hr.units) od_eq (de_lenO (ok_Snail___len__ (P := P) (w := w) (base := base) T) (hr.mono (by decide)) (takes_of rfl rfl rfl rfl) T.m_len (de_var (pv 0))) de_int (nomark _)) da_nil)))
    (dss_cons (ds_expr (de_append (de_var (pv 2)) (da_cons (de_boolO (ok_Snail___bool__ (P := P) (w := w) (base := base) T) (hr.mono (by decide)) (takes_of rfl rfl rfl rfl) T.m_bool (de_var (pv 0))) da_nil)))
    (dss_cons (ds_expr (de_append (de_var (pv 2)) (da_cons (de_not (de_boolO (ok_Snail___bool__ (P := P) (w := w) (base := base) T) (hr.mono (by decide)) (takes_of rfl rfl rfl rfl) T.m_bool (de_var (pv 1)))) da_nil)))
    (dss_cons (ds_expr (de_append (de_var (pv 2)) (da_cons (de_not (de_mtE T.x_Snail (ok_Snail_like (P := P) (w := w) (base := base) T) (hr.mono (by decide)) (takes_of rfl rfl rfl rfl) (de_var (pv 0)) (da_one (de_opO (ok_Snail___rshift__ (P := P) (w := w) (base := base) T T.t_Snail_RShift_int) (hr.mono (by decide)) (takes_of rfl rfl rfl rfl) (de_var (pv 0)) de_int) da_nil))) da_nil)))
    (dss_cons (ds_expr (de_append (de_var (pv 2)) (da_cons (de_mtE T.x_Snail (ok_Snail_beats (P := P) (w := w) (base := base) T) (hr.mono (by decide)) (takes_of rfl rfl rfl rfl) (de_var (pv 0)) (da_one (de_opO (ok_Snail___rshift__ (P := P) (w := w) (base := base) T T.t_Snail_RShift_int) (hr.mono (by decide)) (takes_of rfl rfl rfl rfl) (de_var (pv 0)) de_int) da_nil)) da_nil)))
    (dss_cons (ds_expr (de_append (de_var (pv 2)) (da_cons (de_cmp (op_eqD hr.units) od_eq (de_strOE (ok_Snail___str__ (P := P) (w := w) (base := base) T) (hr.mono (by decide)) (takes_of rfl rfl rfl rfl) rfl T.m_str (de_var (pv 0))) de_str (nomark _)) da_nil)))
    (dss_cons (ds_expr (de_append (de_var (pv 2)) (da_cons (de_eqO (ok_Snail___eq__ (P := P) (w := w) (base := base) T) (hr.mono (by decide)) (takes_of rfl rfl rfl rfl) (de_cmE (ok_Snail_read (P := P) (w := w) (base := base) T) (hr.mono (by decide)) T.n_Snail (takes_of rfl rfl rfl rfl) (da_one (de_strOE (ok_Snail___str__ (P := P) (w := w) (base := base) T) (hr.mono (by decide)) (takes_of rfl rfl rfl rfl) rfl T.m_str (de_var (pv 0))) da_nil)) (de_var (pv 0))) da_nil)))
    (dss_cons (ds_set (i := 3) sc__law_fourth_right.nd (de_mkE (ok_Well___init__ (P := P) (w := w) (base := base) T) (hr.mono (by decide)) T.n_Well (takes_of rfl rfl rfl rfl) (da_one de_int da_nil)))
    (dss_cons (ds_expr (de_append (de_var (pv 2)) (da_cons (de_cmp (op_eqD hr.units) od_eq (de_mtE T.x_Well (ok_Well_drop (P := P) (w := w) (base := base) T) (hr.mono (by decide)) (takes_of rfl rfl rfl rfl) (de_var (pv 3)) (da_one de_int (da_one (de_tup (da_cons de_int (da_cons (de_neg de_int) da_nil))) da_nil))) de_int (nomark _)) da_nil)))
    (dss_cons (ds_expr (de_append (de_var (pv 2)) (da_cons (de_cmp (op_eqD hr.units) od_eq (de_mtE T.x_Well (ok_Well_wait (P := P) (w := w) (base := base) T) (hr.mono (by decide)) (takes_of rfl rfl rfl rfl) (de_var (pv 3)) (da_one de_int da_nil)) (de_tup da_nil) (nomark _)) da_nil)))
    (dss_cons (ds_expr (de_append (de_var (pv 2)) (da_cons (de_cmp (op_eqD hr.units) od_eq (de_mtE T.x_Well (ok_Well_drop (P := P) (w := w) (base := base) T) (hr.mono (by decide)) (takes_of rfl rfl rfl rfl) (de_var (pv 3)) (da_one de_int (da_one (de_tup (da_cons de_int (da_cons de_int da_nil))) da_nil))) de_int (nomark _)) da_nil)))
    (dss_cons (ds_expr (de_append (de_var (pv 2)) (da_cons (de_cmp (op_eqD hr.units) od_eq (de_ixO (ok_Well___getitem__ (P := P) (w := w) (base := base) T) (hr.mono (by decide)) (takes_of rfl rfl rfl rfl) (de_var (pv 3)) de_int) de_int (nomark _)) da_nil)))
    (dss_cons (ds_expr (de_append (de_var (pv 2)) (da_cons (de_cmp (op_eqD hr.units) od_eq (de_propE T.x_Well (ok_Well_inside (P := P) (w := w) (base := base) T) (hr.mono (by decide)) (de_var (pv 3))) (de_lst (da_cons de_int (da_cons de_int da_nil))) (nomark _)) da_nil)))
    (dss_cons (ds_expr (de_append (de_var (pv 2)) (da_cons (de_cmp (op_eqD hr.units) od_eq (de_mtE T.x_Well (ok_Well_wait (P := P) (w := w) (base := base) T) (hr.mono (by decide)) (takes_of rfl rfl rfl rfl) (de_var (pv 3)) (da_one de_int da_nil)) (de_tup (da_cons (de_tup (da_cons de_int (da_cons de_int da_nil))) (da_cons (de_tup (da_cons de_int (da_cons de_int da_nil))) da_nil))) (nomark _)) da_nil)))
    (dss_cons (ds_expr (de_append (de_var (pv 2)) (da_cons (de_cmp (op_eqD hr.units) od_eq (de_propE T.x_Well (ok_Well_out (P := P) (w := w) (base := base) T) (hr.mono (by decide)) (de_var (pv 3))) (de_tup (da_cons (de_tup (da_cons de_int (da_cons de_int da_nil))) (da_cons (de_tup (da_cons de_int (da_cons de_int da_nil))) da_nil))) (nomark _)) da_nil)))
    (dss_cons (ds_expr (de_append (de_var (pv 2)) (da_cons (de_cmp (op_eqD hr.units) od_eq (de_idx (de_listG T.x_Well (ok_Well_log (P := P) (w := w) (base := base) T) (hr.mono (by decide)) rfl T.m_list (de_var (pv 3))) de_int) de_str (nomark _)) da_nil)))
    (dss_cons (ds_expr (de_append (de_var (pv 2)) (da_cons (de_cmp (op_eqD hr.units) od_eq (de_mtE T.x_Well (ok_Well_drop (P := P) (w := w) (base := base) T) (hr.mono (by decide)) (takes_of rfl rfl rfl rfl) (de_var (pv 3)) (da_one de_int (da_one (de_tup (da_cons de_int da_nil)) da_nil))) de_int (nomark _)) da_nil)))
    (dss_cons (ds_expr (de_append (de_var (pv 2)) (da_cons (de_cmp (op_eqD hr.units) od_eq (de_idx (de_propE T.x_Well (ok_Well_out (P := P) (w := w) (base := base) T) (hr.mono (by decide)) (de_var (pv 3))) de_int) (de_tup (da_cons de_int (da_cons de_int da_nil))) (nomark _)) da_nil)))
    (dss_cons (ds_expr (de_append (de_var (pv 2)) (da_cons (de_not (de_boolO (ok_Well___bool__ (P := P) (w := w) (base := base) T) (hr.mono (by decide)) (takes_of rfl rfl rfl rfl) T.m_bool (de_var (pv 3)))) da_nil)))
    (dss_cons (ds_expr (de_append (de_var (pv 2)) (da_cons (de_cmp op_isN od_isN (de_mt0E T.x_Well (ok_Well_undo (P := P) (w := w) (base := base) T) (hr.mono (by decide)) (takes_of rfl rfl rfl rfl) (de_var (pv 3))) de_non (nomark _)) da_nil)))
    (dss_cons (ds_expr (de_append (de_var (pv 2)) (da_cons (de_cmp op_isN od_isN (de_mt0E T.x_Well (ok_Well_undo (P := P) (w := w) (base := base) T) (hr.mono (by decide)) (takes_of rfl rfl rfl rfl) (de_var (pv 3))) de_non (nomark _)) da_nil)))
    (dss_cons (ds_expr (de_append (de_var (pv 2)) (da_cons (de_cmp (op_eqD hr.units) od_eq (de_propE T.x_Well (ok_Well_minute (P := P) (w := w) (base := base) T) (hr.mono (by decide)) (de_var (pv 3))) de_int (nomark _)) da_nil)))
    (dss_cons (ds_expr (de_append (de_var (pv 2)) (da_cons (de_cmp (op_eqD hr.units) od_eq (de_ixO (ok_Well___getitem__ (P := P) (w := w) (base := base) T) (hr.mono (by decide)) (takes_of rfl rfl rfl rfl) (de_var (pv 3)) de_int) de_int (nomark _)) da_nil)))
    (dss_one (ds_ret (de_add (de_var (pv 2)) (de_lst (da_cons (de_inO (ok_Well___contains__ (P := P) (w := w) (base := base) T) (hr.mono (by decide)) (takes_of rfl rfl rfl rfl) de_int (de_var (pv 3))) (da_cons (de_cmp (op_eqD hr.units) od_eq (de_lenO (ok_Well___len__ (P := P) (w := w) (base := base) T) (hr.mono (by decide)) (takes_of rfl rfl rfl rfl) T.m_len (de_var (pv 3))) de_int (nomark _)) da_nil)))))))))))))))))))))))))))))))))))))
theorem sc_law : FnScope N_law ["script"] (defScope s_law) := ⟨rfl, rfl, rfl, by decide +kernel, rfl, by decide +kernel, by decide +kernel⟩
theorem ok_law (T : Top K mg cS cW) {f : Addr} {fd : FuncData} (Ff : Fun K "law" "law" s_law f fd) : FnOk P w K mg base (L2.CX P w) 16 f fd ["script"] (spD K 1 (F_law cS cW)) :=
  fnP_fn (N := N_law) (k := 15) Ff sc_law fun cdv A outer s H E hr =>
    (dss_cons (ds_for (passes_of rfl) rfl (di_rng1 rfl T.m_range (da_cons (de_add de_int (de_callB (call_minD rfl) cd_min rfl T.m_min b_min (da_cons (de_callB call_len cd_len rfl T.m_len b_len (da_cons (de_var (pv 0)) da_nil)) (da_cons de_int da_nil)))) da_nil)) (dg_name (i := 1) sc_law.nd)
    (dss_cons (ds_set (i := 2) sc_law.nd (de_call (ok__law_source (P := P) (w := w) (base := base) T) (hr.mono (by decide)) (takes_of rfl rfl rfl rfl) (da_cons (de_var (pv 0)) (da_cons (de_var (pv 1)) da_nil))))
    (dss_cons (ds_if (dt_w (dw_and (dt_cmp (op_eqD hr.units) od_eq (de_call (ok__law_draw (P := P) (w := w) (base := base) T) (hr.mono (by decide)) (takes_of rfl rfl rfl rfl) (da_cons (de_var (pv 2)) (da_cons de_int da_nil))) de_int (nomark _)) (dw_and1 (dt_cmp (op_inA hr) od_in de_bl (de_call0 (ok__law_fourth_right (P := P) (w := w) (base := base) T) (hr.mono (by decide)) (takes_of rfl rfl rfl rfl)) (by with_unfolding_all rfl)))))
    (dss_one (ds_ret de_bl))
    dss_nil)
    (dss_cons (ds_if (dt_w (dw_or (dt_cmp (op_inA hr) od_in de_bl (de_call0 (ok__law_first_right (P := P) (w := w) (base := base) T) (hr.mono (by decide)) (takes_of rfl rfl rfl rfl)) (by with_unfolding_all rfl)) (dw_or1 (dt_cmp (op_inA hr) od_in de_bl (de_call0 (ok__law_second_right (P := P) (w := w) (base := base) T) (hr.mono (by decide)) (takes_of rfl rfl rfl rfl)) (by with_unfolding_all rfl)))))
    (dss_one (ds_ret de_bl))
    dss_nil)
    (dss_one (ds_if (dt_w (dw_and (dt_cmp (op_eqD hr.units) od_eq (de_var (pv 1)) de_int (nomark _)) (dw_and1 (dt_cmp (op_inA hr) od_in de_bl (de_add (de_call0 (ok__law_third_right (P := P) (w := w) (base := base) T) (hr.mono (by decide)) (takes_of rfl rfl rfl rfl)) (de_call0 (ok__law_fourth_right (P := P) (w := w) (base := base) T) (hr.mono (by decide)) (takes_of rfl rfl rfl rfl))) (by with_unfolding_all rfl)))))
    (dss_one (ds_ret de_bl))
    dss_nil))))))
    (dss_one (ds_ret de_bl)))
end
end DL
namespace DL
open PySem PySem.Spec PyProof.Rows L2
/-! k22: the examples of the document; all of them are closed: the kernel reckons them at each of the four stores that may be there -/
abbrev cSn : Nat := 1043
abbrev cWn : Nat := 499
def tru (n : Nat) : List D := List.replicate n (.bl true)
abbrev srcO (p : Int × Int) : MO := .lst [.int p.1, .int p.2]
abbrev SL (l : List (Int × Int)) : Sto := l.map srcO
theorem first_1 (p : Int × Int) : F_k22_law_first_right [] [srcO p] = .ok (.lst (tru 30)) [srcO p] := by kernel_rfl
theorem first_2 (p q : Int × Int) : F_k22_law_first_right [] [srcO p, srcO q] = .ok (.lst (tru 30)) [srcO p, srcO q] := by kernel_rfl
theorem first_3 (p q r : Int × Int) : F_k22_law_first_right [] [srcO p, srcO q, srcO r] = .ok (.lst (tru 30)) [srcO p, srcO q, srcO r] := by kernel_rfl
theorem first_4 (p q r s : Int × Int) : F_k22_law_first_right [] [srcO p, srcO q, srcO r, srcO s] = .ok (.lst (tru 30)) [srcO p, srcO q, srcO r, srcO s] := by kernel_rfl
theorem second_1 (p : Int × Int) : F_k22_law_second_right [] [srcO p] = .ok (.lst (tru 26)) [srcO p] := by kernel_rfl
theorem second_2 (p q : Int × Int) : F_k22_law_second_right [] [srcO p, srcO q] = .ok (.lst (tru 26)) [srcO p, srcO q] := by kernel_rfl
theorem second_3 (p q r : Int × Int) : F_k22_law_second_right [] [srcO p, srcO q, srcO r] = .ok (.lst (tru 26)) [srcO p, srcO q, srcO r] := by kernel_rfl
theorem second_4 (p q r s : Int × Int) : F_k22_law_second_right [] [srcO p, srcO q, srcO r, srcO s] = .ok (.lst (tru 26)) [srcO p, srcO q, srcO r, srcO s] := by kernel_rfl
theorem third_1 (p : Int × Int) : F_k22_law_third_right [] [srcO p] = .ok (.lst (tru 12)) [srcO p] := by kernel_rfl
theorem fourth_1 (p : Int × Int) : F_k22_law_fourth_right cSn cWn [] [srcO p] = .ok (.lst (tru 32)) [srcO p] := by kernel_rfl
theorem fourth_2 (p q : Int × Int) : F_k22_law_fourth_right cSn cWn [] [srcO p, srcO q] = .ok (.lst (tru 32)) [srcO p, srcO q] := by kernel_rfl
theorem fourth_3 (p q r : Int × Int) : F_k22_law_fourth_right cSn cWn [] [srcO p, srcO q, srcO r] = .ok (.lst (tru 32)) [srcO p, srcO q, srcO r] := by kernel_rfl
theorem fourth_4 (p q r s : Int × Int) : F_k22_law_fourth_right cSn cWn [] [srcO p, srcO q, srcO r, srcO s] = .ok (.lst (tru 32)) [srcO p, srcO q, srcO r, srcO s] := by kernel_rfl
end DL
namespace DL
open PySem PySem.Spec PyProof.Rows L2
theorem all_of {F : Fn} {n : Nat} (h1 : ∀ p, F [] [srcO p] = .ok (.lst (tru n)) [srcO p]) (h2 : ∀ p q, F [] [srcO p, srcO q] = .ok (.lst (tru n)) [srcO p, srcO q]) (h3 : ∀ p q r, F [] [srcO p, srcO q, srcO r] = .ok (.lst (tru n)) [srcO p, srcO q, srcO r])
    (h4 : ∀ p q r s, F [] [srcO p, srcO q, srcO r, srcO s] = .ok (.lst (tru n)) [srcO p, srcO q, srcO r, srcO s]) : ∀ l : List (Int × Int), 1 ≤ l.length → l.length ≤ 4 → F [] (SL l) = .ok (.lst (tru n)) (SL l)
  | [], h, _ => by simp at h
  | [p], _, _ => h1 p
  | [p, q], _, _ => h2 p q
  | [p, q, r], _, _ => h3 p q r
  | [p, q, r, s], _, _ => h4 p q r s
  | _ :: _ :: _ :: _ :: _ :: _, _, h => absurd h (by simp)
theorem in_30 (S : Sto) : gIn (.bl false) (.lst (tru 30)) S = .ok (.bl false) S := by kernel_rfl
theorem in_26 (S : Sto) : gIn (.bl false) (.lst (tru 26)) S = .ok (.bl false) S := by kernel_rfl
theorem in_32 (S : Sto) : gIn (.bl false) (.lst (tru 32)) S = .ok (.bl false) S := by kernel_rfl
theorem in_44 (S : Sto) : gIn (.bl false) (.lst (tru 44)) S = .ok (.bl false) S := by kernel_rfl
theorem add_44 (S : Sto) : gAdd (.lst (tru 12)) (.lst (tru 32)) S = .ok (.lst (tru 44)) S := by kernel_rfl
theorem upd_SL {l : List (Int × Int)} {p : Int × Int} {S' : Sto} (u : Upd l.length (SL (l ++ [p])) S') : ∃ q, S' = SL (l ++ [q]) := by
  obtain ⟨a, b, e, _⟩ := u.src
  refine ⟨(a, b), List.ext_getElem? fun m => ?_⟩
  by_cases h : m = l.length
  · subst h
    rw [e]
    simp
  · rw [u.oth m h]
    simp only [SL, List.map_append, List.getElem?_append, List.length_map]
    split
    · rfl
    · have : m - l.length ≠ 0 := by omega
      obtain ⟨j, hj⟩ : ∃ j, m - l.length = j + 1 := ⟨m - l.length - 1, by omega⟩
      rw [hj]
      rfl
def cell22 : Sm :=
    (sSeq (sSet 2 (eCall F__law_source [(eVar 0), (eVar 1)]))
    (sSeq (sIf (eAndT (eTb (eBin gEq (eCall F__law_draw [(eVar 2), (eK (.int 2))]) (eK (.int 0)))) (eTb (eBin gIn (eK (.bl false)) (eCall (F_k22_law_fourth_right cSn cWn) []))))
    (sRt (eK (.bl false)))
    sNx)
    (sSeq (sIf (eOrT (eTb (eBin gIn (eK (.bl false)) (eCall F_k22_law_first_right []))) (eTb (eBin gIn (eK (.bl false)) (eCall F_k22_law_second_right []))))
    (sRt (eK (.bl false)))
    sNx)
    (sIf (eAndT (eTb (eBin gEq (eVar 1) (eK (.int 0)))) (eTb (eBin gIn (eK (.bl false)) (eBin gAdd (eCall F_k22_law_third_right []) (eCall (F_k22_law_fourth_right cSn cWn) [])))))
    (sRt (eK (.bl false)))
    sNx))))
theorem cell22_eq {ns : List Int} {l : List (Int × Int)} (hk : l.length ≤ 3) (y2 : Option D) :
    ∃ q z, cell22 [some (.frz (ns.map D.int)), some (.int (l.length : Int)), y2] (SL l) = .nx [some (.frz (ns.map D.int)), some (.int (l.length : Int)), z] (SL (l ++ [q])) := by
  obtain ⟨a, b, e1, b0, b1⟩ := source_spec ns l.length (SL l) (by omega)
  have hl : (SL l).length = l.length := by simp
  have e1' : F__law_source [.frz (ns.map D.int), .int (l.length : Int)] (SL l) = .ok (.obj l.length) (SL (l ++ [(a, b)])) := by rw [e1]; simp [SL]
  have hs : SrcAt l.length (SL (l ++ [(a, b)])) := ⟨a, b, by simp [SL], b0, b1⟩
  obtain ⟨x, S', e2, _, _, u⟩ := draw_spec (m := 2) hs (by decide) (by decide)
  obtain ⟨q, rfl⟩ := upd_SL u
  have h1 : 1 ≤ (l ++ [q]).length := by simp
  have h4 : (l ++ [q]).length ≤ 4 := by simp; omega
  have f1 := all_of first_1 first_2 first_3 first_4 (l ++ [q]) h1 h4
  have f2 := all_of second_1 second_2 second_3 second_4 (l ++ [q]) h1 h4
  have f4 := all_of fourth_1 fourth_2 fourth_3 fourth_4 (l ++ [q]) h1 h4
  refine ⟨q, some (.obj l.length), ?_⟩
  have g0 : ∀ S : Sto, gEq (.int x) (.int 0) S = .ok (.bl (decide (x = 0))) S := fun S => gEq_int _ _ S
  have g1 : ∀ S : Sto, gEq (.int (l.length : Int)) (.int 0) S = .ok (.bl (decide ((l.length : Int) = 0))) S := fun S => gEq_int _ _ S
  unfold cell22
  have f3 : l.length = 0 → F_k22_law_third_right [] (SL (l ++ [q])) = .ok (.lst (tru 12)) (SL (l ++ [q])) := fun hz => by
    rw [List.eq_nil_of_length_eq_zero hz]
    exact third_1 q
  clear u hs h1 h4 hl e1
  generalize SL (l ++ [q]) = S2 at *
  generalize SL (l ++ [(a, b)]) = S1 at *
  generalize SL l = S0 at *
  by_cases hz : l.length = 0
  · have hz' : ((l.length : Int) = 0) = True := by simp [hz]
    have f3 := f3 hz
    generalize (l.length : Int) = n at *
    by_cases hx : x = 0
    · simp [e1', e2, f1, f2, f3, f4, in_30, in_26, in_32, in_44, add_44, g0, g1, hx, hz']
    · simp [e1', e2, f1, f2, f3, f4, in_30, in_26, in_32, in_44, add_44, g0, g1, hx, hz']
  · have hz' : ((l.length : Int) = 0) = False := by simp [hz]
    clear f3
    generalize (l.length : Int) = n at *
    by_cases hx : x = 0
    · simp [e1', e2, f1, f2, f4, in_30, in_26, in_32, g0, g1, hx, hz']
    · simp [e1', e2, f1, f2, f4, in_30, in_26, in_32, g0, g1, hx, hz']
theorem law_holds (ns : List Int) (hn : ns.length ≤ 63) : ∃ S, F_law cSn cWn [.frz (ns.map D.int)] [] = .ok (.bl true) S := by
  obtain ⟨m, hm, hme, hsm⟩ := cells (ns := ns) (c := 3) (by omega)
  have key := forR_inv (g := gNm 1) (b := cell22)
    (fun r lo ρ S' => ∃ (y1 y2 : Option D) (l : List (Int × Int)), ρ = [some (.frz (ns.map D.int)), y1, y2] ∧ S' = SL l ∧ lo = (l.length : Int) ∧ lo + r = m)
    m 0 [some (.frz (ns.map D.int)), none, none] [] ⟨_, _, [], rfl, rfl, rfl, by omega⟩ (by
      rintro r lo ρ S ⟨y1, y2, l, rfl, rfl, rfl, h1⟩
      obtain ⟨q, z, e⟩ := cell22_eq (ns := ns) (l := l) (by omega) y2
      exact ⟨_, _, _, _, rfl, .inl e, _, _, l ++ [q], rfl, rfl, by simp, by omega⟩)
  obtain ⟨ρ', S', hi, e, y1, y2, l, rfl, rfl, _⟩ := key
  obtain ⟨S9, h9⟩ := popR_top true (SL l)
  have hme' : (1 + if (3 : Int) < (ns.length : Int) then (3 : Int) else (ns.length : Int)) = (m : Int) := hme
  refine ⟨S9, ?_⟩
  rw [← h9]
  simp only [cell22] at e
  simp only [F_law, fnP_ap]
  rw [sSeq_ap, sFor_rng (lo := 0) (n := m) (S1 := []) (by simp [hme', hsm])]
  simp only [List.map_cons, List.map_nil, List.cons_append, List.nil_append, List.replicate, Nat.reduceSub]
  rw [e]
  simp
end DL
namespace DL
open PySem PySem.Spec PyProof.Rows L2
namespace H22
abbrev R : PySem.W.OpenRow := PySem.W.OpenLaw.row PySem.Challenge.rw_wellsnails_k22_examples_of_the_document
def cksP0x0 : List Ck := [ck (.free "abs"),
  ck (.free "all"),
  ck (.free "bool"),
  ck (.free "enumerate"),
  ck (.free "int"),
  ck (.free "isinstance"),
  ck (.free "len"),
  ck (.free "list"),
  ck (.free "max"),
  ck (.free "min"),
  ck (.free "range"),
  ck (.free "sorted"),
  ck (.free "str"),
  ck (.free "sum"),
  ck (.free "tuple"),
  ck (.int "MOST" (1000000000000000000000000000000)),
  ck (.int "LIMIT" (60)),
  ck (.int "FAR" (100000000000000000000000000000000)),
  cTup "STEPS" ([Str.ofString "-3", Str.ofString "-2", Str.ofString "-1", Str.ofString "0", Str.ofString "1", Str.ofString "2", Str.ofString "3"]),
  ck (.glo "InvalidIndex")]
def cksP0x1 : List Ck := [ck (.exc "InvalidIndex"),
  ck (.glo "InvalidNumber"),
  ck (.exc "InvalidNumber"),
  ck (.glo "InvalidSeen"),
  ck (.exc "InvalidSeen"),
  ck (.glo "InvalidSnail"),
  ck (.exc "InvalidSnail"),
  ck (.glo "InvalidSnails"),
  ck (.exc "InvalidSnails"),
  ck (.glo "NothingToUndo"),
  ck (.exc "NothingToUndo"),
  ck (.glo "Unlike"),
  ck (.exc "Unlike"),
  ck (.glo "Snail"),
  ck (.cls "Snail"),
  ck (.noat "Snail" "base"),
  cOpT "Snail" .Add "int",
  cOpT "Snail" .BitXor "int",
  cOpT "Snail" .RShift "int",
  cOpT "Snail" .Sub "int"]
def cksP0x2 : List Ck := [cIsC "Snail",
  ck (.glo "Well"),
  ck (.cls "Well"),
  ck (.noat "Well" "deep")]
def cksP0x : List Ck := cksP0x0 ++ (cksP0x1 ++ (cksP0x2))
def cksP0 : List Ck := cksP0x
def dfsP0x0 : List DfD := [⟨prK "Well" "minute", "minute", "Well.minute", s_Well_minute⟩,
  ⟨maK "Well" "keep", "keep", "Well.keep", s_Well_keep⟩,
  ⟨maK "Well" "undo", "undo", "Well.undo", s_Well_undo⟩,
  ⟨maK "Well" "__len__", "__len__", "Well.__len__", s_Well___len__⟩,
  ⟨prK "Snail" "source", "source", "Snail.source", s_Snail_source⟩,
  ⟨maK "Snail" "base_of", "base_of", "Snail.base_of", s_Snail_base_of⟩,
  ⟨maK "Snail" "__len__", "__len__", "Snail.__len__", s_Snail___len__⟩,
  ⟨maK "Snail" "__eq__", "__eq__", "Snail.__eq__", s_Snail___eq__⟩,
  ⟨gaK "is_number", "is_number", "is_number", s_is_number⟩,
  ⟨gaK "is_tuple", "is_tuple", "is_tuple", s_is_tuple⟩,
  ⟨gaK "stepped", "stepped", "stepped", s_stepped⟩,
  ⟨gaK "lowest_sum", "lowest_sum", "lowest_sum", s_lowest_sum⟩,
  ⟨gaK "least_turn", "least_turn", "least_turn", s_least_turn⟩,
  ⟨gaK "minute_in", "minute_in", "minute_in", s_minute_in⟩,
  ⟨gaK "divisor", "divisor", "divisor", s_divisor⟩,
  ⟨gaK "rise_in", "rise_in", "rise_in", s_rise_in⟩,
  ⟨gaK "is_endless", "is_endless", "is_endless", s_is_endless⟩,
  ⟨gaK "shortened", "shortened", "shortened", s_shortened⟩,
  ⟨gaK "first_of", "first_of", "first_of", s_first_of⟩,
  ⟨gaK "is_later", "is_later", "is_later", s_is_later⟩]
def dfsP0x1 : List DfD := [⟨gaK "word_of", "word_of", "word_of", s_word_of⟩,
  ⟨gaK "with_round", "with_round", "with_round", s_with_round⟩,
  ⟨gaK "without", "without", "without", s_without⟩,
  ⟨gaK "exchanged", "exchanged", "exchanged", s_exchanged⟩,
  ⟨gaK "started", "started", "started", s_started⟩,
  ⟨gaK "both", "both", "both", s_both⟩,
  ⟨gaK "words_of", "words_of", "words_of", s_words_of⟩,
  ⟨gaK "number_in", "number_in", "number_in", s_number_in⟩,
  ⟨gaK "_law_source", "_law_source", "_law_source", s__law_source⟩,
  ⟨gaK "_law_draw", "_law_draw", "_law_draw", s__law_draw⟩,
  ⟨gaK "_law_snails", "_law_snails", "_law_snails", s__law_snails⟩,
  ⟨maK "Snail" "__contains__", "__contains__", "Snail.__contains__", s_Snail___contains__⟩]
def dfsP0x : List DfD := dfsP0x0 ++ (dfsP0x1)
def dfsP0 : List DfD := dfsP0x
def cksP1x0 : List Ck := [ck (.noat "Well" "now"),
  ck (.noat "Well" "past"),
  cProp "Well" "minute",
  ck (.meth "Well" "keep"),
  ck (.meth "Well" "undo"),
  cSpF "Well" "__len__",
  cProp "Snail" "source",
  ck (.meth "Snail" "base_of"),
  cSpF "Snail" "__len__",
  cSpF "Snail" "__eq__",
  ck (.glo "is_number"),
  ck (.glo "is_tuple"),
  ck (.glo "stepped"),
  ck (.glo "lowest_sum"),
  ck (.glo "least_turn"),
  ck (.glo "minute_in"),
  ck (.glo "divisor"),
  ck (.glo "rise_in"),
  ck (.glo "is_endless"),
  ck (.glo "shortened")]
def cksP1x1 : List Ck := [ck (.glo "first_of"),
  ck (.glo "is_later"),
  ck (.glo "word_of"),
  ck (.glo "with_round"),
  ck (.glo "without"),
  ck (.glo "exchanged"),
  ck (.glo "started"),
  ck (.glo "both"),
  ck (.glo "words_of"),
  ck (.glo "number_in"),
  ck (.glo "_law_source"),
  ck (.glo "_law_draw"),
  ck (.glo "_law_snails"),
  cSpF "Snail" "__contains__",
  cStr "Snail",
  ck (.glo "is_round"),
  ck (.glo "need_number"),
  ck (.glo "need_index"),
  ck (.glo "behind"),
  ck (.glo "records_of")]
def cksP1x2 : List Ck := [ck (.glo "common_turn"),
  ck (.glo "blocks_until"),
  ck (.glo "first_at"),
  ck (.glo "is_fact")]
def cksP1x : List Ck := cksP1x0 ++ (cksP1x1 ++ (cksP1x2))
def cksP1 : List Ck := cksP1x
def dfsP1x0 : List DfD := [⟨maK "Snail" "__str__", "__str__", "Snail.__str__", s_Snail___str__⟩,
  ⟨gaK "is_round", "is_round", "is_round", s_is_round⟩,
  ⟨gaK "need_number", "need_number", "need_number", s_need_number⟩,
  ⟨gaK "need_index", "need_index", "need_index", s_need_index⟩,
  ⟨gaK "behind", "behind", "behind", s_behind⟩,
  ⟨gaK "records_of", "records_of", "records_of", s_records_of⟩,
  ⟨gaK "common_turn", "common_turn", "common_turn", s_common_turn⟩,
  ⟨gaK "blocks_until", "blocks_until", "blocks_until", s_blocks_until⟩,
  ⟨gaK "first_at", "first_at", "first_at", s_first_at⟩,
  ⟨gaK "is_fact", "is_fact", "is_fact", s_is_fact⟩,
  ⟨gaK "depths_at", "depths_at", "depths_at", s_depths_at⟩,
  ⟨gaK "line_of", "line_of", "line_of", s_line_of⟩,
  ⟨maK "Well" "__init__", "__init__", "Well.__init__", s_Well___init__⟩,
  ⟨maK "Snail" "__getitem__", "__getitem__", "Snail.__getitem__", s_Snail___getitem__⟩,
  ⟨gaK "is_good_snail", "is_good_snail", "is_good_snail", s_is_good_snail⟩,
  ⟨gaK "is_settled", "is_settled", "is_settled", s_is_settled⟩,
  ⟨gaK "gain_of", "gain_of", "gain_of", s_gain_of⟩,
  ⟨gaK "is_row", "is_row", "is_row", s_is_row⟩,
  ⟨gaK "settled_from", "settled_from", "settled_from", s_settled_from⟩,
  ⟨gaK "need_seen", "need_seen", "need_seen", s_need_seen⟩]
def dfsP1x1 : List DfD := [⟨gaK "lines_of", "lines_of", "lines_of", s_lines_of⟩,
  ⟨gaK "fewer", "fewer", "fewer", s_fewer⟩,
  ⟨maK "Well" "drop", "drop", "Well.drop", s_Well_drop⟩,
  ⟨gaK "are_good_snails", "are_good_snails", "are_good_snails", s_are_good_snails⟩,
  ⟨gaK "need_snail", "need_snail", "need_snail", s_need_snail⟩,
  ⟨gaK "settled", "settled", "settled", s_settled⟩,
  ⟨gaK "is_snail", "is_snail", "is_snail", s_is_snail⟩,
  ⟨gaK "winners_by", "winners_by", "winners_by", s_winners_by⟩,
  ⟨gaK "later_depth", "later_depth", "later_depth", s_later_depth⟩,
  ⟨gaK "leads_by", "leads_by", "leads_by", s_leads_by⟩,
  ⟨gaK "parting_depth", "parting_depth", "parting_depth", s_parting_depth⟩,
  ⟨gaK "snail_in", "snail_in", "snail_in", s_snail_in⟩]
def dfsP1x : List DfD := dfsP1x0 ++ (dfsP1x1)
def dfsP1 : List DfD := dfsP1x
def cksP2x0 : List Ck := [ck (.glo "depths_at"),
  ck (.glo "line_of"),
  ck (.mkr "Well"),
  cSpF "Snail" "__getitem__",
  ck (.glo "is_good_snail"),
  ck (.glo "is_settled"),
  ck (.glo "gain_of"),
  ck (.glo "is_row"),
  ck (.glo "settled_from"),
  ck (.glo "need_seen"),
  ck (.glo "lines_of"),
  ck (.glo "fewer"),
  ck (.meth "Well" "drop"),
  ck (.glo "are_good_snails"),
  ck (.glo "need_snail"),
  ck (.glo "settled"),
  ck (.glo "is_snail"),
  ck (.glo "winners_by"),
  ck (.glo "later_depth"),
  ck (.glo "leads_by")]
def cksP2x1 : List Ck := [ck (.glo "parting_depth"),
  ck (.glo "snail_in"),
  ck (.mkr "Snail"),
  ck (.glo "need_snails"),
  ck (.glo "height_of"),
  ck (.glo "are_snails"),
  ck (.glo "calendar_of"),
  ck (.glo "need_two"),
  ck (.glo "settled_minute"),
  ck (.glo "gain_in"),
  ck (.glo "top_of"),
  ck (.glo "with_start"),
  ck (.glo "snails_in"),
  ck (.glo "good_snail"),
  ck (.meth "Well" "height_now"),
  cSpF "Snail" "__call__",
  cSpF "Snail" "__bool__",
  ck (.meth "Snail" "beats"),
  ck (.glo "height_at"),
  ck (.glo "out_at")]
def cksP2x2 : List Ck := [ck (.glo "calendar"),
  ck (.glo "out_in"),
  ck (.glo "all_calendars"),
  ck (.glo "leads")]
def cksP2x : List Ck := cksP2x0 ++ (cksP2x1 ++ (cksP2x2))
def cksP2 : List Ck := cksP2x
def dfsP2x0 : List DfD := [⟨maK "Snail" "__init__", "__init__", "Snail.__init__", s_Snail___init__⟩,
  ⟨gaK "need_snails", "need_snails", "need_snails", s_need_snails⟩,
  ⟨gaK "height_of", "height_of", "height_of", s_height_of⟩,
  ⟨gaK "are_snails", "are_snails", "are_snails", s_are_snails⟩,
  ⟨gaK "calendar_of", "calendar_of", "calendar_of", s_calendar_of⟩,
  ⟨gaK "need_two", "need_two", "need_two", s_need_two⟩,
  ⟨gaK "settled_minute", "settled_minute", "settled_minute", s_settled_minute⟩,
  ⟨gaK "gain_in", "gain_in", "gain_in", s_gain_in⟩,
  ⟨gaK "top_of", "top_of", "top_of", s_top_of⟩,
  ⟨gaK "with_start", "with_start", "with_start", s_with_start⟩,
  ⟨gaK "snails_in", "snails_in", "snails_in", s_snails_in⟩,
  ⟨gaK "good_snail", "good_snail", "good_snail", s_good_snail⟩,
  ⟨maK "Well" "height_now", "height_now", "Well.height_now", s_Well_height_now⟩,
  ⟨maK "Snail" "__call__", "__call__", "Snail.__call__", s_Snail___call__⟩,
  ⟨maK "Snail" "__bool__", "__bool__", "Snail.__bool__", s_Snail___bool__⟩,
  ⟨maK "Snail" "beats", "beats", "Snail.beats", s_Snail_beats⟩,
  ⟨gaK "height_at", "height_at", "height_at", s_height_at⟩,
  ⟨gaK "out_at", "out_at", "out_at", s_out_at⟩,
  ⟨gaK "calendar", "calendar", "calendar", s_calendar⟩,
  ⟨gaK "out_in", "out_in", "out_in", s_out_in⟩]
def dfsP2x1 : List DfD := [⟨gaK "all_calendars", "all_calendars", "all_calendars", s_all_calendars⟩,
  ⟨gaK "leads", "leads", "leads", s_leads⟩,
  ⟨gaK "never_later", "never_later", "never_later", s_never_later⟩,
  ⟨gaK "first_later", "first_later", "first_later", s_first_later⟩,
  ⟨gaK "far_at", "far_at", "far_at", s_far_at⟩,
  ⟨gaK "highest", "highest", "highest", s_highest⟩,
  ⟨gaK "are_alike", "are_alike", "are_alike", s_are_alike⟩,
  ⟨gaK "parting", "parting", "parting", s_parting⟩,
  ⟨gaK "latest_start", "latest_start", "latest_start", s_latest_start⟩,
  ⟨gaK "depths_told", "depths_told", "depths_told", s_depths_told⟩,
  ⟨gaK "is_seen", "is_seen", "is_seen", s_is_seen⟩,
  ⟨gaK "snails_text", "snails_text", "snails_text", s_snails_text⟩]
def dfsP2x : List DfD := dfsP2x0 ++ (dfsP2x1)
def dfsP2 : List DfD := dfsP2x
def cksP3x0 : List Ck := [ck (.glo "never_later"),
  ck (.glo "first_later"),
  ck (.glo "far_at"),
  ck (.glo "highest"),
  ck (.glo "are_alike"),
  ck (.glo "parting"),
  ck (.glo "latest_start"),
  ck (.glo "depths_told"),
  ck (.glo "is_seen"),
  ck (.glo "snails_text"),
  ck (.glo "read_snails"),
  cCM "Snail" "read",
  ck (.meth "Snail" "made"),
  ck (.meth "Snail" "like"),
  ck (.glo "all_out"),
  ck (.glo "winners"),
  ck (.glo "winner_calendar"),
  ck (.glo "how"),
  ck (.glo "first_depth"),
  ck (.glo "words_by")]
def cksP3x1 : List Ck := [ck (.glo "alike"),
  ck (.glo "idle_steps"),
  ck (.glo "exchangeable"),
  ck (.glo "_law_third_right"),
  cProp "Well" "out",
  ck (.glo "order_calendar"),
  ck (.glo "first_over"),
  ck (.glo "_law_first_right"),
  cOpF "Snail" .Add,
  cOpF "Snail" .Sub,
  cOpF "Snail" .RShift,
  cOpF "Snail" .BitXor,
  cSpF "Snail" "__invert__",
  ck (.glo "_law_second_right"),
  cProp "Well" "inside",
  ck (.meth "Well" "wait"),
  ck (.meth "Well" "log"),
  cSpF "Well" "__getitem__",
  cSpF "Well" "__contains__",
  cSpF "Well" "__bool__"]
def cksP3x2 : List Ck := [ck (.glo "_law_fourth_right"),
  ck (.glo "law"),
  fun K => decide (He.ga K "Snail" = cSn),
  fun K => decide (He.ga K "Well" = cWn)]
def cksP3x : List Ck := cksP3x0 ++ (cksP3x1 ++ (cksP3x2))
def cksP3 : List Ck := cksP3x
def dfsP3x0 : List DfD := [⟨gaK "read_snails", "read_snails", "read_snails", s_read_snails⟩,
  ⟨cmK "Snail" "read", "read", "Snail.read", s_Snail_read⟩,
  ⟨maK "Snail" "made", "made", "Snail.made", s_Snail_made⟩,
  ⟨maK "Snail" "like", "like", "Snail.like", s_Snail_like⟩,
  ⟨gaK "all_out", "all_out", "all_out", s_all_out⟩,
  ⟨gaK "winners", "winners", "winners", s_winners⟩,
  ⟨gaK "winner_calendar", "winner_calendar", "winner_calendar", s_winner_calendar⟩,
  ⟨gaK "how", "how", "how", s_how⟩,
  ⟨gaK "first_depth", "first_depth", "first_depth", s_first_depth⟩,
  ⟨gaK "words_by", "words_by", "words_by", s_words_by⟩,
  ⟨gaK "alike", "alike", "alike", s_alike⟩,
  ⟨gaK "idle_steps", "idle_steps", "idle_steps", s_idle_steps⟩,
  ⟨gaK "exchangeable", "exchangeable", "exchangeable", s_exchangeable⟩,
  ⟨gaK "_law_third_right", "_law_third_right", "_law_third_right", s__law_third_right⟩,
  ⟨prK "Well" "out", "out", "Well.out", s_Well_out⟩,
  ⟨gaK "order_calendar", "order_calendar", "order_calendar", s_order_calendar⟩,
  ⟨gaK "first_over", "first_over", "first_over", s_first_over⟩,
  ⟨gaK "_law_first_right", "_law_first_right", "_law_first_right", s__law_first_right⟩,
  ⟨maK "Snail" (PySem.dunder (PySem.Operator.Add).info.2), "__add__", "Snail.__add__", s_Snail___add__⟩,
  ⟨maK "Snail" (PySem.dunder (PySem.Operator.Sub).info.2), "__sub__", "Snail.__sub__", s_Snail___sub__⟩]
def dfsP3x1 : List DfD := [⟨maK "Snail" (PySem.dunder (PySem.Operator.RShift).info.2), "__rshift__", "Snail.__rshift__", s_Snail___rshift__⟩,
  ⟨maK "Snail" (PySem.dunder (PySem.Operator.BitXor).info.2), "__xor__", "Snail.__xor__", s_Snail___xor__⟩,
  ⟨maK "Snail" "__invert__", "__invert__", "Snail.__invert__", s_Snail___invert__⟩,
  ⟨gaK "_law_second_right", "_law_second_right", "_law_second_right", s__law_second_right⟩,
  ⟨prK "Well" "inside", "inside", "Well.inside", s_Well_inside⟩,
  ⟨maK "Well" "wait", "wait", "Well.wait", s_Well_wait⟩,
  ⟨maK "Well" "log", "log", "Well.log", s_Well_log⟩,
  ⟨maK "Well" "__getitem__", "__getitem__", "Well.__getitem__", s_Well___getitem__⟩,
  ⟨maK "Well" "__contains__", "__contains__", "Well.__contains__", s_Well___contains__⟩,
  ⟨maK "Well" "__bool__", "__bool__", "Well.__bool__", s_Well___bool__⟩,
  ⟨gaK "_law_fourth_right", "_law_fourth_right", "_law_fourth_right", s__law_fourth_right⟩,
  ⟨gaK "law", "law", "law", s_law⟩]
def dfsP3x : List DfD := dfsP3x0 ++ (dfsP3x1)
def dfsP3 : List DfD := dfsP3x
def cks : List Ck := (cksP0 ++ (cksP1 ++ (cksP2 ++ (cksP3))))
def dfs : List DfD := (dfsP0 ++ (dfsP1 ++ (dfsP2 ++ (dfsP3))))
def loose0 : List Str := ["_wall",
  "SnailError",
  "InvalidSnail",
  "InvalidSnails",
  "InvalidNumber",
  "InvalidIndex",
  "InvalidSeen",
  "InvalidRows",
  "Unlike",
  "NothingToUndo",
  "TooMany",
  "InvalidText",
  "MOST",
  "is_number",
  "is_tuple",
  "is_round",
  "is_good_snail",
  "are_good_snails",
  "need_snail",
  "need_snails"]
def loose1 : List Str := ["need_number",
  "need_index",
  "stepped",
  "behind",
  "lowest_sum",
  "is_settled",
  "settled",
  "gain_of",
  "height_of",
  "is_snail",
  "are_snails",
  "height_at",
  "records_of",
  "least_turn",
  "calendar_of",
  "minute_in",
  "out_at",
  "calendar",
  "LIMIT",
  "out_in"]
def loose2 : List Str := ["all_out",
  "is_row",
  "Well",
  "divisor",
  "common_turn",
  "rise_in",
  "is_endless",
  "blocks_until",
  "settled_from",
  "shortened",
  "first_of",
  "first_at",
  "winners_by",
  "all_calendars",
  "winners",
  "winner_calendar",
  "how",
  "first_depth",
  "is_later",
  "later_depth"]
def loose3 : List Str := ["leads_by",
  "need_two",
  "leads",
  "never_later",
  "first_later",
  "word_of",
  "settled_minute",
  "gain_in",
  "far_at",
  "words_by",
  "top_of",
  "order_calendar",
  "first_over",
  "highest",
  "are_alike",
  "parting_depth",
  "with_round",
  "without",
  "exchanged",
  "alike"]
def loose4 : List Str := ["parting",
  "idle_steps",
  "exchangeable",
  "started",
  "latest_start",
  "with_start",
  "FAR",
  "is_fact",
  "need_seen",
  "depths_at",
  "both",
  "depths_told",
  "is_seen",
  "STEPS",
  "words_of",
  "line_of",
  "lines_of",
  "number_in",
  "snail_in",
  "snails_in"]
def loose5 : List Str := ["snails_text",
  "read_snails",
  "good_snail",
  "fewer",
  "Snail",
  "_law_source",
  "_law_draw",
  "_law_snails",
  "_law_first_right",
  "_law_second_right",
  "_law_third_right",
  "_law_fourth_right"]
def loose : List Str := loose0 ++ (loose1 ++ (loose2 ++ (loose3 ++ (loose4 ++ (loose5)))))
abbrev asK : (Addr → Option Obj) → List Addr := namesK
abbrev hk : PySem.W.Hook := hookF asK cks dfs
def ob (s : PySem.W.SharedT) : AlF := obsFG asK cks dfs (HandSHeadRun.getT s)
theorem ob_eq (s : PySem.W.SharedT) : ob s = hk.obs s.abs := obsFG_eq (HandSHeadRun.getT_eq s)
theorem run0 (w : World) : HandSHeadRun.RunEq R (PySem.W.view R.prog [125]) PySem.W.Hook.none (fun _ => ()) 9000 loose w := by
  intro os
  kernel_rfl
theorem runP0 (w : World) : RunP R asK cksP0 dfsP0 9000 w := by
  intro os
  kernel_rfl
theorem runP1 (w : World) : RunP R asK cksP1 dfsP1 9000 w := by
  intro os
  kernel_rfl
theorem runP2 (w : World) : RunP R asK cksP2 dfsP2 9000 w := by
  intro os
  kernel_rfl
theorem runP3 (w : World) : RunP R asK cksP3 dfsP3 9000 w := by
  intro os
  kernel_rfl
theorem run (w : World) : HandSHeadRun.RunEq R (PySem.W.view R.prog [125]) hk ob 9000 loose w := RunP.run (run0 w) ((runP0 w).app ((runP1 w).app ((runP2 w).app (runP3 w))))
theorem facts {P : Program} {w : World} {K : PySem.W.Frag} {h : Heap} {mg : Str → Option Value} {fa : Addr} (X : K.In h) (G : h.Ns mainGlobals mg) (hfa : mg ("law" : Str) = some (.ref fa)) (c : SaysF cks dfs K) :
    ∃ fd : FuncData, (∀ (s : Shared) (v : Value), BindsTo s fd ⟨[v], []⟩ [("script", v)]) ∧ ∀ base : Heap, K.In base → base.Ns mainGlobals mg → FnOk P w K mg base (L2.CX P w) 16 fa fd ["script"] (spD K 1 (F_law (He.ga K "Snail") (He.ga K "Well"))) := by
  obtain ⟨f, fd, hm, Ff, hb⟩ := lawf_of X G (c.ck 173) (c.df 127) (fun _ _ _ _ _ _ _ _ => .of_eq rfl)
  cases hfa.symm.trans hm
  have T : Top K mg (He.ga K "Snail") (He.ga K "Well") := by
    constructor
    · exact He.int_ok X G (c.ck 15)
    · exact He.int_ok X G (c.ck 16)
    · exact He.int_ok X G (c.ck 17)
    · exact tup_ok X G (c.ck 18)
    · exact He.glo_ok X G (c.ck 33)
    · exact He.cls_ok (c.ck 34)
    · exact He.noat_ok (c.ck 35)
    · exact opT_ok (c.ck 36)
    · exact opT_ok (c.ck 37)
    · exact opT_ok (c.ck 38)
    · exact opT_ok (c.ck 39)
    · exact isC_ok (He.cls_ok (c.ck 34)) (c.ck 40)
    · exact He.glo_ok X G (c.ck 41)
    · exact He.cls_ok (c.ck 42)
    · exact He.noat_ok (c.ck 43)
    · exact He.noat_ok (c.ck 44)
    · exact He.noat_ok (c.ck 45)
    · exact ⟨_, _, prop_ok (c.ck 46), fun_binds (c.df 0) (fun _ _ _ _ _ _ us hl => match us, hl with | [_], _ => rfl)⟩
    · exact ⟨_, He.meth_ok (c.ck 47), fun_binds (c.df 1) (fun _ _ _ _ _ _ us hl => match us, hl with | [_, _], _ => rfl)⟩
    · exact ⟨_, He.meth_ok (c.ck 48), fun_binds (c.df 2) (fun _ _ _ _ _ _ us hl => match us, hl with | [_], _ => rfl)⟩
    · exact ⟨_, spF_ok (c.ck 49), fun_binds (c.df 3) (fun _ _ _ _ _ _ us hl => match us, hl with | [_], _ => rfl)⟩
    · exact ⟨_, _, prop_ok (c.ck 50), fun_binds (c.df 4) (fun _ _ _ _ _ _ us hl => match us, hl with | [_], _ => rfl)⟩
    · exact ⟨_, He.meth_ok (c.ck 51), fun_binds (c.df 5) (fun _ _ _ _ _ _ us hl => match us, hl with | [_, _], _ => rfl)⟩
    · exact ⟨_, spF_ok (c.ck 52), fun_binds (c.df 6) (fun _ _ _ _ _ _ us hl => match us, hl with | [_], _ => rfl)⟩
    · exact ⟨_, spF_ok (c.ck 53), fun_binds (c.df 7) (fun _ _ _ _ _ _ us hl => match us, hl with | [_, _], _ => rfl)⟩
    · exact ⟨_, spF_ok (c.ck 77), fun_binds (c.df 31) (fun _ _ _ _ _ _ us hl => match us, hl with | [_, _], _ => rfl)⟩
    · exact ⟨_, (str_ok (c.ck 78)).1, (str_ok (c.ck 78)).2, fun_binds (c.df 32) (fun _ _ _ _ _ _ us hl => match us, hl with | [_], _ => rfl)⟩
    · exact ⟨_, He.mkr_ok (c.ck 90), fun_binds (c.df 44) (fun _ _ _ _ _ _ us hl => match us, hl with | [_, _], _ => rfl)⟩
    · exact ⟨_, spF_ok (c.ck 91), fun_binds (c.df 45) (fun _ _ _ _ _ _ us hl => match us, hl with | [_, _], _ => rfl)⟩
    · exact ⟨_, He.meth_ok (c.ck 100), fun_binds (c.df 54) (fun _ _ _ _ _ _ us hl => match us, hl with | [_, _, _], _ => rfl)⟩
    · exact ⟨_, He.mkr_ok (c.ck 110), (c.df 64)⟩
    · exact ⟨_, He.meth_ok (c.ck 122), fun_binds (c.df 76) (fun _ _ _ _ _ _ us hl => match us, hl with | [_, _], _ => rfl)⟩
    · exact ⟨_, spF_ok (c.ck 123), fun_binds (c.df 77) (fun _ _ _ _ _ _ us hl => match us, hl with | [_, _], _ => rfl)⟩
    · exact ⟨_, spF_ok (c.ck 124), fun_binds (c.df 78) (fun _ _ _ _ _ _ us hl => match us, hl with | [_], _ => rfl)⟩
    · exact ⟨_, He.meth_ok (c.ck 125), fun_binds (c.df 79) (fun _ _ _ _ _ _ us hl => match us, hl with | [_, _], _ => rfl)⟩
    · exact ⟨_, _, _, (cm_ok (c.ck 143)).1, (cm_ok (c.ck 143)).2, fun_binds (c.df 97) (fun _ _ _ _ _ _ us hl => match us, hl with | [_, _], _ => rfl)⟩
    · exact ⟨_, He.meth_ok (c.ck 144), fun_binds (c.df 98) (fun _ _ _ _ _ _ us hl => match us, hl with | [_, _], _ => rfl)⟩
    · exact ⟨_, He.meth_ok (c.ck 145), fun_binds (c.df 99) (fun _ _ _ _ _ _ us hl => match us, hl with | [_, _], _ => rfl)⟩
    · exact ⟨_, _, prop_ok (c.ck 156), fun_binds (c.df 110) (fun _ _ _ _ _ _ us hl => match us, hl with | [_], _ => rfl)⟩
    · exact ⟨_, opF_ok (c.ck 160), fun_binds (c.df 114) (fun _ _ _ _ _ _ us hl => match us, hl with | [_, _], _ => rfl)⟩
    · exact ⟨_, opF_ok (c.ck 161), fun_binds (c.df 115) (fun _ _ _ _ _ _ us hl => match us, hl with | [_, _], _ => rfl)⟩
    · exact ⟨_, opF_ok (c.ck 162), fun_binds (c.df 116) (fun _ _ _ _ _ _ us hl => match us, hl with | [_, _], _ => rfl)⟩
    · exact ⟨_, opF_ok (c.ck 163), fun_binds (c.df 117) (fun _ _ _ _ _ _ us hl => match us, hl with | [_, _], _ => rfl)⟩
    · exact ⟨_, spF_ok (c.ck 164), fun_binds (c.df 118) (fun _ _ _ _ _ _ us hl => match us, hl with | [_], _ => rfl)⟩
    · exact ⟨_, _, prop_ok (c.ck 166), fun_binds (c.df 120) (fun _ _ _ _ _ _ us hl => match us, hl with | [_], _ => rfl)⟩
    · exact ⟨_, He.meth_ok (c.ck 167), fun_binds (c.df 121) (fun _ _ _ _ _ _ us hl => match us, hl with | [_, _], _ => rfl)⟩
    · exact ⟨_, He.meth_ok (c.ck 168), fun_binds (c.df 122) (fun _ _ _ _ _ _ us hl => match us, hl with | [_], _ => rfl)⟩
    · exact ⟨_, spF_ok (c.ck 169), fun_binds (c.df 123) (fun _ _ _ _ _ _ us hl => match us, hl with | [_, _], _ => rfl)⟩
    · exact ⟨_, spF_ok (c.ck 170), fun_binds (c.df 124) (fun _ _ _ _ _ _ us hl => match us, hl with | [_, _], _ => rfl)⟩
    · exact ⟨_, spF_ok (c.ck 171), fun_binds (c.df 125) (fun _ _ _ _ _ _ us hl => match us, hl with | [_], _ => rfl)⟩
    · exact He.free_ok X G (c.ck 0)
    · exact He.free_ok X G (c.ck 1)
    · exact He.free_ok X G (c.ck 2)
    · exact He.free_ok X G (c.ck 3)
    · exact He.free_ok X G (c.ck 4)
    · exact He.free_ok X G (c.ck 5)
    · exact He.free_ok X G (c.ck 6)
    · exact He.free_ok X G (c.ck 7)
    · exact He.free_ok X G (c.ck 8)
    · exact He.free_ok X G (c.ck 9)
    · exact He.free_ok X G (c.ck 10)
    · exact He.free_ok X G (c.ck 11)
    · exact He.free_ok X G (c.ck 12)
    · exact He.free_ok X G (c.ck 13)
    · exact He.free_ok X G (c.ck 14)
    · exact excC_ok X G (c.ck 19) (c.ck 20)
    · exact excC_ok X G (c.ck 21) (c.ck 22)
    · exact excC_ok X G (c.ck 23) (c.ck 24)
    · exact excC_ok X G (c.ck 25) (c.ck 26)
    · exact excC_ok X G (c.ck 27) (c.ck 28)
    · exact excC_ok X G (c.ck 29) (c.ck 30)
    · exact excC_ok X G (c.ck 31) (c.ck 32)
    · exact def_of X G (c.ck 54) (c.df 8) (fun _ _ _ _ _ _ us hl => match us, hl with | [_, _, _], _ => rfl)
    · exact def_of X G (c.ck 55) (c.df 9) (fun _ _ _ _ _ _ us hl => match us, hl with | [_, _, _], _ => rfl)
    · exact def_of X G (c.ck 56) (c.df 10) (fun _ _ _ _ _ _ us hl => match us, hl with | [_, _], _ => rfl)
    · exact def_of X G (c.ck 57) (c.df 11) (fun _ _ _ _ _ _ us hl => match us, hl with | [_], _ => rfl)
    · exact def_of X G (c.ck 58) (c.df 12) (fun _ _ _ _ _ _ us hl => match us, hl with | [_, _], _ => rfl)
    · exact def_of X G (c.ck 59) (c.df 13) (fun _ _ _ _ _ _ us hl => match us, hl with | [_, _], _ => rfl)
    · exact def_of X G (c.ck 60) (c.df 14) (fun _ _ _ _ _ _ us hl => match us, hl with | [_, _], _ => rfl)
    · exact def_of X G (c.ck 61) (c.df 15) (fun _ _ _ _ _ _ us hl => match us, hl with | [_, _], _ => rfl)
    · exact def_of X G (c.ck 62) (c.df 16) (fun _ _ _ _ _ _ us hl => match us, hl with | [_], _ => rfl)
    · exact def_of X G (c.ck 63) (c.df 17) (fun _ _ _ _ _ _ us hl => match us, hl with | [_, _], _ => rfl)
    · exact def_of X G (c.ck 64) (c.df 18) (fun _ _ _ _ _ _ us hl => match us, hl with | [_], _ => rfl)
    · exact def_of X G (c.ck 65) (c.df 19) (fun _ _ _ _ _ _ us hl => match us, hl with | [_, _], _ => rfl)
    · exact def_of X G (c.ck 66) (c.df 20) (fun _ _ _ _ _ _ us hl => match us, hl with | [_], _ => rfl)
    · exact def_of X G (c.ck 67) (c.df 21) (fun _ _ _ _ _ _ us hl => match us, hl with | [_, _], _ => rfl)
    · exact def_of X G (c.ck 68) (c.df 22) (fun _ _ _ _ _ _ us hl => match us, hl with | [_, _], _ => rfl)
    · exact def_of X G (c.ck 69) (c.df 23) (fun _ _ _ _ _ _ us hl => match us, hl with | [_, _], _ => rfl)
    · exact def_of X G (c.ck 70) (c.df 24) (fun _ _ _ _ _ _ us hl => match us, hl with | [_, _], _ => rfl)
    · exact def_of X G (c.ck 71) (c.df 25) (fun _ _ _ _ _ _ us hl => match us, hl with | [_, _], _ => rfl)
    · exact def_of X G (c.ck 72) (c.df 26) (fun _ _ _ _ _ _ us hl => match us, hl with | [_], _ => rfl)
    · exact def_of X G (c.ck 73) (c.df 27) (fun _ _ _ _ _ _ us hl => match us, hl with | [_], _ => rfl)
    · exact def_of X G (c.ck 74) (c.df 28) (fun _ _ _ _ _ _ us hl => match us, hl with | [_, _], _ => rfl)
    · exact def_of X G (c.ck 75) (c.df 29) (fun _ _ _ _ _ _ us hl => match us, hl with | [_, _], _ => rfl)
    · exact def_of X G (c.ck 76) (c.df 30) (fun _ _ _ _ _ _ us hl => match us, hl with | [], _ => rfl)
    · exact def_of X G (c.ck 79) (c.df 33) (fun _ _ _ _ _ _ us hl => match us, hl with | [_], _ => rfl)
    · exact def_of X G (c.ck 80) (c.df 34) (fun _ _ _ _ _ _ us hl => match us, hl with | [_, _], _ => rfl)
    · exact def_of X G (c.ck 81) (c.df 35) (fun _ _ _ _ _ _ us hl => match us, hl with | [_, _], _ => rfl)
    · exact def_of X G (c.ck 82) (c.df 36) (fun _ _ _ _ _ _ us hl => match us, hl with | [_, _], _ => rfl)
    · exact def_of X G (c.ck 83) (c.df 37) (fun _ _ _ _ _ _ us hl => match us, hl with | [_, _], _ => rfl)
    · exact def_of X G (c.ck 84) (c.df 38) (fun _ _ _ _ _ _ us hl => match us, hl with | [_], _ => rfl)
    · exact def_of X G (c.ck 85) (c.df 39) (fun _ _ _ _ _ _ us hl => match us, hl with | [_, _, _, _], _ => rfl)
    · exact def_of X G (c.ck 86) (c.df 40) (fun _ _ _ _ _ _ us hl => match us, hl with | [_, _], _ => rfl)
    · exact def_of X G (c.ck 87) (c.df 41) (fun _ _ _ _ _ _ us hl => match us, hl with | [_, _], _ => rfl)
    · exact def_of X G (c.ck 88) (c.df 42) (fun _ _ _ _ _ _ us hl => match us, hl with | [_, _], _ => rfl)
    · exact def_of X G (c.ck 89) (c.df 43) (fun _ _ _ _ _ _ us hl => match us, hl with | [_], _ => rfl)
    · exact def_of X G (c.ck 92) (c.df 46) (fun _ _ _ _ _ _ us hl => match us, hl with | [_], _ => rfl)
    · exact def_of X G (c.ck 93) (c.df 47) (fun _ _ _ _ _ _ us hl => match us, hl with | [_, _], _ => rfl)
    · exact def_of X G (c.ck 94) (c.df 48) (fun _ _ _ _ _ _ us hl => match us, hl with | [_, _], _ => rfl)
    · exact def_of X G (c.ck 95) (c.df 49) (fun _ _ _ _ _ _ us hl => match us, hl with | [_], _ => rfl)
    · exact def_of X G (c.ck 96) (c.df 50) (fun _ _ _ _ _ _ us hl => match us, hl with | [_], _ => rfl)
    · exact def_of X G (c.ck 97) (c.df 51) (fun _ _ _ _ _ _ us hl => match us, hl with | [_, _], _ => rfl)
    · exact def_of X G (c.ck 98) (c.df 52) (fun _ _ _ _ _ _ us hl => match us, hl with | [_], _ => rfl)
    · exact def_of X G (c.ck 99) (c.df 53) (fun _ _ _ _ _ _ us hl => match us, hl with | [_, _], _ => rfl)
    · exact def_of X G (c.ck 101) (c.df 55) (fun _ _ _ _ _ _ us hl => match us, hl with | [_], _ => rfl)
    · exact def_of X G (c.ck 102) (c.df 56) (fun _ _ _ _ _ _ us hl => match us, hl with | [_], _ => rfl)
    · exact def_of X G (c.ck 103) (c.df 57) (fun _ _ _ _ _ _ us hl => match us, hl with | [_, _], _ => rfl)
    · exact def_of X G (c.ck 104) (c.df 58) (fun _ _ _ _ _ _ us hl => match us, hl with | [_], _ => rfl)
    · exact def_of X G (c.ck 105) (c.df 59) (fun _ _ _ _ _ _ us hl => match us, hl with | [_], _ => rfl)
    · exact def_of X G (c.ck 106) (c.df 60) (fun _ _ _ _ _ _ us hl => match us, hl with | [_, _], _ => rfl)
    · exact def_of X G (c.ck 107) (c.df 61) (fun _ _ _ _ _ _ us hl => match us, hl with | [_, _], _ => rfl)
    · exact def_of X G (c.ck 108) (c.df 62) (fun _ _ _ _ _ _ us hl => match us, hl with | [_, _], _ => rfl)
    · exact def_of X G (c.ck 109) (c.df 63) (fun _ _ _ _ _ _ us hl => match us, hl with | [_], _ => rfl)
    · exact def_of X G (c.ck 111) (c.df 65) (fun _ _ _ _ _ _ us hl => match us, hl with | [_], _ => rfl)
    · exact def_of X G (c.ck 112) (c.df 66) (fun _ _ _ _ _ _ us hl => match us, hl with | [_, _], _ => rfl)
    · exact def_of X G (c.ck 113) (c.df 67) (fun _ _ _ _ _ _ us hl => match us, hl with | [_], _ => rfl)
    · exact def_of X G (c.ck 114) (c.df 68) (fun _ _ _ _ _ _ us hl => match us, hl with | [_], _ => rfl)
    · exact def_of X G (c.ck 115) (c.df 69) (fun _ _ _ _ _ _ us hl => match us, hl with | [_, _], _ => rfl)
    · exact def_of X G (c.ck 116) (c.df 70) (fun _ _ _ _ _ _ us hl => match us, hl with | [_], _ => rfl)
    · exact def_of X G (c.ck 117) (c.df 71) (fun _ _ _ _ _ _ us hl => match us, hl with | [_, _], _ => rfl)
    · exact def_of X G (c.ck 118) (c.df 72) (fun _ _ _ _ _ _ us hl => match us, hl with | [_], _ => rfl)
    · exact def_of X G (c.ck 119) (c.df 73) (fun _ _ _ _ _ _ us hl => match us, hl with | [_, _], _ => rfl)
    · exact def_of X G (c.ck 120) (c.df 74) (fun _ _ _ _ _ _ us hl => match us, hl with | [_], _ => rfl)
    · exact def_of X G (c.ck 121) (c.df 75) (fun _ _ _ _ _ _ us hl => match us, hl with | [_], _ => rfl)
    · exact def_of X G (c.ck 126) (c.df 80) (fun _ _ _ _ _ _ us hl => match us, hl with | [_, _], _ => rfl)
    · exact def_of X G (c.ck 127) (c.df 81) (fun _ _ _ _ _ _ us hl => match us, hl with | [_, _], _ => rfl)
    · exact def_of X G (c.ck 128) (c.df 82) (fun _ _ _ _ _ _ us hl => match us, hl with | [_], _ => rfl)
    · exact def_of X G (c.ck 129) (c.df 83) (fun _ _ _ _ _ _ us hl => match us, hl with | [_, _, _], _ => rfl)
    · exact def_of X G (c.ck 130) (c.df 84) (fun _ _ _ _ _ _ us hl => match us, hl with | [_], _ => rfl)
    · exact def_of X G (c.ck 131) (c.df 85) (fun _ _ _ _ _ _ us hl => match us, hl with | [_, _], _ => rfl)
    · exact def_of X G (c.ck 132) (c.df 86) (fun _ _ _ _ _ _ us hl => match us, hl with | [_, _], _ => rfl)
    · exact def_of X G (c.ck 133) (c.df 87) (fun _ _ _ _ _ _ us hl => match us, hl with | [_, _], _ => rfl)
    · exact def_of X G (c.ck 134) (c.df 88) (fun _ _ _ _ _ _ us hl => match us, hl with | [_, _, _], _ => rfl)
    · exact def_of X G (c.ck 135) (c.df 89) (fun _ _ _ _ _ _ us hl => match us, hl with | [_], _ => rfl)
    · exact def_of X G (c.ck 136) (c.df 90) (fun _ _ _ _ _ _ us hl => match us, hl with | [_, _], _ => rfl)
    · exact def_of X G (c.ck 137) (c.df 91) (fun _ _ _ _ _ _ us hl => match us, hl with | [_, _], _ => rfl)
    · exact def_of X G (c.ck 138) (c.df 92) (fun _ _ _ _ _ _ us hl => match us, hl with | [_, _], _ => rfl)
    · exact def_of X G (c.ck 139) (c.df 93) (fun _ _ _ _ _ _ us hl => match us, hl with | [_, _], _ => rfl)
    · exact def_of X G (c.ck 140) (c.df 94) (fun _ _ _ _ _ _ us hl => match us, hl with | [_, _, _], _ => rfl)
    · exact def_of X G (c.ck 141) (c.df 95) (fun _ _ _ _ _ _ us hl => match us, hl with | [_], _ => rfl)
    · exact def_of X G (c.ck 142) (c.df 96) (fun _ _ _ _ _ _ us hl => match us, hl with | [_], _ => rfl)
    · exact def_of X G (c.ck 146) (c.df 100) (fun _ _ _ _ _ _ us hl => match us, hl with | [_, _, _], _ => rfl)
    · exact def_of X G (c.ck 147) (c.df 101) (fun _ _ _ _ _ _ us hl => match us, hl with | [_, _], _ => rfl)
    · exact def_of X G (c.ck 148) (c.df 102) (fun _ _ _ _ _ _ us hl => match us, hl with | [_], _ => rfl)
    · exact def_of X G (c.ck 149) (c.df 103) (fun _ _ _ _ _ _ us hl => match us, hl with | [_, _], _ => rfl)
    · exact def_of X G (c.ck 150) (c.df 104) (fun _ _ _ _ _ _ us hl => match us, hl with | [_, _], _ => rfl)
    · exact def_of X G (c.ck 151) (c.df 105) (fun _ _ _ _ _ _ us hl => match us, hl with | [_, _], _ => rfl)
    · exact def_of X G (c.ck 152) (c.df 106) (fun _ _ _ _ _ _ us hl => match us, hl with | [_, _], _ => rfl)
    · exact def_of X G (c.ck 153) (c.df 107) (fun _ _ _ _ _ _ us hl => match us, hl with | [_], _ => rfl)
    · exact def_of X G (c.ck 154) (c.df 108) (fun _ _ _ _ _ _ us hl => match us, hl with | [_], _ => rfl)
    · exact def_of X G (c.ck 155) (c.df 109) (fun _ _ _ _ _ _ us hl => match us, hl with | [], _ => rfl)
    · exact def_of X G (c.ck 157) (c.df 111) (fun _ _ _ _ _ _ us hl => match us, hl with | [_, _], _ => rfl)
    · exact def_of X G (c.ck 158) (c.df 112) (fun _ _ _ _ _ _ us hl => match us, hl with | [_, _], _ => rfl)
    · exact def_of X G (c.ck 159) (c.df 113) (fun _ _ _ _ _ _ us hl => match us, hl with | [], _ => rfl)
    · exact def_of X G (c.ck 165) (c.df 119) (fun _ _ _ _ _ _ us hl => match us, hl with | [], _ => rfl)
    · exact def_of X G (c.ck 172) (c.df 126) (fun _ _ _ _ _ _ us hl => match us, hl with | [], _ => rfl)
  exact ⟨fd, hb, fun base _ _ => ok_law T Ff⟩
end H22
end DL
open PySem PySem.W PySem.Calls PyProof.Rows
theorem PySem.Challenge.cw_wellsnails_k22_examples_of_the_document_holds : PySem.Challenge.rw_wellsnails_k22_examples_of_the_document.Holds := by
  w_on; o_law
  refine HandSHeadRun.head_any (r := OpenLaw.row PySem.Challenge.rw_wellsnails_k22_examples_of_the_document) (q := view (OpenLaw.row PySem.Challenge.rw_wellsnails_k22_examples_of_the_document).prog [125]) (H := DL.H22.hk) (ob := DL.H22.ob) (M := 9000) (loose := DL.H22.loose) (d := HandSHeadRun.topDef (OpenLaw.row PySem.Challenge.rw_wellsnails_k22_examples_of_the_document).prog 125) (kwd := []) DL.H22.ob_eq
    (by kernel_rfl) (fun s => by kernel_rfl) DL.H22.run (by kernel_rfl) (by kernel_rfl) (by kernel_rfl) (by rfl) (by first | assumption | decide +kernel) (by decide +kernel) ⟨rfl, rfl, rfl, rfl, rfl, by decide +kernel⟩ ?hw ?hc
  case hw => w_witness2
  case hc =>
    refine DL.walk_ofF (l := PySem.Challenge.rw_wellsnails_k22_examples_of_the_document) (n := 63) (k := 16) (x := "script") (CX := fun w => L2.CX PySem.Challenge.pw_wellsnails_k22_examples_of_the_document w) rfl (by decide) (by kernel_rfl) ⟨rfl, by decide, by decide⟩ ?F (fun w H s e s' h => DL.cx_none (P := PySem.Challenge.pw_wellsnails_k22_examples_of_the_document) (w := w) H s e s' h)
    intro w mg fa h Y G hmg0
    obtain ⟨K, KX, c⟩ := Y
    have hmg : mg ("law" : PySem.Str) = some (.ref fa) := by
      have e : (HandSHeadRun.topDef (OpenLaw.row PySem.Challenge.rw_wellsnails_k22_examples_of_the_document).prog 125).name = ("law" : PySem.Str) := by kernel_rfl
      rw [← e]
      exact hmg0
    obtain ⟨fd, hb, hF⟩ := DL.H22.facts (P := PySem.Challenge.pw_wellsnails_k22_examples_of_the_document) (w := w) KX G hmg c
    refine ⟨K, fd, _, KX, hb, fun H a ns hl hS => ?_, hF⟩
    rw [show He.ga K "Snail" = DL.cSn from of_decide_eq_true (c.ck 174)]
    rw [show He.ga K "Well" = DL.cWn from of_decide_eq_true (c.ck 175)]
    exact DL.law_sp (g := DL.F_law DL.cSn DL.cWn) DL.law_holds H a ns hl hS
