import PyProof.Rows.All
import Wide.All
import OpenK.AllK
import Wide.FinOn
import HandS.ForMost
import HandS.Walk
import HandS.Style
import HandS.Deep
import HandS.IsInst
import HandS.More
import KE.GoesMore
import HandS.SetFor
import HandS.NoneIn
import HandS.Flt
import PySem.Challenge.RW_looseshelf_k09_whole_rules_beside_one_an
set_option Elab.async false
set_option linter.all false
set_option maxRecDepth 100000
namespace Dq
open PySem L2

/-! ### deep data: a value with all that it leads to; adr: an object that may change, told by the store -/
inductive D where
  | non | bl (b : Bool) | int (i : Int) | str (x : Str) | ty (n : String) | adr (a : Addr)
  | list (xs : List D) | tuple (xs : List D) | seq (xs : List D) | tseq (xs : List D) | dict (kvs : List (Key × D))
inductive MO where
  | lst (xs : List D) | dK (kvs : List (Key × D)) | dT (kvs : List (List Key × D)) | ins (C : Addr) (fs : List (Str × D)) | any (P : List D → Prop)
abbrev Env := List (Option D)
abbrev Mu := Addr → Option MO
def ups (m : Mu) (p : Addr) (o : MO) : Mu := fun a => if a = p then some o else m a
def del (m : Mu) (p : Addr) : Mu := fun a => if a = p then none else m a
theorem ups_same {m : Mu} {p : Addr} {o : MO} : ups m p o p = some o := if_pos rfl
theorem ups_ne {m : Mu} {a p : Addr} {o : MO} (h : a ≠ p) : ups m p o a = m a := if_neg h
theorem ups_ups {m : Mu} {p : Addr} {o u : MO} : ups (ups m p o) p u = ups m p u := by
  funext a
  unfold ups
  by_cases h : a = p
  · rw [if_pos h, if_pos h]
  · rw [if_neg h, if_neg h, if_neg h]
theorem del_ups {m : Mu} {p : Addr} {o : MO} (h : m p = none) : del (ups m p o) p = m := by
  funext a
  unfold del ups
  by_cases e : a = p
  · rw [if_pos e, e, h]
  · rw [if_neg e, if_neg e]
def hide (F H : Hp) (m : Mu) : Hp := fun a => match m a, F a with | none, none => H a | _, _ => none

/-! ### what stays of a heap -/
structure Ext (H H' : Hp) : Prop where
  lst : ∀ a vs, H a = some (.lst vs) → H' a = some (.lst vs)
  tup : ∀ a vs, H a = some (.tup vs) → H' a = some (.tup vs)
  rl : ∀ a vs, Rd H a (.lst vs) → Rd H' a (.lst vs)
  rt : ∀ a vs, Rd H a (.tup vs) → Rd H' a (.tup vs)
  dk : ∀ a vs, Rd H a (.dK vs) → Rd H' a (.dK vs)
  dt : ∀ a vs, Rd H a (.dT vs) → Rd H' a (.dT vs)
theorem Ext.refl {H : Hp} : Ext H H := ⟨fun _ _ h => h, fun _ _ h => h, fun _ _ h => h, fun _ _ h => h, fun _ _ h => h, fun _ _ h => h⟩
theorem Ext.trans {H H1 H2 : Hp} (a : Ext H H1) (b : Ext H1 H2) : Ext H H2 :=
  ⟨fun p v h => b.lst p v (a.lst p v h), fun p v h => b.tup p v (a.tup p v h), fun p v h => b.rl p v (a.rl p v h), fun p v h => b.rt p v (a.rt p v h), fun p v h => b.dk p v (a.dk p v h), fun p v h => b.dt p v (a.dt p v h)⟩
theorem rd_same {H H' : Hp} (e : ∀ a o, H a = some o → H' a = some o) {a : Addr} {u : HO} (h : Rd H a u) : Rd H' a u := by
  rcases h with h | ⟨o, h⟩
  · exact .inl (e _ _ h)
  · exact .inr ⟨o, e _ _ h⟩
theorem Ext.same {H H' : Hp} (e : ∀ a o, H a = some o → H' a = some o) : Ext H H' :=
  ⟨fun p _ h => e p _ h, fun p _ h => e p _ h, fun _ _ h => rd_same e h, fun _ _ h => rd_same e h, fun _ _ h => rd_same e h, fun _ _ h => rd_same e h⟩
theorem Ext.sql {K : PySem.W.Frag} {H H' : Hp} (e : Ext H H') {a : Addr} {xs : List V} (h : SqL K H a xs) : SqL K H' a xs := h.elim (fun z => .inl (e.rl _ _ z)) .inr
theorem Ext.sqt {K : PySem.W.Frag} {H H' : Hp} (e : Ext H H') {a : Addr} {xs : List V} (h : SqT K H a xs) : SqT K H' a xs := h.elim (fun z => .inl (e.rt _ _ z)) .inr

/-! ### a value stands for deep data -/
mutual
inductive Rep (K : PySem.W.Frag) (H : Hp) : V → D → Prop
  | non : Rep K H .non .non
  | bl (b : Bool) : Rep K H (.bl b) (.bl b)
  | int (i : Int) : Rep K H (.int i) (.int i)
  | str (x : Str) : Rep K H (.str x) (.str x)
  | ty (n : String) : Rep K H (.ty n) (.ty n)
  | adr (a : Addr) : Rep K H (.ref a) (.adr a)
  | list {a : Addr} {vs : List V} {ds : List D} : H a = some (.lst vs) → Reps K H vs ds → Rep K H (.ref a) (.list ds)
  | tuple {a : Addr} {vs : List V} {ds : List D} : H a = some (.tup vs) → Reps K H vs ds → Rep K H (.ref a) (.tuple ds)
  | seq {a : Addr} {vs : List V} {ds : List D} : SqL K H a vs → Reps K H vs ds → Rep K H (.ref a) (.seq ds)
  | tseq {a : Addr} {vs : List V} {ds : List D} : SqT K H a vs → Reps K H vs ds → Rep K H (.ref a) (.tseq ds)
  | dict {a : Addr} {kvs : List (Key × V)} {ks : List (Key × D)} : Rd H a (.dK kvs) → RepK K H kvs ks → Rep K H (.ref a) (.dict ks)
inductive Reps (K : PySem.W.Frag) (H : Hp) : List V → List D → Prop
  | nil : Reps K H [] []
  | cons {v : V} {vs : List V} {d : D} {ds : List D} : Rep K H v d → Reps K H vs ds → Reps K H (v :: vs) (d :: ds)
inductive RepK (K : PySem.W.Frag) (H : Hp) : List (Key × V) → List (Key × D) → Prop
  | nil : RepK K H [] []
  | cons {k : Key} {v : V} {vs : List (Key × V)} {d : D} {ds : List (Key × D)} : Rep K H v d → RepK K H vs ds → RepK K H ((k, v) :: vs) ((k, d) :: ds)
end
section
variable {K : PySem.W.Frag} {H H' : Hp}
mutual
theorem Rep.mono (e : Ext H H') : ∀ {v : V} {d : D}, Rep K H v d → Rep K H' v d
  | _, _, .non => .non
  | _, _, .bl b => .bl b
  | _, _, .int i => .int i
  | _, _, .str x => .str x
  | _, _, .ty n => .ty n
  | _, _, .adr a => .adr a
  | _, _, .list h r => .list (e.lst _ _ h) (Reps.mono e r)
  | _, _, .tuple h r => .tuple (e.tup _ _ h) (Reps.mono e r)
  | _, _, .seq h r => .seq (e.sql h) (Reps.mono e r)
  | _, _, .tseq h r => .tseq (e.sqt h) (Reps.mono e r)
  | _, _, .dict h r => .dict (e.dk _ _ h) (RepK.mono e r)
theorem Reps.mono (e : Ext H H') : ∀ {vs : List V} {ds : List D}, Reps K H vs ds → Reps K H' vs ds
  | _, _, .nil => .nil
  | _, _, .cons r t => .cons (Rep.mono e r) (Reps.mono e t)
theorem RepK.mono (e : Ext H H') : ∀ {vs : List (Key × V)} {ds : List (Key × D)}, RepK K H vs ds → RepK K H' vs ds
  | _, _, .nil => .nil
  | _, _, .cons r t => .cons (Rep.mono e r) (RepK.mono e t)
end
theorem Reps.length : ∀ {vs : List V} {ds : List D}, Reps K H vs ds → vs.length = ds.length
  | _, _, .nil => rfl
  | _, _, .cons _ t => by rw [List.length_cons, List.length_cons, t.length]
theorem Reps.get : ∀ {vs : List V} {ds : List D} {i : Nat} {d : D}, Reps K H vs ds → ds[i]? = some d → ∃ v, vs[i]? = some v ∧ Rep K H v d
  | _, _, _, _, .nil, e => by simp at e
  | _, _, 0, _, .cons r _, e => by simp at e; subst e; exact ⟨_, rfl, r⟩
  | _, _, i + 1, x, .cons _ t, e => by
    obtain ⟨u, h1, h2⟩ := Reps.get (i := i) (d := x) t (by simpa using e)
    exact ⟨u, by simpa using h1, h2⟩
theorem Reps.get' : ∀ {vs : List V} {ds : List D} {i : Nat} {v : V}, Reps K H vs ds → vs[i]? = some v → ∃ d, ds[i]? = some d ∧ Rep K H v d
  | _, _, _, _, .nil, e => by simp at e
  | _, _, 0, _, .cons r _, e => by simp at e; subst e; exact ⟨_, rfl, r⟩
  | _, _, i + 1, x, .cons _ t, e => by
    obtain ⟨u, h1, h2⟩ := Reps.get' (i := i) (v := x) t (by simpa using e)
    exact ⟨u, by simpa using h1, h2⟩
theorem Reps.append : ∀ {xs ys : List V} {us ws : List D}, Reps K H xs us → Reps K H ys ws → Reps K H (xs ++ ys) (us ++ ws)
  | _, _, _, _, .nil, s => s
  | _, _, _, _, .cons r t, s => .cons r (Reps.append t s)
theorem Reps.one {v : V} {d : D} (r : Rep K H v d) : Reps K H [v] [d] := .cons r .nil
theorem Reps.take : ∀ {xs : List V} {us : List D} (n : Nat), Reps K H xs us → Reps K H (xs.take n) (us.take n)
  | _, _, 0, _ => .nil
  | _, _, _ + 1, .nil => .nil
  | _, _, n + 1, .cons r t => .cons r (Reps.take n t)
theorem Reps.drop : ∀ {xs : List V} {us : List D} (n : Nat), Reps K H xs us → Reps K H (xs.drop n) (us.drop n)
  | _, _, 0, r => r
  | _, _, _ + 1, .nil => .nil
  | _, _, n + 1, .cons _ t => Reps.drop n t
theorem Reps.set {x : V} {u : D} (r : Rep K H x u) : ∀ {xs : List V} {us : List D} (i : Nat), Reps K H xs us → Reps K H (xs.set i x) (us.set i u)
  | _, _, _, .nil => .nil
  | _, _, 0, .cons _ t => .cons r t
  | _, _, i + 1, .cons q t => .cons q (Reps.set r i t)
theorem Reps.erase : ∀ {xs : List V} {us : List D} (i : Nat), Reps K H xs us → Reps K H (xs.eraseIdx i) (us.eraseIdx i)
  | _, _, _, .nil => .nil
  | _, _, 0, .cons _ t => t
  | _, _, i + 1, .cons q t => .cons q (Reps.erase i t)
theorem Reps.inv1 {vs : List V} {d : D} (r : Reps K H vs [d]) : ∃ v, vs = [v] ∧ Rep K H v d := by
  cases r with
  | cons r t => cases t; exact ⟨_, rfl, r⟩
theorem Reps.inv2 {vs : List V} {d e : D} (r : Reps K H vs [d, e]) : ∃ v u, vs = [v, u] ∧ Rep K H v d ∧ Rep K H u e := by
  cases r with
  | cons r t =>
    cases t with
    | cons r2 t => cases t; exact ⟨_, _, rfl, r, r2⟩
end

/-! ### the store stands in the heap -/
def MOk (K : PySem.W.Frag) (H Hh : Hp) (p : Addr) : MO → Prop
  | .lst xs => ∃ vs, H p = some (.lst vs) ∧ Reps K Hh vs xs
  | .dK ks => ∃ kvs, H p = some (.dK kvs) ∧ RepK K Hh kvs ks
  | .dT ks => ∃ kvs, H p = some (.dT kvs) ∧ Paired (fun (a : List Key × V) (b : List Key × D) => a.1 = b.1 ∧ Rep K Hh a.2 b.2) kvs ks
  | .ins C fs => ∃ dx fvs, H p = some (.ins C dx fvs) ∧ Paired (fun (a : Str × V) (b : Str × D) => a.1 = b.1 ∧ Rep K Hh a.2 b.2) fvs fs
  | .any P => ∃ vs ds, H p = some (.lst vs) ∧ Reps K Hh vs ds ∧ P ds
/-- F: what stands apart, read by nobody here, and stays -/
structure Stt (K : PySem.W.Frag) (F H : Hp) (m : Mu) : Prop where
  fr : ∀ p o, F p = some o → H p = some o ∧ m p = none
  ok : ∀ p o, m p = some o → MOk K H (hide F H m) p o
theorem MOk.there {K : PySem.W.Frag} {H Hh : Hp} {p : Addr} {o : MO} (h : MOk K H Hh p o) : ∃ u, H p = some u := by
  cases o with
  | lst xs => obtain ⟨_, e, _⟩ := h; exact ⟨_, e⟩
  | dK xs => obtain ⟨_, e, _⟩ := h; exact ⟨_, e⟩
  | dT xs => obtain ⟨_, e, _⟩ := h; exact ⟨_, e⟩
  | ins C xs => obtain ⟨_, _, e, _⟩ := h; exact ⟨_, e⟩
  | any P => obtain ⟨_, _, e, _⟩ := h; exact ⟨_, e⟩
theorem Paired.monoR {α β : Type} {F G : α → β → Prop} : ∀ {l1 : List α} {l2 : List β}, Paired F l1 l2 → (∀ a b, F a b → G a b) → Paired G l1 l2
  | _, _, .nil, _ => .nil
  | _, _, .cons r t, f => .cons (f _ _ r) (Paired.monoR t f)
theorem MOk.mono {K : PySem.W.Frag} {H H' Hh Hh' : Hp} {p : Addr} {o : MO} (h : MOk K H Hh p o) (e : H' p = H p) (x : Ext Hh Hh') : MOk K H' Hh' p o := by
  cases o with
  | lst xs => obtain ⟨_, q, r⟩ := h; exact ⟨_, e.trans q, r.mono x⟩
  | dK xs => obtain ⟨_, q, r⟩ := h; exact ⟨_, e.trans q, r.mono x⟩
  | dT xs => obtain ⟨_, q, r⟩ := h; exact ⟨_, e.trans q, Paired.monoR r fun _ _ z => ⟨z.1, z.2.mono x⟩⟩
  | ins C xs => obtain ⟨_, _, q, r⟩ := h; exact ⟨_, _, e.trans q, Paired.monoR r fun _ _ z => ⟨z.1, z.2.mono x⟩⟩
  | any P => obtain ⟨_, _, q, r, k⟩ := h; exact ⟨_, _, e.trans q, r.mono x, k⟩
section
variable {K : PySem.W.Frag} {F H H' : Hp} {m : Mu} {p : Addr} {o : HO}
theorem Stt.free (s : Stt K F H m) (h : H p = none) : m p = none := by
  cases e : m p with
  | none => rfl
  | some u =>
    obtain ⟨w, q⟩ := (s.ok p u e).there
    rw [h] at q
    cases q
theorem Stt.freeF (s : Stt K F H m) (h : H p = none) : F p = none := by
  cases e : F p with
  | none => rfl
  | some u =>
    have q := (s.fr p u e).1
    rw [h] at q
    cases q
theorem hide_le {a : Addr} {u : HO} (h : hide F H m a = some u) : H a = some u := by
  unfold hide at h
  split at h
  · exact h
  · cases h
theorem hide_un {a : Addr} {u : HO} (h : hide F H m a = some u) : m a = none ∧ F a = none := by
  unfold hide at h
  split at h
  · rename_i h1 h2
    exact ⟨h1, h2⟩
  · cases h
theorem hide_at {a : Addr} (h : m a = none) (h2 : F a = none) : hide F H m a = H a := by
  unfold hide
  rw [h, h2]
theorem Ext.unhide : Ext (hide F H m) H := Ext.same fun _ _ h => hide_le h
/-- a new object -/
theorem Ext.new (s : Stt K F H m) (h : H p = none) : Ext (hide F H m) (hide F (upd H p o) m) := Ext.same fun a u e => by
  have e1 := hide_le e
  rw [hide_at (hide_un e).1 (hide_un e).2, upd_ne (ne_of_none e1 h)]
  exact e1
theorem Stt.new (s : Stt K F H m) (h : H p = none) : Stt K F (upd H p o) m := by
  refine ⟨fun q u e => ?_, fun q u e => ?_⟩
  · obtain ⟨h1, h2⟩ := s.fr q u e
    exact ⟨by rw [upd_ne (ne_of_none h1 h)]; exact h1, h2⟩
  · obtain ⟨w, z⟩ := (s.ok q u e).there
    exact (s.ok q u e).mono (upd_ne (ne_of_none z h)) (Ext.new s h)
/-- a new object that the store is to know -/
theorem Ext.newM {w : MO} (s : Stt K F H m) (h : H p = none) : Ext (hide F H m) (hide F (upd H p o) (ups m p w)) := Ext.same fun a u e => by
  have e1 := hide_le e
  have ne := ne_of_none e1 h
  rw [hide_at (by rw [ups_ne ne]; exact (hide_un e).1) (hide_un e).2, upd_ne ne]
  exact e1
theorem Stt.newM {w : MO} (s : Stt K F H m) (h : H p = none) (k : MOk K (upd H p o) (hide F (upd H p o) (ups m p w)) p w) : Stt K F (upd H p o) (ups m p w) := by
  refine ⟨fun q u e => ?_, fun q u e => ?_⟩
  · obtain ⟨h1, h2⟩ := s.fr q u e
    exact ⟨by rw [upd_ne (ne_of_none h1 h)]; exact h1, by rw [ups_ne (ne_of_none h1 h)]; exact h2⟩
  · by_cases hq : q = p
    · subst hq
      rw [ups_same] at e
      cases e
      exact k
    · rw [ups_ne hq] at e
      obtain ⟨v, z⟩ := (s.ok q u e).there
      exact (s.ok q u e).mono (upd_ne (ne_of_none z h)) (Ext.newM s h)
/-- an object of the store is changed -/
theorem hide_chg {w w' : MO} (h : m p = some w) : hide F (upd H p o) (ups m p w') = hide F H m := by
  funext a
  unfold hide
  by_cases e : a = p
  · subst e
    rw [ups_same, h]
  · rw [ups_ne e, upd_ne e]
theorem Stt.chg {w w' : MO} (s : Stt K F H m) (h : m p = some w) (k : MOk K (upd H p o) (hide F H m) p w') : Stt K F (upd H p o) (ups m p w') := by
  refine ⟨fun q u e => ?_, fun q u e => ?_⟩
  · obtain ⟨h1, h2⟩ := s.fr q u e
    have ne : q ≠ p := by
      rintro rfl
      rw [h] at h2
      cases h2
    exact ⟨by rw [upd_ne ne]; exact h1, by rw [ups_ne ne]; exact h2⟩
  · rw [hide_chg h]
    by_cases hq : q = p
    · subst hq
      rw [ups_same] at e
      cases e
      exact k
    · rw [ups_ne hq] at e
      exact (s.ok q u e).mono (upd_ne hq) Ext.refl
/-- an object leaves the store -/
theorem Ext.del : Ext (hide F H m) (hide F H (del m p)) := Ext.same fun a u e => by
  have e1 := hide_le e
  rw [hide_at _ (hide_un e).2]
  · exact e1
  · unfold Dq.del
    split
    · rfl
    · exact (hide_un e).1
theorem Stt.del (s : Stt K F H m) : Stt K F H (del m p) := by
  refine ⟨fun q u e => ⟨(s.fr q u e).1, ?_⟩, fun q u e => ?_⟩
  · unfold Dq.del
    split
    · rfl
    · exact (s.fr q u e).2
  · unfold Dq.del at e
    split at e
    · cases e
    · exact (s.ok q u e).mono rfl Ext.del
/-- an object is set apart: it stands in H, is known to nobody -/
theorem hide_apart (h : F p = none) : ∀ a, a ≠ p → hide (upd F p o) H m a = hide F H m a := fun a ne => by
  unfold hide
  rw [upd_ne ne]
end

/-! ### the frame -/
def RepS (K : PySem.W.Frag) (H : Hp) (σ : L2.St) (env : Env) : Prop := env.length = σ.length ∧ ∀ (i : Nat) (d : D), env[i]? = some (some d) → ∃ v, σ[i]? = some (some v) ∧ Rep K H v d
theorem RepS.mono {K : PySem.W.Frag} {H H' : Hp} {σ : L2.St} {env : Env} (e : Ext H H') (r : RepS K H σ env) : RepS K H' σ env :=
  ⟨r.1, fun i d h => let ⟨v, h1, h2⟩ := r.2 i d h; ⟨v, h1, h2.mono e⟩⟩
theorem RepS.set {K : PySem.W.Frag} {H : Hp} {σ : L2.St} {env : Env} {i : Nat} {v : V} {d : D} (r : RepS K H σ env) (q : Rep K H v d) : RepS K H (σ.set i (some v)) (env.set i (some d)) := by
  refine ⟨by rw [List.length_set, List.length_set]; exact r.1, fun j e h => ?_⟩
  rw [List.getElem?_set] at h
  rw [List.getElem?_set]
  by_cases hij : i = j
  · subst hij
    rw [if_pos rfl] at h
    split at h
    · rename_i hl
      rw [if_pos rfl, if_pos (r.1 ▸ hl)]
      cases h
      exact ⟨v, rfl, q⟩
    · cases h
  · rw [if_neg hij] at h
    rw [if_neg hij]
    exact r.2 j e h
/-- slots may be forgotten, and told anew by what stands for the same value -/
theorem RepS.put {K : PySem.W.Frag} {H : Hp} {σ : L2.St} {env : Env} {i : Nat} {d d' : D} (r : RepS K H σ env) (h : env[i]? = some (some d)) (q : ∀ v, Rep K H v d → Rep K H v d') : RepS K H σ (env.set i (some d')) := by
  refine ⟨by rw [List.length_set]; exact r.1, fun j e h' => ?_⟩
  rw [List.getElem?_set] at h'
  by_cases hij : i = j
  · subst hij
    rw [if_pos rfl] at h'
    split at h'
    · cases h'
      obtain ⟨v, h1, h2⟩ := r.2 i d h
      exact ⟨v, h1, q v h2⟩
    · cases h'
  · rw [if_neg hij] at h'
    exact r.2 j e h'
end Dq

namespace Dq
open PySem L2

/-! ### deep readings -/
abbrev dE := Env → Mu → (D → Mu → Prop) → Prop
abbrev dT := Env → Mu → (Bool → Mu → Prop) → Prop
abbrev dA := Env → Mu → (List D → Mu → Prop) → Prop
structure dEnds where
  nx : Env → Mu → Prop
  rt : D → Mu → Prop
  bk : Env → Mu → Prop := fun _ _ => False
  ct : Env → Mu → Prop := fun _ _ => False
abbrev dS := dEnds → Env → Mu → Prop
structure Ok (K : PySem.W.Frag) (F H : Hp) (σ : L2.St) (env : Env) (m : Mu) : Prop where
  st : Stt K F H m
  fr : RepS K (hide F H m) σ env
/-- what is wanted of a value, behind H and m -/
def Pst (K : PySem.W.Frag) (F H : Hp) (m : Mu) (Q : D → Mu → Prop) (R : VK) : Prop :=
  ∀ v H' d m', Ext (hide F H m) (hide F H' m') → Stt K F H' m' → Rep K (hide F H' m') v d → Q d m' → R v H'
def PstB (K : PySem.W.Frag) (F H : Hp) (m : Mu) (Q : Bool → Mu → Prop) (R : Bool → Hp → Prop) : Prop :=
  ∀ v H' m', Ext (hide F H m) (hide F H' m') → Stt K F H' m' → Q v m' → R v H'
def PstA (K : PySem.W.Frag) (F H : Hp) (m : Mu) (Q : List D → Mu → Prop) (R : List V → Hp → Prop) : Prop :=
  ∀ vs H' ds m', Ext (hide F H m) (hide F H' m') → Stt K F H' m' → Reps K (hide F H' m') vs ds → Q ds m' → R vs H'
def PstX (K : PySem.W.Frag) (F H : Hp) (m : Mu) (Q : Env → Mu → Prop) (R : L2.St → Hp → Prop) : Prop :=
  ∀ σ' H' env' m', Ext (hide F H m) (hide F H' m') → Ok K F H' σ' env' m' → Q env' m' → R σ' H'
structure PstS (K : PySem.W.Frag) (F H : Hp) (m : Mu) (DD : dEnds) (RR : Ends) : Prop where
  nx : PstX K F H m DD.nx RR.nx
  rt : Pst K F H m DD.rt RR.rt
  bk : PstX K F H m DD.bk RR.bk
  ct : PstX K F H m DD.ct RR.ct
section
variable {K : PySem.W.Frag} {F H H1 : Hp} {m m1 : Mu}
theorem Pst.at {Q : D → Mu → Prop} {R : VK} (p : Pst K F H m Q R) (e : Ext (hide F H m) (hide F H1 m1)) : Pst K F H1 m1 Q R := fun v H' d m' e' s r q => p v H' d m' (e.trans e') s r q
theorem PstB.at {Q : Bool → Mu → Prop} {R : Bool → Hp → Prop} (p : PstB K F H m Q R) (e : Ext (hide F H m) (hide F H1 m1)) : PstB K F H1 m1 Q R := fun v H' m' e' s q => p v H' m' (e.trans e') s q
theorem PstA.at {Q : List D → Mu → Prop} {R : List V → Hp → Prop} (p : PstA K F H m Q R) (e : Ext (hide F H m) (hide F H1 m1)) : PstA K F H1 m1 Q R := fun v H' d m' e' s r q => p v H' d m' (e.trans e') s r q
theorem PstX.at {Q : Env → Mu → Prop} {R : L2.St → Hp → Prop} (p : PstX K F H m Q R) (e : Ext (hide F H m) (hide F H1 m1)) : PstX K F H1 m1 Q R := fun v H' d m' e' s q => p v H' d m' (e.trans e') s q
theorem PstS.at {DD : dEnds} {RR : Ends} (p : PstS K F H m DD RR) (e : Ext (hide F H m) (hide F H1 m1)) : PstS K F H1 m1 DD RR := ⟨p.nx.at e, p.rt.at e, p.bk.at e, p.ct.at e⟩
theorem Ok.at {σ : L2.St} {env : Env} (o : Ok K F H σ env m) (s : Stt K F H1 m1) (e : Ext (hide F H m) (hide F H1 m1)) : Ok K F H1 σ env m1 := ⟨s, o.fr.mono e⟩
theorem Pst.here {Q : D → Mu → Prop} {R : VK} (p : Pst K F H m Q R) (s : Stt K F H m) {v : V} {d : D} (r : Rep K (hide F H m) v d) (q : Q d m) : R v H := p v H d m Ext.refl s r q
/-- a new list as data -/
theorem Pst.newL {Q : D → Mu → Prop} {R : VK} (p : Pst K F H m Q R) (s : Stt K F H m) {vs : List V} {ds : List D} (r : Reps K (hide F H m) vs ds) (q : Q (.list ds) m) (a : Addr) (h : H a = none) : R (.ref a) (upd H a (.lst vs)) :=
  p _ _ _ m (Ext.new s h) (s.new h) (.list (by rw [hide_at (s.free h) (s.freeF h), upd_same]) (r.mono (Ext.new s h))) q
theorem Pst.newT {Q : D → Mu → Prop} {R : VK} (p : Pst K F H m Q R) (s : Stt K F H m) {vs : List V} {ds : List D} (r : Reps K (hide F H m) vs ds) (q : Q (.tuple ds) m) (a : Addr) (h : H a = none) : R (.ref a) (upd H a (.tup vs)) :=
  p _ _ _ m (Ext.new s h) (s.new h) (.tuple (by rw [hide_at (s.free h) (s.freeF h), upd_same]) (r.mono (Ext.new s h))) q
/-- a new list that may change -/
theorem Pst.newM {Q : D → Mu → Prop} {R : VK} (p : Pst K F H m Q R) (s : Stt K F H m) {vs : List V} {ds : List D} (r : Reps K (hide F H m) vs ds) (q : ∀ a, m a = none → Q (.adr a) (ups m a (.lst ds))) (a : Addr) (h : H a = none) : R (.ref a) (upd H a (.lst vs)) :=
  p _ _ _ _ (Ext.newM s h) (s.newM h (show MOk K _ _ a (.lst ds) from ⟨vs, upd_same, r.mono (Ext.newM s h)⟩)) (.adr a) (q a (s.free h))
end
/-- a new list: data (false), or one that may change (true) -/
def mkL (b : Bool) (ds : List D) (m : Mu) (Q : D → Mu → Prop) : Prop := match b with
  | false => Q (.list ds) m
  | true => ∀ a, m a = none → Q (.adr a) (ups m a (.lst ds))
theorem mkL_f {ds : List D} {m : Mu} {Q : D → Mu → Prop} : mkL false ds m Q = Q (.list ds) m := rfl
theorem mkL_t {ds : List D} {m : Mu} {Q : D → Mu → Prop} : mkL true ds m Q = ∀ a, m a = none → Q (.adr a) (ups m a (.lst ds)) := rfl
theorem Pst.newB {K : PySem.W.Frag} {F H : Hp} {m : Mu} {Q : D → Mu → Prop} {R : VK} (b : Bool) (p : Pst K F H m Q R) (s : Stt K F H m) {vs : List V} {ds : List D} (r : Reps K (hide F H m) vs ds) (q : mkL b ds m Q) (a : Addr) (h : H a = none) : R (.ref a) (upd H a (.lst vs)) := by
  cases b with
  | false => exact p.newL s r q a h
  | true => exact p.newM s r q a h

def WE (K : PySem.W.Frag) (te : TE) (t : dE) : Prop := ∀ F env m Q σ H R, t env m Q → Ok K F H σ env m → Pst K F H m Q R → te σ H R
def WT (K : PySem.W.Frag) (te : TT) (t : dT) : Prop := ∀ F env m Q σ H R, t env m Q → Ok K F H σ env m → PstB K F H m Q R → te σ H R
def WA (K : PySem.W.Frag) (te : TA) (t : dA) : Prop := ∀ F env m Q σ H R, t env m Q → Ok K F H σ env m → PstA K F H m Q R → te σ H R
def WS (K : PySem.W.Frag) (ts : TS) (t : dS) : Prop := ∀ F DD env m σ H RR, t DD env m → Ok K F H σ env m → PstS K F H m DD RR → ts RR σ H
structure DE (K : PySem.W.Frag) (X : Cx) (e : Expr) (te : TE) (t : dE) : Prop where
  p : PE X e te
  w : WE K te t
structure DT (K : PySem.W.Frag) (X : Cx) (e : Expr) (te : TT) (t : dT) : Prop where
  p : PT X e te
  w : WT K te t
structure DW (K : PySem.W.Frag) (X : Cx) (e : Expr) (te : TT) (t : dT) : Prop where
  p : PW X e te
  w : WT K te t
structure DA (K : PySem.W.Frag) (X : Cx) (es : List Expr) (te : TA) (t : dA) : Prop where
  p : PA X es te
  w : WA K te t
structure DS (K : PySem.W.Frag) (X : Cx) (st : Stmt) (ts : TS) (t : dS) : Prop where
  p : PS X st ts
  w : WS K ts t
structure DSs (K : PySem.W.Frag) (X : Cx) (st : List Stmt) (ts : TS) (t : dS) : Prop where
  p : PSs X st ts
  w : WS K ts t

/-! ### values -/
def dC (d : D) : dE := fun _ m Q => Q d m
def dVar (i : Nat) : dE := fun env m Q => ∃ d, env[i]? = some (some d) ∧ Q d m
theorem WE.c {K : PySem.W.Frag} {v : V} {d : D} (r : ∀ H, Rep K H v d) : WE K (tC v) (dC d) := fun _ _ _ _ _ _ _ q o p => p.here o.st (r _) q
section
variable {K : PySem.W.Frag} {X : Cx} {pos : Pos}
theorem d_int {i : Int} {j : Nat} : DE K X (.Constant (.int i) j pos) (tC (.int i)) (dC (.int i)) := ⟨pe_int, .c fun _ => .int i⟩
theorem d_bl {i : Bool} {j : Nat} : DE K X (.Constant (.bool i) j pos) (tC (.bl i)) (dC (.bl i)) := ⟨pe_bl, .c fun _ => .bl i⟩
theorem d_non {j : Nat} : DE K X (.Constant .none j pos) (tC .non) (dC .non) := ⟨pe_non, .c fun _ => .non⟩
theorem d_str {i : Str} {j : Nat} : DE K X (.Constant (.str i) j pos) (tC (.str i)) (dC (.str i)) := ⟨pe_str, .c fun _ => .str i⟩
theorem d_v (i : Nat) {x : Str} (hN : X.N[i]? = some x := by rfl) (hv : Vis X.env.scope x := by first | exact Or.inl rfl | exact Or.inr (Or.inl rfl) | exact Or.inr (Or.inr rfl)) (hd : (x == ("__debug__" : Str)) = false := by decide)
    (hcd : (x == ("__classdict__" : Str)) = false := by decide) : DE K X (.Name x pos) (tVar i) (dVar i) := ⟨pv i hN hv hd hcd, fun F env m Q σ H R q o p => by
  obtain ⟨d, h, q⟩ := q
  obtain ⟨v, e, r⟩ := o.fr.2 i d h
  exact ⟨v, e, p.here o.st r q⟩⟩
/-- a constant of the module -/
structure GlobC (K : PySem.W.Frag) (mg : Str → Option Value) (x : Str) (v : V) (d : D) : Prop where
  ex : ∃ u, mg x = some u ∧ RelV v u ∧ ∀ H, Rep K H v d
theorem d_glob {x : Str} {v : V} {d : D} (hm : GlobC K X.mg x v d) (hg : Gl X x := by rfl) (hd : (x == ("__debug__" : Str)) = false := by decide) : DE K X (.Name x pos) (tC v) (dC d) := by
  obtain ⟨u, h1, h2, h3⟩ := hm
  exact ⟨pe_glob hg h1 h2 hd, .c h3⟩
end

/-! ### operators -/
def OpD (K : PySem.W.Frag) (r : R2) (rd : D → D → Mu → (D → Mu → Prop) → Prop) : Prop :=
  ∀ F H m x y v u Q R, rd x y m Q → Stt K F H m → Rep K (hide F H m) v x → Rep K (hide F H m) u y → Pst K F H m Q R → r v u H R
def dOp (rd : D → D → Mu → (D → Mu → Prop) → Prop) (ta tb : dE) : dE := fun env m Q => ta env m fun x m1 => tb env m1 fun y m2 => rd x y m2 Q
theorem WE.op {K : PySem.W.Frag} {r : R2} {rd : D → D → Mu → (D → Mu → Prop) → Prop} {ta tb : TE} {da db : dE} (h : OpD K r rd) (ha : WE K ta da) (hb : WE K tb db) : WE K (tOp r ta tb) (dOp rd da db) :=
  fun F env m Q σ H R q o p => ha F env m _ σ H _ q o fun v H1 x m1 e1 s1 r1 q1 => hb F env m1 _ σ H1 _ q1 (o.at s1 e1) fun u H2 y m2 e2 s2 r2 q2 => h F H2 m2 x y v u Q R q2 s2 (r1.mono e2) r2 (p.at (e1.trans e2))
/-- what a value is as a list, a tuple -/
def vwL (m : Mu) : D → Option (List D)
  | .list xs => some xs
  | .adr p => match m p with
    | some (.lst xs) => some xs
    | _ => none
  | _ => none
def vwS (m : Mu) : D → Option (List D)
  | .tuple xs => some xs
  | .seq xs => some xs
  | .tseq xs => some xs
  | d => vwL m d
section
variable {K : PySem.W.Frag} {F H : Hp} {m : Mu} {v : V} {d : D} {xs : List D}
theorem vwL_list : vwL m (.list xs) = some xs := rfl
theorem vwL_adr {p : Addr} : vwL m (.adr p) = (match m p with | some (.lst xs) => some xs | _ => none) := rfl
theorem vwS_tuple : vwS m (.tuple xs) = some xs := rfl
theorem vwS_seq : vwS m (.seq xs) = some xs := rfl
theorem vwS_tseq : vwS m (.tseq xs) = some xs := rfl
theorem vwS_list : vwS m (.list xs) = some xs := rfl
theorem vwS_adr {p : Addr} : vwS m (.adr p) = (match m p with | some (.lst xs) => some xs | _ => none) := rfl
theorem lst_of (s : Stt K F H m) (r : Rep K (hide F H m) v d) (h : vwL m d = some xs) : ∃ a vs, v = .ref a ∧ H a = some (.lst vs) ∧ Reps K (hide F H m) vs xs := by
  cases d with
  | list ys =>
    cases h
    cases r with
    | list e r => exact ⟨_, _, rfl, hide_le e, r⟩
  | adr p =>
    cases r
    rw [vwL_adr] at h
    split at h
    · rename_i z hz
      cases h
      obtain ⟨vs, e, r⟩ := s.ok _ _ hz
      exact ⟨_, _, rfl, e, r⟩
    · cases h
  | _ => cases h
theorem sq_of (s : Stt K F H m) (r : Rep K (hide F H m) v d) (h : vwS m d = some xs) : ∃ a vs, v = .ref a ∧ (SqL K H a vs ∨ SqT K H a vs) ∧ Reps K (hide F H m) vs xs := by
  cases d with
  | tuple ys =>
    cases h
    cases r with
    | tuple e r => exact ⟨_, _, rfl, .inr (.of (hide_le e)), r⟩
  | seq ys =>
    cases h
    cases r with
    | seq e r => exact ⟨_, _, rfl, .inl (Ext.unhide.sql e), r⟩
  | tseq ys =>
    cases h
    cases r with
    | tseq e r => exact ⟨_, _, rfl, .inr (Ext.unhide.sqt e), r⟩
  | list ys =>
    obtain ⟨a, vs, h1, h2, h3⟩ := lst_of s r h
    exact ⟨a, vs, h1, .inl (.of h2), h3⟩
  | adr ys =>
    obtain ⟨a, vs, h1, h2, h3⟩ := lst_of s r h
    exact ⟨a, vs, h1, .inl (.of h2), h3⟩
  | _ => cases h
end

/-- + -/
def addD (b : Bool) (x y : D) (m : Mu) (Q : D → Mu → Prop) : Prop := match x with
  | .int i => ∃ j, y = .int j ∧ Q (.int (i + j)) m
  | .str s => ∃ t, y = .str t ∧ s.length + t.length ≤ sizeLine ∧ Q (.str (s ++ t)) m
  | x => ∃ xs ys, vwL m x = some xs ∧ vwL m y = some ys ∧ xs.length + ys.length ≤ sizeLine ∧ mkL b (xs ++ ys) m Q
def rAddAll : R2 := fun x y H Q => rI0 (fun i j => .int (i + j)) x y H Q ∨ rCat x y H Q ∨ (∃ i j, x = .str i ∧ y = .str j ∧ i.length + j.length ≤ sizeLine ∧ Q (.str (i ++ j)) H)
theorem op_addAll {X : Cx} : OpR X (binaryOp .Add) rAddAll := op_add.or (op_cat.or op_add_str)
theorem addD_list {K : PySem.W.Frag} {F H : Hp} {m : Mu} {x y : D} {v u : V} {Q : D → Mu → Prop} {R : VK} {b : Bool} (h : ∃ xs ys, vwL m x = some xs ∧ vwL m y = some ys ∧ xs.length + ys.length ≤ sizeLine ∧ mkL b (xs ++ ys) m Q)
    (s : Stt K F H m) (rx : Rep K (hide F H m) v x) (ry : Rep K (hide F H m) u y) (p : Pst K F H m Q R) : rAddAll v u H R := by
  obtain ⟨xs, ys, hx, hy, hl, q⟩ := h
  obtain ⟨a, vs, rfl, ha, ra⟩ := lst_of s rx hx
  obtain ⟨c, us, rfl, hc, rc⟩ := lst_of s ry hy
  exact .inr (.inl ⟨a, c, vs, us, rfl, rfl, ha, hc, by rw [ra.length, rc.length]; exact hl, fun l hl => p.newB b s (ra.append rc) q l hl⟩)
theorem opd_add {K : PySem.W.Frag} (b : Bool) : OpD K rAddAll (addD b) := fun F H m x y v u Q R q s rx ry p => by
  cases x with
  | int i =>
    obtain ⟨j, rfl, q⟩ := q
    cases rx; cases ry
    exact .inl ⟨_, _, rfl, rfl, p.here s (.int _) q⟩
  | str i =>
    obtain ⟨j, rfl, hl, q⟩ := q
    cases rx; cases ry
    exact .inr (.inr ⟨_, _, rfl, rfl, hl, p.here s (.str _) q⟩)
  | non => exact addD_list q s rx ry p
  | bl _ => exact addD_list q s rx ry p
  | ty _ => exact addD_list q s rx ry p
  | adr _ => exact addD_list q s rx ry p
  | list _ => exact addD_list q s rx ry p
  | tuple _ => exact addD_list q s rx ry p
  | seq _ => exact addD_list q s rx ry p
  | tseq _ => exact addD_list q s rx ry p
  | dict _ => exact addD_list q s rx ry p
section
variable {K : PySem.W.Frag} {X : Cx} {a b c : Expr} {ta tb tc : TE} {da db dc : dE} {pos : Pos}
theorem d_add (k : Bool) (ha : DE K X a ta da) (hb : DE K X b tb db) : DE K X (.BinOp a .Add b pos) (tOp rAddAll ta tb) (dOp (addD k) da db) := by
  obtain ⟨h1, w1⟩ := ha
  obtain ⟨h2, w2⟩ := hb
  exact ⟨pe_op op_addAll h1 h2, .op (opd_add k) w1 w2⟩
/-- two whole numbers -/
def iiD (C : Int → Int → Prop) (g : Int → Int → D) (x y : D) (m : Mu) (Q : D → Mu → Prop) : Prop := ∃ i j, x = .int i ∧ y = .int j ∧ C i j ∧ Q (g i j) m
theorem opd_ii {K : PySem.W.Frag} {C : Int → Int → Prop} {f : Int → Int → V} {g : Int → Int → D} (h : ∀ H i j, Rep K H (f i j) (g i j)) : OpD K (rI C f) (iiD C g) := fun F H m x y v u Q R q s rx ry p => by
  obtain ⟨i, j, rfl, rfl, hc, q⟩ := q
  cases rx; cases ry
  exact ⟨i, j, rfl, rfl, hc, p.here s (h _ i j) q⟩
theorem d_sub (ha : DE K X a ta da) (hb : DE K X b tb db) : DE K X (.BinOp a .Sub b pos) (tOp (rI (fun _ _ => True) fun i j => .int (i - j)) ta tb) (dOp (iiD (fun _ _ => True) fun i j => .int (i - j)) da db) := by
  obtain ⟨h1, w1⟩ := ha
  obtain ⟨h2, w2⟩ := hb
  refine ⟨pe_op (r := rI (fun _ _ => True) fun i j => .int (i - j)) ?_ h1 h2, .op (opd_ii fun _ i j => .int _) w1 w2⟩
  intro pins s σ H x y v u Q I rx ry ⟨i, j, e1, e2, _, q⟩
  exact op_sub pins s σ H x y v u Q I rx ry ⟨i, j, e1, e2, q⟩
theorem d_fdiv (ha : DE K X a ta da) (hb : DE K X b tb db) : DE K X (.BinOp a .FloorDiv b pos) (tOp (rI CDiv fun i j => .int (i / j)) ta tb) (dOp (iiD CDiv fun i j => .int (i / j)) da db) := by
  obtain ⟨h1, w1⟩ := ha
  obtain ⟨h2, w2⟩ := hb
  exact ⟨pe_op op_fdiv h1 h2, .op (opd_ii fun _ i j => .int _) w1 w2⟩
theorem d_mod (ha : DE K X a ta da) (hb : DE K X b tb db) : DE K X (.BinOp a .Mod b pos) (tOp (rI (fun _ j => 0 < j) fun i j => .int (i % j)) ta tb) (dOp (iiD (fun _ j => 0 < j) fun i j => .int (i % j)) da db) := by
  obtain ⟨h1, w1⟩ := ha
  obtain ⟨h2, w2⟩ := hb
  exact ⟨pe_op op_mod h1 h2, .op (opd_ii fun _ i j => .int _) w1 w2⟩
theorem d_pow (ha : DE K X a ta da) (hb : DE K X b tb db) : DE K X (.BinOp a .Pow b pos) (tOp (rI CPow fun i j => .int (i ^ j.toNat)) ta tb) (dOp (iiD CPow fun i j => .int (i ^ j.toNat)) da db) := by
  obtain ⟨h1, w1⟩ := ha
  obtain ⟨h2, w2⟩ := hb
  exact ⟨pe_op op_pow h1 h2, .op (opd_ii fun _ i j => .int _) w1 w2⟩
/-- *: two whole numbers; a text, a list, so many times -/
def mulD (b : Bool) (x y : D) (m : Mu) (Q : D → Mu → Prop) : Prop := match x with
  | .int i => ∃ j, y = .int j ∧ CMul i j ∧ Q (.int (i * j)) m
  | .str s => ∃ j, y = .int j ∧ MulOk s j ∧ Q (.str (Txt.mul s j)) m
  | x => ∃ xs j, vwL m x = some xs ∧ y = .int j ∧ -(2 ^ 63) ≤ j ∧ j < 2 ^ 63 ∧ xs.length * j.toNat ≤ sizeLine ∧ mkL b (List.replicate j.toNat xs).flatten m Q

def rMulAll : R2 := fun x y H Q => rI CMul (fun i j => .int (i * j)) x y H Q ∨ rRep x y H Q ∨ (∃ i j, x = .str i ∧ y = .int j ∧ MulOk i j ∧ Q (.str (Txt.mul i j)) H)
theorem op_mulStr {X : Cx} : OpR X (binaryOp .Mult) (fun x y H Q => ∃ i j, x = .str i ∧ y = .int j ∧ MulOk i j ∧ Q (.str (Txt.mul i j)) H) := by
  intro pins s σ H x y v u Q I rx ry ⟨i, j, e1, e2, ok, q⟩
  subst e1 e2
  obtain ⟨t, rfl⟩ := rx
  obtain ⟨t', rfl⟩ := ry
  exact SB.mul ok fun t2 k => ⟨.str _, H, I.tok _, ⟨_, rfl⟩, q⟩
theorem op_mulAll {X : Cx} : OpR X (binaryOp .Mult) rMulAll := op_mul.or (op_rep.or op_mulStr)
theorem mulD_list {K : PySem.W.Frag} {F H : Hp} {m : Mu} {x y : D} {v u : V} {Q : D → Mu → Prop} {R : VK} {b : Bool} (h : ∃ xs j, vwL m x = some xs ∧ y = .int j ∧ -(2 ^ 63) ≤ j ∧ j < 2 ^ 63 ∧ xs.length * j.toNat ≤ sizeLine ∧ mkL b (List.replicate j.toNat xs).flatten m Q)
    (s : Stt K F H m) (rx : Rep K (hide F H m) v x) (ry : Rep K (hide F H m) u y) (p : Pst K F H m Q R) : rMulAll v u H R := by
  obtain ⟨xs, j, hx, rfl, h1, h2, hl, q⟩ := h
  obtain ⟨a, vs, rfl, ha, ra⟩ := lst_of s rx hx
  cases ry
  refine .inr (.inl ⟨a, j, vs, rfl, rfl, ha, h1, h2, by rw [ra.length]; exact hl, fun l hl => p.newB b s ?_ q l hl⟩)
  have all : ∀ n, Reps K (hide F H m) (List.replicate n vs).flatten (List.replicate n xs).flatten := by
    intro n
    induction n with
    | zero => exact .nil
    | succ n ih =>
      rw [List.replicate_succ, List.replicate_succ, List.flatten_cons, List.flatten_cons]
      exact ra.append ih
  exact all _
theorem opd_mul {K : PySem.W.Frag} (b : Bool) : OpD K rMulAll (mulD b) := fun F H m x y v u Q R q s rx ry p => by
  cases x with
  | int i =>
    obtain ⟨j, rfl, hc, q⟩ := q
    cases rx; cases ry
    exact .inl ⟨_, _, rfl, rfl, hc, p.here s (.int _) q⟩
  | str i =>
    obtain ⟨j, rfl, hl, q⟩ := q
    cases rx; cases ry
    exact .inr (.inr ⟨_, _, rfl, rfl, hl, p.here s (.str _) q⟩)
  | non => exact mulD_list q s rx ry p
  | bl _ => exact mulD_list q s rx ry p
  | ty _ => exact mulD_list q s rx ry p
  | adr _ => exact mulD_list q s rx ry p
  | list _ => exact mulD_list q s rx ry p
  | tuple _ => exact mulD_list q s rx ry p
  | seq _ => exact mulD_list q s rx ry p
  | tseq _ => exact mulD_list q s rx ry p
  | dict _ => exact mulD_list q s rx ry p
theorem d_mul (k : Bool) (ha : DE K X a ta da) (hb : DE K X b tb db) : DE K X (.BinOp a .Mult b pos) (tOp rMulAll ta tb) (dOp (mulD k) da db) := by
  obtain ⟨h1, w1⟩ := ha
  obtain ⟨h2, w2⟩ := hb
  exact ⟨pe_op op_mulAll h1 h2, .op (opd_mul k) w1 w2⟩
def negD (te : dE) : dE := fun env m Q => te env m fun d m1 => ∃ i, d = .int i ∧ Q (.int (-i)) m1
theorem d_neg (ha : DE K X a ta da) : DE K X (.UnaryOp .USub a pos) (tUn (rU fun i => .int (-i)) ta) (negD da) := by
  obtain ⟨h1, w1⟩ := ha
  refine ⟨pe_un un_neg h1, fun F env m Q σ H R q o p => w1 F env m _ σ H _ q o fun v H1 d m1 e1 s1 r1 q1 => ?_⟩
  obtain ⟨i, rfl, q⟩ := q1
  cases r1
  exact ⟨i, rfl, p _ _ _ m1 e1 s1 (.int _) q⟩

/-! ### comparisons by an operator's rule -/
theorem d_cmp {op : CmpOp} {r : R2} {rd : D → D → Mu → (D → Mu → Prop) → Prop} (ho : OpR X (compareOp op) r) (hr : OpD K r rd) (ha : DE K X a ta da) (hb : DE K X b tb db) (hm : behindInMarks op b = false) : DE K X (.Compare a [op] [b] pos) (tOp r ta tb) (dOp rd da db) := by
  obtain ⟨h1, w1⟩ := ha
  obtain ⟨h2, w2⟩ := hb
  exact ⟨pe_cmpR ho h1 h2 hm, .op hr w1 w2⟩
def dTest (t : dE) : dT := fun env m Q => t env m fun d m1 => ∃ k, d = .bl k ∧ Q k m1
theorem WT.test {K : PySem.W.Frag} {te : TE} {de : dE} (w : WE K te de) : WT K (tTest te) (dTest de) := fun F env m Q σ H R q o p => w F env m _ σ H _ q o fun v H1 d m1 e1 s1 r1 q1 => by
  obtain ⟨k, rfl, q⟩ := q1
  cases r1
  exact ⟨k, rfl, p _ _ m1 e1 s1 q⟩
theorem t_cmp {op : CmpOp} {r : R2} {rd : D → D → Mu → (D → Mu → Prop) → Prop} (ho : OpR X (compareOp op) r) (hr : OpD K r rd) (ha : DE K X a ta da) (hb : DE K X b tb db) (hm : behindInMarks op b = false) : DT K X (.Compare a [op] [b] pos) (tTest (tOp r ta tb)) (dTest (dOp rd da db)) := by
  obtain ⟨h1, w1⟩ := ha
  obtain ⟨h2, w2⟩ := hb
  exact ⟨pt_cmpR ho h1 h2 hm, .test (.op hr w1 w2)⟩
/-- < <= > >= of whole numbers -/
def cmpD (f : Int → Int → Bool) (x y : D) (m : Mu) (Q : D → Mu → Prop) : Prop := ∃ i j, x = .int i ∧ y = .int j ∧ Q (.bl (f i j)) m
theorem opd_cmp {K : PySem.W.Frag} {f : Int → Int → Bool} : OpD K (rI0 fun i j => .bl (f i j)) (cmpD f) := fun F H m x y v u Q R q s rx ry p => by
  obtain ⟨i, j, rfl, rfl, q⟩ := q
  cases rx; cases ry
  exact ⟨i, j, rfl, rfl, p.here s (.bl _) q⟩
abbrev ltD := cmpD fun i j => decide (i < j)
abbrev leD := cmpD fun i j => decide (i ≤ j)
abbrev gtD := cmpD fun i j => decide (j < i)
abbrev geD := cmpD fun i j => decide (j ≤ i)
theorem o_lt : OpR X (compareOp .Lt) (rI0 fun i j => .bl (decide (i < j))) := op_lt
theorem o_le : OpR X (compareOp .LtE) (rI0 fun i j => .bl (decide (i ≤ j))) := op_le
theorem o_gt : OpR X (compareOp .Gt) (rI0 fun i j => .bl (decide (j < i))) := op_gt
theorem o_ge : OpR X (compareOp .GtE) (rI0 fun i j => .bl (decide (j ≤ i))) := op_ge
def isN : D → Bool
  | .non => true
  | _ => false
theorem rep_non {K : PySem.W.Frag} {H : Hp} {v : V} {d : D} (r : Rep K H v d) : decide (v = .non) = isN d := by
  cases r <;> rfl
/-- is None -/
def isNoneD (t : Bool) (x y : D) (m : Mu) (Q : D → Mu → Prop) : Prop := y = .non ∧ Q (.bl (t == isN x)) m
theorem opd_isN {K : PySem.W.Frag} : OpD K (fun x y H Q => y = .non ∧ Q (.bl (decide (x = .non))) H) (isNoneD true) := fun F H m x y v u Q R q s rx ry p => by
  obtain ⟨rfl, q⟩ := q
  cases ry
  refine ⟨rfl, ?_⟩
  rw [rep_non rx]
  exact p.here s (.bl _) (by simpa using q)
theorem opd_notN {K : PySem.W.Frag} : OpD K (fun x y H Q => y = .non ∧ Q (.bl (!decide (x = .non))) H) (isNoneD false) := fun F H m x y v u Q R q s rx ry p => by
  obtain ⟨rfl, q⟩ := q
  cases ry
  refine ⟨rfl, ?_⟩
  rw [rep_non rx]
  exact p.here s (.bl _) (by simpa using q)
end

/-! ### == and != of data -/
mutual
inductive IsP (m : Mu) : D → PyData → Prop
  | non : IsP m .non .none
  | bl (b : Bool) : IsP m (.bl b) (.bool b)
  | int (i : Int) : IsP m (.int i) (.int i)
  | str (x : Str) : IsP m (.str x) (.str x)
  | list {xs : List D} {ds : List PyData} : IsPs m xs ds → IsP m (.list xs) (.list ds)
  | tuple {xs : List D} {ds : List PyData} : IsPs m xs ds → IsP m (.tuple xs) (.tuple ds)
  | adr {p : Addr} {xs : List D} {ds : List PyData} : m p = some (.lst xs) → IsPs m xs ds → IsP m (.adr p) (.list ds)
inductive IsPs (m : Mu) : List D → List PyData → Prop
  | nil : IsPs m [] []
  | cons {v : D} {vs : List D} {d : PyData} {ds : List PyData} : IsP m v d → IsPs m vs ds → IsPs m (v :: vs) (d :: ds)
end
section
variable {K : PySem.W.Frag} {F H : Hp} {m : Mu}
mutual
theorem IsP.dp (s : Stt K F H m) : ∀ {d : D} {e : PyData} {v : V}, IsP m d e → Rep K (hide F H m) v d → Dp K H v e
  | _, _, _, .non, r => by cases r; exact .non
  | _, _, _, .bl b, r => by cases r; exact .bl b
  | _, _, _, .int b, r => by cases r; exact .int b
  | _, _, _, .str b, r => by cases r; exact .str b
  | _, _, _, .list h, r => by
    cases r with
    | list e r => exact .lst (.of (hide_le e)) (IsPs.dp s h r)
  | _, _, _, .tuple h, r => by
    cases r with
    | tuple e r => exact .tup (.of (hide_le e)) (IsPs.dp s h r)
  | _, _, _, .adr e h, r => by
    cases r
    obtain ⟨vs, e, r⟩ := s.ok _ _ e
    exact .lst (.of e) (IsPs.dp s h r)
theorem IsPs.dp (s : Stt K F H m) : ∀ {d : List D} {e : List PyData} {v : List V}, IsPs m d e → Reps K (hide F H m) v d → DpAll K H v e
  | _, _, _, .nil, r => by cases r; exact .nil
  | _, _, _, .cons h t, r => by
    cases r with
    | cons r1 r2 => exact .cons (IsP.dp s h r1) (IsPs.dp s t r2)
end
end
def eqP (t : Bool) (x y : D) (m : Mu) (Q : D → Mu → Prop) : Prop := ∃ a b, IsP m x a ∧ IsP m y b ∧ SeqAt.shaped a = true ∧ SeqAt.shaped b = true ∧ Q (.bl (t == PyData.eqv a b)) m
def eqD (t : Bool) (x y : D) (m : Mu) (Q : D → Mu → Prop) : Prop := match x, y with
  | .int i, .int j => Q (.bl (t == decide (i = j))) m
  | .str i, .str j => Q (.bl (t == decide (i = j))) m
  | .bl i, .bl j => Q (.bl (t == decide (i = j))) m
  | x, y => eqP t x y m Q
def rEqAll (K : PySem.W.Frag) : R2 := fun x y H Q => rEq x y H Q ∨ rEqD K x y H Q
def rNeAll (K : PySem.W.Frag) : R2 := fun x y H Q => rNe x y H Q ∨ rNeD K x y H Q
theorem op_eqAll {K : PySem.W.Frag} {X : Cx} (hu : X.A.units + 64 < cLine) (hK : X.K = K := by rfl) : OpR X (compareOp .Eq) (rEqAll K) := by
  subst hK
  exact op_eq.or (op_eqD hu)
theorem op_neAll {K : PySem.W.Frag} {X : Cx} (hu : X.A.units + 64 < cLine) (hK : X.K = K := by rfl) : OpR X (compareOp .NotEq) (rNeAll K) := by
  subst hK
  exact op_ne.or (op_neD hu)
theorem opd_eq {K : PySem.W.Frag} : OpD K (rEqAll K) (eqD true) := fun F H m x y v u Q R q s rx ry p => by
  unfold eqD at q
  split at q
  · cases rx; cases ry
    exact .inl ⟨rfl, p.here s (.bl _) (by simpa using q)⟩
  · cases rx; cases ry
    exact .inl ⟨rfl, p.here s (.bl _) (by simpa using q)⟩
  · cases rx; cases ry
    exact .inl ⟨rfl, p.here s (.bl _) (by simpa using q)⟩
  · obtain ⟨a, b, ha, hb, sa, sb, q⟩ := q
    exact .inr ⟨a, b, ha.dp s rx, hb.dp s ry, sa, sb, p.here s (.bl _) (by simpa using q)⟩
theorem opd_ne {K : PySem.W.Frag} : OpD K (rNeAll K) (eqD false) := fun F H m x y v u Q R q s rx ry p => by
  unfold eqD at q
  split at q
  · cases rx; cases ry
    exact .inl ⟨rfl, p.here s (.bl _) (by simpa using q)⟩
  · cases rx; cases ry
    exact .inl ⟨rfl, p.here s (.bl _) (by simpa using q)⟩
  · cases rx; cases ry
    exact .inl ⟨rfl, p.here s (.bl _) (by simpa using q)⟩
  · obtain ⟨a, b, ha, hb, sa, sb, q⟩ := q
    exact .inr ⟨a, b, ha.dp s rx, hb.dp s ry, sa, sb, p.here s (.bl _) (by simpa using q)⟩
end Dq

namespace Dq
open PySem L2 PyProof.Rows

/-! ### chains -/
def tChain3 (r r' r'' : R2) (ta tb tc td : TE) : TE := fun σ H Q => ta σ H fun x H1 => tb σ H1 fun y H2 => r x y H2 fun z H3 => ∃ k, z = .bl k ∧
  (if k = true then tc σ H3 fun w' H4 => r' y w' H4 fun z2 H5 => ∃ k2, z2 = .bl k2 ∧ (if k2 = true then td σ H5 fun w2 H6 => r'' w' w2 H6 Q else Q (.bl false) H5) else Q (.bl false) H3)
section
variable {K : PySem.W.Frag} {X : Cx} {a b c d : Expr} {ta tb tc td : TE} {pos : Pos}
theorem pe_chain3 {op op' op'' : CmpOp} {r r' r'' : R2} (ho : OpR X (compareOp op) r) (ho' : OpR X (compareOp op') r') (ho'' : OpR X (compareOp op'') r'') (ha : PE X a ta) (hb : PE X b tb) (hc : PE X c tc) (hd : PE X d td)
    (hm : lastMarks [op, op', op''] [b, c, d] = false := by with_unfolding_all rfl) : PE X (.Compare a [op, op', op''] [b, c, d] pos) (tChain3 r r' r'' ta tb tc td) := by
  refine ⟨fun pins s σ H Q I h => ?_⟩
  refine Compare_chain (thn (ha.run pins s σ H _ I h) fun v s1 ⟨x, H1, I1, r1, q1⟩ => chain_link (thn (hb.run pins s1 σ H1 _ I1 q1) fun u s2 ⟨y, H2, I2, r2, q2⟩ =>
    thn (ho pins s2 σ H2 x y v u _ I2 r1 r2 q2) fun d s3 ⟨z, H3, I3, r3, k, e, q3⟩ => ?_)) hm
  subst e
  cases r3
  refine wpAny_truthy_bool ?_
  cases k with
  | false => exact ite_ff ⟨.bl false, H3, I3, rfl, q3⟩
  | true =>
    refine ite_tt (chain_link (thn (hc.run pins s3 σ H3 _ I3 q3) fun w' s4 ⟨z', H4, I4, r4, q4⟩ => thn (ho' pins s4 σ H4 y z' u w' _ I4 r2 r4 q4) fun d' s5 ⟨z5, H5, I5, r5, k5, e5, q5⟩ => ?_))
    subst e5
    cases r5
    refine wpAny_truthy_bool ?_
    cases k5 with
    | false => exact ite_ff ⟨.bl false, H5, I5, rfl, q5⟩
    | true => exact ite_tt (chain_last (thn (hd.run pins s5 σ H5 _ I5 q5) fun w6 s6 ⟨z6, H6, I6, r6, q6⟩ => ho'' pins s6 σ H6 z' z6 w' w6 Q I6 r4 r6 q6))
theorem pt_chain3 {op op' op'' : CmpOp} {r r' r'' : R2} (ho : OpR X (compareOp op) r) (ho' : OpR X (compareOp op') r') (ho'' : OpR X (compareOp op'') r'') (ha : PE X a ta) (hb : PE X b tb) (hc : PE X c tc) (hd : PE X d td)
    (hm : lastMarks [op, op', op''] [b, c, d] = false := by with_unfolding_all rfl) : PT X (.Compare a [op, op', op''] [b, c, d] pos) (tTest (tChain3 r r' r'' ta tb tc td)) := by
  refine ⟨fun pins s σ H Q I h => ?_⟩
  refine isTrue_chain (thn (ha.run pins s σ H _ I h) fun v s1 ⟨x, H1, I1, r1, q1⟩ => test_link (thn (hb.run pins s1 σ H1 _ I1 q1) fun u s2 ⟨y, H2, I2, r2, q2⟩ =>
    thn (ho pins s2 σ H2 x y v u _ I2 r1 r2 q2) fun d s3 ⟨z, H3, I3, r3, k, e, q3⟩ => ?_)) hm
  subst e
  cases r3
  refine wpAny_truthy_bool ?_
  cases k with
  | false =>
    obtain ⟨k', e', q'⟩ := q3
    cases e'
    exact ite_ff ⟨H3, I3, q'⟩
  | true =>
    refine ite_tt (test_link (thn (hc.run pins s3 σ H3 _ I3 q3) fun w' s4 ⟨z', H4, I4, r4, q4⟩ => thn (ho' pins s4 σ H4 y z' u w' _ I4 r2 r4 q4) fun d' s5 ⟨z5, H5, I5, r5, k5, e5, q5⟩ => ?_))
    subst e5
    cases r5
    refine wpAny_truthy_bool ?_
    cases k5 with
    | false =>
      obtain ⟨k', e', q'⟩ := q5
      cases e'
      exact ite_ff ⟨H5, I5, q'⟩
    | true =>
      refine ite_tt (test_last (thn (hd.run pins s5 σ H5 _ I5 q5) fun w6 s6 ⟨z6, H6, I6, r6, q6⟩ => thn (ho'' pins s6 σ H6 z' z6 w' w6 _ I6 r4 r6 q6) fun d7 s7 ⟨z7, H7, I7, r7, k7, e7, q7⟩ => ?_))
      subst e7
      cases r7
      exact wpAny_truthy_bool ⟨H7, I7, q7⟩
end
def dChain (rd rd' : D → D → Mu → (D → Mu → Prop) → Prop) (ta tb tc : dE) : dE := fun env m Q => ta env m fun x m1 => tb env m1 fun y m2 => rd x y m2 fun z m3 => ∃ k, z = .bl k ∧
  (if k = true then tc env m3 fun w m4 => rd' y w m4 Q else Q (.bl false) m3)
def dChain3 (rd rd' rd'' : D → D → Mu → (D → Mu → Prop) → Prop) (ta tb tc td : dE) : dE := fun env m Q => ta env m fun x m1 => tb env m1 fun y m2 => rd x y m2 fun z m3 => ∃ k, z = .bl k ∧
  (if k = true then tc env m3 fun w m4 => rd' y w m4 fun z2 m5 => ∃ k2, z2 = .bl k2 ∧ (if k2 = true then td env m5 fun w2 m6 => rd'' w w2 m6 Q else Q (.bl false) m5) else Q (.bl false) m3)
section
variable {K : PySem.W.Frag} {ta tb tc td : TE} {da db dc dd : dE}
theorem WE.chain {r r' : R2} {rd rd' : D → D → Mu → (D → Mu → Prop) → Prop} (h : OpD K r rd) (h' : OpD K r' rd') (ha : WE K ta da) (hb : WE K tb db) (hc : WE K tc dc) : WE K (tChain r r' ta tb tc) (dChain rd rd' da db dc) :=
  fun F env m Q σ H R q o p => ha F env m _ σ H _ q o fun v H1 x m1 e1 s1 r1 q1 => hb F env m1 _ σ H1 _ q1 (o.at s1 e1) fun u H2 y m2 e2 s2 r2 q2 => by
    refine h F H2 m2 x y v u _ _ q2 s2 (r1.mono e2) r2 fun z H3 dz m3 e3 s3 r3 q3 => ?_
    obtain ⟨k, rfl, q3⟩ := q3
    cases r3
    refine ⟨k, rfl, ?_⟩
    cases k with
    | false => exact p _ _ _ m3 ((e1.trans e2).trans e3) s3 (.bl _) q3
    | true => exact hc F env m3 _ σ H3 _ q3 (o.at s3 ((e1.trans e2).trans e3)) fun w H4 dw m4 e4 s4 r4 q4 => h' F H4 m4 y dw u w Q R q4 s4 ((r2.mono e3).mono e4) r4 (p.at (((e1.trans e2).trans e3).trans e4))
theorem WE.chain3 {r r' r'' : R2} {rd rd' rd'' : D → D → Mu → (D → Mu → Prop) → Prop} (h : OpD K r rd) (h' : OpD K r' rd') (h'' : OpD K r'' rd'') (ha : WE K ta da) (hb : WE K tb db) (hc : WE K tc dc) (hd : WE K td dd) : WE K (tChain3 r r' r'' ta tb tc td) (dChain3 rd rd' rd'' da db dc dd) :=
  fun F env m Q σ H R q o p => ha F env m _ σ H _ q o fun v H1 x m1 e1 s1 r1 q1 => hb F env m1 _ σ H1 _ q1 (o.at s1 e1) fun u H2 y m2 e2 s2 r2 q2 => by
    refine h F H2 m2 x y v u _ _ q2 s2 (r1.mono e2) r2 fun z H3 dz m3 e3 s3 r3 q3 => ?_
    obtain ⟨k, rfl, q3⟩ := q3
    cases r3
    refine ⟨k, rfl, ?_⟩
    have e13 := (e1.trans e2).trans e3
    cases k with
    | false => exact p _ _ _ m3 e13 s3 (.bl _) q3
    | true =>
      refine hc F env m3 _ σ H3 _ q3 (o.at s3 e13) fun w H4 dw m4 e4 s4 r4 q4 => h' F H4 m4 y dw u w _ _ q4 s4 ((r2.mono e3).mono e4) r4 fun z5 H5 dz5 m5 e5 s5 r5 q5 => ?_
      obtain ⟨k5, rfl, q5⟩ := q5
      cases r5
      refine ⟨k5, rfl, ?_⟩
      have e15 := (e13.trans e4).trans e5
      cases k5 with
      | false => exact p _ _ _ m5 e15 s5 (.bl _) q5
      | true => exact hd F env m5 _ σ H5 _ q5 (o.at s5 e15) fun w6 H6 dw6 m6 e6 s6 r6 q6 => h'' F H6 m6 dw dw6 w w6 Q R q6 s6 ((r4.mono e5).mono e6) r6 (p.at (e15.trans e6))
end
section
variable {K : PySem.W.Frag} {X : Cx} {a b c d : Expr} {ta tb tc td : TE} {da db dc dd : dE} {pos : Pos} {op op' op'' : CmpOp} {r r' r'' : R2} {rd rd' rd'' : D → D → Mu → (D → Mu → Prop) → Prop}
theorem d_chain (ho : OpR X (compareOp op) r) (ho' : OpR X (compareOp op') r') (h : OpD K r rd) (h' : OpD K r' rd') (ha : DE K X a ta da) (hb : DE K X b tb db) (hc : DE K X c tc dc)
    (hm : lastMarks [op, op'] [b, c] = false := by with_unfolding_all rfl) : DE K X (.Compare a [op, op'] [b, c] pos) (tChain r r' ta tb tc) (dChain rd rd' da db dc) := by
  obtain ⟨h1, w1⟩ := ha
  obtain ⟨h2, w2⟩ := hb
  obtain ⟨h3, w3⟩ := hc
  exact ⟨pe_chain ho ho' h1 h2 h3 hm, .chain h h' w1 w2 w3⟩
theorem t_chain (ho : OpR X (compareOp op) r) (ho' : OpR X (compareOp op') r') (h : OpD K r rd) (h' : OpD K r' rd') (ha : DE K X a ta da) (hb : DE K X b tb db) (hc : DE K X c tc dc)
    (hm : lastMarks [op, op'] [b, c] = false := by with_unfolding_all rfl) : DT K X (.Compare a [op, op'] [b, c] pos) (tTest (tChain r r' ta tb tc)) (dTest (dChain rd rd' da db dc)) := by
  obtain ⟨h1, w1⟩ := ha
  obtain ⟨h2, w2⟩ := hb
  obtain ⟨h3, w3⟩ := hc
  exact ⟨pt_chain ho ho' h1 h2 h3 hm, .test (.chain h h' w1 w2 w3)⟩
theorem d_chain3 (ho : OpR X (compareOp op) r) (ho' : OpR X (compareOp op') r') (ho'' : OpR X (compareOp op'') r'') (h : OpD K r rd) (h' : OpD K r' rd') (h'' : OpD K r'' rd'') (ha : DE K X a ta da) (hb : DE K X b tb db) (hc : DE K X c tc dc) (hd : DE K X d td dd)
    (hm : lastMarks [op, op', op''] [b, c, d] = false := by with_unfolding_all rfl) : DE K X (.Compare a [op, op', op''] [b, c, d] pos) (tChain3 r r' r'' ta tb tc td) (dChain3 rd rd' rd'' da db dc dd) := by
  obtain ⟨h1, w1⟩ := ha
  obtain ⟨h2, w2⟩ := hb
  obtain ⟨h3, w3⟩ := hc
  obtain ⟨h4, w4⟩ := hd
  exact ⟨pe_chain3 ho ho' ho'' h1 h2 h3 h4 hm, .chain3 h h' h'' w1 w2 w3 w4⟩
theorem t_chain3 (ho : OpR X (compareOp op) r) (ho' : OpR X (compareOp op') r') (ho'' : OpR X (compareOp op'') r'') (h : OpD K r rd) (h' : OpD K r' rd') (h'' : OpD K r'' rd'') (ha : DE K X a ta da) (hb : DE K X b tb db) (hc : DE K X c tc dc) (hd : DE K X d td dd)
    (hm : lastMarks [op, op', op''] [b, c, d] = false := by with_unfolding_all rfl) : DT K X (.Compare a [op, op', op''] [b, c, d] pos) (tTest (tChain3 r r' r'' ta tb tc td)) (dTest (dChain3 rd rd' rd'' da db dc dd)) := by
  obtain ⟨h1, w1⟩ := ha
  obtain ⟨h2, w2⟩ := hb
  obtain ⟨h3, w3⟩ := hc
  obtain ⟨h4, w4⟩ := hd
  exact ⟨pt_chain3 ho ho' ho'' h1 h2 h3 h4 hm, .test (.chain3 h h' h'' w1 w2 w3 w4)⟩
end

/-! ### tests: and, or, not, values, truth; a if t else b -/
def dAnd (t u : dT) : dT := fun env m Q => t env m fun c m1 => if c = true then u env m1 Q else Q false m1
def dOr (t u : dT) : dT := fun env m Q => t env m fun c m1 => if c = true then Q true m1 else u env m1 Q
def dNot (t : dT) : dT := fun env m Q => t env m fun c m1 => Q (!c) m1
def dVal (t : dE) : dT := fun env m Q => t env m fun d m1 => ∃ k, d = .bl k ∧ Q k m1
def dAndV (ta tb : dE) : dE := fun env m Q => ta env m fun x m1 => ∃ c, x = .bl c ∧ if c = true then tb env m1 Q else Q (.bl false) m1
def dOrV (ta tb : dE) : dE := fun env m Q => ta env m fun x m1 => ∃ c, x = .bl c ∧ if c = true then Q (.bl true) m1 else tb env m1 Q
def dNotV (ta : dE) : dE := fun env m Q => ta env m fun x m1 => ∃ c, x = .bl c ∧ Q (.bl (!c)) m1
def dIf (t : dT) (ta tb : dE) : dE := fun env m Q => t env m fun c m1 => if c = true then ta env m1 Q else tb env m1 Q
section
variable {K : PySem.W.Frag} {X : Cx} {a b c : Expr} {ta tb tc : TE} {da db dc : dE} {tt tu : TT} {dt du : dT} {pos : Pos} {rest : List Expr}
theorem WT.and {K : PySem.W.Frag} {t u : TT} (h1 : WT K t dt) (h2 : WT K u du) : WT K (tAnd t u) (dAnd dt du) := fun F env m Q σ H R q o p => h1 F env m _ σ H _ q o fun k H1 m1 e1 s1 q1 => by
  cases k with
  | true => exact h2 F env m1 Q σ H1 R q1 (o.at s1 e1) (p.at e1)
  | false => exact p false H1 m1 e1 s1 q1
theorem WT.or {K : PySem.W.Frag} {t u : TT} (h1 : WT K t dt) (h2 : WT K u du) : WT K (tOr t u) (dOr dt du) := fun F env m Q σ H R q o p => h1 F env m _ σ H _ q o fun k H1 m1 e1 s1 q1 => by
  cases k with
  | false => exact h2 F env m1 Q σ H1 R q1 (o.at s1 e1) (p.at e1)
  | true => exact p true H1 m1 e1 s1 q1
theorem t_not (h : DT K X a tt dt) : DT K X (.UnaryOp .Not a pos) (tNot tt) (dNot dt) := by
  obtain ⟨h1, w1⟩ := h
  exact ⟨pt_not h1, fun F env m Q σ H R q o p => w1 F env m _ σ H _ q o fun k H1 m1 e1 s1 q1 => p _ H1 m1 e1 s1 q1⟩
theorem w_and1 (h : DT K X a tt dt) : DW K X (.BoolOp .And [a] pos) tt dt := let ⟨h1, w1⟩ := h; ⟨pw_and1 h1, w1⟩
theorem w_or1 (h : DT K X a tt dt) : DW K X (.BoolOp .Or [a] pos) tt dt := let ⟨h1, w1⟩ := h; ⟨pw_or1 h1, w1⟩
theorem w_and (h : DT K X a tt dt) (k : DW K X (.BoolOp .And (b :: rest) pos) tu du) : DW K X (.BoolOp .And (a :: b :: rest) pos) (tAnd tt tu) (dAnd dt du) := let ⟨h1, w1⟩ := h; let ⟨h2, w2⟩ := k; ⟨pw_and h1 h2, w1.and w2⟩
theorem w_or (h : DT K X a tt dt) (k : DW K X (.BoolOp .Or (b :: rest) pos) tu du) : DW K X (.BoolOp .Or (a :: b :: rest) pos) (tOr tt tu) (dOr dt du) := let ⟨h1, w1⟩ := h; let ⟨h2, w2⟩ := k; ⟨pw_or h1 h2, w1.or w2⟩
theorem DW.t (h : DW K X a tt dt) : DT K X a tt dt := let ⟨h1, w1⟩ := h; ⟨h1.pt, w1⟩
/-- a value that is True or False -/
theorem t_val (h : DE K X a ta da) (he : ∀ whole, isTrue a X.env whole = (do let v ← whole; standAt a.pos; holding [v] (truthy v)) := by intro _; rfl) : DT K X a (tB ta) (dVal da) := by
  obtain ⟨h1, w1⟩ := h
  refine ⟨pt_val h1 he, fun F env m Q σ H R q o p => w1 F env m _ σ H _ q o fun v H1 d m1 e1 s1 r1 q1 => ?_⟩
  obtain ⟨k, rfl, q⟩ := q1
  cases r1
  exact ⟨k, rfl, p _ _ m1 e1 s1 q⟩
theorem d_one {op : BoolOp} (h : DE K X a ta da) : DE K X (.BoolOp op [a] pos) ta da := let ⟨h1, w1⟩ := h; ⟨pe_one h1, w1⟩
theorem d_and (h : DE K X a ta da) (k : DE K X (.BoolOp .And (b :: rest) pos) tb db) : DE K X (.BoolOp .And (a :: b :: rest) pos) (tAndV ta tb) (dAndV da db) := by
  obtain ⟨h1, w1⟩ := h
  obtain ⟨h2, w2⟩ := k
  refine ⟨pe_and h1 h2, fun F env m Q σ H R q o p => w1 F env m _ σ H _ q o fun v H1 d m1 e1 s1 r1 q1 => ?_⟩
  obtain ⟨k, rfl, q⟩ := q1
  cases r1
  refine ⟨k, rfl, ?_⟩
  cases k with
  | true => exact w2 F env m1 Q σ H1 R q (o.at s1 e1) (p.at e1)
  | false => exact p _ _ _ m1 e1 s1 (.bl _) q
theorem d_or (h : DE K X a ta da) (k : DE K X (.BoolOp .Or (b :: rest) pos) tb db) : DE K X (.BoolOp .Or (a :: b :: rest) pos) (tOrV ta tb) (dOrV da db) := by
  obtain ⟨h1, w1⟩ := h
  obtain ⟨h2, w2⟩ := k
  refine ⟨pe_or h1 h2, fun F env m Q σ H R q o p => w1 F env m _ σ H _ q o fun v H1 d m1 e1 s1 r1 q1 => ?_⟩
  obtain ⟨k, rfl, q⟩ := q1
  cases r1
  refine ⟨k, rfl, ?_⟩
  cases k with
  | false => exact w2 F env m1 Q σ H1 R q (o.at s1 e1) (p.at e1)
  | true => exact p _ _ _ m1 e1 s1 (.bl _) q
theorem d_not (h : DE K X a ta da) : DE K X (.UnaryOp .Not a pos) (tNotV ta) (dNotV da) := by
  obtain ⟨h1, w1⟩ := h
  refine ⟨pe_not h1, fun F env m Q σ H R q o p => w1 F env m _ σ H _ q o fun v H1 d m1 e1 s1 r1 q1 => ?_⟩
  obtain ⟨k, rfl, q⟩ := q1
  cases r1
  exact ⟨k, rfl, p _ _ _ m1 e1 s1 (.bl _) q⟩
theorem d_ifx (h : DT K X c tt dt) (ha : DE K X a ta da) (hb : DE K X b tb db) : DE K X (.IfExp c a b pos) (tIf tt ta tb) (dIf dt da db) := by
  obtain ⟨h1, w1⟩ := h
  obtain ⟨h2, w2⟩ := ha
  obtain ⟨h3, w3⟩ := hb
  refine ⟨pe_ifExp h1 h2 h3, fun F env m Q σ H R q o p => w1 F env m _ σ H _ q o fun k H1 m1 e1 s1 q1 => ?_⟩
  cases k with
  | true => exact w2 F env m1 Q σ H1 R q1 (o.at s1 e1) (p.at e1)
  | false => exact w3 F env m1 Q σ H1 R q1 (o.at s1 e1) (p.at e1)
end

/-! ### arguments, displays -/
def dNil : dA := fun _ m Q => Q [] m
def dCons (te : dE) (tr : dA) : dA := fun env m Q => te env m fun x m1 => tr env m1 fun xs m2 => Q (x :: xs) m2
def dTup (t : dA) : dE := fun env m Q => t env m fun xs m1 => xs.length ≤ sizeLine ∧ Q (.tuple xs) m1
def dLst (b : Bool) (t : dA) : dE := fun env m Q => t env m fun xs m1 => xs.length ≤ sizeLine ∧ mkL b xs m1 Q
section
variable {K : PySem.W.Frag} {X : Cx} {e : Expr} {es : List Expr} {te : TE} {ta : TA} {de : dE} {da : dA} {pos : Pos}
theorem a_nil : DA K X [] tNil dNil := ⟨pa_nil, fun F env m Q σ H R q o p => p [] H [] m Ext.refl o.st .nil q⟩
theorem a_cons (h : DE K X e te de) (k : DA K X es ta da) (hs : starEach (e :: es) X.env = (false, eval e X.env) :: starEach es X.env := by rfl) : DA K X (e :: es) (tCons te ta) (dCons de da) := by
  obtain ⟨h1, w1⟩ := h
  obtain ⟨h2, w2⟩ := k
  exact ⟨pa_cons h1 h2 hs, fun F env m Q σ H R q o p => w1 F env m _ σ H _ q o fun v H1 d m1 e1 s1 r1 q1 => w2 F env m1 _ σ H1 _ q1 (o.at s1 e1) fun vs H2 ds m2 e2 s2 r2 q2 => p _ _ _ m2 (e1.trans e2) s2 (.cons (r1.mono e2) r2) q2⟩
theorem d_tup {k : Nat} (h : DA K X es ta da) : DE K X (.Tuple es k pos) (tTup ta) (dTup da) := by
  obtain ⟨h1, w1⟩ := h
  refine ⟨pe_tup h1, fun F env m Q σ H R q o p => w1 F env m _ σ H _ q o fun vs H1 ds m1 e1 s1 r1 q1 => ⟨by rw [r1.length]; exact q1.1, fun a ha => (p.at e1).newT s1 r1 q1.2 a ha⟩⟩
theorem d_lst (b : Bool) (h : DA K X es ta da) : DE K X (.List es pos) (tLst ta) (dLst b da) := by
  obtain ⟨h1, w1⟩ := h
  refine ⟨pe_lst h1, fun F env m Q σ H R q o p => w1 F env m _ σ H _ q o fun vs H1 ds m1 e1 s1 r1 q1 => ⟨by rw [r1.length]; exact q1.1, fun a ha => (p.at e1).newB b s1 r1 q1.2 a ha⟩⟩
end

/-! ### subscripts -/
/-- x[i] of a list, a tuple, a text; d[k] of a dict -/
def strIx (s : Str) (i : Int) (m : Mu) (Q : D → Mu → Prop) : Prop := s.length ≤ sizeLine ∧ ∃ c, atI s.cps.toList i = some c ∧ Q (.str ⟨#[c]⟩) m
def ixD (x y : D) (m : Mu) (Q : D → Mu → Prop) : Prop := ∃ i, y = .int i ∧ match x with
  | .str s => strIx s i m Q
  | x => ∃ xs d, vwS m x = some xs ∧ atI xs i = some d ∧ Q d m
theorem reps_at {K : PySem.W.Frag} {H : Hp} {vs : List V} {ds : List D} {i : Int} {d : D} (r : Reps K H vs ds) (h : atI ds i = some d) : ∃ v, atI vs i = some v ∧ Rep K H v d := by
  obtain ⟨j, h1, h2, h3, h4, h5⟩ := atI_get h
  obtain ⟨v, hv, rv⟩ := r.get h2
  refine ⟨v, ?_, rv⟩
  unfold atI
  unfold atI at h
  rw [r.length]
  cases e : ixN ds.length i with
  | none => rw [e] at h; cases h
  | some k =>
    have := (ixN_seq e).1
    rw [h1] at this
    cases this
    exact hv
theorem ixD_list {K : PySem.W.Frag} {F H : Hp} {m : Mu} {x : D} {v : V} {i : Int} {Q : D → Mu → Prop} {R : VK} (h : ∃ xs d, vwS m x = some xs ∧ atI xs i = some d ∧ Q d m)
    (s : Stt K F H m) (rx : Rep K (hide F H m) v x) (p : Pst K F H m Q R) : rIx K v (.int i) H R := by
  obtain ⟨xs, d, hx, hi, q⟩ := h
  obtain ⟨a, vs, rfl, ha, ra⟩ := sq_of s rx hx
  obtain ⟨w, hw, rw'⟩ := reps_at ra hi
  rcases ha with ha | ha
  · exact .inl ⟨a, vs, i, w, rfl, rfl, ha, hw, p.here s rw' q⟩
  · exact .inr (.inl ⟨a, vs, i, w, rfl, rfl, ha, hw, p.here s rw' q⟩)
theorem opd_ix {K : PySem.W.Frag} : OpD K (rIx K) ixD := fun F H m x y v u Q R q s rx ry p => by
  obtain ⟨i, rfl, q⟩ := q
  cases ry
  cases x with
  | str z =>
    cases rx
    obtain ⟨hl, c, hc, q⟩ := q
    exact .inr (.inr ⟨z, i, c, rfl, rfl, hl, hc, p.here s (.str _) q⟩)
  | int _ => exact ixD_list q s rx p
  | non => exact ixD_list q s rx p
  | bl _ => exact ixD_list q s rx p
  | ty _ => exact ixD_list q s rx p
  | adr _ => exact ixD_list q s rx p
  | list _ => exact ixD_list q s rx p
  | tuple _ => exact ixD_list q s rx p
  | seq _ => exact ixD_list q s rx p
  | tseq _ => exact ixD_list q s rx p
  | dict _ => exact ixD_list q s rx p
section
variable {K : PySem.W.Frag} {X : Cx} {a b : Expr} {ta tb : TE} {da db : dE} {pos : Pos}
theorem d_ix (ha : DE K X a ta da) (hb : DE K X b tb db) (hs : PlainIx b := by exact fun _ _ => rfl) (hK : X.K = K := by rfl) : DE K X (.Subscript a b pos) (tOp (rIx K) ta tb) (dOp ixD da db) := by
  subst hK
  obtain ⟨h1, w1⟩ := ha
  obtain ⟨h2, w2⟩ := hb
  exact ⟨pe_ix ix_seq h1 h2 hs, .op opd_ix w1 w2⟩
end
/-! ### slices of lists, texts -/
abbrev dO := Env → Mu → (Option Int → Mu → Prop) → Prop
def dNoPart : dO := fun _ m Q => Q none m
def dPart (t : dE) : dO := fun env m Q => t env m fun d m1 => ∃ i, d = .int i ∧ Q (some i) m1
structure DO (K : PySem.W.Frag) (X : Cx) (e : Option Expr) (te : TO) (t : dO) : Prop where
  p : PO X e te
  w : ∀ F env m Q σ H R, t env m Q → Ok K F H σ env m → (∀ o H' m', Ext (hide F H m) (hide F H' m') → Stt K F H' m' → Q o m' → R o H') → te σ H R
/-- [lo:hi] of a list -/
def cutD (xs : List D) (lo hi : Option Int) : List D := (xs.drop (HT.sIx xs.length 0 lo)).take (HT.sIx xs.length xs.length hi - HT.sIx xs.length 0 lo)
theorem reps_cut {K : PySem.W.Frag} {H : Hp} {vs : List V} {ds : List D} (r : Reps K H vs ds) (lo hi : Option Int) : Reps K H (cutV vs lo hi) (cutD ds lo hi) := by
  unfold cutV cutD
  rw [r.length]
  exact (r.drop _).take _
end Dq

namespace Dq
open PySem L2 PyProof.Rows

/-! ### statements -/
def dNext : dS := fun DD env m => DD.nx env m
def dSeq (t u : dS) : dS := fun DD env m => t { DD with nx := u DD } env m
def dAsg (te : dE) (i : Nat) : dS := fun DD env m => te env m fun d m1 => DD.nx (env.set i (some d)) m1
def dDrop (te : dE) : dS := fun DD env m => te env m fun _ m1 => DD.nx env m1
def dRet (te : dE) : dS := fun DD env m => te env m DD.rt
def dRetN : dS := fun DD _ m => DD.rt .non m
def dIfS (c : dT) (t u : dS) : dS := fun DD env m => c env m fun b m1 => if b = true then t DD env m1 else u DD env m1
def dNever : dS := fun _ _ _ => False
def dBrk : dS := fun DD env m => DD.bk env m
def dCont : dS := fun DD env m => DD.ct env m
section
variable {K : PySem.W.Frag} {X : Cx} {st : Stmt} {rest : List Stmt} {st1 st2 : TS} {dt du : dS} {e c : Expr} {te : TE} {tc : TT} {de : dE} {dc : dT} {pos : Pos} {p q : List Stmt}
theorem ss_nil : DSs K X [] tNext dNext := ⟨pss_nil, fun F DD env m σ H RR t o p => p.nx σ H env m Ext.refl o t⟩
theorem ss_cons (h : DS K X st st1 dt) (k : DSs K X rest st2 du) : DSs K X (st :: rest) (tSeq st1 st2) (dSeq dt du) := by
  obtain ⟨h1, w1⟩ := h
  obtain ⟨h2, w2⟩ := k
  refine ⟨pss_cons h1 h2, fun F DD env m σ H RR q o p => w1 F { DD with nx := du DD } env m σ H { RR with nx := st2 RR } q o ⟨fun σ' H' env' m' e' o' q' => w2 F DD env' m' σ' H' RR q' o' (p.at e'), p.rt, p.bk, p.ct⟩⟩
theorem ss_one (h : DS K X st st1 dt) : DSs K X [st] st1 dt := let ⟨h1, w1⟩ := h; ⟨pss_one h1, w1⟩
theorem s_pass : DS K X (.Pass pos) tNext dNext := ⟨ps_pass, fun F DD env m σ H RR t o p => p.nx σ H env m Ext.refl o t⟩
theorem s_brk : DS K X (.Break pos) tBreak dBrk := ⟨ps_break, fun F DD env m σ H RR t o p => p.bk σ H env m Ext.refl o t⟩
theorem s_cont : DS K X (.Continue pos) L2.tCont dCont := ⟨ps_continue, fun F DD env m σ H RR t o p => p.ct σ H env m Ext.refl o t⟩
theorem s_expr (h : DE K X e te de) (hs : swapsWith e none pos.line X.env = pure false := by rfl) : DS K X (.Expr e pos) (tDrop te) (dDrop de) := by
  obtain ⟨h1, w1⟩ := h
  exact ⟨ps_expr h1 hs, fun F DD env m σ H RR q o p => w1 F env m _ σ H _ q o fun v H1 d m1 e1 s1 r1 q1 => p.nx σ H1 env m1 e1 (o.at s1 e1) q1⟩
theorem s_ret (h : DE K X e te de) : DS K X (.Return (some e) pos) (tRet te) (dRet de) := by
  obtain ⟨h1, w1⟩ := h
  exact ⟨ps_ret h1, fun F DD env m σ H RR q o p => w1 F env m _ σ H _ q o p.rt⟩
theorem s_retN : DS K X (.Return none pos) tRetN dRetN := ⟨ps_retN, fun F DD env m σ H RR q o p => p.rt _ H _ m Ext.refl o.st .non q⟩
theorem s_if (h : DT K X c tc dc) (h1 : DSs K X p st1 dt) (h2 : DSs K X q st2 du) : DS K X (.If c p q pos) (tIfS tc st1 st2) (dIfS dc dt du) := by
  obtain ⟨hc, wc⟩ := h
  obtain ⟨h1, w1⟩ := h1
  obtain ⟨h2, w2⟩ := h2
  refine ⟨ps_if hc h1 h2, fun F DD env m σ H RR q o p => wc F env m _ σ H _ q o fun k H1 m1 e1 s1 q1 => ?_⟩
  cases k with
  | true => exact w1 F DD env m1 σ H1 RR q1 (o.at s1 e1) (p.at e1)
  | false => exact w2 F DD env m1 σ H1 RR q1 (o.at s1 e1) (p.at e1)
theorem s_never : DS K X st tNever dNever := ⟨ps_never, fun _ _ _ _ _ _ _ q => q.elim⟩
theorem ss_never {sts : List Stmt} : DSs K X sts tNever dNever := ⟨pss_never, fun _ _ _ _ _ _ _ q => q.elim⟩
theorem s_set {i : Nat} {x : Str} {pos' : Pos} (hN : X.N.Nodup) (he : DE K X e te de) (hi : X.N[i]? = some x := by rfl) (hx : Loc X.env.scope x := by first | exact Or.inl rfl | exact Or.inr rfl) (hs : swapsWith e (some (.Name x pos')) pos.line X.env = pure false := by rfl)
    (hf : X.fn x = true ∨ X.env.scope.names.lookup x = some .local := by first | exact .inl rfl | exact .inr rfl) : DS K X (.Assign [.Name x pos'] e pos) (tAsg te (gName i)) (dAsg de i) := by
  obtain ⟨h1, w1⟩ := he
  exact ⟨ps_set hN hi hx h1 hs hf, fun F DD env m σ H RR q o p => w1 F env m _ σ H _ q o fun v H1 d m1 e1 s1 r1 q1 => p.nx _ H1 _ m1 e1 ⟨s1, (o.fr.mono e1).set r1⟩ q1⟩
end

/-! ### a mutable object comes to rest: slot i of the frame is told as data from here on -/
def dFz (i : Nat) (t : dS) : dS := fun DD env m => ∃ p, env[i]? = some (some (.adr p)) ∧ match m p with
  | some (.lst ds) => t DD (env.set i (some (.list ds))) (del m p)
  | some (.dK ds) => t DD (env.set i (some (.dict ds))) (del m p)
  | _ => False
theorem Stt.apart {K : PySem.W.Frag} {F H : Hp} {m : Mu} {p : Addr} {w : MO} (s : Stt K F H m) (h : m p = some w) : F p = none := by
  cases e : F p with
  | none => rfl
  | some u =>
    have q := (s.fr p u e).2
    rw [h] at q
    cases q
theorem WS.fz {K : PySem.W.Frag} {ts : TS} {t : dS} {i : Nat} (w : WS K ts t) : WS K ts (dFz i t) := fun F DD env m σ H RR q o p => by
  obtain ⟨a, h, q⟩ := q
  split at q
  · rename_i ds hm
    refine w F DD _ _ σ H RR q ⟨o.st.del, (o.fr.mono Ext.del).put h fun v r => ?_⟩ (p.at Ext.del)
    cases r
    obtain ⟨vs, e, r⟩ := o.st.ok _ _ hm
    exact .list (by rw [hide_at (by unfold del; rw [if_pos rfl]) (o.st.apart hm)]; exact e) (r.mono Ext.del)
  · rename_i ds hm
    refine w F DD _ _ σ H RR q ⟨o.st.del, (o.fr.mono Ext.del).put h fun v r => ?_⟩ (p.at Ext.del)
    cases r
    obtain ⟨vs, e, r⟩ := o.st.ok _ _ hm
    exact .dict (.inl (by rw [hide_at (by unfold del; rw [if_pos rfl]) (o.st.apart hm)]; exact e)) (r.mono Ext.del)
  · exact q.elim
theorem ss_fz {K : PySem.W.Frag} {X : Cx} (i : Nat) {sts : List Stmt} {ts : TS} {t : dS} (h : DSs K X sts ts t) : DSs K X sts ts (dFz i t) := let ⟨h1, w1⟩ := h; ⟨h1, w1.fz⟩

/-! ### targets -/
abbrev dG := D → Env → Mu → (Env → Mu → Prop) → Prop
abbrev dGs := List D → Env → Mu → (Env → Mu → Prop) → Prop
def WG (K : PySem.W.Frag) (g : TG) (t : dG) : Prop := ∀ F d env m Q v σ H R, t d env m Q → Ok K F H σ env m → Rep K (hide F H m) v d → PstX K F H m Q R → g v σ H R
def WGs (K : PySem.W.Frag) (g : TGs) (t : dGs) : Prop := ∀ F d env m Q v σ H R, t d env m Q → Ok K F H σ env m → Reps K (hide F H m) v d → PstX K F H m Q R → g v σ H R
structure DG (K : PySem.W.Frag) (X : Cx) (tg : Expr) (g : TG) (t : dG) : Prop where
  p : PG X tg g
  w : WG K g t
structure DGs (K : PySem.W.Frag) (X : Cx) (tg : List Expr) (g : TGs) (t : dGs) : Prop where
  p : PGs X tg g
  w : WGs K g t
def hName (i : Nat) : dG := fun d env m Q => Q (env.set i (some d)) m
def hNil : dGs := fun ds env m Q => ds = [] ∧ Q env m
def hCons (t : dG) (u : dGs) : dGs := fun ds env m Q => ∃ d r, ds = d :: r ∧ t d env m fun e1 m1 => u r e1 m1 Q
def hTup (n : Nat) (t : dGs) : dG := fun d env m Q => ∃ xs, (d = .tuple xs) ∧ xs.length = n ∧ t xs env m Q
section
variable {K : PySem.W.Frag} {X : Cx} {pos : Pos}
theorem g_name {i : Nat} {x : Str} (hN : X.N.Nodup) (hi : X.N[i]? = some x := by rfl) (hx : Loc X.env.scope x := by first | exact Or.inl rfl | exact Or.inr rfl) (hf : X.fn x = true ∨ X.env.scope.names.lookup x = some .local := by first | exact .inl rfl | exact .inr rfl) : DG K X (.Name x pos) (gName i) (hName i) :=
  ⟨pg_name hN hi hx hf, fun F d env m Q v σ H R q o r p => p _ H _ m Ext.refl ⟨o.st, o.fr.set r⟩ q⟩
theorem gs_nil : DGs K X [] gNil hNil := ⟨pgs_nil, fun F d env m Q v σ H R q o r p => by
  obtain ⟨rfl, q⟩ := q
  cases r
  exact ⟨rfl, p _ H _ m Ext.refl o q⟩⟩
theorem gs_cons {e : Expr} {es : List Expr} {g : TG} {g2 : TGs} {t : dG} {u : dGs} (h : DG K X e g t) (k : DGs K X es g2 u) (hs : (assignEach (e :: es) X.env).map (·.2) = assign e X.env :: (assignEach es X.env).map (·.2) := by rfl) : DGs K X (e :: es) (gCons g g2) (hCons t u) := by
  obtain ⟨h1, w1⟩ := h
  obtain ⟨h2, w2⟩ := k
  refine ⟨pgs_cons h1 h2 hs, fun F d env m Q v σ H R q o r p => ?_⟩
  obtain ⟨x, xs, rfl, q⟩ := q
  cases r with
  | cons r rr => exact ⟨_, _, rfl, w1 F x env m _ _ σ H _ q o r fun σ' H' env' m' e' o' q' => w2 F xs env' m' Q _ σ' H' R q' o' (rr.mono e') (p.at e')⟩
theorem g_tup {es : List Expr} {k : Nat} {g : TGs} {t : dGs} {n : Nat} (h : DGs K X es g t) (hc : X.calm = true := by rfl) (hn : (assignEach es X.env).length = n := by rfl) (hst : (assignEach es X.env).findIdx? (·.1) = none := by rfl) (hK : X.K = K := by rfl) : DG K X (.Tuple es k pos) (gTup K n g) (hTup n t) := by
  subst hK
  obtain ⟨h1, w1⟩ := h
  refine ⟨pg_tup hc h1 hn hst, fun F d env m Q v σ H R q o r p => ?_⟩
  obtain ⟨xs, rfl, hl, q⟩ := q
  cases r with
  | tuple e r => exact ⟨_, _, rfl, .of (hide_le e), r.length.trans hl, w1 F xs env m Q _ σ H R q o r p⟩
/-- target = value -/
def dAsgG (te : dE) (g : dG) : dS := fun DD env m => te env m fun d m1 => g d env m1 DD.nx
theorem s_asg {tg e : Expr} {ue : TE} {te : dE} {ug : TG} {g : dG} (he : DE K X e ue te) (hg : DG K X tg ug g) (hs : swapsWithSole [tg] e pos.line X.env = pure false := by rfl) (hw : swappedStores [tg] e X.env = pure none := by rfl)
    (h1 : (assignEach [tg] X.env).map (·.2) = [assign tg X.env] := by rfl) : DS K X (.Assign [tg] e pos) (tAsg ue ug) (dAsgG te g) := by
  obtain ⟨h2, w1⟩ := he
  obtain ⟨h3, w2⟩ := hg
  exact ⟨ps_asg h2 h3 hs hw h1, fun F DD env m σ H RR q o p => w1 F env m _ σ H _ q o fun v H1 d m1 e1 s1 r1 q1 => w2 F d env m1 DD.nx v σ H1 RR.nx q1 (o.at s1 e1) r1 (p.nx.at e1)⟩
/-- a, b = x, y -/
def dPar (i j : Nat) (ta : dA) : dS := fun DD env m => ta env m fun ds m1 => ∃ v w, ds = [v, w] ∧ DD.nx ((env.set i (some v)).set j (some w)) m1
theorem s_par {i j : Nat} {x y : Str} {a b : Expr} {ua : TA} {ta : dA} {px py pt : Pos} {kt k2 pt2} (hN : X.N.Nodup) (ha : DA K X [a, b] ua ta) (hi : X.N[i]? = some x := by rfl) (hj : X.N[j]? = some y := by rfl) (hij : i ≠ j := by decide)
    (hx : X.env.scope.names.lookup x = some .local := by rfl) (hy : X.env.scope.names.lookup y = some .local := by rfl) (hc : X.calm = true := by rfl)
    (hw : swappedStores [.Tuple [.Name x px, .Name y py] kt pt] (.Tuple [a, b] k2 pt2) X.env = pure (some [x, y]) := by rfl)
    (hs : swapsWithSole [.Tuple [.Name x px, .Name y py] kt pt] (.Tuple [a, b] k2 pt2) pos.line X.env = pure false := by rfl) :
    DS K X (.Assign [.Tuple [.Name x px, .Name y py] kt pt] (.Tuple [a, b] k2 pt2) pos) (tPar i j ua) (dPar i j ta) := by
  obtain ⟨h1, w1⟩ := ha
  refine ⟨ps_par hc hN hi hj hij hx hy h1 hw hs, fun F DD env m σ H RR q o p => w1 F env m _ σ H _ q o fun vs H1 ds m1 e1 s1 r1 q1 => ?_⟩
  obtain ⟨v, w, rfl, q⟩ := q1
  obtain ⟨v1, w1, rfl, r2, r3⟩ := r1.inv2
  exact ⟨_, _, rfl, p.nx _ H1 _ m1 e1 ⟨s1, ((o.fr.mono e1).set r2).set r3⟩ q⟩
end

/-! ### what is walked: its items, told ahead -/
/-- J walks just what stands for ds, as long as all that stands behind H, m does -/
structure Wlk (K : PySem.W.Frag) (F H : Hp) (m : Mu) (J : It) (ds : List D) : Prop where
  ex : ∃ (n : Nat) (G : Hp → Prop) (Y : Nat → Hp → V → Hp → Prop), n = ds.length ∧ Walk J n G Y ∧ (∀ F' H' m', Ext (hide F H m) (hide F' H' m') → Stt K F' H' m' → G H') ∧
    ∀ i F' Hc mc x H', Ext (hide F H m) (hide F' Hc mc) → Stt K F' Hc mc → Y i Hc x H' → i < ds.length → ∃ d, ds[i]? = some d ∧ Ext (hide F' Hc mc) (hide F' H' mc) ∧ Stt K F' H' mc ∧ Rep K (hide F' H' mc) x d
abbrev dI := Env → Mu → (List D → Mu → Prop) → Prop
def WI (K : PySem.W.Frag) (wi : TI) (t : dI) : Prop := ∀ F env m Q σ H R, t env m Q → Ok K F H σ env m → (∀ J H' ds m', Ext (hide F H m) (hide F H' m') → Stt K F H' m' → Wlk K F H' m' J ds → Q ds m' → R J H') → wi σ H R
structure DI (K : PySem.W.Frag) (X : Cx) (tg iter : Expr) (wi : TI) (t : dI) : Prop where
  p : PI X tg iter wi
  w : WI K wi t
section
variable {K : PySem.W.Frag} {X : Cx} {tg : Expr} {K : PySem.W.Frag} {F H : Hp} {m : Mu}
theorem wlk_list {a : Addr} {vs : List V} {ds : List D} (e : ∀ F' H' m', Ext (hide F H m) (hide F' H' m') → Stt K F' H' m' → SqL K H' a vs) (r : Reps K (hide F H m) vs ds) : Wlk K F H m (Itl K a) ds := by
  refine ⟨vs.length, fun H' => SqL K H' a vs, _, r.length, walk_list, e, fun i F' Hc mc x H' ex s y hi => ?_⟩
  obtain ⟨rfl, hx⟩ := y
  obtain ⟨d, hd, rd⟩ := r.get' hx
  exact ⟨d, hd, Ext.refl, s, rd.mono ex⟩
theorem wlk_tup {a : Addr} {vs : List V} {ds : List D} (e : ∀ F' H' m', Ext (hide F H m) (hide F' H' m') → Stt K F' H' m' → SqT K H' a vs) (r : Reps K (hide F H m) vs ds) : Wlk K F H m (Itt K a) ds := by
  refine ⟨vs.length, fun H' => SqT K H' a vs, _, r.length, walk_tup, e, fun i F' Hc mc x H' ex s y hi => ?_⟩
  obtain ⟨rfl, hx⟩ := y
  obtain ⟨d, hd, rd⟩ := r.get' hx
  exact ⟨d, hd, Ext.refl, s, rd.mono ex⟩
theorem wlk_range {lo : Int} {n : Nat} : Wlk K F H m (Itr lo n) ((List.range n).map fun i => .int (lo + (i : Nat))) := by
  refine ⟨n, fun _ => True, _, by simp, walk_range, fun _ _ _ _ _ => trivial, fun i F' Hc mc x H' ex s y hi => ?_⟩
  · obtain ⟨rfl, rfl⟩ := y
    refine ⟨.int (lo + i), ?_, Ext.refl, s, .int _⟩
    simp only [List.length_map, List.length_range] at hi
    simp [List.getElem?_map, hi]
theorem wlk_str {z : Str} : Wlk K F H m (Its z) (z.cps.toList.map fun c => .str ⟨#[c]⟩) := by
  refine ⟨z.cps.size, fun _ => True, _, by simp, walk_str, fun _ _ _ _ _ => trivial, fun i F' Hc mc x H' ex s y hi => ?_⟩
  · obtain ⟨rfl, c, hc, rfl⟩ := y
    refine ⟨.str ⟨#[c]⟩, ?_, Ext.refl, s, .str _⟩
    simp [List.getElem?_map, hc]
/-- a list as data, the script -/
def vwI : D → Option (List D)
  | .list xs => some xs
  | .seq xs => some xs
  | _ => none
def jList (te : dE) : dI := fun env m Q => te env m fun d m1 => ∃ ds, vwI d = some ds ∧ Q ds m1
theorem i_list {l : Expr} {ue : TE} {te : dE} (h : DE K X l ue te) (hK : X.K = K := by rfl) : DI K X tg l (iList K ue) (jList te) := by
  subst hK
  obtain ⟨h1, w1⟩ := h
  refine ⟨pi_list h1, fun F env m Q σ H R q o p => w1 F env m _ σ H _ q o fun v H1 d m1 e1 s1 r1 q1 => ?_⟩
  obtain ⟨ds, hd, q⟩ := q1
  cases d with
  | list xs =>
    cases hd
    cases r1 with
    | list e r => exact ⟨_, rfl, ⟨_, .of (hide_le e)⟩, p _ H1 ds m1 e1 s1 (wlk_list (fun F' H' m' ex _ => .of (hide_le (ex.lst _ _ e))) r) q⟩
  | seq xs =>
    cases hd
    cases r1 with
    | seq e r => exact ⟨_, rfl, ⟨_, Ext.unhide.sql e⟩, p _ H1 ds m1 e1 s1 (wlk_list (fun F' H' m' ex _ => Ext.unhide.sql (ex.sql e)) r) q⟩
  | _ => cases hd
def jTup (te : dE) : dI := fun env m Q => te env m fun d m1 => ∃ ds, (d = .tuple ds) ∧ Q ds m1
theorem i_tup {l : Expr} {ue : TE} {te : dE} (h : DE K X l ue te) (hK : X.K = K := by rfl) : DI K X tg l (iTup K ue) (jTup te) := by
  subst hK
  obtain ⟨h1, w1⟩ := h
  refine ⟨pi_tup h1, fun F env m Q σ H R q o p => w1 F env m _ σ H _ q o fun v H1 d m1 e1 s1 r1 q1 => ?_⟩
  obtain ⟨ds, rfl, q⟩ := q1
  cases r1 with
  | tuple e r => exact ⟨_, rfl, ⟨_, .of (hide_le e)⟩, p _ H1 ds m1 e1 s1 (wlk_tup (fun F' H' m' ex _ => .of (hide_le (ex.tup _ _ e))) r) q⟩
/-- range(n) -/
def jRange1 (ta : dA) : dI := fun env m Q => ta env m fun ds m1 => ∃ n : Int, ds = [.int n] ∧ -(2 ^ 62) ≤ n ∧ n < 2 ^ 62 ∧ Q ((List.range n.toNat).map fun i => .int (i : Nat)) m1
theorem i_range1 {a : Expr} {ua : TA} {ta : dA} {p pos : Pos} (hm : X.mg "range" = none) (ha : DA K X [a] ua ta) (hg : Gl X "range" := by rfl) (hs : starEach [a] X.env = [(false, eval a X.env)] := by rfl) : DI K X tg (.Call (.Name "range" p) [a] [] pos) (iRng1 ua) (jRange1 ta) := by
  obtain ⟨h1, w1⟩ := ha
  refine ⟨pi_range1 hg hm h1 hs, fun F env m Q σ H R q o p => w1 F env m _ σ H _ q o fun v H1 d m1 e1 s1 r1 q1 => ?_⟩
  obtain ⟨n, rfl, h2, h3, q⟩ := q1
  obtain ⟨v, rfl, r⟩ := r1.inv1
  cases r
  refine ⟨n, rfl, h2, h3, p _ H1 _ m1 e1 s1 wlk_range ?_⟩
  simpa using q
def jRange2 (ta : dA) : dI := fun env m Q => ta env m fun ds m1 => ∃ l n : Int, ds = [.int l, .int n] ∧ (-(2 ^ 62) ≤ l ∧ l < 2 ^ 62 ∧ -(2 ^ 62) ≤ n ∧ n < 2 ^ 62) ∧ Q ((List.range (n - l).toNat).map fun i => .int (l + (i : Nat))) m1
theorem i_range2 {a b : Expr} {ua : TA} {ta : dA} {p pos : Pos} (hm : X.mg "range" = none) (ha : DA K X [a, b] ua ta) (hg : Gl X "range" := by rfl) (hs : starEach [a, b] X.env = [(false, eval a X.env), (false, eval b X.env)] := by rfl) (hs2 : starEach [b] X.env = [(false, eval b X.env)] := by rfl) : DI K X tg (.Call (.Name "range" p) [a, b] [] pos) (iRng2 ua) (jRange2 ta) := by
  obtain ⟨h1, w1⟩ := ha
  refine ⟨pi_range2 hg hm h1 hs hs2, fun F env m Q σ H R q o p => w1 F env m _ σ H _ q o fun v H1 d m1 e1 s1 r1 q1 => ?_⟩
  obtain ⟨l, n, rfl, h3, q⟩ := q1
  obtain ⟨v, w, rfl, r, r2⟩ := r1.inv2
  cases r
  cases r2
  exact ⟨l, n, rfl, h3, p _ H1 _ m1 e1 s1 wlk_range q⟩
def jStr (te : dE) : dI := fun env m Q => te env m fun d m1 => ∃ z : Str, (d = .str z) ∧ Q (z.cps.toList.map fun c => .str ⟨#[c]⟩) m1
theorem i_str {l : Expr} {ue : TE} {te : dE} (h : DE K X l ue te) : DI K X tg l (iStr ue) (jStr te) := by
  obtain ⟨h1, w1⟩ := h
  refine ⟨pi_str h1, fun F env m Q σ H R q o p => w1 F env m _ σ H _ q o fun v H1 d m1 e1 s1 r1 q1 => ?_⟩
  obtain ⟨ds, rfl, q⟩ := q1
  cases r1
  exact ⟨_, rfl, p _ H1 _ m1 e1 s1 wlk_str q⟩
end

/-! ### for: the items one by one -/
def forD (g : dG) (tb : dS) (DD : dEnds) : List D → Env → Mu → Prop
  | [], env, m => DD.nx env m
  | x :: r, env, m => g x env m fun e1 m1 => tb { DD with nx := forD g tb DD r, ct := forD g tb DD r, bk := DD.nx } e1 m1
def dFor (wi : dI) (g : dG) (tb : dS) : dS := fun DD env m => wi env m fun ds m1 => forD g tb DD ds env m1
theorem WS.for {K : PySem.W.Frag} {wi : TI} {di : dI} {g : TG} {dg : dG} {tb : TS} {db : dS} (hi : WI K wi di) (hg : WG K g dg) (hb : WS K tb db) : WS K (tFor wi g tb) (dFor di dg db) := fun F DD env m σ H RR q o p => by
  refine hi F env m _ σ H _ q o fun J H1 ds m1 e1 s1 wk q1 => ?_
  obtain ⟨n, G, Y, rfl, w, hG, hY⟩ := wk.ex
  refine for_it w (fun i σ' H' => ∃ env' m', Ext (hide F H1 m1) (hide F H' m') ∧ Ok K F H' σ' env' m' ∧ forD dg db DD (ds.drop i) env' m') ⟨env, m1, Ext.refl, o.at s1 e1, q1⟩ (fun i σ' H' _ ⟨env', m', ex, o', _⟩ => hG F H' m' ex o'.st) ?_ ?_
  · rintro i x σ' Hc H' hi' ⟨env', m', ex, o', q'⟩ y
    obtain ⟨d, hd, e2, s2, r2⟩ := hY i F Hc m' x H' ex o'.st y hi'
    have hdr : ds.drop i = d :: ds.drop (i + 1) := by
      obtain ⟨h1, h2⟩ := List.getElem?_eq_some_iff.mp hd
      rw [← h2, List.getElem_cons_drop]
    rw [hdr] at q'
    refine hg F d env' m' _ x σ' H' _ q' (o'.at s2 e2) r2 fun σ2 H2 env2 m2 e3 o2 q2 => ?_
    have e12 : Ext (hide F H1 m1) (hide F H2 m2) := (ex.trans e2).trans e3
    have again : PstX K F H2 m2 (forD dg db DD (ds.drop (i + 1))) (fun σ' H' => ∃ env' m', Ext (hide F H1 m1) (hide F H' m') ∧ Ok K F H' σ' env' m' ∧ forD dg db DD (ds.drop (i + 1)) env' m') :=
      fun σ3 H3 env3 m3 e4 o3 q3 => ⟨env3, m3, e12.trans e4, o3, q3⟩
    exact hb F _ env2 m2 σ2 H2 _ q2 o2 ⟨again, p.rt.at (e1.trans e12), p.nx.at (e1.trans e12), again⟩
  · rintro σ' H' ⟨env', m', ex, o', q'⟩
    rw [List.drop_length] at q'
    exact p.nx σ' H' env' m' (e1.trans ex) o' q'
theorem s_for {K : PySem.W.Frag} {X : Cx} {tg iter : Expr} {body : List Stmt} {ui : TI} {ug : TG} {ub : TS} {wi : dI} {g : dG} {tb : dS} {pos : Pos} (hi : DI K X tg iter ui wi) (hg : DG K X tg ug g) (hb : DSs K X body ub tb) (hp : PassesOwn (model X.prog X.w) X.A X.env X.xe := by exact PassesOwn.never) (hc : X.calm = true := by rfl)
    (hs : ∀ x, foldedSetIterable iter X.env x = pure x := by intro _; rfl) : DS K X (.For tg iter body [] pos) (tFor ui ug ub) (dFor wi g tb) := by
  obtain ⟨h1, w1⟩ := hi
  obtain ⟨h2, w2⟩ := hg
  obtain ⟨h3, w3⟩ := hb
  exact ⟨ps_for hp hc h1 h2 h3 hs, .for w1 w2 w3⟩
/-- by a word -/
theorem forD_inv {g : dG} {tb : dS} {DD : dEnds} (P : Nat → Env → Mu → Prop) : ∀ (ds : List D) (i0 : Nat), (∀ i d, ds[i]? = some d → ∀ env m, P (i0 + i) env m → ∀ nx : Env → Mu → Prop, (∀ e m, P (i0 + i + 1) e m → nx e m) → g d env m fun e1 m1 => tb { DD with nx := nx, ct := nx, bk := DD.nx } e1 m1) →
    (∀ env m, P (i0 + ds.length) env m → DD.nx env m) → ∀ env m, P i0 env m → forD g tb DD ds env m
  | [], i0, _, hd, env, m, h => hd env m h
  | d :: r, i0, hs, hd, env, m, h => by
    refine hs 0 d rfl env m h _ fun e m' h' => ?_
    refine forD_inv P r (i0 + 1) (fun i d hd' env m q nx hn => ?_) (fun env m q => hd env m (by rw [List.length_cons]; rw [show i0 + (r.length + 1) = i0 + 1 + r.length by omega]; exact q)) e m' h'
    have e1 : i0 + 1 + i = i0 + (i + 1) := by omega
    rw [e1] at q hn
    exact hs (i + 1) d (by simpa using hd') env m q nx hn

/-! ### while: by a word and a measure -/
def dWhile (c : dT) (tb : dS) : dS := fun DD env m => ∃ W : Nat → Env → Mu → Prop, (∃ n, W n env m) ∧ ∀ n env m, W n env m → c env m fun b m1 => if b = true then tb { DD with nx := fun e m => ∃ n', n' < n ∧ W n' e m, ct := fun e m => ∃ n', n' < n ∧ W n' e m, bk := DD.nx } env m1 else DD.nx env m1
theorem WS.while {K : PySem.W.Frag} {c : TT} {dc : dT} {tb : TS} {db : dS} (hc : WT K c dc) (hb : WS K tb db) : WS K (tWhile c tb) (dWhile dc db) := fun F DD env m σ H RR q o p => by
  obtain ⟨W, ⟨n0, w0⟩, hs⟩ := q
  refine ⟨fun n σ' H' => ∃ env' m', Ext (hide F H m) (hide F H' m') ∧ Ok K F H' σ' env' m' ∧ W n env' m', ⟨n0, env, m, Ext.refl, o, w0⟩, ?_⟩
  rintro n σ' H' ⟨env', m', ex, o', w'⟩
  refine hc F env' m' _ σ' H' _ (hs n env' m' w') o' fun k H1 m1 e1 s1 q1 => ?_
  cases k with
  | false => exact p.nx σ' H1 env' m1 (ex.trans e1) (o'.at s1 e1) q1
  | true =>
    refine ⟨fun σ2 H2 => ∃ n' env2 m2, n' < n ∧ Ext (hide F H m) (hide F H2 m2) ∧ Ok K F H2 σ2 env2 m2 ∧ W n' env2 m2, fun σ2 H2 ⟨n', env2, m2, hl, ex2, o2, w2⟩ => ⟨n', hl, env2, m2, ex2, o2, w2⟩, ?_⟩
    have e12 := ex.trans e1
    have again : PstX K F H1 m1 (fun e m => ∃ n', n' < n ∧ W n' e m) (fun σ2 H2 => ∃ n' env2 m2, n' < n ∧ Ext (hide F H m) (hide F H2 m2) ∧ Ok K F H2 σ2 env2 m2 ∧ W n' env2 m2) :=
      fun σ3 H3 env3 m3 e4 o3 ⟨n', hl, w3⟩ => ⟨n', env3, m3, hl, e12.trans e4, o3, w3⟩
    exact hb F _ env' m1 σ' H1 _ q1 (o'.at s1 e1) ⟨again, p.rt.at e12, p.nx.at e12, again⟩
theorem s_while {K : PySem.W.Frag} {X : Cx} {c : Expr} {body : List Stmt} {uc : TT} {ub : TS} {tc : dT} {tb : dS} {pos : Pos} (hc : DT K X c uc tc) (hb : DSs K X body ub tb) (hp : PassesOwn (model X.prog X.w) X.A X.env X.xe := by exact PassesOwn.never) : DS K X (.While c body [] pos) (tWhile uc ub) (dWhile tc tb) := by
  obtain ⟨h1, w1⟩ := hc
  obtain ⟨h2, w2⟩ := hb
  exact ⟨ps_while hp h1 h2, .while w1 w2⟩

/-! ### comprehensions -/
def wipeD (env : Env) : List Nat → Env
  | [] => env
  | v :: vs => (wipeD env vs).set v none
def lcD (vs : List Nat) (env : Env) (g : dG) (tt : dT) (te : dE) (Q : List D → Mu → Prop) : List D → List D → Mu → Prop
  | [], acc, m => Q acc m
  | x :: r, acc, m => g x (wipeD env vs) m fun e1 m1 => tt e1 m1 fun b m2 => if b = true then te e1 m2 fun y m3 => acc.length < sizeLine ∧ lcD vs env g tt te Q r (acc ++ [y]) m3 else lcD vs env g tt te Q r acc m2
def dLc (b : Bool) (vs : List Nat) (wi : dI) (g : dG) (tt : dT) (te : dE) : dE := fun env m Q => wi env m fun ds m1 => lcD vs env g tt te (fun acc m2 => mkL b acc m2 Q) ds [] m1

/-- the target stores into the block's own slots alone -/
def Keeps (g : TG) (vs : List Nat) : Prop := ∀ x σ H Q, g x σ H Q → g x σ H fun σ2 H2 => wipe σ2 vs = wipe σ vs ∧ Q σ2 H2
theorem wipe_set {σ : L2.St} {j : Nat} {x : Option V} : ∀ {vs : List Nat}, j ∈ vs → wipe (σ.set j x) vs = wipe σ vs
  | v :: vs, h => by
    unfold wipe
    by_cases e : j ∈ vs
    · rw [wipe_set e]
    · have e2 : v = j := by
        rcases List.mem_cons.mp h with h | h
        · exact h.symm
        · exact absurd h e
      subst e2
      have key : ∀ vs : List Nat, v ∉ vs → wipe (σ.set v x) vs = (wipe σ vs).set v x := by
        intro vs
        induction vs with
        | nil => intro _; rfl
        | cons w ws ih =>
          intro hw
          unfold wipe
          rw [ih (fun z => hw (List.mem_cons_of_mem _ z)), List.set_comm _ _ (fun z => hw (by rw [z]; exact List.mem_cons_self))]
      rw [key vs e, List.set_set]
theorem keeps_name {j : Nat} {vs : List Nat} (h : j ∈ vs) : Keeps (gName j) vs := fun x σ H Q q => ⟨wipe_set h, q⟩
def KeepsS (g : TGs) (vs : List Nat) : Prop := ∀ x σ H Q, g x σ H Q → g x σ H fun σ2 H2 => wipe σ2 vs = wipe σ vs ∧ Q σ2 H2
theorem keeps_nil {vs : List Nat} : KeepsS gNil vs := fun x σ H Q q => ⟨q.1, rfl, q.2⟩
theorem keeps_cons {g : TG} {g2 : TGs} {vs : List Nat} (mono : ∀ x σ H Q Q', (∀ s h, Q s h → Q' s h) → g x σ H Q → g x σ H Q') (mono2 : ∀ x σ H Q Q', (∀ s h, Q s h → Q' s h) → g2 x σ H Q → g2 x σ H Q') (h : Keeps g vs) (k : KeepsS g2 vs) : KeepsS (gCons g g2) vs := fun x σ H Q q => by
  obtain ⟨v, r, e, q⟩ := q
  refine ⟨v, r, e, mono _ _ _ _ _ (fun s h' z => ?_) (h v σ H _ q)⟩
  exact mono2 _ _ _ _ _ (fun s2 h2 w => ⟨w.1.trans z.1, w.2⟩) (k r s h' Q z.2)
theorem keeps_tup {K : PySem.W.Frag} {n : Nat} {g2 : TGs} {vs : List Nat} (k : KeepsS g2 vs) : Keeps (gTup K n g2) vs := fun x σ H Q q => by
  obtain ⟨a, xs, e, h, l, q⟩ := q
  exact ⟨a, xs, e, h, l, k xs σ H Q q⟩
theorem wipe_env {K : PySem.W.Frag} {H : Hp} {σ : L2.St} {env : Env} (r : RepS K H σ env) : ∀ vs : List Nat, RepS K H (wipe σ vs) (wipeD env vs)
  | [] => r
  | v :: vs => by
    have ih := wipe_env r vs
    unfold wipe wipeD
    refine ⟨by rw [List.length_set, List.length_set]; exact ih.1, fun i d h => ?_⟩
    rw [List.getElem?_set] at h
    rw [List.getElem?_set]
    by_cases e : v = i
    · subst e
      rw [if_pos rfl] at h
      split at h <;> cases h
    · rw [if_neg e] at h
      rw [if_neg e]
      exact ih.2 i d h
theorem wipe_idem {σ : L2.St} : ∀ {us vs : List Nat}, (∀ i ∈ us, i ∈ vs) → wipe (wipe σ us) vs = wipe σ vs
  | [], _, _ => rfl
  | v :: us, vs, h => by
    show wipe ((wipe σ us).set v none) vs = wipe σ vs
    rw [wipe_set (h v List.mem_cons_self)]
    exact wipe_idem fun i hi => h i (List.mem_cons_of_mem _ hi)
section
variable {K : PySem.W.Frag} {F H : Hp} {m : Mu} {A : Addr} {vs us : List V}
theorem hide_turn : hide (upd F A (.lst us)) (upd H A (.lst us)) m = hide (upd F A (.lst vs)) H m := by
  funext a
  unfold hide
  by_cases e : a = A
  · subst e
    rw [upd_same, upd_same, upd_same]
    cases m a <;> rfl
  · rw [upd_ne e, upd_ne e, upd_ne e]
theorem Stt.turn (s : Stt K (upd F A (.lst vs)) H m) : Stt K (upd F A (.lst us)) (upd H A (.lst us)) m := by
  refine ⟨fun p o e => ?_, fun p o e => ?_⟩
  · by_cases h : p = A
    · subst h
      rw [upd_same] at e ⊢
      exact ⟨e, (s.fr p _ upd_same).2⟩
    · rw [upd_ne h] at e
      rw [upd_ne h]
      exact s.fr p o (by rw [upd_ne h]; exact e)
  · have ne : p ≠ A := by
      rintro rfl
      rw [(s.fr p _ upd_same).2] at e
      cases e
    rw [hide_turn (vs := vs)]
    exact (s.ok p o e).mono (upd_ne ne) Ext.refl
theorem Ext.apart (h : H A = none) : Ext (hide F H m) (hide (upd F A (.lst vs)) (upd H A (.lst vs)) m) := Ext.same fun a u e => by
  have e1 := hide_le e
  have ne := ne_of_none e1 h
  rw [hide_at (hide_un e).1 (by rw [upd_ne ne]; exact (hide_un e).2), upd_ne ne]
  exact e1
theorem Stt.set_apart (s : Stt K F H m) (h : H A = none) : Stt K (upd F A (.lst vs)) (upd H A (.lst vs)) m := by
  refine ⟨fun p o e => ?_, fun p o e => ?_⟩
  · by_cases hp : p = A
    · subst hp
      rw [upd_same] at e ⊢
      exact ⟨e, s.free h⟩
    · rw [upd_ne hp] at e
      rw [upd_ne hp]
      exact s.fr p o e
  · obtain ⟨w, z⟩ := (s.ok p o e).there
    exact (s.ok p o e).mono (upd_ne (ne_of_none z h)) (Ext.apart h)
theorem Ext.back (h : F A = none) : Ext (hide (upd F A (.lst vs)) H m) (hide F H m) := Ext.same fun a u e => by
  have ne : a ≠ A := by
    rintro rfl
    have := (hide_un e).2
    rw [upd_same] at this
    cases this
  have h2 := (hide_un e).2
  rw [upd_ne ne] at h2
  rw [hide_at (hide_un e).1 h2]
  exact hide_le e
theorem Stt.back (s : Stt K (upd F A (.lst vs)) H m) (h : F A = none) : Stt K F H m :=
  ⟨fun p o e => s.fr p o (by rw [upd_ne (ne_of_none e h)]; exact e), fun p o e => (s.ok p o e).mono rfl (Ext.back h)⟩
theorem hide_know {w : MO} (h : F A = none) : hide F H (ups m A w) = hide (upd F A (.lst vs)) H m := by
  funext a
  unfold hide
  by_cases e : a = A
  · subst e
    rw [ups_same, upd_same]
    cases m a <;> rfl
  · rw [ups_ne e, upd_ne e]
theorem Stt.know {w : MO} (s : Stt K (upd F A (.lst vs)) H m) (h : F A = none) (k : MOk K H (hide (upd F A (.lst vs)) H m) A w) : Stt K F H (ups m A w) := by
  refine ⟨fun p o e => ?_, fun p o e => ?_⟩
  · have ne := ne_of_none e h
    rw [ups_ne ne]
    exact s.fr p o (by rw [upd_ne ne]; exact e)
  · rw [hide_know (vs := vs) h]
    by_cases hp : p = A
    · subst hp
      rw [ups_same] at e
      cases e
      exact k
    · rw [ups_ne hp] at e
      exact s.ok p o e
end
theorem WE.lc {K : PySem.W.Frag} {wi : TI} {di : dI} {g : TG} {dg : dG} {tt : TT} {dt : dT} {te : TE} {de : dE} {vs : List Nat} (b : Bool) (hi : WI K wi di) (hg : WG K g dg) (ht : WT K tt dt) (he : WE K te de) (hk : Keeps g vs) : WE K (tLc wi g tt te vs) (dLc b vs di dg dt de) := fun F env m Q σ H R q o p => by
  refine hi F env m _ σ H _ q o fun J H1 ds m1 e1 s1 wk q1 => ?_
  intro A hA
  obtain ⟨n, G, Y, rfl, w, hG, hY⟩ := wk.ex
  have fA := s1.freeF hA
  refine lc_it w (fun i H' => ∃ m' av acc, Stt K (upd F A (.lst av)) H' m' ∧ Ext (hide F H1 m1) (hide (upd F A (.lst av)) H' m') ∧ Reps K (hide (upd F A (.lst av)) H' m') av acc ∧ lcD vs env dg dt de (fun acc m2 => mkL b acc m2 Q) (ds.drop i) acc m')
    ⟨m1, [], [], s1.set_apart hA, Ext.apart hA, .nil, q1⟩ (fun i H' _ ⟨m', av, acc, s', ex, _, _⟩ => hG _ H' m' ex s') ?_ ?_
  · rintro i x Hc H' hi' ⟨m', av, acc, s', ex, ra, q'⟩ y
    obtain ⟨d, hd, e2, s2, r2⟩ := hY i _ Hc m' x H' ex s' y hi'
    have hdr : ds.drop i = d :: ds.drop (i + 1) := by
      obtain ⟨h1, h2⟩ := List.getElem?_eq_some_iff.mp hd
      rw [← h2, List.getElem_cons_drop]
    rw [hdr] at q'
    have key := fun Q' q => hk x (wipe σ vs) H' Q' q
    rw [wipe_idem fun _ h => h] at key
    refine key _ (hg _ d (wipeD env vs) m' _ x (wipe σ vs) H' _ q' ⟨s2, wipe_env (o.fr.mono ((e1.trans ex).trans e2)) vs⟩ r2 fun σ2 H2 env2 m2 e3 o2 q2 => ?_)
    refine ht _ env2 m2 _ σ2 H2 _ q2 o2 fun k H3 m3 e4 s4 q4 => ?_
    have e34 := ((ex.trans e2).trans e3).trans e4
    cases k with
    | false => exact ⟨m3, av, acc, s4, e34, ra.mono ((e2.trans e3).trans e4), q4⟩
    | true =>
      refine he _ env2 m3 _ σ2 H3 _ q4 (o2.at s4 e4) fun z H4 dz m4 e5 s5 r5 q5 => ?_
      have ra' := ra.mono (((e2.trans e3).trans e4).trans e5)
      refine ⟨av, (s5.fr A _ upd_same).1, by rw [ra'.length]; exact q5.1, m4, av ++ [z], acc ++ [dz], s5.turn, ?_, ?_, q5.2⟩
      · rw [hide_turn (vs := av)]
        exact e34.trans e5
      · rw [hide_turn (vs := av)]
        exact ra'.append (.one r5)
  · rintro H' ⟨m', av, acc, s', ex, ra, q'⟩
    rw [List.drop_length] at q'
    have hAv := s'.fr A _ upd_same
    cases b with
    | false => exact p _ H' _ m' ((e1.trans ex).trans (Ext.back fA)) (s'.back fA) (.list (by rw [hide_at hAv.2 fA]; exact hAv.1) (ra.mono (Ext.back fA))) q'
    | true =>
      refine p _ H' _ _ ?_ (s'.know fA (show MOk K H' _ A (.lst acc) from ⟨av, hAv.1, ra⟩)) (.adr A) (q' A hAv.2)
      rw [hide_know (vs := av) fA]
      exact e1.trans ex
/-- a clause's tests -/
structure DTs (K : PySem.W.Frag) (X : Cx) (ifs : List Expr) (te : TT) (t : dT) : Prop where
  p : PTs X ifs te
  w : WT K te t
def dYes : dT := fun _ m Q => Q true m
theorem ts_nil {K : PySem.W.Frag} {X : Cx} : DTs K X [] tYes dYes := ⟨pts_nil, fun F env m Q σ H R q o p => p true H m Ext.refl o.st q⟩
theorem ts_one {K : PySem.W.Frag} {X : Cx} {c : Expr} {tc : TT} {dc : dT} (h : DT K X c tc dc) : DTs K X [c] tc dc := ⟨pts_one h.p, h.w⟩
theorem d_lc {K : PySem.W.Frag} {X : Cx} (b : Bool) {elt tg iter : Expr} {ifs : List Expr} {scope : Scope} {own : List (Str × Nat)} {pos : Pos} {wi : TI} {di : dI} {g : TG} {dg : dG} {tt : TT} {dt : dT} {te : TE} {de : dE} (hN : X.N.Nodup) (hi : DI K X tg iter wi di) (ok : BlkOk X.N X.env.scope scope own)
    (hg : ∀ (s : Shared) (H : Hp) (C : Addr) (cl : List (Str × Addr)) (fp : List Addr), DG K (X.blk s H scope (compEnvC scope cl C X.env) fp) tg g dg) (ht : ∀ (s : Shared) (H : Hp) (C : Addr) (cl : List (Str × Addr)) (fp : List Addr), DTs K (X.blk s H scope (compEnvC scope cl C X.env) fp) ifs tt dt)
    (he : ∀ (s : Shared) (H : Hp) (C : Addr) (cl : List (Str × Addr)) (fp : List Addr), DE K (X.blk s H scope (compEnvC scope cl C X.env) fp) elt te de) (hk : Keeps g (own.map (·.2))) (hs : ∀ x, foldedSetIterable iter X.env x = pure x := by intro _; rfl) (hc : X.calm = true := by rfl) :
    DE K X (.ListComp elt [⟨tg, iter, ifs, 0⟩] scope pos) (tLc wi g tt te (own.map (·.2))) (dLc b (own.map (·.2)) di dg dt de) := by
  refine ⟨pe_lc hc hN hi.p ok (fun s H C cl fp => (hg s H C cl fp).p) (fun s H C cl fp => (ht s H C cl fp).p) (fun s H C cl fp => (he s H C cl fp).p) hs, ?_⟩
  intro F env m Q σ H R q o p
  exact WE.lc b hi.w (hg X.s_0 X.H_0 0 [] []).w (ht X.s_0 X.H_0 0 [] []).w (he X.s_0 X.H_0 0 [] []).w hk F env m Q σ H R q o p
theorem s_setLc {K : PySem.W.Frag} {X : Cx} (b : Bool) {i : Nat} {y : Str} {py : Pos} {elt tg iter : Expr} {ifs : List Expr} {scope : Scope} {own : List (Str × Nat)} {pos spos : Pos} {wi : TI} {di : dI} {g : TG} {dg : dG} {tt : TT} {dt : dT} {te : TE} {de : dE} (hN : X.N.Nodup) (hi : DI K X tg iter wi di) (ok : BlkOk X.N X.env.scope scope own)
    (hg : ∀ (s : Shared) (H : Hp) (C : Addr) (cl : List (Str × Addr)) (fp : List Addr), DG K (X.blk s H scope (compEnvC scope cl C X.env) fp) tg g dg) (ht : ∀ (s : Shared) (H : Hp) (C : Addr) (cl : List (Str × Addr)) (fp : List Addr), DTs K (X.blk s H scope (compEnvC scope cl C X.env) fp) ifs tt dt)
    (he : ∀ (s : Shared) (H : Hp) (C : Addr) (cl : List (Str × Addr)) (fp : List Addr), DE K (X.blk s H scope (compEnvC scope cl C X.env) fp) elt te de) (hk : Keeps g (own.map (·.2))) (hsw : swapsWith (.ListComp elt [⟨tg, iter, ifs, 0⟩] scope pos) (some (.Name y py)) spos.line X.env = pure true)
    (hy : X.N[i]? = some y := by rfl) (hyl : X.env.scope.names.lookup y = some .local := by rfl) (hs : ∀ x, foldedSetIterable iter X.env x = pure x := by intro _; rfl) (hc : X.calm = true := by rfl) :
    DS K X (.Assign [.Name y py] (.ListComp elt [⟨tg, iter, ifs, 0⟩] scope pos) spos) (tAsg (tLc wi g tt te (own.map (·.2))) (gName i)) (dAsg (dLc b (own.map (·.2)) di dg dt de) i) := by
  refine ⟨ps_setLc hc hN hy hyl hsw hi.p ok (fun s H C cl fp => (hg s H C cl fp).p) (fun s H C cl fp => (ht s H C cl fp).p) (fun s H C cl fp => (he s H C cl fp).p) hs, ?_⟩
  intro F DD env m σ H RR q o p
  exact WE.lc b hi.w (hg X.s_0 X.H_0 0 [] []).w (ht X.s_0 X.H_0 0 [] []).w (he X.s_0 X.H_0 0 [] []).w hk F env m _ σ H _ q o fun v H1 d m1 e1 s1 r1 q1 => p.nx _ H1 _ m1 e1 ⟨s1, (o.fr.mono e1).set r1⟩ q1
end Dq

namespace Dq
open PySem L2 PyProof.Rows

/-! ### own defs: promises over deep data -/
abbrev Pre := List D → Mu → (D → Mu → Prop) → Prop
def spD (K : PySem.W.Frag) (pre : Pre) : Sp := fun vs H R _ => ∃ F ds m Q, Stt K F H m ∧ Reps K (hide F H m) vs ds ∧ pre ds m Q ∧ Pst K F H m Q R
/-- a def of the text that keeps a promise, ready to be called -/
structure Def (P : Program) (w : World) (K : PySem.W.Frag) (mg : Str → Option Value) (base : Heap) (x : Str) (k : Nat) (pre : Pre) : Prop where
  ex : ∃ f fd ps, FnOk P w K mg base CX0 k f fd ps (spD K pre) ∧ mg x = some (.ref f) ∧ PySem.W.keepIn K (.ref f) = true ∧ Binds K fd ps []
def dCall (pre : Pre) (ta : dA) : dE := fun env m Q => ta env m fun ds m1 => pre ds m1 Q
section
variable {K : PySem.W.Frag} {X : Cx} {x : Str} {k : Nat} {pre : Pre} {e : Expr} {es : List Expr} {ta : TA} {da : dA} {p pos : Pos}
theorem d_call (h : Def X.prog X.w K X.mg X.base x k pre) (hr : Room k X.A) (ha : DA K X (e :: es) ta da) (hg : Gl X x := by rfl) (hdb : (x == ("__debug__" : Str)) = false := by decide) (he : starEach (e :: es) X.env = (false, eval e X.env) :: starEach es X.env := by rfl)
    (hpl : (backTo pos (starEach es X.env)).any (·.1) = false := by rfl) (hK : X.K = K := by rfl) : DE K X (.Call (.Name x p) (e :: es) [] pos) (tCall (spD K pre) [] E0 ta) (dCall pre da) := by
  subst hK
  obtain ⟨f, fd, ps, F, hm, hk, hb⟩ := h.ex
  refine ⟨pe_call F hr hg hm hk hb .nil pass0 ha.p hdb he hpl, fun F env m Q σ H R q o p => ha.w F env m _ σ H _ q o fun vs H1 ds m1 e1 s1 r1 q1 => ?_⟩
  rw [List.append_nil]
  exact ⟨F, ds, m1, Q, s1, r1, q1, p.at e1⟩
end
def startD (n : Nat) (ds : List D) : Env := ds.map some ++ List.replicate (n - ds.length) none
theorem startD_ok {K : PySem.W.Frag} {H : Hp} {N : List Str} {vs : List V} {ds : List D} (r : Reps K H vs ds) : RepS K H (L2.start N vs) (startD N.length ds) := by
  unfold L2.start startD
  refine ⟨by simp [r.length], fun i d h => ?_⟩
  rw [List.getElem?_append] at h
  split at h
  · rename_i hl
    rw [List.getElem?_map] at h
    obtain ⟨d', e1, e2⟩ := Option.map_eq_some_iff.mp h
    cases e2
    obtain ⟨v, e3, rv⟩ := r.get e1
    refine ⟨v, ?_, rv⟩
    rw [List.getElem?_append_left (by simpa [r.length] using hl), List.getElem?_map, e3]
    rfl
  · rw [List.getElem?_replicate] at h
    split at h <;> cases h
section
variable {P : Program} {w : World} {K : PySem.W.Frag} {mg : Str → Option Value} {base : Heap}
/-- THE RULE for a def -/
theorem ok_def {x qual : Str} {st : Stmt} {f : Addr} {fd : FuncData} {N ps : List Str} {k : Nat} {pre : Pre} (F : Fun K x qual st f fd) (S : FnScope N ps (defScope st)) (len : ∀ ds m Q, pre ds m Q → ds.length = ps.length)
    (hb : ∀ (cdv : Value) (A : Around) (outer : List PySem.Env) (s : Shared) (H : Hp) (E : XK), Room k (A.deeper (envOfC qual (defScope st) s.heap.objs.size f cdv)) →
      ∃ ts t, DSs K (cxOf CX0 P w K mg base N qual (defScope st) f cdv A outer s H E).nox (defBody st) ts t ∧ ∀ ds m Q, pre ds m Q → t { nx := fun _ m' => Q .non m', rt := Q } (startD N.length ds) m) : FnOk P w K mg base CX0 (k + 1) f fd ps (spD K pre) := by
  refine F.ok S (fun vs H Q E h => ?_) (fun cdv A outer s H vs Q E hr h => ?_)
  · obtain ⟨F', ds, m, Q', s', r, p, _⟩ := h
    rw [r.length]
    exact len _ _ _ p
  · obtain ⟨F', ds, m, Q', s', r, p, k'⟩ := h
    obtain ⟨ts, t, b, q⟩ := hb cdv A outer s H E hr
    refine ⟨ts, b.p, b.w F' _ (startD N.length ds) m (L2.start N vs) H _ (q ds m Q' p) ⟨s', startD_ok r⟩ ⟨fun σ' H' env' m' ex o' q' => k' _ H' _ m' ex o'.st .non q', k', fun _ _ _ _ _ _ z => z.elim, fun _ _ _ _ _ _ z => z.elim⟩⟩
end

/-! ### built-ins by values -/
def CallD (K : PySem.W.Frag) (r : List V → Hp → VK → Prop) (rd : List D → Mu → (D → Mu → Prop) → Prop) : Prop :=
  ∀ F H m vs ds Q R, rd ds m Q → Stt K F H m → Reps K (hide F H m) vs ds → Pst K F H m Q R → r vs H R
def dCB (rd : List D → Mu → (D → Mu → Prop) → Prop) (ta : dA) : dE := fun env m Q => ta env m fun ds m1 => rd ds m1 Q
theorem WE.cb {K : PySem.W.Frag} {r : List V → Hp → VK → Prop} {rd : List D → Mu → (D → Mu → Prop) → Prop} {ta : TA} {da : dA} (h : CallD K r rd) (ha : WA K ta da) : WE K (tCB r ta) (dCB rd da) := fun F env m Q σ H R q o p =>
  ha F env m _ σ H _ q o fun vs H1 ds m1 e1 s1 r1 q1 => h F H1 m1 vs ds Q R q1 s1 r1 (p.at e1)
section
variable {K : PySem.W.Frag} {X : Cx} {id T : String} {x : Str} {r : List V → Hp → VK → Prop} {rd : List D → Mu → (D → Mu → Prop) → Prop} {e : Expr} {es : List Expr} {ta : TA} {da : dA} {p pos : Pos}
theorem d_callB (hc : CallR X (.builtin id) r) (h : CallD K r rd) (hm : X.mg x = none) (hv : bootBuiltins x = some (.builtin id)) (ha : DA K X (e :: es) ta da) (hg : Gl X x := by rfl) (hn : x ≠ "__name__" := by decide) (hdb : (x == ("__debug__" : Str)) = false := by decide)
    (hs : starEach (e :: es) X.env = (false, eval e X.env) :: starEach es X.env := by rfl) (hpl : (backTo pos (starEach es X.env)).any (·.1) = false := by rfl) :
    DE K X (.Call (.Name x p) (e :: es) [] pos) (tCB r ta) (dCB rd da) := ⟨pe_callB hc hg hm hv ha.p hn hdb hs hpl, .cb h ha.w⟩
theorem d_callTy (hc : CallR X (.type T) r) (h : CallD K r rd) (hm : X.mg x = none) (hv : bootBuiltins x = some (.type T)) (ha : DA K X (e :: es) ta da) (hg : Gl X x := by rfl) (hn : x ≠ "__name__" := by decide) (hdb : (x == ("__debug__" : Str)) = false := by decide)
    (hs : starEach (e :: es) X.env = (false, eval e X.env) :: starEach es X.env := by rfl) (hpl : (backTo pos (starEach es X.env)).any (·.1) = false := by rfl) :
    DE K X (.Call (.Name x p) (e :: es) [] pos) (tCB r ta) (dCB rd da) := ⟨pe_callTy hc hg hm hv ha.p hn hdb hs hpl, .cb h ha.w⟩
end
theorem CallR.or {X : Cx} {f : Value} {r r' : List V → Hp → VK → Prop} (h : CallR X f r) (h' : CallR X f r') : CallR X f (fun vs H Q => r vs H Q ∨ r' vs H Q) := by
  intro pins s σ H xs us Q I rx q
  rcases q with q | q
  · exact h pins s σ H xs us Q I rx q
  · exact h' pins s σ H xs us Q I rx q
section
variable {K : PySem.W.Frag} {F H : Hp} {m : Mu}
theorem reps_ints : ∀ {vs : List V} {ns : List Int}, Reps K H vs (ns.map D.int) → vs = ns.map V.int
  | _, [], .nil => rfl
  | _, n :: ns, .cons r t => by
    cases r
    rw [reps_ints t, List.map_cons]
theorem reps_bools : ∀ {vs : List V} {ns : List Bool}, Reps K H vs (ns.map D.bl) → vs = ns.map V.bl
  | _, [], .nil => rfl
  | _, n :: ns, .cons r t => by
    cases r
    rw [reps_bools t, List.map_cons]
theorem reps_strs : ∀ {vs : List V} {ns : List Str}, Reps K H vs (ns.map D.str) → vs = ns.map V.str
  | _, [], .nil => rfl
  | _, n :: ns, .cons r t => by
    cases r
    rw [reps_strs t, List.map_cons]
theorem of_ints : ∀ {ns : List Int}, Reps K H (ns.map V.int) (ns.map D.int)
  | [] => .nil
  | _ :: _ => .cons (.int _) of_ints
theorem of_strs : ∀ {ns : List Str}, Reps K H (ns.map V.str) (ns.map D.str)
  | [] => .nil
  | _ :: _ => .cons (.str _) of_strs
/-- len -/
def lenOf (m : Mu) (d : D) (k : Nat → Prop) : Prop := match d with
  | .str s => s.length ≤ sizeLine ∧ k s.length
  | .dict ks => k ks.length
  | d => ∃ xs, vwS m d = some xs ∧ k xs.length
def lenD (ds : List D) (m : Mu) (Q : D → Mu → Prop) : Prop := ∃ d, ds = [d] ∧ lenOf m d fun n => Q (.int n) m
def rLenAll (K : PySem.W.Frag) : List V → Hp → VK → Prop := fun xs H Q => (∃ x n, xs = [x] ∧ LenV K x H n ∧ Q (.int n) H) ∨ ∃ d kvs, xs = [.ref d] ∧ Rd H d (.dK kvs) ∧ Q (.int (kvs.length : Nat)) H
theorem repK_length : ∀ {kvs : List (Key × V)} {ks : List (Key × D)}, RepK K H kvs ks → kvs.length = ks.length
  | _, _, .nil => rfl
  | _, _, .cons _ t => by rw [List.length_cons, List.length_cons, repK_length t]
theorem lenD_sq {d : D} {v : V} {Q : D → Mu → Prop} {R : VK} (h : ∃ xs, vwS m d = some xs ∧ Q (.int xs.length) m) (s : Stt K F H m) (r : Rep K (hide F H m) v d) (p : Pst K F H m Q R) : rLenAll K [v] H R := by
  obtain ⟨xs, hx, q⟩ := h
  obtain ⟨a, vs, rfl, ha, ra⟩ := sq_of s r hx
  refine .inl ⟨_, xs.length, rfl, ?_, p.here s (.int _) q⟩
  rcases ha with ha | ha
  · exact .inl ⟨vs, ha, ra.length.symm⟩
  · exact .inr ⟨vs, ha, ra.length.symm⟩
end
theorem cd_len {K : PySem.W.Frag} : CallD K (rLenAll K) lenD := fun F H m vs ds Q R q s rs p => by
  obtain ⟨d, rfl, q⟩ := q
  obtain ⟨v, rfl, r⟩ := rs.inv1
  cases d with
  | str z =>
    cases r
    exact .inl ⟨.str z, z.length, rfl, ⟨q.1, rfl⟩, p.here s (.int _) q.2⟩
  | dict ks =>
    cases r with
    | dict e r => exact .inr ⟨_, _, rfl, rd_same (fun _ _ h => hide_le h) e, by rw [repK_length r]; exact p.here s (.int _) q⟩
  | int _ => exact lenD_sq q s r p
  | non => exact lenD_sq q s r p
  | bl _ => exact lenD_sq q s r p
  | ty _ => exact lenD_sq q s r p
  | adr _ => exact lenD_sq q s r p
  | list _ => exact lenD_sq q s r p
  | tuple _ => exact lenD_sq q s r p
  | seq _ => exact lenD_sq q s r p
  | tseq _ => exact lenD_sq q s r p
theorem cr_lenAll {K : PySem.W.Frag} {X : Cx} (hK : X.K = K := by rfl) : CallR X (.builtin "len") (rLenAll K) := by
  subst hK
  refine CallR.or call_len fun pins s σ H xs us Q I r h => ?_
  obtain ⟨d, kvs, rfl, hd, q⟩ := h
  cases r with
  | cons r t =>
    cases t
    cases r
    exact d_len I hd fun t s' I' => ⟨.int _, H, I', ⟨_, rfl⟩, q⟩
/-- abs, of a whole number -/
def absD (ds : List D) (m : Mu) (Q : D → Mu → Prop) : Prop := ∃ i, ds = [.int i] ∧ Q (.int (if i < 0 then -i else i)) m
theorem cd_abs {K : PySem.W.Frag} : CallD K (fun xs H Q => ∃ i, xs = [.int i] ∧ Q (.int (if i < 0 then -i else i)) H) absD := fun F H m vs ds Q R q s rs p => by
  obtain ⟨i, rfl, q⟩ := q
  obtain ⟨v, rfl, r⟩ := rs.inv1
  cases r
  exact ⟨i, rfl, p.here s (.int _) q⟩
/-- max, min of two -/
def max2D (ds : List D) (m : Mu) (Q : D → Mu → Prop) : Prop := ∃ i j, ds = [.int i, .int j] ∧ Q (.int (if j > i then j else i)) m
def min2D (ds : List D) (m : Mu) (Q : D → Mu → Prop) : Prop := ∃ i j, ds = [.int i, .int j] ∧ Q (.int (if j < i then j else i)) m
theorem cd_max2 {K : PySem.W.Frag} : CallD K (fun xs H Q => ∃ i j, xs = [.int i, .int j] ∧ Q (.int (if j > i then j else i)) H) max2D := fun F H m vs ds Q R q s rs p => by
  obtain ⟨i, j, rfl, q⟩ := q
  obtain ⟨v, u, rfl, r, r2⟩ := rs.inv2
  cases r; cases r2
  exact ⟨i, j, rfl, p.here s (.int _) q⟩
theorem cd_min2 {K : PySem.W.Frag} : CallD K (fun xs H Q => ∃ i j, xs = [.int i, .int j] ∧ Q (.int (if j < i then j else i)) H) min2D := fun F H m vs ds Q R q s rs p => by
  obtain ⟨i, j, rfl, q⟩ := q
  obtain ⟨v, u, rfl, r, r2⟩ := rs.inv2
  cases r; cases r2
  exact ⟨i, j, rfl, p.here s (.int _) q⟩
/-- int of a whole number, of True and False -/
def intD (ds : List D) (m : Mu) (Q : D → Mu → Prop) : Prop := (∃ i, ds = [.int i] ∧ Q (.int i) m) ∨ ∃ k, ds = [.bl k] ∧ Q (.int (if k then 1 else 0)) m
theorem cd_int {K : PySem.W.Frag} : CallD K (fun xs H Q => (∃ i, xs = [.int i] ∧ Q (.int i) H) ∨ ∃ k, xs = [.bl k] ∧ Q (.int (if k then 1 else 0)) H) intD := fun F H m vs ds Q R q s rs p => by
  rcases q with ⟨i, rfl, q⟩ | ⟨k, rfl, q⟩
  · obtain ⟨v, rfl, r⟩ := rs.inv1
    cases r
    exact .inl ⟨i, rfl, p.here s (.int _) q⟩
  · obtain ⟨v, rfl, r⟩ := rs.inv1
    cases r
    exact .inr ⟨k, rfl, p.here s (.int _) q⟩
/-- all of a list of truth values -/
def allD (ds : List D) (m : Mu) (Q : D → Mu → Prop) : Prop := ∃ d, ds = [d] ∧ ∃ bs : List Bool, vwL m d = some (bs.map D.bl) ∧ Q (.bl (bs.all id)) m
theorem cd_all {K : PySem.W.Frag} : CallD K (rAll K) allD := fun F H m vs ds Q R q s rs p => by
  obtain ⟨d, rfl, bs, hx, q⟩ := q
  obtain ⟨v, rfl, r⟩ := rs.inv1
  obtain ⟨a, us, rfl, ha, ra⟩ := lst_of s r hx
  rw [reps_bools ra] at ha
  exact ⟨a, bs, rfl, .of ha, p.here s (.bl _) q⟩
def sumD (ds : List D) (m : Mu) (Q : D → Mu → Prop) : Prop := ∃ d, ds = [d] ∧ ∃ ns : List Int, vwL m d = some (ns.map D.int) ∧ Q (.int ns.sum) m
theorem cd_sum {K : PySem.W.Frag} : CallD K (rSum K) sumD := fun F H m vs ds Q R q s rs p => by
  obtain ⟨d, rfl, bs, hx, q⟩ := q
  obtain ⟨v, rfl, r⟩ := rs.inv1
  obtain ⟨a, us, rfl, ha, ra⟩ := lst_of s r hx
  rw [reps_ints ra] at ha
  exact ⟨a, bs, rfl, .of ha, p.here s (.int _) q⟩
def maxD (ds : List D) (m : Mu) (Q : D → Mu → Prop) : Prop := ∃ d, ds = [d] ∧ ∃ ns : List Int, vwL m d = some (ns.map D.int) ∧ 0 < ns.length ∧ ∀ k, k ∈ ns → (∀ y, y ∈ ns → y ≤ k) → Q (.int k) m
theorem cd_max {K : PySem.W.Frag} : CallD K (rMax K) maxD := fun F H m vs ds Q R q s rs p => by
  obtain ⟨d, rfl, bs, hx, hl, q⟩ := q
  obtain ⟨v, rfl, r⟩ := rs.inv1
  obtain ⟨a, us, rfl, ha, ra⟩ := lst_of s r hx
  rw [reps_ints ra] at ha
  exact ⟨a, bs, rfl, .of ha, hl, fun k h1 h2 => p.here s (.int _) (q k h1 h2)⟩
def minD (ds : List D) (m : Mu) (Q : D → Mu → Prop) : Prop := ∃ d, ds = [d] ∧ ∃ ns : List Int, vwL m d = some (ns.map D.int) ∧ 0 < ns.length ∧ ∀ k, k ∈ ns → (∀ y, y ∈ ns → k ≤ y) → Q (.int k) m
theorem cd_min {K : PySem.W.Frag} : CallD K (rMin K) minD := fun F H m vs ds Q R q s rs p => by
  obtain ⟨d, rfl, bs, hx, hl, q⟩ := q
  obtain ⟨v, rfl, r⟩ := rs.inv1
  obtain ⟨a, us, rfl, ha, ra⟩ := lst_of s r hx
  rw [reps_ints ra] at ha
  exact ⟨a, bs, rfl, .of ha, hl, fun k h1 h2 => p.here s (.int _) (q k h1 h2)⟩
/-- sorted of whole numbers, fewer than 64 -/
def ins (x : Int) : List Int → List Int
  | [] => [x]
  | y :: r => if x ≤ y then x :: y :: r else y :: ins x r
def isort : List Int → List Int
  | [] => []
  | x :: r => ins x (isort r)
theorem ins_perm (x : Int) : ∀ l : List Int, (ins x l).Perm (x :: l)
  | [] => .refl _
  | y :: r => by
    unfold ins
    split
    · exact .refl _
    · exact ((ins_perm x r).cons y).trans (.swap x y r)
theorem isort_perm : ∀ l : List Int, (isort l).Perm l
  | [] => .refl _
  | x :: r => (ins_perm x _).trans ((isort_perm r).cons x)
theorem ins_sorted (x : Int) : ∀ l : List Int, l.Pairwise (· ≤ ·) → (ins x l).Pairwise (· ≤ ·)
  | [], _ => by simp [ins]
  | y :: r, h => by
    unfold ins
    have h' := List.pairwise_cons.mp h
    split
    · rename_i hxy
      refine List.pairwise_cons.mpr ⟨fun z hz => ?_, h⟩
      rcases List.mem_cons.mp hz with rfl | hz
      · exact hxy
      · exact Int.le_trans hxy (h'.1 z hz)
    · rename_i hxy
      refine List.pairwise_cons.mpr ⟨fun z hz => ?_, ins_sorted x r h'.2⟩
      rcases List.mem_cons.mp ((ins_perm x r).mem_iff.mp hz) with rfl | hz
      · omega
      · exact h'.1 z hz
theorem isort_sorted : ∀ l : List Int, (isort l).Pairwise (· ≤ ·)
  | [] => .nil
  | x :: r => ins_sorted x _ (isort_sorted r)
theorem sorted_one : ∀ {a b : List Int}, a.Perm b → a.Pairwise (· ≤ ·) → b.Pairwise (· ≤ ·) → a = b
  | [], b, p, _, _ => (List.nil_perm.mp p).symm
  | x :: a, [], p, _, _ => absurd (List.perm_nil.mp p) (by simp)
  | x :: a, y :: b, p, ha, hb => by
    have ha' := List.pairwise_cons.mp ha
    have hb' := List.pairwise_cons.mp hb
    have e : x = y := by
      have h1 : x ∈ y :: b := p.mem_iff.mp List.mem_cons_self
      have h2 : y ∈ x :: a := p.mem_iff.mpr List.mem_cons_self
      rcases List.mem_cons.mp h1 with h1 | h1
      · exact h1
      · rcases List.mem_cons.mp h2 with h2 | h2
        · exact h2.symm
        · have := ha'.1 y h2
          have := hb'.1 x h1
          omega
    subst e
    rw [sorted_one ((List.perm_cons x).mp p) ha'.2 hb'.2]
def sortedD (b : Bool) (ds : List D) (m : Mu) (Q : D → Mu → Prop) : Prop := ∃ d, ds = [d] ∧ ∃ ns : List Int, vwL m d = some (ns.map D.int) ∧ ns.length < 64 ∧ mkL b ((isort ns).map D.int) m Q
theorem cd_sorted {K : PySem.W.Frag} (b : Bool) : CallD K (rSorted K) (sortedD b) := fun F H m vs ds Q R q s rs p => by
  obtain ⟨d, rfl, bs, hx, hl, q⟩ := q
  obtain ⟨v, rfl, r⟩ := rs.inv1
  obtain ⟨a, us, rfl, ha, ra⟩ := lst_of s r hx
  rw [reps_ints ra] at ha
  refine ⟨a, bs, rfl, .of ha, hl, fun ns' A hp hs hA => ?_⟩
  rw [sorted_one (hp.trans (isort_perm bs).symm) hs (isort_sorted bs)]
  exact p.newB b s of_ints q A hA
/-- list(xs): a new list -/
def listD (b : Bool) (ds : List D) (m : Mu) (Q : D → Mu → Prop) : Prop := ∃ d, ds = [d] ∧ ∃ xs, vwS m d = some xs ∧ mkL b xs m Q
theorem cd_list {K : PySem.W.Frag} (b : Bool) : CallD K (fun xs H Q => ∃ p ys, xs = [.ref p] ∧ (SqL K H p ys ∨ SqT K H p ys) ∧ ∀ l, H l = none → Q (.ref l) (upd H l (.lst ys))) (listD b) := fun F H m vs ds Q R q s rs p => by
  obtain ⟨d, rfl, xs, hx, q⟩ := q
  obtain ⟨v, rfl, r⟩ := rs.inv1
  obtain ⟨a, us, rfl, ha, ra⟩ := sq_of s r hx
  exact ⟨a, us, rfl, ha, fun A hA => p.newB b s ra q A hA⟩
/-- isinstance(x, T) -/
def tyOf (m : Mu) : D → Option String
  | .non => some "NoneType"
  | .bl _ => some "bool"
  | .int _ => some "int"
  | .str _ => some "str"
  | .list _ => some "list"
  | .tuple _ => some "tuple"
  | .dict _ => none
  | .adr p => match m p with
    | some (.lst _) => some "list"
    | _ => none
  | _ => none
def isiD (ds : List D) (m : Mu) (Q : D → Mu → Prop) : Prop := ∃ d T t b, ds = [d, .ty T] ∧ tyOf m d = some t ∧ kitB t T = some b ∧ Q (.bl b) m
theorem cd_isi {K : PySem.W.Frag} : CallD K (rIsi K) isiD := fun F H m vs ds Q R q s rs p => by
  obtain ⟨d, T, t, b, rfl, ht, hb, q⟩ := q
  obtain ⟨v, u, rfl, r, r2⟩ := rs.inv2
  cases r2
  refine ⟨v, .ty T, .type t, .type T, b, rfl, .ty T, ?_, kit_ty hb, p.here s (.bl _) q⟩
  cases d with
  | non => cases ht; cases r; exact .base .non
  | bl x => cases ht; cases r; exact .base (.bl x)
  | int x => cases ht; cases r; exact .base (.int x)
  | str x => cases ht; cases r; exact .base (.str x)
  | list xs => cases ht; cases r with | list e r => exact .base (.lst (hide_le e))
  | tuple xs => cases ht; cases r with | tuple e r => exact .base (.tup (hide_le e))
  | adr a =>
    cases r
    have ht : (match m a with | some (.lst _) => some "list" | _ => none) = some t := ht
    split at ht
    · rename_i z hz
      cases ht
      obtain ⟨us, e, _⟩ := s.ok _ _ hz
      exact .base (.lst e)
    · cases ht
  | _ => cases ht
theorem d_type {K : PySem.W.Frag} {X : Cx} {x : Str} {T : String} {pos : Pos} (hm : X.mg x = none) (hv : bootBuiltins x = some (.type T)) (hg : Gl X x := by rfl) (hn : x ≠ "__name__" := by decide) (hd : (x == ("__debug__" : Str)) = false := by decide) : DE K X (.Name x pos) (tC (.ty T)) (dC (.ty T)) :=
  ⟨pe_bltn hg hm hv rfl hn hd, .c fun _ => .ty T⟩

/-! ### in, not in -/
def toV : D → V
  | .bl b => .bl b
  | .int i => .int i
  | .str x => .str x
  | _ => .non
def flat : D → Bool
  | .non => true
  | .bl _ => true
  | .int _ => true
  | .str _ => true
  | _ => false
section
variable {K : PySem.W.Frag} {F H : Hp} {m : Mu}
theorem rep_flat {v : V} {d : D} (r : Rep K H v d) (h : flat d = true) : v = toV d ∧ flatV v = true := by
  cases r with
  | non => exact ⟨rfl, rfl⟩
  | bl _ => exact ⟨rfl, rfl⟩
  | int _ => exact ⟨rfl, rfl⟩
  | str _ => exact ⟨rfl, rfl⟩
  | _ => exact absurd (show false = true from h) Bool.false_ne_true
theorem reps_flat : ∀ {vs : List V} {ds : List D}, Reps K H vs ds → ds.all flat = true → vs = ds.map toV ∧ vs.all flatV = true
  | _, _, .nil, _ => ⟨rfl, rfl⟩
  | _, _, .cons r t, h => by
    rw [List.all_cons, Bool.and_eq_true] at h
    obtain ⟨e1, e2⟩ := rep_flat r h.1
    obtain ⟨e3, e4⟩ := reps_flat t h.2
    exact ⟨by rw [List.map_cons, ← e1, ← e3], by rw [List.all_cons, e2, e4]; rfl⟩
end
/-- x in y: y a text (x one sign), a list or tuple of plain things -/
def inD (t : Bool) (x y : D) (m : Mu) (Q : D → Mu → Prop) : Prop := match y with
  | .str z => ∃ c, x = .str ⟨#[c]⟩ ∧ Q (.bl (t == decide (c ∈ z.cps.toList))) m
  | y => ∃ xs, vwS m y = some xs ∧ flat x = true ∧ xs.all flat = true ∧ Q (.bl (t == inV (toV x) (xs.map toV))) m
def rInAll (K : PySem.W.Frag) (neg : Bool) : R2 := fun x y H Q => rIn K neg x y H Q ∨ ∃ (c : Nat) (z : Str), x = .str ⟨#[c]⟩ ∧ y = .str z ∧ Q (.bl (if neg then !decide (c ∈ z.cps.toList) else decide (c ∈ z.cps.toList))) H
theorem op_inAll {K : PySem.W.Frag} {X : Cx} (hK : X.K = K := by rfl) : OpR X (compareOp .In) (rInAll K false) := by
  subst hK
  exact op_in_seq.or op_in_sign
theorem op_notInAll {K : PySem.W.Frag} {X : Cx} (hK : X.K = K := by rfl) : OpR X (compareOp .NotIn) (rInAll K true) := by
  subst hK
  exact op_notIn_seq.or op_notIn_sign
theorem inD_sq {K : PySem.W.Frag} {F H : Hp} {m : Mu} {x y : D} {v u : V} {Q : D → Mu → Prop} {R : VK} {n : Bool} (h : ∃ xs, vwS m y = some xs ∧ flat x = true ∧ xs.all flat = true ∧ Q (.bl ((!n) == inV (toV x) (xs.map toV))) m)
    (s : Stt K F H m) (rx : Rep K (hide F H m) v x) (ry : Rep K (hide F H m) u y) (p : Pst K F H m Q R) : rInAll K n v u H R := by
  obtain ⟨xs, hx, f1, f2, q⟩ := h
  obtain ⟨a, vs, rfl, ha, ra⟩ := sq_of s ry hx
  obtain ⟨e1, e2⟩ := rep_flat rx f1
  obtain ⟨e3, e4⟩ := reps_flat ra f2
  refine .inl ⟨a, vs, rfl, ha, e2, e4, ?_⟩
  rw [e1, e3]
  cases n
  · exact p.here s (.bl _) (by simpa using q)
  · exact p.here s (.bl _) (by simpa using q)
theorem opd_in {K : PySem.W.Frag} (n : Bool) : OpD K (rInAll K n) (inD !n) := fun F H m x y v u Q R q s rx ry p => by
  cases y with
  | str z =>
    obtain ⟨c, rfl, q⟩ := q
    cases rx; cases ry
    refine .inr ⟨c, z, rfl, rfl, ?_⟩
    cases n
    · exact p.here s (.bl _) (by simpa using q)
    · exact p.here s (.bl _) (by simpa using q)
  | int _ => exact inD_sq q s rx ry p
  | non => exact inD_sq q s rx ry p
  | bl _ => exact inD_sq q s rx ry p
  | ty _ => exact inD_sq q s rx ry p
  | adr _ => exact inD_sq q s rx ry p
  | list _ => exact inD_sq q s rx ry p
  | tuple _ => exact inD_sq q s rx ry p
  | seq _ => exact inD_sq q s rx ry p
  | tseq _ => exact inD_sq q s rx ry p
  | dict _ => exact inD_sq q s rx ry p
/-- x in a list of data of any depth -/
def inDeep (t : Bool) (x y : D) (m : Mu) (Q : D → Mu → Prop) : Prop := ∃ d ds, IsP m x d ∧ IsP m y (.list ds) ∧ SeqAt.shaped d = true ∧ SeqAt.shaped (.list ds) = true ∧ Q (.bl (t == ds.any fun z => PyData.eqv z d)) m
theorem opd_inDeep {K : PySem.W.Frag} : OpD K (rInD K) (inDeep true) := fun F H m x y v u Q R q s rx ry p => by
  obtain ⟨a, b, ha, hb, sa, sb, q⟩ := q
  exact ⟨a, b, ha.dp s rx, hb.dp s ry, sa, sb, p.here s (.bl _) (by simpa using q)⟩
theorem opd_notInDeep {K : PySem.W.Frag} : OpD K (rNotInD K) (inDeep false) := fun F H m x y v u Q R q s rx ry p => by
  obtain ⟨a, b, ha, hb, sa, sb, q⟩ := q
  exact ⟨a, b, ha.dp s rx, hb.dp s ry, sa, sb, p.here s (.bl _) (by simpa using q)⟩

/-! ### methods of built-in values -/
def MtD (K : PySem.W.Frag) (T : String) (r : V → List V → Hp → VK → Prop) (rd : D → List D → Mu → (D → Mu → Prop) → Prop) : Prop :=
  ∀ F H m v x vs ds Q R, rd x ds m Q → Stt K F H m → Rep K (hide F H m) v x → Reps K (hide F H m) vs ds → Pst K F H m Q R → r v vs H R
def dBM (ty : D → Mu → Prop) (rd : D → List D → Mu → (D → Mu → Prop) → Prop) (to : dE) (ta : dA) : dE := fun env m Q => to env m fun x m1 => ty x m1 ∧ ta env m1 fun ds m2 => rd x ds m2 Q
def isL (d : D) (m : Mu) : Prop := (vwL m d).isSome = true
def isS (d : D) (m : Mu) : Prop := ∃ z, d = .str z
theorem tyL {K : PySem.W.Frag} {F H : Hp} {m : Mu} {d : D} {v : V} (h : isL d m) (s : Stt K F H m) (r : Rep K (hide F H m) v d) : tyV K "list" v H := by
  obtain ⟨xs, hx⟩ := Option.isSome_iff_exists.mp h
  obtain ⟨a, vs, rfl, ha, ra⟩ := lst_of s r hx
  exact .inl ⟨rfl, vs, .of ha⟩
theorem tyS {K : PySem.W.Frag} {F H : Hp} {m : Mu} {d : D} {v : V} (h : isS d m) (s : Stt K F H m) (r : Rep K (hide F H m) v d) : tyV K "str" v H := by
  obtain ⟨z, rfl⟩ := h
  cases r
  rfl
section
variable {K : PySem.W.Frag} {X : Cx} {o e : Expr} {es : List Expr} {to : TE} {do' : dE} {t : TA} {da : dA} {name : Str} {apos cpos : Pos} {T id : String} {r : V → List V → Hp → VK → Prop} {rd : D → List D → Mu → (D → Mu → Prop) → Prop} {ty : D → Mu → Prop}
theorem d_bm (pa : PlainAttrs T) (slot : Slot T name id) (hty : typeOf (.builtin id) = pure (.type "method_descriptor")) (hm : MtR X id r) (hd : MtD K T r rd) (htd : ∀ F H m d v, ty d m → Stt K F H m → Rep K (hide F H m) v d → tyV K T v H) (ho : DE K X o to do') (ha : DA K X (e :: es) t da)
    (hbase : attributeBase o name X.env (eval o X.env) = eval o X.env := by rfl)
    (hfew : ((backTo cpos (starEach (e :: es) X.env)).all (fun x => !x.1) && (backToKw cpos (keywordEach [] X.env)).all (fun x => x.1.isSome) && decide ((e :: es).length + ([] : List Keyword).length + (if ([] : List Keyword).isEmpty then 0 else 1) < 30)) = true := by rfl)
    (hline : (apos.endLine == cpos.line) = true := by rfl) (hs : starEach (e :: es) X.env = (false, eval e X.env) :: starEach es X.env := by rfl) (hplain : (backTo cpos (starEach es X.env)).any (·.1) = false := by rfl) (hK : X.K = K := by rfl) :
    DE K X (.Call (.Attribute o name apos) (e :: es) [] cpos) (tBM K T r to t) (dBM ty rd do' da) := by
  subst hK
  refine ⟨pe_bm pa slot hty hm ho.p ha.p hbase hfew hline hs hplain, fun F env m Q σ H R q ok p => ho.w F env m _ σ H _ q ok fun v H1 x m1 e1 s1 r1 q1 => ⟨htd _ _ _ _ _ q1.1 s1 r1, ?_⟩⟩
  exact ha.w F env m1 _ σ H1 _ q1.2 (ok.at s1 e1) fun vs H2 ds m2 e2 s2 r2 q2 => hd F H2 m2 v x vs ds Q R q2 s2 (r1.mono e2) r2 (p.at (e1.trans e2))
def dBM0 (ty : D → Mu → Prop) (rd : D → List D → Mu → (D → Mu → Prop) → Prop) (to : dE) : dE := fun env m Q => to env m fun x m1 => ty x m1 ∧ rd x [] m1 Q
theorem d_bm0 (pa : PlainAttrs T) (slot : Slot T name id) (hty : typeOf (.builtin id) = pure (.type "method_descriptor")) (hm : MtR X id r) (hd : MtD K T r rd) (htd : ∀ F H m d v, ty d m → Stt K F H m → Rep K (hide F H m) v d → tyV K T v H) (ho : DE K X o to do')
    (hbase : attributeBase o name X.env (eval o X.env) = eval o X.env := by rfl) (hline : (apos.endLine == cpos.line) = true := by rfl) (hK : X.K = K := by rfl) : DE K X (.Call (.Attribute o name apos) [] [] cpos) (tBM0 K T r to) (dBM0 ty rd do') := by
  subst hK
  refine ⟨pe_bm0 pa slot hty hm ho.p hbase hline, fun F env m Q σ H R q ok p => ho.w F env m _ σ H _ q ok fun v H1 x m1 e1 s1 r1 q1 => ⟨htd _ _ _ _ _ q1.1 s1 r1, hd F H1 m1 v x [] [] Q R q1.2 s1 r1 .nil (p.at e1)⟩⟩
end
/-- a mutable list is changed -/
theorem Pst.chgL {K : PySem.W.Frag} {F H : Hp} {m : Mu} {a : Addr} {xs ys : List D} {us : List V} {Q : D → Mu → Prop} {R : VK} {v : V} {d : D} (p : Pst K F H m Q R) (s : Stt K F H m) (h : m a = some (.lst xs)) (r : Reps K (hide F H m) us ys)
    (rv : Rep K (hide F H m) v d) (q : Q d (ups m a (.lst ys))) : R v (upd H a (.lst us)) := by
  refine p v _ d _ ?_ (s.chg h (show MOk K _ _ a (.lst ys) from ⟨us, upd_same, r⟩)) ?_ q
  · rw [hide_chg h]
    exact Ext.refl
  · rw [hide_chg h]
    exact rv
def appD (x : D) (ds : List D) (m : Mu) (Q : D → Mu → Prop) : Prop := ∃ a xs y, x = .adr a ∧ ds = [y] ∧ m a = some (.lst xs) ∧ xs.length < sizeLine ∧ Q .non (ups m a (.lst (xs ++ [y])))
theorem md_append {K : PySem.W.Frag} : MtD K "list" rAppend appD := fun F H m v x vs ds Q R q s rx rs p => by
  obtain ⟨a, xs, y, rfl, rfl, ha, hl, q⟩ := q
  cases rx
  obtain ⟨u, rfl, ru⟩ := rs.inv1
  obtain ⟨us, hu, rus⟩ := s.ok _ _ ha
  exact ⟨a, us, u, rfl, rfl, hu, by rw [rus.length]; exact hl, p.chgL s ha (rus.append (.one ru)) .non q⟩
def popD (x : D) (ds : List D) (m : Mu) (Q : D → Mu → Prop) : Prop := ∃ a xs y, x = .adr a ∧ ds = [] ∧ m a = some (.lst xs) ∧ xs[xs.length - 1]? = some y ∧ Q y (ups m a (.lst xs.dropLast))
theorem md_pop {K : PySem.W.Frag} : MtD K "list" rPop popD := fun F H m v x vs ds Q R q s rx rs p => by
  obtain ⟨a, xs, y, rfl, rfl, ha, hl, q⟩ := q
  cases rx
  cases rs
  obtain ⟨us, hu, rus⟩ := s.ok _ _ ha
  rw [← rus.length] at hl
  obtain ⟨u, h1, h2⟩ := rus.get hl
  refine ⟨a, us, u, rfl, rfl, hu, h1, p.chgL s ha ?_ h2 q⟩
  rw [List.dropLast_eq_take, List.dropLast_eq_take, rus.length]
  exact rus.take _
def popAtD (x : D) (ds : List D) (m : Mu) (Q : D → Mu → Prop) : Prop := ∃ a xs i k y, x = .adr a ∧ ds = [.int i] ∧ m a = some (.lst xs) ∧ -(2 ^ 63) ≤ i ∧ i < 2 ^ 63 ∧ seqIndex? i xs.length = some k ∧ xs[k]? = some y ∧ Q y (ups m a (.lst (xs.eraseIdx k)))
theorem md_popAt {K : PySem.W.Frag} : MtD K "list" rPopAt popAtD := fun F H m v x vs ds Q R q s rx rs p => by
  obtain ⟨a, xs, i, k, y, rfl, rfl, ha, h1, h2, h3, h4, q⟩ := q
  cases rx
  obtain ⟨w, rfl, rw'⟩ := rs.inv1
  cases rw'
  obtain ⟨us, hu, rus⟩ := s.ok _ _ ha
  obtain ⟨u, h5, h6⟩ := rus.get h4
  exact ⟨a, us, i, k, u, rfl, rfl, hu, h1, h2, by rw [rus.length]; exact h3, h5, p.chgL s ha (rus.erase k) h6 q⟩
def insD (x : D) (ds : List D) (m : Mu) (Q : D → Mu → Prop) : Prop := ∃ a xs i y, x = .adr a ∧ ds = [.int i, y] ∧ m a = some (.lst xs) ∧ xs.length < sizeLine ∧ 0 ≤ i ∧ i < 2 ^ 63 ∧ Q .non (ups m a (.lst (xs.take i.toNat ++ [y] ++ xs.drop i.toNat)))
theorem md_insert {K : PySem.W.Frag} : MtD K "list" (fun x vs H Q => ∃ (l : Addr) (xs : List V) (i : Int) (y : V), x = .ref l ∧ vs = [.int i, y] ∧ H l = some (.lst xs) ∧ xs.length < sizeLine ∧ 0 ≤ i ∧ i < 2 ^ 63 ∧ Q .non (upd H l (.lst (xs.take i.toNat ++ [y] ++ xs.drop i.toNat)))) insD := fun F H m v x vs ds Q R q s rx rs p => by
  obtain ⟨a, xs, i, y, rfl, rfl, ha, h1, h2, h3, q⟩ := q
  cases rx
  obtain ⟨w, u, rfl, rw', ru⟩ := rs.inv2
  cases rw'
  obtain ⟨us, hu, rus⟩ := s.ok _ _ ha
  exact ⟨a, us, i, u, rfl, rfl, hu, by rw [rus.length]; exact h1, h2, h3, p.chgL s ha (((rus.take _).append (.one ru)).append (rus.drop _)) .non q⟩
/-- xs.index(y), plain things -/
def indexD (x : D) (ds : List D) (m : Mu) (Q : D → Mu → Prop) : Prop := ∃ xs y j z, vwL m x = some xs ∧ ds = [y] ∧ flat y = true ∧ xs.all flat = true ∧ xs[j]? = some z ∧ eqV (toV z) (toV y) = true ∧ (∀ (k : Nat) (z' : D), k < j → xs[k]? = some z' → eqV (toV z') (toV y) = false) ∧ Q (.int (j : Nat)) m
theorem md_index {K : PySem.W.Frag} : MtD K "list" (rIndex K) indexD := fun F H m v x vs ds Q R q s rx rs p => by
  obtain ⟨xs, y, j, z, hx, rfl, f1, f2, hj, he, hno, q⟩ := q
  obtain ⟨w, rfl, rw'⟩ := rs.inv1
  obtain ⟨a, us, rfl, ha, ra⟩ := lst_of s rx hx
  obtain ⟨e1, e2⟩ := rep_flat rw' f1
  obtain ⟨e3, e4⟩ := reps_flat ra f2
  obtain ⟨u, h5, h6⟩ := ra.get hj
  have fz : flat z = true := List.all_eq_true.mp f2 z (List.mem_of_getElem? hj)
  refine ⟨a, us, w, j, u, rfl, rfl, .of ha, e2, e4, h5, ?_, fun k z' hk hz => ?_, p.here s (.int _) q⟩
  · rw [(rep_flat h6 fz).1, e1]
    exact he
  · obtain ⟨d, h7, h8⟩ := ra.get' hz
    have fd : flat d = true := List.all_eq_true.mp f2 d (List.mem_of_getElem? h7)
    rw [(rep_flat h8 fd).1, e1]
    exact hno k d hk h7
/-- sep.join(texts) -/
def joinD (x : D) (ds : List D) (m : Mu) (Q : D → Mu → Prop) : Prop := ∃ a d, ∃ ys : List Str, x = .str a ∧ ds = [d] ∧ vwL m d = some (ys.map D.str) ∧ (ys.map (·.length)).sum + ys.length * a.length ≤ 16777216 ∧ Q (.str (Txt.join a ys)) m
theorem md_join {K : PySem.W.Frag} : MtD K "str" (fun x xs H Q => ∃ a p, ∃ ys : List Str, x = .str a ∧ xs = [.ref p] ∧ (SqL K H p (ys.map V.str) ∨ SqT K H p (ys.map V.str)) ∧ (ys.map (·.length)).sum + ys.length * a.length ≤ 16777216 ∧ Q (.str (Txt.join a ys)) H) joinD := fun F H m v x vs ds Q R q s rx rs p => by
  obtain ⟨a, d, ys, rfl, rfl, hd, hl, q⟩ := q
  cases rx
  obtain ⟨w, rfl, rw'⟩ := rs.inv1
  obtain ⟨b, us, rfl, ha, ra⟩ := lst_of s rw' hd
  rw [reps_strs ra] at ha
  exact ⟨a, b, ys, rfl, rfl, .inl (.of ha), hl, p.here s (.str _) q⟩
def countD (x : D) (ds : List D) (m : Mu) (Q : D → Mu → Prop) : Prop := ∃ a b, x = .str a ∧ ds = [.str b] ∧ Q (.int (Txt.count a b)) m
theorem md_count {K : PySem.W.Frag} : MtD K "str" (fun x xs H Q => ∃ a b, x = .str a ∧ xs = [.str b] ∧ Q (.int (Txt.count a b)) H) countD := fun F H m v x vs ds Q R q s rx rs p => by
  obtain ⟨a, b, rfl, rfl, q⟩ := q
  cases rx
  obtain ⟨w, rfl, rw'⟩ := rs.inv1
  cases rw'
  exact ⟨a, b, rfl, rfl, p.here s (.int _) q⟩

/-! ### xs[i] = v -/
def dSetS (tv to ti : dE) : dS := fun DD env m => tv env m fun d m1 => to env m1 fun x m2 => ti env m2 fun y m3 => ∃ a xs k j, x = .adr a ∧ y = .int k ∧ m3 a = some (.lst xs) ∧ ixN xs.length k = some j ∧ DD.nx env (ups m3 a (.lst (xs.set j d)))
theorem s_setL {K : PySem.W.Frag} {X : Cx} {value o i : Expr} {tv to ti : TE} {dv do' di : dE} {pos pos' : Pos} (hv : DE K X value tv dv) (ho : DE K X o to do') (hi : DE K X i ti di) (hs : swapsWithSole [.Subscript o i pos'] value pos.line X.env = pure false := by rfl) (hw : swappedStores [.Subscript o i pos'] value X.env = pure none := by rfl)
    (h1 : (assignEach [.Subscript o i pos'] X.env).map (·.2) = [assign (.Subscript o i pos') X.env] := by rfl)
    (ha : ∀ v, assign (.Subscript o i pos') X.env v = (do
      let ov ← holding [v] (eval o X.env)
      let iv ← holding [v, ov] (eval i X.env)
      standAt pos'
      holding [v, ov, iv] (setItem ov iv v)
      release [v, ov, iv] []) := by intro _; rfl) : DS K X (.Assign [.Subscript o i pos'] value pos) (tAsg tv (gSub to ti rSetL)) (dSetS dv do' di) := by
  refine ⟨ps_asg hv.p (pg_sub ho.p hi.p set_list ha) hs hw h1, fun F DD env m σ H RR q ok p => ?_⟩
  refine hv.w F env m _ σ H _ q ok fun v H1 d m1 e1 s1 r1 q1 => ho.w F env m1 _ σ H1 _ q1 (ok.at s1 e1) fun ov H2 x m2 e2 s2 r2 q2 => ?_
  refine hi.w F env m2 _ σ H2 _ q2 (ok.at s2 (e1.trans e2)) fun iv H3 y m3 e3 s3 r3 q3 => ?_
  obtain ⟨a, xs, k, j, rfl, rfl, hm, hj, q⟩ := q3
  cases r2; cases r3
  obtain ⟨us, hu, rus⟩ := s3.ok _ _ hm
  have e13 := (e1.trans e2).trans e3
  refine ⟨a, us, k, j, rfl, rfl, hu, by rw [rus.length]; exact hj, p.nx _ _ env _ ?_ ⟨s3.chg hm (show MOk K _ _ a (.lst (xs.set j d)) from ⟨_, upd_same, rus.set ((r1.mono e2).mono e3) j⟩), ?_⟩ q⟩
  · rw [hide_chg hm]
    exact e13
  · rw [hide_chg hm]
    exact ok.fr.mono e13

/-! ### the kit's rules, by the K of the text -/
section
variable {K : PySem.W.Frag} {X : Cx}
theorem c_all (hK : X.K = K := by rfl) (hc : X.calm = true := by rfl) : CallR X (.builtin "all") (rAll K) := by
  subst hK
  exact cr_all hc
theorem c_sum (hK : X.K = K := by rfl) (hc : X.calm = true := by rfl) : CallR X (.builtin "sum") (rSum K) := by
  subst hK
  exact cr_sum hc
theorem c_max (hK : X.K = K := by rfl) (hc : X.calm = true := by rfl) : CallR X (.builtin "max") (rMax K) := by
  subst hK
  exact cr_max hc
theorem c_min (hK : X.K = K := by rfl) (hc : X.calm = true := by rfl) : CallR X (.builtin "min") (rMin K) := by
  subst hK
  exact cr_min hc
theorem c_isi (hK : X.K = K := by rfl) : CallR X (.builtin "isinstance") (rIsi K) := by
  subst hK
  exact call_isi
theorem c_sorted (hK : X.K = K := by rfl) : CallR X (.builtin "sorted") (rSorted K) := by
  subst hK
  exact cr_sorted
theorem c_list (hK : X.K = K := by rfl) : CallR X (.type "list") (fun xs H Q => ∃ p ys, xs = [.ref p] ∧ (SqL K H p ys ∨ SqT K H p ys) ∧ ∀ l, H l = none → Q (.ref l) (upd H l (.lst ys))) := by
  subst hK
  exact call_list_of
theorem m_index (hK : X.K = K := by rfl) : MtR X "list.index" (rIndex K) := by
  subst hK
  exact mt_index
theorem m_join (hK : X.K = K := by rfl) : MtR X "str.join" (fun x xs H Q => ∃ a p, ∃ ys : List Str, x = .str a ∧ xs = [.ref p] ∧ (SqL K H p (ys.map V.str) ∨ SqT K H p (ys.map V.str)) ∧ (ys.map (·.length)).sum + ys.length * a.length ≤ 16777216 ∧ Q (.str (Txt.join a ys)) H) := by
  subst hK
  exact mt_join
theorem o_inD (hu : X.A.units + 65 < cLine) (hK : X.K = K := by rfl) : OpR X (compareOp .In) (rInD K) := by
  subst hK
  exact op_inD hu
theorem o_notInD (hu : X.A.units + 65 < cLine) (hK : X.K = K := by rfl) : OpR X (compareOp .NotIn) (rNotInD K) := by
  subst hK
  exact op_notInD hu
end
end Dq

namespace Dq
open PySem L2 PyProof.Rows

theorem u65 {A : Around} {k : Nat} (hr : Room k A) : A.units + 65 < cLine := by have := hr.un; omega
theorem u64 {A : Around} {k : Nat} (hr : Room k A) : A.units + 64 < cLine := hr.units
theorem tyL' {K : PySem.W.Frag} : ∀ F H m d v, isL d m → Stt K F H m → Rep K (hide F H m) v d → tyV K "list" v H := fun _ _ _ _ _ h s r => tyL h s r
theorem tyS' {K : PySem.W.Frag} : ∀ F H m d v, isS d m → Stt K F H m → Rep K (hide F H m) v d → tyV K "str" v H := fun _ _ _ _ _ h s r => tyS h s r

/-! ### slices -/
section
variable {K : PySem.W.Frag} {X : Cx} {e : Expr} {te : TE} {de : dE} {lo hi : Option Expr} {tl th : TO} {dl dh : dO} {pos p2 : Pos}
theorem o_none : DO K X none tNoPart dNoPart := ⟨po_none, fun F env m Q σ H R q o p => p _ H m Ext.refl o.st q⟩
theorem o_some (h : DE K X e te de) : DO K X (some e) (tPart te) (dPart de) := ⟨po_some h.p, fun F env m Q σ H R q o p => h.w F env m _ σ H _ q o fun v H1 d m1 e1 s1 r1 q1 => by
  obtain ⟨i, rfl, q⟩ := q1
  cases r1
  exact ⟨i, rfl, p _ H1 m1 e1 s1 q⟩⟩
def sliceD (b : Bool) (x : D) (lo hi : Option Int) (m : Mu) (Q : D → Mu → Prop) : Prop := match x with
  | .str z => z.length ≤ sizeLine ∧ Q (.str (cutS z lo hi)) m
  | .tuple xs => ¬(HT.sIx xs.length 0 lo = 0 ∧ HT.sIx xs.length xs.length hi = xs.length) ∧ Q (.tuple (cutD xs lo hi)) m
  | x => ∃ xs, vwL m x = some xs ∧ mkL b (cutD xs lo hi) m Q
def rSlAll (K : PySem.W.Frag) : V → Option Int → Option Int → Hp → VK → Prop := fun x lo hi H Q => rSlL K x lo hi H Q ∨ rSlS x lo hi H Q ∨ rSlT K x lo hi H Q
theorem SlR.or {r r' : V → Option Int → Option Int → Hp → VK → Prop} (h : SlR X r) (h' : SlR X r') : SlR X (fun x lo hi H Q => r x lo hi H Q ∨ r' x lo hi H Q) := by
  intro pins s σ H x v vl vu lo hi sl Q I rx hs pl pu q
  rcases q with q | q
  · exact h pins s σ H x v vl vu lo hi sl Q I rx hs pl pu q
  · exact h' pins s σ H x v vl vu lo hi sl Q I rx hs pl pu q
theorem sl_all (hK : X.K = K := by rfl) : SlR X (rSlAll K) := by
  subst hK
  exact SlR.or sl_list (SlR.or sl_str sl_tup)
def dSl (b : Bool) (te : dE) (tl th : dO) : dE := fun env m Q => te env m fun x m1 => tl env m1 fun l m2 => th env m2 fun u m3 => sliceD b x l u m3 Q
theorem sliceD_list {K : PySem.W.Frag} {F H : Hp} {m : Mu} {x : D} {v : V} {l u : Option Int} {Q : D → Mu → Prop} {R : VK} {b : Bool} (h : ∃ xs, vwL m x = some xs ∧ mkL b (cutD xs l u) m Q)
    (s : Stt K F H m) (rx : Rep K (hide F H m) v x) (p : Pst K F H m Q R) : rSlAll K v l u H R := by
  obtain ⟨xs, hx, q⟩ := h
  obtain ⟨a, vs, rfl, ha, ra⟩ := lst_of s rx hx
  exact .inl ⟨a, vs, rfl, .of ha, fun A hA => p.newB b s (reps_cut ra l u) q A hA⟩
theorem d_slice (b : Bool) (h : DE K X e te de) (hl : DO K X lo tl dl) (hh : DO K X hi th dh) (hK : X.K = K := by rfl) : DE K X (.Subscript e (.Slice lo hi none p2) pos) (tSl (rSlAll K) te tl th) (dSl b de dl dh) := by
  refine ⟨pe_slice (sl_all hK) h.p hl.p hh.p, fun F env m Q σ H R q o p => h.w F env m _ σ H _ q o fun v H1 x m1 e1 s1 r1 q1 => ?_⟩
  refine hl.w F env m1 _ σ H1 _ q1 (o.at s1 e1) fun l H2 m2 e2 s2 q2 => hh.w F env m2 _ σ H2 _ q2 (o.at s2 (e1.trans e2)) fun u H3 m3 e3 s3 q3 => ?_
  have r3 := (r1.mono e2).mono e3
  have p3 := p.at ((e1.trans e2).trans e3)
  cases x with
  | str z =>
    cases r3
    exact .inr (.inl ⟨_, rfl, q3.1, p3.here s3 (.str _) q3.2⟩)
  | tuple xs =>
    cases r3 with
    | tuple e r =>
      refine .inr (.inr ⟨_, _, rfl, .of (hide_le e), by rw [r.length]; exact q3.1, fun A hA => p3.newT s3 (reps_cut r l u) q3.2 A hA⟩)
  | int _ => exact sliceD_list q3 s3 r3 p3
  | non => exact sliceD_list q3 s3 r3 p3
  | bl _ => exact sliceD_list q3 s3 r3 p3
  | ty _ => exact sliceD_list q3 s3 r3 p3
  | adr _ => exact sliceD_list q3 s3 r3 p3
  | list _ => exact sliceD_list q3 s3 r3 p3
  | seq _ => exact sliceD_list q3 s3 r3 p3
  | tseq _ => exact sliceD_list q3 s3 r3 p3
  | dict _ => exact sliceD_list q3 s3 r3 p3
end

/-! ### enumerate, zip of lists -/
/-- (i, x) each -/
def enumD : Nat → List D → List D
  | _, [] => []
  | i, x :: r => .tuple [.int (i : Nat), x] :: enumD (i + 1) r
theorem enumD_length : ∀ (i : Nat) (l : List D), (enumD i l).length = l.length
  | _, [] => rfl
  | i, x :: r => by rw [enumD, List.length_cons, List.length_cons, enumD_length]
theorem enumD_get : ∀ (i j : Nat) (l : List D), (enumD i l)[j]? = l[j]?.map fun x => .tuple [.int ((i + j : Nat) : Int), x]
  | _, _, [] => by simp [enumD]
  | i, 0, x :: r => by simp [enumD]
  | i, j + 1, x :: r => by
    rw [enumD, List.getElem?_cons_succ, List.getElem?_cons_succ, enumD_get (i + 1) j r, show i + 1 + j = i + (j + 1) by omega]
def jEnum (ta : dA) : dI := fun env m Q => ta env m fun ds m1 => ∃ d xs, ds = [d] ∧ vwI d = some xs ∧ Q (enumD 0 xs) m1
section
variable {K : PySem.W.Frag} {F H : Hp} {m : Mu}
/-- a list that stays -/
theorem stays (s : Stt K F H m) {d : D} {v : V} {xs : List D} (r : Rep K (hide F H m) v d) (h : vwI d = some xs) : ∃ a vs, v = .ref a ∧ SqL K H a vs ∧ Reps K (hide F H m) vs xs ∧ ∀ F' H' m', Ext (hide F H m) (hide F' H' m') → Stt K F' H' m' → SqL K H' a vs := by
  cases d with
  | list xs =>
    cases h
    cases r with
    | list e r => exact ⟨_, _, rfl, .of (hide_le e), r, fun F' H' m' ex _ => .of (hide_le (ex.lst _ _ e))⟩
  | seq xs =>
    cases h
    cases r with
    | seq e r => exact ⟨_, _, rfl, Ext.unhide.sql e, r, fun F' H' m' ex _ => Ext.unhide.sql (ex.sql e)⟩
  | _ => cases h
theorem pair_new {F' Hc : Hp} {mc : Mu} {T : Addr} {x y : V} {dx dy : D} (s : Stt K F' Hc mc) (hT : Hc T = none) (rx : Rep K (hide F' Hc mc) x dx) (ry : Rep K (hide F' Hc mc) y dy) :
    Ext (hide F' Hc mc) (hide F' (upd Hc T (.tup [x, y])) mc) ∧ Stt K F' (upd Hc T (.tup [x, y])) mc ∧ Rep K (hide F' (upd Hc T (.tup [x, y])) mc) (.ref T) (.tuple [dx, dy]) :=
  ⟨Ext.new s hT, s.new hT, .tuple (by rw [hide_at (s.free hT) (s.freeF hT), upd_same]) (.cons (rx.mono (Ext.new s hT)) (.one (ry.mono (Ext.new s hT))))⟩
theorem wlk_enum {a : Addr} {vs : List V} {ds : List D} (e : ∀ F' H' m', Ext (hide F H m) (hide F' H' m') → Stt K F' H' m' → SqL K H' a vs) (r : Reps K (hide F H m) vs ds) : Wlk K F H m (Ite K a) (enumD 0 ds) := by
  refine ⟨vs.length, fun H' => SqL K H' a vs, _, by rw [enumD_length, r.length], walk_enum, e, fun i F' Hc mc x H' ex s y hi => ?_⟩
  obtain ⟨T, x, z, rfl, hT, rfl, h1, h2⟩ := y
  cases h1
  obtain ⟨d, hd, rd⟩ := r.get' h2
  obtain ⟨g1, g2, g3⟩ := pair_new s hT (.int (i : Nat)) (rd.mono ex)
  refine ⟨_, ?_, g1, g2, g3⟩
  rw [enumD_get, hd]
  simp
theorem i_enum {K : PySem.W.Frag} {X : Cx} {e : Expr} {ta : TA} {da : dA} {elts : List Expr} {kk : Nat} {p pos tpos : Pos} (hm : X.mg "enumerate" = none) (ha : DA K X [e] ta da) (hg : Gl X "enumerate" := by rfl) (hs : starEach [e] X.env = [(false, eval e X.env)] := by rfl) (hK : X.K = K := by rfl) :
    DI K X (.Tuple elts kk tpos) (.Call (.Name "enumerate" p) [e] [] pos) (iEnum K ta) (jEnum da) := by
  subst hK
  refine ⟨pi_enum hg hm ha.p hs, fun F env m Q σ H R q o p => ha.w F env m _ σ H _ q o fun v H1 ds m1 e1 s1 r1 q1 => ?_⟩
  obtain ⟨d, xs, rfl, hx, q⟩ := q1
  obtain ⟨v, rfl, r⟩ := r1.inv1
  obtain ⟨a, vs, rfl, h1, h2, h3⟩ := stays s1 r hx
  exact ⟨a, vs, rfl, h1, p _ H1 _ m1 e1 s1 (wlk_enum h3 h2) q⟩
def zipD : List D → List D → List D
  | x :: xs, y :: ys => .tuple [x, y] :: zipD xs ys
  | _, _ => []
theorem zipD_length : ∀ (a b : List D), (zipD a b).length = min a.length b.length
  | [], _ => by simp [zipD]
  | _ :: _, [] => by simp [zipD]
  | x :: xs, y :: ys => by rw [zipD, List.length_cons, List.length_cons, List.length_cons, zipD_length]; omega
theorem zipD_get : ∀ (j : Nat) (a b : List D) (x y : D), a[j]? = some x → b[j]? = some y → (zipD a b)[j]? = some (.tuple [x, y])
  | _, [], _, _, _, h, _ => by simp at h
  | _, _ :: _, [], _, _, _, h => by simp at h
  | 0, x :: xs, y :: ys, _, _, h1, h2 => by simp [zipD] at *; simp [h1, h2]
  | j + 1, x :: xs, y :: ys, u, v, h1, h2 => by
    rw [zipD, List.getElem?_cons_succ]
    exact zipD_get j xs ys u v (by simpa using h1) (by simpa using h2)
def jZip (ta : dA) : dI := fun env m Q => ta env m fun ds m1 => ∃ d e xs ys, ds = [d, e] ∧ vwI d = some xs ∧ vwI e = some ys ∧ Q (zipD xs ys) m1
theorem wlk_zip {a b : Addr} {vs us : List V} {ds es : List D} (e : ∀ F' H' m', Ext (hide F H m) (hide F' H' m') → Stt K F' H' m' → SqL K H' a vs) (e2 : ∀ F' H' m', Ext (hide F H m) (hide F' H' m') → Stt K F' H' m' → SqL K H' b us)
    (r : Reps K (hide F H m) vs ds) (r2 : Reps K (hide F H m) us es) : Wlk K F H m (Itz K a b) (zipD ds es) := by
  refine ⟨min vs.length us.length, fun H' => SqL K H' a vs ∧ SqL K H' b us, _, by rw [zipD_length, r.length, r2.length], walk_zip rfl, fun F' H' m' x y => ⟨e F' H' m' x y, e2 F' H' m' x y⟩, fun i F' Hc mc x H' ex s y hi => ?_⟩
  obtain ⟨T, x, z, rfl, hT, rfl, h1, h2⟩ := y
  obtain ⟨d, hd, rd⟩ := r.get' h1
  obtain ⟨d2, hd2, rd2⟩ := r2.get' h2
  obtain ⟨g1, g2, g3⟩ := pair_new s hT (rd.mono ex) (rd2.mono ex)
  exact ⟨_, zipD_get i ds es d d2 hd hd2, g1, g2, g3⟩
end
theorem mono_g {g : TG} : True := trivial
/-- hand over -/
theorem o_isB {X : Cx} : OpR X (compareOp .Is) rIsB := op_isBl
theorem opd_isB {K : PySem.W.Frag} : OpD K rIsB (fun x y m Q => ∃ a b : Bool, x = .bl a ∧ y = .bl b ∧ Q (.bl (decide (a = b))) m) := fun F H m x y v u Q R q s rx ry p => by
  obtain ⟨a, b, rfl, rfl, q⟩ := q
  cases rx; cases ry
  exact ⟨a, b, rfl, rfl, p.here s (.bl _) q⟩
theorem opd_notB {K : PySem.W.Frag} : OpD K rNotB (fun x y m Q => ∃ a b : Bool, x = .bl a ∧ y = .bl b ∧ Q (.bl (!decide (a = b))) m) := fun F H m x y v u Q R q s rx ry p => by
  obtain ⟨a, b, rfl, rfl, q⟩ := q
  cases rx; cases ry
  exact ⟨a, b, rfl, rfl, p.here s (.bl _) q⟩

/-! ### a def of the text by its name -/
structure Has (K : PySem.W.Frag) (mg : Str → Option Value) (x : Str) (st : Stmt) : Prop where
  ex : ∃ f fd, Fun K x x st f fd ∧ mg x = some (.ref f)
theorem Def.of {P : Program} {w : World} {K : PySem.W.Frag} {mg : Str → Option Value} {base : Heap} {x : Str} {st : Stmt} {k : Nat} {pre : Pre} {ps : List Str} (h : Has K mg x st)
    (hb : ∀ (kV doc pm : Value) (an : Option Addr) (cdv ct : Value) (us : List Value), us.length = ps.length → bindArgs (PySem.W.fnOf x x (defArgs st) (defBody st) (defScope st) .none kV doc pm an cdv ct) ⟨us, []⟩ = pure (ps.zip us))
    (ok : ∀ f fd, Fun K x x st f fd → FnOk P w K mg base CX0 k f fd ps (spD K pre)) : Def P w K mg base x k pre := by
  obtain ⟨f, fd, F, hm⟩ := h.ex
  exact ⟨f, fd, ps, ok f fd F, hm, F.kp, F.binds hb⟩
end Dq

namespace Dq
open PySem L2 PyProof.Rows

/-! ### comprehensions whose turns leave the store as it is -/
theorem lc_pureA {vs : List Nat} {env : Env} {g : dG} {tt : dT} {te : dE} {Q : List D → Mu → Prop} {m : Mu} {c : D → Bool} {f : D → D} : ∀ (ds acc : List D),
    (∀ x ∈ ds, ∀ Q' : List D → Mu → Prop, ∀ a : List D, a.length < sizeLine → (if c x = true then Q' (a ++ [f x]) m else Q' a m) → g x (wipeD env vs) m fun e1 m1 => tt e1 m1 fun b m2 => if b = true then te e1 m2 fun y m3 => a.length < sizeLine ∧ Q' (a ++ [y]) m3 else Q' a m2) →
    acc.length + ds.length < sizeLine → Q (acc ++ (ds.filter c).map f) m → lcD vs env g tt te Q ds acc m
  | [], acc, _, _, q => by
    have q' : Q (acc ++ []) m := q
    rw [List.append_nil] at q'
    exact q'
  | x :: r, acc, h, hl, q => by
    rw [List.length_cons] at hl
    refine h x List.mem_cons_self (fun a m' => lcD vs env g tt te Q r a m') acc (by omega) ?_
    rw [List.filter_cons] at q
    split
    · rename_i hc
      rw [if_pos hc] at q
      refine lc_pureA (c := c) (f := f) r _ (fun y hy => h y (List.mem_cons_of_mem _ hy)) ?_ ?_
      · rw [List.length_append, List.length_cons, List.length_nil]
        omega
      · rw [List.append_assoc]
        exact q
    · rename_i hc
      rw [if_neg hc] at q
      exact lc_pureA (c := c) (f := f) r _ (fun y hy => h y (List.mem_cons_of_mem _ hy)) (by omega) q
/-- one name as the target -/
theorem lc_pure {vs : List Nat} {env : Env} {j : Nat} {tt : dT} {te : dE} {Q : List D → Mu → Prop} {m : Mu} {ds : List D} (c : D → Bool) (f : D → D)
    (ht : ∀ x ∈ ds, ∀ Q' : Bool → Mu → Prop, Q' (c x) m → tt ((wipeD env vs).set j (some x)) m Q') (he : ∀ x ∈ ds, c x = true → ∀ Q' : D → Mu → Prop, Q' (f x) m → te ((wipeD env vs).set j (some x)) m Q')
    (hl : ds.length < sizeLine) (q : Q ((ds.filter c).map f) m) : lcD vs env (hName j) tt te Q ds [] m := by
  refine lc_pureA (c := c) (f := f) ds [] (fun x hx Q' a ha q' => ?_) (by simpa using hl) q
  refine ht x hx _ ?_
  split
  · rename_i hc
    rw [if_pos hc] at q'
    exact he x hx hc _ ⟨ha, q'⟩
  · rename_i hc
    rw [if_neg hc] at q'
    exact q'
/-- over 0 .. n - 1 -/
theorem lc_range {vs : List Nat} {env : Env} {j : Nat} {tt : dT} {te : dE} {Q : List D → Mu → Prop} {m : Mu} {n : Nat} (c : Nat → Bool) (f : Nat → D)
    (ht : ∀ i, i < n → ∀ Q' : Bool → Mu → Prop, Q' (c i) m → tt ((wipeD env vs).set j (some (.int (i : Nat)))) m Q') (he : ∀ i, i < n → c i = true → ∀ Q' : D → Mu → Prop, Q' (f i) m → te ((wipeD env vs).set j (some (.int (i : Nat)))) m Q')
    (hl : n < sizeLine) (q : Q (((List.range n).filter c).map f) m) : lcD vs env (hName j) tt te Q ((List.range n).map fun i => .int (i : Nat)) [] m := by
  have key : ∀ (l : List Nat), ((l.map fun i : Nat => D.int i).filter (fun d => match d with | .int i => c i.toNat | _ => false)).map (fun d => match d with | .int i => f i.toNat | _ => .non) = (l.filter c).map f := by
    intro l
    induction l with
    | nil => rfl
    | cons a l ih =>
      rw [List.map_cons, List.filter_cons, List.filter_cons]
      simp only [Int.toNat_natCast]
      split
      · rw [List.map_cons, List.map_cons, ih]
        simp only [Int.toNat_natCast]
      · exact ih
  refine lc_pure (fun d => match d with | .int i => c i.toNat | _ => false) (fun d => match d with | .int i => f i.toNat | _ => .non) ?_ ?_ (by simpa using hl) (by rw [key]; exact q)
  · intro x hx Q' q'
    obtain ⟨i, hi, rfl⟩ := List.mem_map.mp hx
    simp only [Int.toNat_natCast] at q'
    exact ht i (List.mem_range.mp hi) Q' q'
  · intro x hx hc Q' q'
    obtain ⟨i, hi, rfl⟩ := List.mem_map.mp hx
    simp only [Int.toNat_natCast] at q' hc
    exact he i (List.mem_range.mp hi) hc Q' q'
/-- a test that is always taken -/
theorem lc_all {vs : List Nat} {env : Env} {j : Nat} {te : dE} {Q : List D → Mu → Prop} {m : Mu} {ds : List D} (f : D → D)
    (he : ∀ x ∈ ds, ∀ Q' : D → Mu → Prop, Q' (f x) m → te ((wipeD env vs).set j (some x)) m Q') (hl : ds.length < sizeLine) (q : Q (ds.map f) m) : lcD vs env (hName j) dYes te Q ds [] m :=
  lc_pure (fun _ => true) f (fun _ _ _ q' => q') (fun x hx _ => he x hx) hl (by rw [List.filter_eq_self.mpr (fun _ _ => rfl)]; exact q)
theorem lc_rangeAll {vs : List Nat} {env : Env} {j : Nat} {te : dE} {Q : List D → Mu → Prop} {m : Mu} {n : Nat} (f : Nat → D)
    (he : ∀ i, i < n → ∀ Q' : D → Mu → Prop, Q' (f i) m → te ((wipeD env vs).set j (some (.int (i : Nat)))) m Q') (hl : n < sizeLine) (q : Q ((List.range n).map f) m) : lcD vs env (hName j) dYes te Q ((List.range n).map fun i => .int (i : Nat)) [] m :=
  lc_range (fun _ => true) f (fun _ _ _ q' => q') (fun x hx _ => he x hx) hl (by rw [List.filter_eq_self.mpr (fun _ _ => rfl)]; exact q)
theorem small_line {n : Nat} (h : n ≤ 100000) : n < sizeLine := Nat.lt_of_le_of_lt h (by decide)
theorem atI_nat' {xs : List D} {j : Nat} {v : D} (h : xs[j]? = some v) : atI xs ((j : Nat) : Int) = some v := atI_nat h

/-! ### statement by statement -/
/-- what an expression is worth where it leaves the store alone -/
def Ev (te : dE) (env : Env) (m : Mu) (d : D) : Prop := ∀ Q : D → Mu → Prop, Q d m → te env m Q
def EvT (te : dT) (env : Env) (m : Mu) (b : Bool) : Prop := ∀ Q : Bool → Mu → Prop, Q b m → te env m Q
section
variable {DD : dEnds} {env : Env} {m : Mu} {te : dE} {c : dT} {t u v : dS} {i : Nat}
theorem q_asg (d : D) (h : ∀ Q : D → Mu → Prop, Q d m → te env m Q) (k : u DD (env.set i (some d)) m) : dSeq (dAsg te i) u DD env m := h _ k
theorem q_asg' {P : D → Mu → Prop} (h : ∀ Q : D → Mu → Prop, (∀ d m1, P d m1 → Q d m1) → te env m Q) (k : ∀ d m1, P d m1 → u DD (env.set i (some d)) m1) : dSeq (dAsg te i) u DD env m := h _ k
theorem q_if (b : Bool) (h : ∀ Q : Bool → Mu → Prop, Q b m → c env m Q) (h1 : b = true → t { DD with nx := v DD } env m) (h2 : b = false → u { DD with nx := v DD } env m) : dSeq (dIfS c t u) v DD env m := by
  refine h _ ?_
  cases b with
  | true => exact h1 rfl
  | false => exact h2 rfl
theorem s_if' (b : Bool) (h : ∀ Q : Bool → Mu → Prop, Q b m → c env m Q) (h1 : b = true → t DD env m) (h2 : b = false → u DD env m) : dIfS c t u DD env m := by
  refine h _ ?_
  cases b with
  | true => exact h1 rfl
  | false => exact h2 rfl
/-- an if without else that returns -/
theorem q_when (b : Bool) (h : ∀ Q : Bool → Mu → Prop, Q b m → c env m Q) (h1 : b = true → t { DD with nx := v DD } env m) (h2 : b = false → v DD env m) : dSeq (dIfS c t dNext) v DD env m := q_if b h h1 h2
/-- an if that assigns one name either way -/
theorem q_ret (d : D) (h : ∀ Q : D → Mu → Prop, Q d m → te env m Q) (k : DD.rt d m) : dRet te DD env m := h _ k
theorem q_drop (h : ∀ Q : D → Mu → Prop, (∀ d, Q d m) → te env m Q) (k : u DD env m) : dSeq (dDrop te) u DD env m := h _ fun _ => k
theorem q_seq {M : Env → Mu → Prop} (h : t { DD with nx := M } env m) (k : ∀ e m', M e m' → u DD e m') (mono : ∀ (N N' : Env → Mu → Prop), (∀ e m', N e m' → N' e m') → t { DD with nx := N } env m → t { DD with nx := N' } env m) : dSeq t u DD env m := mono _ _ k h
/-- an if that assigns one name, told by what the name has behind it -/
theorem q_ifAsg (b : Bool) (d : D) (h : ∀ Q : Bool → Mu → Prop, Q b m → c env m Q) (h1 : b = true → ∀ Q : D → Mu → Prop, Q d m → te env m Q) (h2 : b = false → env[i]? = some (some d)) (k : v DD (env.set i (some d)) m) : dSeq (dIfS c (dAsg te i) dNext) v DD env m := by
  refine q_if b h (fun hb => h1 hb _ k) fun hb => ?_
  have e : env.set i (some d) = env := by
    obtain ⟨hl, e⟩ := List.getElem?_eq_some_iff.mp (h2 hb)
    rw [← e]
    exact List.set_getElem_self hl
  rw [e] at k
  exact k
theorem q_asgG {g : dG} {e1 : Dq.Env} (h : ∀ Q : Dq.Env → Mu → Prop, Q e1 m → te env m fun d m1 => g d env m1 Q) (k : u DD e1 m) : dSeq (dAsgG te g) u DD env m := h _ k
theorem q_for {wi : dI} {g : dG} (items : List D) (hi : ∀ Q : List D → Mu → Prop, Q items m → wi env m Q) (W : Nat → Dq.Env → Mu → Prop) (h0 : W 0 env m)
    (hs : ∀ i d, items[i]? = some d → ∀ e m', W i e m' → ∀ nx : Dq.Env → Mu → Prop, (∀ e m, W (i + 1) e m → nx e m) → g d e m' fun e1 m1 => t { DD with nx := nx, ct := nx, bk := u DD } e1 m1)
    (hd : ∀ e m', W items.length e m' → u DD e m') : dSeq (dFor wi g t) u DD env m := by
  refine hi _ (forD_inv W items 0 (fun i d hd e m' h nx hn => ?_) (fun e m' h => ?_) env m h0)
  · rw [Nat.zero_add] at h hn
    exact hs i d hd e m' h nx hn
  · rw [Nat.zero_add] at h
    exact hd e m' h
theorem q_forL {wi : dI} {g : dG} (items : List D) (hi : ∀ Q : List D → Mu → Prop, Q items m → wi env m Q) (W : Nat → Dq.Env → Mu → Prop) (h0 : W 0 env m)
    (hs : ∀ i d, items[i]? = some d → ∀ e m', W i e m' → ∀ nx : Dq.Env → Mu → Prop, (∀ e m, W (i + 1) e m → nx e m) → g d e m' fun e1 m1 => t { DD with nx := nx, ct := nx, bk := DD.nx } e1 m1)
    (hd : ∀ e m', W items.length e m' → DD.nx e m') : dFor wi g t DD env m := by
  refine hi _ (forD_inv W items 0 (fun i d hd e m' h nx hn => ?_) (fun e m' h => ?_) env m h0)
  · rw [Nat.zero_add] at h hn
    exact hs i d hd e m' h nx hn
  · rw [Nat.zero_add] at h
    exact hd e m' h
/-- a new list that will change -/
theorem q_new {ds : List D} (h : ∀ Q : D → Mu → Prop, (∀ a, m a = none → Q (.adr a) (ups m a (.lst ds))) → te env m Q) (k : ∀ a, m a = none → u DD (env.set i (some (.adr a))) (ups m a (.lst ds))) : dSeq (dAsg te i) u DD env m := h _ k
/-- a store changed by the way -/
theorem q_dropM {m1 : Mu} (h : ∀ Q : D → Mu → Prop, (∀ d, Q d m1) → te env m Q) (k : u DD env m1) : dSeq (dDrop te) u DD env m := h _ fun _ => k
/-- the last statement of a loop's body -/
theorem s_asg' (d : D) (h : ∀ Q : D → Mu → Prop, Q d m → te env m Q) (k : DD.nx (env.set i (some d)) m) : dAsg te i DD env m := h _ k
theorem s_drop' (h : ∀ Q : D → Mu → Prop, (∀ d, Q d m) → te env m Q) (k : DD.nx env m) : dDrop te DD env m := h _ fun _ => k
theorem s_dropM {m1 : Mu} (h : ∀ Q : D → Mu → Prop, (∀ d, Q d m1) → te env m Q) (k : DD.nx env m1) : dDrop te DD env m := h _ fun _ => k
/-- an if, with a word that holds behind both ways -/
theorem q_ifM (M : Dq.Env → Mu → Prop) (b : Bool) (h : ∀ Q : Bool → Mu → Prop, Q b m → c env m Q) (h1 : b = true → ∀ N : Dq.Env → Mu → Prop, (∀ e m', M e m' → N e m') → t { DD with nx := N } env m)
    (h2 : b = false → ∀ N : Dq.Env → Mu → Prop, (∀ e m', M e m' → N e m') → u { DD with nx := N } env m) (k : ∀ e m', M e m' → v DD e m') : dSeq (dIfS c t u) v DD env m := by
  refine h _ ?_
  cases b with
  | true => exact h1 rfl _ k
  | false => exact h2 rfl _ k
end
theorem ixN_nat {n j : Nat} (h : j < n) : ixN n ((j : Nat) : Int) = some j := by
  unfold ixN
  rw [if_pos (by omega), if_pos (by omega), Int.toNat_natCast]
theorem seqIx_nat {n j : Nat} (h : j < n) : seqIndex? ((j : Nat) : Int) n = some j := by
  rw [PySem.seqIndex_of (by omega) (by omega), Int.toNat_natCast]
theorem at0 {α : Type} {a : α} {l : List α} : atI (a :: l) (0 : Int) = some a := atI_nat (j := 0) rfl
theorem at1 {α : Type} {a b : α} {l : List α} : atI (a :: b :: l) (1 : Int) = some b := atI_nat (j := 1) rfl
theorem at2 {α : Type} {a b c : α} {l : List α} : atI (a :: b :: c :: l) (2 : Int) = some c := atI_nat (j := 2) rfl
theorem at3 {α : Type} {a b c d : α} {l : List α} : atI (a :: b :: c :: d :: l) (3 : Int) = some d := atI_nat (j := 3) rfl
theorem ix0 {n : Nat} : ixN (n + 1) (0 : Int) = some 0 := ixN_nat (j := 0) (by omega)
theorem ix1 {n : Nat} : ixN (n + 1 + 1) (1 : Int) = some 1 := ixN_nat (j := 1) (by omega)
end Dq

/-! == of coded data -/
namespace Dq
open PySem L2
class Cod (α : Type) [DecidableEq α] where
  enc : α → D
  py : α → PyData
  isP : ∀ (m : Mu) (a : α), IsP m (enc a) (py a)
  lay : ∀ a, (py a).canLay0 = true
  dep : Nat
  depth : ∀ a, (py a).depth ≤ dep
  eqv : ∀ a b, PyData.eqv (py a) (py b) = decide (a = b)
instance : Cod Int where
  enc := .int
  py := .int
  isP := fun _ a => .int a
  lay := fun _ => by simp [PyData.canLay0]
  dep := 0
  depth := fun _ => by simp [PyData.depth]
  eqv := fun a b => by simp [PyData.eqv, Bool.beq_eq_decide_eq]
instance : Cod Nat where
  enc := fun n => .int (n : Nat)
  py := fun n => .int (n : Nat)
  isP := fun _ a => .int a
  lay := fun _ => by simp [PyData.canLay0]
  dep := 0
  depth := fun _ => by simp [PyData.depth]
  eqv := fun a b => by
    simp only [PyData.eqv, Bool.beq_eq_decide_eq]
    by_cases h : a = b
    · subst h; simp
    · rw [decide_eq_false h, decide_eq_false (by omega)]
/-- a row's item: None or a whole number -/
instance : Cod (Option Int) where
  enc := fun | none => .non | some i => .int i
  py := fun | none => .none | some i => .int i
  isP := fun m a => by cases a; exact .non; exact .int _
  lay := fun a => by cases a <;> simp [PyData.canLay0]
  dep := 0
  depth := fun a => by cases a <;> simp [PyData.depth]
  eqv := fun a b => by cases a <;> cases b <;> simp [PyData.eqv, Bool.beq_eq_decide_eq]
section
variable {α β : Type} [DecidableEq α] [DecidableEq β] [Cod α] [Cod β]
theorem cod_isPs (m : Mu) : ∀ l : List α, IsPs m (l.map Cod.enc) (l.map Cod.py)
  | [] => .nil
  | a :: l => .cons (Cod.isP m a) (cod_isPs m l)
theorem cod_lays : ∀ l : List α, PyData.canLayAll0 (l.map Cod.py) = true
  | [] => by simp [PyData.canLayAll0]
  | a :: l => by simp [PyData.canLayAll0, Cod.lay a, cod_lays l]
theorem cod_depths : ∀ l : List α, PyData.depthAll (l.map Cod.py) ≤ Cod.dep α
  | [] => by simp [PyData.depthAll]
  | a :: l => by
    have h1 := Cod.depth a
    have h2 := cod_depths l
    simp only [List.map_cons, PyData.depthAll]
    omega
theorem cod_eqvs : ∀ a b : List α, PyData.eqvAll (a.map Cod.py) (b.map Cod.py) = decide (a = b)
  | [], [] => by simp [PyData.eqvAll]
  | [], _ :: _ => by simp [PyData.eqvAll]
  | _ :: _, [] => by simp [PyData.eqvAll]
  | a :: l, b :: k => by
    rw [List.map_cons, List.map_cons, PyData.eqvAll, Cod.eqv, cod_eqvs l k]
    by_cases h1 : a = b <;> by_cases h2 : l = k <;> simp [h1, h2]
instance : Cod (List α) where
  enc := fun l => .list (l.map Cod.enc)
  py := fun l => .list (l.map Cod.py)
  isP := fun m l => .list (cod_isPs m l)
  lay := fun l => by simp only [PyData.canLay0]; exact cod_lays l
  dep := Cod.dep α + 1
  depth := fun l => by
    have := cod_depths l
    simp only [PyData.depth]
    omega
  eqv := fun a b => by simp only [PyData.eqv]; exact cod_eqvs a b
instance : Cod (α × β) where
  enc := fun p => .tuple [Cod.enc p.1, Cod.enc p.2]
  py := fun p => .tuple [Cod.py p.1, Cod.py p.2]
  isP := fun m p => .tuple (.cons (Cod.isP m p.1) (.cons (Cod.isP m p.2) .nil))
  lay := fun p => by simp [PyData.canLay0, PyData.canLayAll0, Cod.lay]
  dep := max (Cod.dep α) (Cod.dep β) + 1
  depth := fun p => by
    have h1 := Cod.depth p.1
    have h2 := Cod.depth p.2
    simp only [PyData.depth, PyData.depthAll]
    omega
  eqv := fun a b => by
    simp only [PyData.eqv, PyData.eqvAll, Cod.eqv]
    obtain ⟨a1, a2⟩ := a
    obtain ⟨b1, b2⟩ := b
    by_cases h1 : a1 = b1 <;> by_cases h2 : a2 = b2 <;> simp [h1, h2]
theorem cod_shaped (a : α) (h : Cod.dep α ≤ 64) : SeqAt.shaped (Cod.py a) = true := by
  unfold SeqAt.shaped
  rw [Cod.lay]
  have := Cod.depth a
  simp only [Bool.true_and, decide_eq_true_eq]
  omega
theorem eq_cod {t : Bool} {m : Mu} {Q : D → Mu → Prop} (a b : α) (h : Cod.dep α ≤ 64) (q : Q (.bl (t == decide (a = b))) m) : eqP t (Cod.enc a) (Cod.enc b) m Q :=
  ⟨_, _, Cod.isP m a, Cod.isP m b, cod_shaped a h, cod_shaped b h, by rw [Cod.eqv]; exact q⟩
end
theorem eq_nats {t : Bool} {m : Mu} {Q : D → Mu → Prop} (a b : List Nat) (q : Q (.bl (t == decide (a = b))) m) : eqP t (.list (a.map fun n => .int (n : Nat))) (.list (b.map fun n => .int (n : Nat))) m Q :=
  eq_cod a b (by decide) q
end Dq

/-! enumerate of a text -/
namespace Dq
open PySem L2
def Itex (x : Str) : It := ⟨fun i _ => i < x.cps.size, fun i H v H' => ∃ T c, v = .ref T ∧ H T = none ∧ x.cps[i]? = some c ∧ H' = upd H T (.tup [.int (i : Nat), .str ⟨#[c]⟩]), fun i _ => i = x.cps.size⟩
theorem turn_etext {P : Program} {w : World} {K : PySem.W.Frag} {elts : List Expr} {kk : Nat} {tpos : Pos} (x : Str) (t : Tok) (e it : Addr) :
    Turn P w K (.Tuple elts kk tpos) (Itex x) [e, it] e (fun i h => (∃ old, IsEnum h e it ((i : Nat) : Int) old) ∧ h.IsStrIter it (strIterType x) x t i ∧ e ≠ it) where
  mem := by simp
  obj := fun i h st b hb => by
    obtain ⟨⟨old, he⟩, ⟨o, ho, _, hd⟩, _⟩ := st
    rcases (show b = e ∨ b = it by simpa using hb) with z | z
    · rw [z]; exact ⟨_, he, fun v q => nomatch q⟩
    · rw [z]; exact ⟨o, ho, fun v q => by rw [hd] at q; cases q⟩
  keep := fun i h h' st k => by
    obtain ⟨⟨old, he⟩, ⟨o, ho, hr⟩, hne⟩ := st
    exact ⟨⟨old, k e (by simp) _ he⟩, ⟨o, k it (by simp) o ho, hr⟩, hne⟩
  item := by
    intro X hP hw hK hc i pins s σ H E I hf st hg
    subst hP hw hK
    obtain ⟨⟨old, he⟩, hit, hne⟩ := st
    have hel : e < s.heap.objs.size := Heap.lt_size he
    have hil : it < s.heap.objs.size := by obtain ⟨_, q, _⟩ := hit; exact Heap.lt_size q
    have hd : X.A.in1.handled = none := I.ok.hd hc
    refine wpAny_pyNext_enum_itemD (Draws.text hd it x t) he hit hg hne (by simpa using hne) fun v h' tk hv ho hit' hT hsz hk => ?_
    obtain ⟨c, u, hcx, rfl⟩ := hv
    refine ⟨_, rfl, wpAny_letOwnedTupleGo_enum (s := { s with heap := h', toks := tk + 1 }) ho fun h'' he' sb => ?_⟩
    have hT2 := (sb.2 s.heap.objs.size (Nat.ne_of_gt hel)).trans hT
    have new : ObjOk X.prog X.w (upd H s.heap.objs.size (.tup [.int (i : Nat), .str ⟨#[c]⟩])) h'' s.heap.objs.size (.tup [.int (i : Nat), .str ⟨#[c]⟩]) :=
      ⟨by show 2 ≤ sizeLine; decide, [.int i tk, .str ⟨#[c]⟩ u], .cons ⟨_, rfl⟩ (.cons ⟨_, rfl⟩ .nil), ⟨_, hT2, rfl, _, rfl⟩⟩
    have I1 : Inv X pins σ (upd H s.heap.objs.size (.tup [.int (i : Nat), .str ⟨#[c]⟩])) { s with heap := h'', toks := tk + 1 } :=
      I.turnedNew (ch := [e, it]) (fun b o hb q => (sb.2 b (fun z => hb (by simp [z]))).trans (hk b o (fun z => hb (by simp [z])) (fun z => hb (by simp [z])) q)) hf (Nat.le_refl _) new
    refine ⟨.ref s.heap.objs.size, _, I1, rfl, ⟨_, c, rfl, I.hok.fresh (Nat.le_refl _), hcx, rfl⟩, ⟨⟨.str ⟨#[c]⟩ u, ?_⟩, ?_, hne⟩, fun b hb => ?_⟩
    · rw [show ((i + 1 : Nat) : Int) = (i : Int) + 1 by omega]
      exact he'
    · obtain ⟨o, q, r⟩ := hit'
      exact ⟨o, (sb.2 it (Ne.symm hne)).trans q, r⟩
    · have hb' : b < s.heap.objs.size := by
        rcases (show b = e ∨ b = it by simpa using hb) with z | z
        · rw [z]; exact hel
        · rw [z]; exact hil
      rw [upd_ne (Nat.ne_of_lt hb')]
      exact (hf b hb).1
  done := by
    intro X hP hw hK hc i pins s σ H E I hf st hg
    subst hP hw hK
    obtain ⟨⟨old, he⟩, hit, hne⟩ := st
    have hd : X.A.in1.handled = none := I.ok.hd hc
    have hg : i = x.cps.size := hg
    rw [hg] at hit
    obtain ⟨f0, f1, f2, f3, f4, f5⟩ := hf it (by simp)
    exact wpAny_pyNext_enum_endD (Draws.text hd it x t) he hit fun h' eb => ⟨rfl, I.turned (t' := s.toks) (fun b o hb q => eb b o hb q) f0 f1 f3 f4 f5⟩
  self := fun A i s Q E st h => by
    obtain ⟨⟨old, he⟩, _⟩ := st
    exact wpAny_pyIter_enum he h
def iEnumS (ta : TA) : TI := fun σ H R => ta σ H fun vs H1 => ∃ x, vs = [.str x] ∧ R (Itex x) H1
theorem pi_enumS {X : Cx} {e : Expr} {ta : TA} {p pos tpos : Pos} {elts : List Expr} {kk : Nat} (hg : Gl X "enumerate") (hm : X.mg "enumerate" = none) (ha : PA X [e] ta) (hs : starEach [e] X.env = [(false, eval e X.env)]) :
    PI X (.Tuple elts kk tpos) (.Call (.Name "enumerate" p) [e] [] pos) (iEnumS ta) := by
  refine ⟨fun pins s σ H R I h => PyProof.Rows.Call_ ?_⟩
  refine ld_blt I hg hm PyProof.Rows.boot_enumerate (PyProof.Rows.callWith_type1 (thn (ha.run pos pins s σ H _ I h) fun us s1 ⟨vs, H1, I1, r1, q1⟩ => ?_) hs rfl)
  obtain ⟨x, rfl, q⟩ := q1
  cases r1 with
  | cons r rr =>
    cases rr
    obtain ⟨t, rfl⟩ := r
    refine call_enumerate_str fun h' he hit hsz hk => wpAny_pyIter_enum he ?_
    have I2 : Inv X pins σ H1 { s1 with heap := h' } := I1.kept (t' := s1.toks) hk
    refine ⟨s1.heap.objs.size + 1, [s1.heap.objs.size + 1, s1.heap.objs.size], _, _, H1, rfl, I2, turn_etext x t (s1.heap.objs.size + 1) s1.heap.objs.size, ⟨⟨.none, he⟩, hit, Nat.succ_ne_self _⟩, fun b hb => ?_, q⟩
    have hle : s1.heap.objs.size ≤ b := by
      rcases (show b = s1.heap.objs.size + 1 ∨ b = s1.heap.objs.size by simpa using hb) with z | z
      · rw [z]; exact Nat.le_add_right _ _
      · rw [z]; exact Nat.le_refl _
    exact I1.fpOk hle (I1.hok.fresh hle)
def jEnumS (ta : dA) : dI := fun env m Q => ta env m fun ds m1 => ∃ z : Str, ds = [.str z] ∧ Q (enumD 0 (z.cps.toList.map fun c => .str ⟨#[c]⟩)) m1
theorem i_enumS {K : PySem.W.Frag} {X : Cx} {e : Expr} {ta : TA} {da : dA} {elts : List Expr} {kk : Nat} {p pos tpos : Pos} (hm : X.mg "enumerate" = none) (ha : DA K X [e] ta da) (hg : Gl X "enumerate" := by rfl) (hs : starEach [e] X.env = [(false, eval e X.env)] := by rfl) :
    DI K X (.Tuple elts kk tpos) (.Call (.Name "enumerate" p) [e] [] pos) (iEnumS ta) (jEnumS da) := by
  refine ⟨pi_enumS hg hm ha.p hs, fun F env m Q σ H R q o p => ha.w F env m _ σ H _ q o fun v H1 ds m1 e1 s1 r1 q1 => ?_⟩
  obtain ⟨z, rfl, q⟩ := q1
  obtain ⟨v, rfl, r⟩ := r1.inv1
  cases r
  refine ⟨z, rfl, p _ H1 _ m1 e1 s1 ⟨z.cps.size, fun _ => True, _, by simp [enumD_length], (⟨fun _ _ hi _ => hi, fun _ _ => rfl, fun _ _ _ _ _ _ y => y⟩ : Walk (Itex z) z.cps.size (fun _ => True) (fun i H v H' => ∃ T c, v = .ref T ∧ H T = none ∧ z.cps[i]? = some c ∧ H' = upd H T (.tup [.int (i : Nat), .str ⟨#[c]⟩]))), fun _ _ _ _ _ => trivial, fun i F' Hc mc x H' ex s y hi => ?_⟩ q⟩
  obtain ⟨T, c, rfl, hT, hc, rfl⟩ := y
  obtain ⟨g1, g2, g3⟩ := pair_new s hT (.int (i : Nat)) (.str ⟨#[c]⟩)
  refine ⟨_, ?_, g1, g2, g3⟩
  rw [enumD_get]
  simp [hc]
end Dq

/-! weaker promises; lists known by a property alone -/
namespace Dq
open PySem L2
section
variable {P : Program} {w : World} {K : PySem.W.Frag} {mg : Str → Option Value} {base : Heap} {x : Str} {k : Nat}
theorem Def.weak {pre pre' : Pre} (h : Def P w K mg base x k pre') (hw : ∀ vs H R E, spD K pre vs H R E → spD K pre' vs H R E) : Def P w K mg base x k pre := by
  obtain ⟨f, fd, ps, F, h1, h2, h3⟩ := h.ex
  exact ⟨f, fd, ps, ⟨fun vs H Q E s => F.len vs H Q E (hw _ _ _ _ s), fun A outer s H args us vs Q E hr e0 hb r hs => F.run A outer s H args us vs Q E hr e0 hb r (hw _ _ _ _ hs)⟩, h1, h2, h3⟩
end
section
variable {K : PySem.W.Frag} {F H : Hp} {m : Mu} {p : Addr}
theorem hide_re {w w' : MO} (h : m p = some w) : hide F H (ups m p w') = hide F H m := by
  funext a
  unfold hide
  by_cases e : a = p
  · subst e
    rw [ups_same, h]
  · rw [ups_ne e]
theorem Stt.re {w w' : MO} (s : Stt K F H m) (h : m p = some w) (k : MOk K H (hide F H m) p w → MOk K H (hide F H m) p w') : Stt K F H (ups m p w') := by
  refine ⟨fun q o e => ?_, fun q o e => ?_⟩
  · have ne : q ≠ p := by
      rintro rfl
      have := (s.fr q o e).2
      rw [h] at this
      cases this
    exact ⟨(s.fr q o e).1, by rw [ups_ne ne]; exact (s.fr q o e).2⟩
  · rw [hide_re h]
    by_cases hq : q = p
    · subst hq
      rw [ups_same] at e
      cases e
      exact k (s.ok q w h)
    · rw [ups_ne hq] at e
      exact s.ok q o e
/-- what is known of a list -/
theorem Stt.open {A : List D → Prop} (s : Stt K F H m) (h : m p = some (.any A)) : ∃ xs, A xs ∧ Stt K F H (ups m p (.lst xs)) := by
  obtain ⟨vs, ds, h1, h2, h3⟩ := s.ok _ _ h
  exact ⟨ds, h3, s.re h fun _ => ⟨vs, h1, h2⟩⟩
theorem Stt.close {A : List D → Prop} {xs : List D} (s : Stt K F H m) (h : m p = some (.lst xs)) (hA : A xs) : Stt K F H (ups m p (.any A)) := s.re h fun ⟨vs, h1, h2⟩ => ⟨vs, xs, h1, h2, hA⟩
/-- a def that changes a list it knows by A alone -/
theorem spD_any {A : List D → Prop} {pre pre' : Pre} (h : ∀ ds m Q, pre ds m Q → ∃ p, m p = some (.any A) ∧ ∀ xs, A xs → pre' ds (ups m p (.lst xs)) fun d m' => ∃ xs', A xs' ∧ m' = ups m p (.lst xs') ∧ Q d m) :
    ∀ vs H R E, spD K pre vs H R E → spD K pre' vs H R E := by
  rintro vs H R E ⟨F, ds, m, Q, s, r, q, k⟩
  obtain ⟨p, hp, hx⟩ := h ds m Q q
  obtain ⟨xs, hA, s'⟩ := s.open hp
  refine ⟨F, ds, ups m p (.lst xs), _, s', by rw [hide_re hp]; exact r, hx xs hA, ?_⟩
  rintro v H' d m' ex st rv ⟨xs', hA', rfl, q'⟩
  have e1 : ups m p (.any A) = m := by
    funext a
    by_cases e : a = p
    · subst e
      rw [ups_same, hp]
    · rw [ups_ne e]
  have s2 := st.close ups_same hA'
  rw [ups_ups, e1] at s2
  have e2 : hide F H' m = hide F H' (ups m p (.lst xs')) := (hide_re hp).symm
  refine k v H' d m ?_ s2 (by rw [e2]; exact rv) q'
  rw [e2, ← hide_re (F := F) (H := H) (w' := .lst xs) hp]
  exact ex
/-- a def that hands back a new list, known by A alone -/
theorem spD_newAny {A : List D → Prop} {pre pre' : Pre} (h : ∀ ds m Q, pre ds m Q → pre' ds m fun d m' => ∃ a xs, m a = none ∧ d = .adr a ∧ A xs ∧ m' = ups m a (.lst xs) ∧ Q (.adr a) (ups m a (.any A))) :
    ∀ vs H R E, spD K pre vs H R E → spD K pre' vs H R E := by
  rintro vs H R E ⟨F, ds, m, Q, s, r, q, k⟩
  refine ⟨F, ds, m, _, s, r, h ds m Q q, ?_⟩
  rintro v H' d m' ex st rv ⟨a, xs, ha, rfl, hA, rfl, q'⟩
  have s2 := st.close ups_same hA
  rw [ups_ups] at s2
  have e2 : hide F H' (ups m a (.any A)) = hide F H' (ups m a (.lst xs)) := by
    rw [← ups_ups (m := m) (p := a) (o := .lst xs)]
    exact hide_re ups_same
  exact k v H' _ _ (by rw [e2]; exact ex) s2 (by rw [e2]; exact rv) q'
theorem ups_eq {m : Mu} {p : Addr} {w : MO} (h : m p = some w) : ups m p w = m := by
  funext a
  by_cases e : a = p
  · subst e
    rw [ups_same, h]
  · rw [ups_ne e]
end

/-! ### what the store need not know any more -/
def Sub (m' m : Mu) : Prop := ∀ a, m' a = m a ∨ m' a = none
section
variable {K : PySem.W.Frag} {F H : Hp} {m m' : Mu}
theorem Ext.sub (h : Sub m' m) : Ext (hide F H m) (hide F H m') := Ext.same fun a u e => by
  have e1 := hide_le e
  rw [hide_at _ (hide_un e).2]
  · exact e1
  · rcases h a with z | z
    · rw [z]
      exact (hide_un e).1
    · exact z
theorem Stt.sub (s : Stt K F H m) (h : Sub m' m) : Stt K F H m' := by
  refine ⟨fun q u e => ⟨(s.fr q u e).1, ?_⟩, fun q u e => ?_⟩
  · rcases h q with z | z
    · rw [z]
      exact (s.fr q u e).2
    · exact z
  · rcases h q with z | z
    · exact (s.ok q u (z ▸ e)).mono rfl (Ext.sub h)
    · rw [z] at e
      cases e
end
def dGc (t : dS) : dS := fun DD env m => ∃ m', Sub m' m ∧ t DD env m'
theorem ss_gc {K : PySem.W.Frag} {X : Cx} {sts : List Stmt} {ts : TS} {t : dS} (h : DSs K X sts ts t) : DSs K X sts ts (dGc t) := ⟨h.p, fun F DD env m σ H RR q o p => by
  obtain ⟨m', hs, q⟩ := q
  exact h.w F DD env m' σ H RR q ⟨o.st.sub hs, o.fr.mono (Ext.sub hs)⟩ (p.at (Ext.sub hs))⟩
theorem fz_list {i : Nat} {p : Addr} {ds : List D} {t : dS} {DD : dEnds} {env : Dq.Env} {m : Mu} (h : env[i]? = some (some (.adr p))) (hm : m p = some (.lst ds)) (k : t DD (env.set i (some (.list ds))) (del m p)) : dFz i t DD env m := by
  refine ⟨p, h, ?_⟩
  rw [hm]
  exact k
theorem fz_dict {i : Nat} {p : Addr} {ds : List (Key × D)} {t : dS} {DD : dEnds} {env : Dq.Env} {m : Mu} (h : env[i]? = some (some (.adr p))) (hm : m p = some (.dK ds)) (k : t DD (env.set i (some (.dict ds))) (del m p)) : dFz i t DD env m := by
  refine ⟨p, h, ?_⟩
  rw [hm]
  exact k
theorem sub_del {m : Mu} {p : Addr} : Sub (del m p) m := fun a => by
  unfold del
  split
  · exact .inr rfl
  · exact .inl rfl
theorem sub_ups {m m' : Mu} {p : Addr} {o : MO} (h : m p = none) (s : Sub m m') (h' : m' p = none) : Sub m (ups m' p o) := fun a => by
  by_cases e : a = p
  · subst e
    exact .inr h
  · rw [ups_ne e]
    exact s a
/-- all but what stands at p -/
theorem sub_one {m : Mu} {p : Addr} {o : MO} (h : m p = none) : Sub m (ups m p o) := fun a => by
  by_cases e : a = p
  · subst e
    exact .inr h
  · rw [ups_ne e]
    exact .inl rfl
theorem Sub.refl {m : Mu} : Sub m m := fun _ => .inl rfl
theorem Sub.trans {a b c : Mu} (h : Sub a b) (k : Sub b c) : Sub a c := fun p => by
  rcases h p with z | z
  · rcases k p with y | y
    · exact .inl (z.trans y)
    · exact .inr (z.trans y)
  · exact .inr z
end Dq

/-! the two ends of a row -/
namespace Dq
open PySem L2
theorem reps_intsL {K : PySem.W.Frag} {H : Hp} : ∀ ns : List Int, Reps K H (ns.map V.int) (ns.map D.int)
  | [] => .nil
  | _ :: ns => .cons (.int _) (reps_intsL ns)
theorem hide_none {H : Hp} : hide (fun _ => none) H (fun _ => none) = H := rfl
theorem law_in {K : PySem.W.Frag} {pre : Pre} {H : Hp} {a : Addr} {ns : List Int} {n : Nat} (hp : ∀ Q : D → Mu → Prop, (∀ m', Q (.bl true) m') → pre [.seq (ns.map D.int)] (fun _ => none) Q) (hS : SqL K H a (ns.map V.int)) (E : XK) :
    spD K pre [.ref a] H (fun v _ => v = .bl true) E := by
  refine ⟨fun _ => none, [.seq (ns.map D.int)], fun _ => none, fun d _ => d = .bl true, ⟨nofun, nofun⟩, .cons (.seq hS (reps_intsL ns)) .nil, hp _ fun _ => rfl, ?_⟩
  rintro v H' d m' _ _ r rfl
  cases r
  rfl
theorem globI {K : PySem.W.Frag} {mg : Str → Option Value} {x : Str} {i : Int} {t : Tok} (h : mg x = some (.int i t)) : GlobC K mg x (.int i) (.int i) := ⟨⟨_, h, ⟨t, rfl⟩, fun _ => .int i⟩⟩
theorem globS {K : PySem.W.Frag} {mg : Str → Option Value} {x s : Str} {t : Tok} (h : mg x = some (.str s t)) : GlobC K mg x (.str s) (.str s) := ⟨⟨_, h, ⟨t, rfl⟩, fun _ => .str s⟩⟩
/-- a tuple of texts at the top -/
def allStr : List Value → List Str → Prop
  | [], [] => True
  | u :: us, s :: ss => (∃ t, u = Value.str s t) ∧ allStr us ss
  | _, _ => False
theorem allStr_vals : ∀ {us : List Value} {ss : List Str}, allStr us ss → Vals (ss.map V.str) us
  | [], [], _ => .nil
  | _ :: _, _ :: _, h => .cons h.1 (allStr_vals h.2)
theorem reps_strsL {K : PySem.W.Frag} {H : Hp} : ∀ ss : List Str, Reps K H (ss.map V.str) (ss.map D.str)
  | [] => .nil
  | _ :: ss => .cons (.str _) (reps_strsL ss)
theorem globT {K : PySem.W.Frag} {mg : Str → Option Value} {x : Str} {a : Addr} {us : List Value} {ss : List Str} {od : Option Addr} {n : Nat} {sl : Array (Option Value)} (h : mg x = some (.ref a)) (l : K.lookup a = some ⟨.type "tuple", od, .seq us.toArray n, sl⟩) (hs : us.length ≤ sizeLine) (hu : allStr us ss) :
    ∃ a, GlobC K mg x (.ref a) (.tseq (ss.map D.str)) :=
  ⟨a, ⟨_, h, rfl, fun _ => .tseq (.inr ⟨_, us.toArray, n, l, rfl, rfl, by simpa using hs, by simpa using allStr_vals hu⟩) (reps_strsL ss)⟩⟩
end Dq

/-! instances of the text's own classes -/
namespace Dq
open PySem L2
def putD (f : Str) (v : D) : List (Str × D) → List (Str × D)
  | [] => [(f, v)]
  | (g, x) :: r => if g = f then (g, v) :: r else (g, x) :: putD f v r
section
variable {K : PySem.W.Frag} {H : Hp}
abbrev FP (K : PySem.W.Frag) (H : Hp) (a : Str × V) (b : Str × D) : Prop := a.1 = b.1 ∧ Rep K H a.2 b.2
theorem fp_lookup {f : Str} {v : D} : ∀ {fvs : List (Str × V)} {fs : List (Str × D)}, Paired (FP K H) fvs fs → fs.lookup f = some v → ∃ u, fvs.lookup f = some u ∧ Rep K H u v
  | _, _, .nil, h => by cases h
  | (g, x) :: r, (g', x') :: r', .cons e t, h => by
    obtain ⟨e1, e2⟩ := e
    simp only at e1 e2
    subst e1
    rw [List.lookup_cons] at h
    rw [List.lookup_cons]
    split at h
    · rename_i hb
      cases h
      exact ⟨x, rfl, e2⟩
    · rename_i hb
      exact fp_lookup t h
theorem fp_none {f : Str} : ∀ {fvs : List (Str × V)} {fs : List (Str × D)}, Paired (FP K H) fvs fs → fs.lookup f = none → fvs.lookup f = none
  | _, _, .nil, h => rfl
  | (g, x) :: r, (g', x') :: r', .cons e t, h => by
    obtain ⟨e1, e2⟩ := e
    simp only at e1 e2
    subst e1
    rw [List.lookup_cons] at h
    rw [List.lookup_cons]
    split at h
    · cases h
    · rename_i hb
      exact fp_none t h
theorem fp_length : ∀ {fvs : List (Str × V)} {fs : List (Str × D)}, Paired (FP K H) fvs fs → fvs.length = fs.length
  | _, _, .nil => rfl
  | _, _, .cons _ t => by rw [List.length_cons, List.length_cons, fp_length t]
theorem fp_put {f : Str} {y : V} {d : D} (r : Rep K H y d) : ∀ {fvs : List (Str × V)} {fs : List (Str × D)}, Paired (FP K H) fvs fs → Paired (FP K H) (putF f y fvs) (putD f d fs)
  | _, _, .nil => .cons ⟨rfl, r⟩ .nil
  | (g, x) :: l, (g', x') :: l', .cons e t => by
    obtain ⟨e1, e2⟩ := e
    simp only at e1 e2
    subst e1
    unfold putF putD
    split
    · exact .cons ⟨rfl, r⟩ t
    · exact .cons ⟨rfl, e2⟩ (fp_put r t)
end
/-- e.f -/
def dFld (C : Addr) (f : Str) (te : dE) : dE := fun env m Q => te env m fun d m1 => ∃ a fs v, d = .adr a ∧ m1 a = some (.ins C fs) ∧ fs.lookup f = some v ∧ Q v m1
/-- e.f = value -/
def dSFld (C : Addr) (f : Str) (tv te : dE) : dS := fun DD env m => tv env m fun y m1 => te env m1 fun d m2 => ∃ a fs, d = .adr a ∧ m2 a = some (.ins C fs) ∧ fs.length < 1000 ∧ DD.nx env (ups m2 a (.ins C (putD f y fs)))
section
variable {K : PySem.W.Frag} {X : Cx} {C : Addr} {e o value : Expr} {f : Str} {pos pos' : Pos} {ue uv : TE} {te tv : dE}
theorem WE.fld {ue : TE} {te : dE} (c : Cls K C) (n : NoAttr K C f) (h : WE K ue te) : WE K (tFld K ue f) (dFld C f te) := fun F env m Q σ H R q o p =>
  h F env m _ σ H _ q o fun v H1 d m1 e1 s1 r1 ⟨a, fs, w, hd, ha, hl, q1⟩ => by
    subst hd
    cases r1
    obtain ⟨dx, fvs, h1, h2⟩ := s1.ok a _ ha
    obtain ⟨u, hu, ru⟩ := fp_lookup h2 hl
    exact ⟨a, C, dx, fvs, u, rfl, h1, c, n, hu, p u H1 w m1 e1 s1 ru q1⟩
theorem d_fld (c : Cls K C) (n : NoAttr K C f) (h : DE K X e ue te) (hb : attributeBase e f X.env (eval e X.env) = eval e X.env := by rfl) (hK : X.K = K := by rfl) : DE K X (.Attribute e f pos) (tFld K ue f) (dFld C f te) := by
  subst hK
  exact ⟨pe_fld h.p hb, .fld c n h.w⟩
theorem s_fld (c : Cls K C) (n : NoAttr K C f) (hv : DE K X value uv tv) (h : DE K X o ue te) (hs : swapsWith value (some (.Attribute o f pos')) pos.line X.env = pure false := by rfl) (hK : X.K = K := by rfl) : DS K X (.Assign [.Attribute o f pos'] value pos) (sFld K ue uv f) (dSFld C f tv te) := by
  subst hK
  refine ⟨ps_fld h.p hv.p hs, fun F DD env m σ H RR q o p => hv.w F env m _ σ H _ q o fun y H1 d1 m1 e1 s1 r1 q1 => h.w F env m1 _ σ H1 _ q1 (o.at s1 e1) fun v H2 d m2 e2 s2 r2 ⟨a, fs, hd, ha, hl, q2⟩ => ?_⟩
  subst hd
  cases r2
  obtain ⟨dx, fvs, h1, h2⟩ := s2.ok a _ ha
  refine ⟨a, C, dx, fvs, rfl, h1, c, n, by rw [fp_length h2]; exact hl, ?_⟩
  have e12 := e1.trans e2
  have s3 : Stt X.K F (upd H2 a (.ins C dx (putF f y fvs))) (ups m2 a (.ins C (putD f d1 fs))) := s2.chg ha ⟨dx, _, upd_same, fp_put (r1.mono e2) h2⟩
  have e3 : hide F (upd H2 a (.ins C dx (putF f y fvs))) (ups m2 a (.ins C (putD f d1 fs))) = hide F H2 m2 := hide_chg ha
  refine p.nx σ _ env _ ?_ ⟨s3, ?_⟩ q2
  · rw [e3]; exact e12
  · rw [e3]; exact o.fr.mono e12
end

/-! ### methods, and making an instance -/
structure MDef (P : Program) (w : World) (K : PySem.W.Frag) (mg : Str → Option Value) (base : Heap) (C : Addr) (x : Str) (k : Nat) (pre : Pre) : Prop where
  ex : ∃ f fd ps, FnOk P w K mg base CX0 k f fd ps (spD K pre) ∧ Meth K C x f ∧ Binds K fd ps []
structure IDef (P : Program) (w : World) (K : PySem.W.Frag) (mg : Str → Option Value) (base : Heap) (C : Addr) (k : Nat) (pre : Pre) : Prop where
  ex : ∃ f fd ps, FnOk P w K mg base CX0 k f fd ps (spD K pre) ∧ Mk K C f ∧ Binds K fd ps []
def dMeth (C : Addr) (x : Str) (pre : Pre) (te : dE) (ta : dA) : dE := fun env m Q => te env m fun d m1 => ∃ a fs, d = .adr a ∧ m1 a = some (.ins C fs) ∧ fs.lookup x = none ∧ ta env m1 fun ds m2 => pre (d :: ds) m2 Q
def dMake (C : Addr) (pre : Pre) (ta : dA) : dE := fun env m Q => ta env m fun ds m1 => ∀ a, m1 a = none → pre (.adr a :: ds) (ups m1 a (.ins C [])) fun d m2 => d = .non ∧ Q (.adr a) m2
section
variable {K : PySem.W.Frag} {X : Cx} {C : Addr} {x : Str} {k : Nat} {pre : Pre} {o e : Expr} {es : List Expr} {ue : TE} {te : dE} {ta : TA} {da : dA} {p pos apos : Pos} {pl : Sem Bool}
theorem WE.meth {ue : TE} {te : dE} {ta : TA} {da : dA} (h : WE K ue te) (ha : WA K ta da) : WE K (tMeth C x (spD K pre) [] E0 ue ta) (dMeth C x pre te da) := fun F env m Q σ H R q o p =>
  h F env m _ σ H _ q o fun v H1 d m1 e1 s1 r1 ⟨a, fs, hd, hm, hl, q1⟩ => by
    subst hd
    cases r1
    obtain ⟨dx, fvs, h1, h2⟩ := s1.ok a _ hm
    refine ⟨a, dx, fvs, rfl, h1, fp_none h2 hl, ha F env m1 _ σ H1 _ q1 (o.at s1 e1) fun vs H2 ds m2 e2 s2 r2 q2 => ?_⟩
    rw [List.append_nil]
    exact ⟨F, _, m2, Q, s2, .cons (.adr _) r2, q2, p.at (e1.trans e2)⟩
theorem d_meth (h : MDef X.prog X.w K X.mg X.base C x k pre) (c : Cls K C) (hr : Room k X.A) (he : DE K X o ue te) (ha : DA K X (e :: es) ta da) (hst : starEach (e :: es) X.env = (false, eval e X.env) :: starEach es X.env := by rfl) (hpl : (backTo pos (starEach es X.env)).any (·.1) = false := by rfl)
    (ht : eval (.Call (.Attribute o x apos) (e :: es) [] pos) X.env = (do
      let ov ← eval o X.env
      standAt apos.atName
      let (f, first) ← holding [ov] (getMethod ov x pl)
      callWith pos f first (backTo pos (starEach (e :: es) X.env)) (backToKw pos (keywordEach [] X.env))) := by rfl) (hK : X.K = K := by rfl) : DE K X (.Call (.Attribute o x apos) (e :: es) [] pos) (tMeth C x (spD K pre) [] E0 ue ta) (dMeth C x pre te da) := by
  subst hK
  obtain ⟨f, fd, ps, F, hm, hb⟩ := h.ex
  exact ⟨pe_meth he.p c hm F hr hb .nil pass0 ha.p hst hpl ht, .meth he.w ha.w⟩
theorem d_meth0 (h : MDef X.prog X.w K X.mg X.base C x k pre) (c : Cls K C) (hr : Room k X.A) (he : DE K X o ue te)
    (ht : eval (.Call (.Attribute o x apos) [] [] pos) X.env = (do
      let ov ← eval o X.env
      standAt apos.atName
      let (f, first) ← holding [ov] (getMethod ov x pl)
      callWith pos f first (backTo pos (starEach [] X.env)) (backToKw pos (keywordEach [] X.env))) := by rfl) (hK : X.K = K := by rfl) : DE K X (.Call (.Attribute o x apos) [] [] pos) (tMeth C x (spD K pre) [] E0 ue tNil) (dMeth C x pre te dNil) := by
  subst hK
  obtain ⟨f, fd, ps, F, hm, hb⟩ := h.ex
  exact ⟨pe_meth0 he.p c hm F hr hb .nil pass0 ht, .meth he.w fun F env m Q σ H R q o p => p [] H [] m Ext.refl o.st .nil q⟩
theorem WE.make {ta : TA} {da : dA} (ha : WA K ta da) : WE K (tMake C (spD K pre) [] E0 ta) (dMake C pre da) := fun F env m Q σ H R q o p =>
  ha F env m _ σ H _ q o fun vs H1 ds m1 e1 s1 r1 q1 x dx hx hdx hne => by
    rw [List.append_nil]
    have s2 := s1.new (o := .own x) hdx
    have e2 := Ext.new (o := .own x) s1 hdx
    have hx2 : (upd H1 dx (.own x)) x = none := by rw [upd_ne hne.symm]; exact hx
    have s3 : Stt K F (upd (upd H1 dx (.own x)) x (.ins C dx [])) (ups m1 x (.ins C [])) := s2.newM hx2 ⟨dx, [], upd_same, .nil⟩
    have e3 : Ext (hide F (upd H1 dx (.own x)) m1) (hide F (upd (upd H1 dx (.own x)) x (.ins C dx [])) (ups m1 x (.ins C []))) := Ext.newM s2 hx2
    have e23 := e2.trans e3
    refine ⟨F, _, _, _, s3, .cons (.adr _) (r1.mono e23), q1 x (s1.free hx), fun v H' d m' e4 s4 r4 ⟨hd, q4⟩ => ?_⟩
    subst hd
    cases r4
    exact ⟨rfl, p _ H' _ m' ((e1.trans e23).trans e4) s4 (.adr _) q4⟩
theorem d_make (h : IDef X.prog X.w K X.mg X.base C k pre) (hr : Room (k + 1) X.A) (hm : X.mg x = some (.ref C)) (ha : DA K X (e :: es) ta da) (hg : Gl X x := by rfl) (hdb : (x == ("__debug__" : Str)) = false := by decide)
    (he : starEach (e :: es) X.env = (false, eval e X.env) :: starEach es X.env := by rfl) (hpl : (backTo pos (starEach es X.env)).any (·.1) = false := by rfl) (hK : X.K = K := by rfl) : DE K X (.Call (.Name x p) (e :: es) [] pos) (tMake C (spD K pre) [] E0 ta) (dMake C pre da) := by
  subst hK
  obtain ⟨f, fd, ps, F, M, hb⟩ := h.ex
  exact ⟨pe_make M F hr hg hm hb .nil pass0 ha.p hdb he hpl, .make ha.w⟩
end
/-- a method as the top has it -/
structure HasM (K : PySem.W.Frag) (C : Addr) (x qual : Str) (st : Stmt) : Prop where
  ex : ∃ f fd, Fun K x qual st f fd ∧ Meth K C x f
structure HasI (K : PySem.W.Frag) (C : Addr) (qual : Str) (st : Stmt) : Prop where
  ex : ∃ f fd, Fun K "__init__" qual st f fd ∧ Mk K C f
section
variable {P : Program} {w : World} {K : PySem.W.Frag} {mg : Str → Option Value} {base : Heap} {C : Addr} {x qual : Str} {st : Stmt} {k : Nat} {pre : Pre} {ps : List Str}
theorem MDef.of (h : HasM K C x qual st) (hb : ∀ (kV doc pm : Value) (an : Option Addr) (cdv ct : Value) (us : List Value), us.length = ps.length → bindArgs (PySem.W.fnOf x qual (defArgs st) (defBody st) (defScope st) .none kV doc pm an cdv ct) ⟨us, []⟩ = pure (ps.zip us))
    (ok : ∀ f fd, Fun K x qual st f fd → FnOk P w K mg base CX0 k f fd ps (spD K pre)) : MDef P w K mg base C x k pre := by
  obtain ⟨f, fd, F, hm⟩ := h.ex
  exact ⟨f, fd, ps, ok f fd F, hm, F.binds hb⟩
theorem IDef.of (h : HasI K C qual st) (hb : ∀ (kV doc pm : Value) (an : Option Addr) (cdv ct : Value) (us : List Value), us.length = ps.length → bindArgs (PySem.W.fnOf "__init__" qual (defArgs st) (defBody st) (defScope st) .none kV doc pm an cdv ct) ⟨us, []⟩ = pure (ps.zip us))
    (ok : ∀ f fd, Fun K "__init__" qual st f fd → FnOk P w K mg base CX0 k f fd ps (spD K pre)) : IDef P w K mg base C k pre := by
  obtain ⟨f, fd, F, hm⟩ := h.ex
  exact ⟨f, fd, ps, ok f fd F, hm, F.binds hb⟩
end
theorem i_zip {K : PySem.W.Frag} {X : Cx} {e e2 : Expr} {ta : TA} {da : dA} {elts : List Expr} {kk : Nat} {p pos tpos : Pos} (hm : X.mg "zip" = none) (ha : DA K X [e, e2] ta da) (hg : Gl X "zip" := by rfl)
    (hs : starEach [e, e2] X.env = (false, eval e X.env) :: starEach [e2] X.env := by rfl) (hpl : (backTo pos (starEach [e2] X.env)).any (·.1) = false := by rfl) (hK : X.K = K := by rfl) :
    DI K X (.Tuple elts kk tpos) (.Call (.Name "zip" p) [e, e2] [] pos) (iZip K ta) (jZip da) := by
  subst hK
  refine ⟨pi_zip hg hm ha.p hs hpl, fun F env m Q σ H R q o p => ha.w F env m _ σ H _ q o fun v H1 ds m1 e1 s1 r1 q1 => ?_⟩
  obtain ⟨d, e', xs, ys, rfl, hx, hy, q⟩ := q1
  obtain ⟨v, u, rfl, r, r'⟩ := r1.inv2
  obtain ⟨a, vs, rfl, h1, h2, h3⟩ := stays s1 r hx
  obtain ⟨b, us, rfl, g1, g2, g3⟩ := stays s1 r' hy
  exact ⟨a, b, vs, us, rfl, h1, g1, p _ H1 _ m1 e1 s1 (wlk_zip h3 g3 h2 g2) q⟩
/-! ### a list that an attribute holds comes to rest -/
theorem fp_alt {K : PySem.W.Frag} {H : Hp} {f : Str} {d d' : D} (q : ∀ v, Rep K H v d → Rep K H v d') : ∀ {fvs : List (Str × V)} {fs : List (Str × D)}, Paired (FP K H) fvs fs → fs.lookup f = some d → Paired (FP K H) fvs (putD f d' fs)
  | _, _, .nil, h => by cases h
  | (g, x) :: l, (g', x') :: l', .cons e t, h => by
    obtain ⟨e1, e2⟩ := e
    simp only at e1 e2
    subst e1
    unfold putD
    rw [List.lookup_cons] at h
    by_cases hg : g = f
    · rw [if_pos hg]
      subst hg
      simp only [BEq.rfl] at h
      cases h
      exact .cons ⟨rfl, q _ e2⟩ t
    · rw [if_neg hg]
      have : (f == g) = false := by simpa using fun z => hg z.symm
      rw [this] at h
      exact .cons ⟨rfl, e2⟩ (fp_alt q t h)
def dFzF (f : Str) (t : dS) : dS := fun DD env m => ∃ a b C fs ds, m a = some (.ins C fs) ∧ fs.lookup f = some (.adr b) ∧ m b = some (.lst ds) ∧ a ≠ b ∧ t DD env (ups (del m b) a (.ins C (putD f (.list ds) fs)))
theorem ss_fzF {K : PySem.W.Frag} {X : Cx} (f : Str) {sts : List Stmt} {ts : TS} {t : dS} (h : DSs K X sts ts t) : DSs K X sts ts (dFzF f t) := ⟨h.p, fun F DD env m σ H RR q o p => by
  obtain ⟨a, b, C, fs, ds, h1, h2, h3, ne, q⟩ := q
  have h1' : del m b a = some (.ins C fs) := by unfold del; rw [if_neg ne]; exact h1
  have hF := o.st.apart h3
  obtain ⟨vs, e, r⟩ := o.st.ok _ _ h3
  have s2 : Stt K F H (ups (del m b) a (.ins C (putD f (.list ds) fs))) := o.st.del.re h1' fun ⟨dx, fvs, g1, g2⟩ => ⟨dx, fvs, g1, fp_alt (fun v rv => by
    cases rv
    exact .list (by rw [hide_at (by unfold del; rw [if_pos rfl]) hF]; exact e) (r.mono Ext.del)) g2 h2⟩
  have e2 : hide F H (ups (del m b) a (.ins C (putD f (.list ds) fs))) = hide F H (del m b) := hide_re h1'
  refine h.w F DD env _ σ H RR q ⟨s2, ?_⟩ ?_
  · rw [e2]; exact o.fr.mono Ext.del
  · exact p.at (by rw [e2]; exact Ext.del)⟩
section
variable {DD : dEnds} {env : Dq.Env} {m : Mu} {te to : dE} {u : dS} {C a : Addr} {f : Str} {fs : List (Str × D)}
theorem q_sfld (d : D) (hv : ∀ Q : D → Mu → Prop, Q d m → te env m Q) (ho : ∀ Q : D → Mu → Prop, Q (.adr a) m → to env m Q) (ha : m a = some (.ins C fs)) (hl : fs.length < 1000) (k : u DD env (ups m a (.ins C (putD f d fs)))) : dSeq (dSFld C f te to) u DD env m :=
  hv _ (ho _ ⟨a, fs, rfl, ha, hl, k⟩)
theorem q_sfldNew {ds : List D} (hv : ∀ Q : D → Mu → Prop, (∀ c, m c = none → Q (.adr c) (ups m c (.lst ds))) → te env m Q) (ho : ∀ (m1 : Mu) (Q : D → Mu → Prop), Q (.adr a) m1 → to env m1 Q) (ha : m a = some (.ins C fs)) (hl : fs.length < 1000)
    (k : ∀ c, m c = none → a ≠ c → u DD env (ups (ups m c (.lst ds)) a (.ins C (putD f (.adr c) fs)))) : dSeq (dSFld C f te to) u DD env m :=
  hv _ fun c hc => ho _ _ (by
    have ne : a ≠ c := by
      rintro rfl
      rw [ha] at hc
      cases hc
    exact ⟨a, fs, rfl, by rw [ups_ne ne]; exact ha, hl, k c hc ne⟩)
/-- the same as the last statement -/
theorem s_sfldNew {ds : List D} (hv : ∀ Q : D → Mu → Prop, (∀ c, m c = none → Q (.adr c) (ups m c (.lst ds))) → te env m Q) (ho : ∀ (m1 : Mu) (Q : D → Mu → Prop), Q (.adr a) m1 → to env m1 Q) (ha : m a = some (.ins C fs)) (hl : fs.length < 1000)
    (k : ∀ c, m c = none → a ≠ c → DD.nx env (ups (ups m c (.lst ds)) a (.ins C (putD f (.adr c) fs)))) : dSFld C f te to DD env m :=
  hv _ fun c hc => ho _ _ (by
    have ne : a ≠ c := by
      rintro rfl
      rw [ha] at hc
      cases hc
    exact ⟨a, fs, rfl, by rw [ups_ne ne]; exact ha, hl, k c hc ne⟩)
end
theorem zipD_map {α β : Type} (f : α → D) (g : β → D) : ∀ (a : List α) (b : List β), zipD (a.map f) (b.map g) = (a.zip b).map fun x => .tuple [f x.1, g x.2]
  | [], _ => rfl
  | _ :: _, [] => rfl
  | x :: a, y :: b => by
    rw [List.map_cons, List.map_cons, zipD, zipD_map f g a b]
    rfl
/-- xs.remove(k), whole numbers -/
def remD (x : D) (ds : List D) (m : Mu) (Q : D → Mu → Prop) : Prop := ∃ (a : Addr) (ns : List Int) (k : Int), x = .adr a ∧ ds = [.int k] ∧ m a = some (.lst (ns.map D.int)) ∧ k ∈ ns ∧ Q .non (ups m a (.lst ((ns.erase k).map D.int)))
theorem first_of {k : Int} : ∀ {ns : List Int}, k ∈ ns → ∃ j, ns[j]? = some k ∧ (∀ i : Nat, i < j → ns[i]? ≠ some k) ∧ ns.erase k = ns.eraseIdx j
  | x :: ns, h => by
    by_cases hx : x = k
    · subst hx
      exact ⟨0, rfl, nofun, by simp⟩
    · have hm : k ∈ ns := by
        rcases List.mem_cons.mp h with e | e
        · exact absurd e.symm hx
        · exact e
      obtain ⟨j, h1, h2, h3⟩ := first_of hm
      refine ⟨j + 1, by simpa using h1, fun i hi => ?_, ?_⟩
      · cases i with
        | zero => simpa using hx
        | succ i => simpa using h2 i (by omega)
      · rw [List.erase_cons, if_neg (by simpa using hx), h3, List.eraseIdx_cons_succ]
theorem md_remove {K : PySem.W.Frag} : MtD K "list" rRemI remD := fun F H m v x vs ds Q R q s rx rs p => by
  obtain ⟨a, ns, k, rfl, rfl, ha, hk, q⟩ := q
  cases rx
  obtain ⟨w, rfl, rw'⟩ := rs.inv1
  cases rw'
  obtain ⟨us, hu, rus⟩ := s.ok _ _ ha
  have e := reps_ints rus
  subst e
  obtain ⟨j, h1, h2, h3⟩ := first_of hk
  rw [h3] at q
  exact ⟨a, ns, k, j, rfl, rfl, hu, h1, h2, p.chgL s ha of_ints .non q⟩
section
variable {DD : dEnds} {env : Dq.Env} {m : Mu} {te : dE} {c : dT} {t u v : dS}
/-- an if whose test is drawn -/
theorem q_ifP (M : Dq.Env → Mu → Prop) (P : Bool → Prop) (h : ∀ Q : Bool → Mu → Prop, (∀ b, P b → Q b m) → c env m Q) (h1 : P true → ∀ N : Dq.Env → Mu → Prop, (∀ e m', M e m' → N e m') → t { DD with nx := N } env m)
    (h2 : P false → ∀ N : Dq.Env → Mu → Prop, (∀ e m', M e m' → N e m') → u { DD with nx := N } env m) (k : ∀ e m', M e m' → v DD e m') : dSeq (dIfS c t u) v DD env m := by
  refine h _ fun b hb => ?_
  cases b with
  | true => exact h1 hb _ k
  | false => exact h2 hb _ k
/-- a call whose store is known by a property -/
theorem q_dropP (P : Mu → Prop) (h : ∀ Q : D → Mu → Prop, (∀ d m1, P m1 → Q d m1) → te env m Q) (k : ∀ m1, P m1 → u DD env m1) : dSeq (dDrop te) u DD env m := h _ fun _ m1 p => k m1 p
end
/-- a, b, .. = a list of that length -/
def hUnl (n : Nat) (t : dGs) : dG := fun d env m Q => ∃ xs, vwL m d = some xs ∧ xs.length = n ∧ t xs env m Q
theorem g_unl {K : PySem.W.Frag} {X : Cx} {pos : Pos} {es : List Expr} {k : Nat} {g : TGs} {t : dGs} {n : Nat} (h : DGs K X es g t) (hc : X.calm = true := by rfl) (hn : (assignEach es X.env).length = n := by rfl) (hst : (assignEach es X.env).findIdx? (·.1) = none := by rfl) (hK : X.K = K := by rfl) : DG K X (.Tuple es k pos) (gUnl K n g) (hUnl n t) := by
  subst hK
  obtain ⟨h1, w1⟩ := h
  refine ⟨pg_unl hc h1 hn hst, fun F d env m Q v σ H R q o r p => ?_⟩
  obtain ⟨xs, hx, hl, q⟩ := q
  obtain ⟨a, vs, rfl, ha, ra⟩ := lst_of o.st r hx
  exact ⟨a, vs, rfl, .of ha, ra.length.trans hl, w1 F xs env m Q _ σ H R q o ra p⟩
/-- a loop of two turns -/
theorem q_for2 {DD : dEnds} {env : Dq.Env} {m : Mu} {wi : dI} {g : dG} {t u : dS} (P1 P2 : Dq.Env → Mu → Prop) (hi : ∀ Q : List D → Mu → Prop, Q ((List.range 2).map fun i : Nat => .int (i : Nat)) m → wi env m Q)
    (h1 : ∀ nx : Dq.Env → Mu → Prop, (∀ e m, P1 e m → nx e m) → g (.int 0) env m fun e1 m1 => t { DD with nx := nx, ct := nx, bk := u DD } e1 m1)
    (h2 : ∀ e m', P1 e m' → ∀ nx : Dq.Env → Mu → Prop, (∀ e m, P2 e m → nx e m) → g (.int 1) e m' fun e1 m1 => t { DD with nx := nx, ct := nx, bk := u DD } e1 m1)
    (hd : ∀ e m', P2 e m' → u DD e m') : dSeq (dFor wi g t) u DD env m := by
  refine q_for ((List.range 2).map fun i : Nat => .int (i : Nat)) hi (fun i e m' => match i with | 0 => e = env ∧ m' = m | 1 => P1 e m' | _ => P2 e m') ⟨rfl, rfl⟩ (fun i d hd' e m' hW nx hnx => ?_) fun e m' hW => hd e m' hW
  match i, hd' with
  | 0, hd' =>
    cases hd'
    obtain ⟨rfl, rfl⟩ := hW
    exact h1 nx hnx
  | 1, hd' =>
    cases hd'
    exact h2 e m' hW nx hnx
  | i + 2, hd' => cases hd'
/-- a test that changes the store, and is false -/
theorem q_whenP {DD : dEnds} {env : Dq.Env} {m : Mu} {c : dT} {t v : dS} (P : Mu → Prop) (h : ∀ Q : Bool → Mu → Prop, (∀ m1, P m1 → Q false m1) → c env m Q) (k : ∀ m1, P m1 → v DD env m1) : dSeq (dIfS c t dNext) v DD env m := by
  refine h _ fun m1 p => ?_
  show if false = true then _ else _
  rw [if_neg (by decide)]
  exact k m1 p
/-- xs[i] = v of a list of the store -/
theorem q_setS {DD : dEnds} {env : Dq.Env} {m m1 : Mu} {tv to ti : dE} {u : dS} (h : ∀ Q : Dq.Env → Mu → Prop, Q env m1 → dSetS tv to ti { DD with nx := Q } env m) (k : u DD env m1) : dSeq (dSetS tv to ti) u DD env m := h _ k
theorem s_dropP {DD : dEnds} {env : Dq.Env} {m : Mu} {te : dE} (P : Mu → Prop) (h : ∀ Q : D → Mu → Prop, (∀ d m1, P m1 → Q d m1) → te env m Q) (k : ∀ m1, P m1 → DD.nx env m1) : dDrop te DD env m := h _ fun _ m1 p => k m1 p
/-- the greatest of three whole numbers -/
def max3D (ds : List D) (m : Mu) (Q : D → Mu → Prop) : Prop := ∃ i j k : Int, ds = [.int i, .int j, .int k] ∧ Q (.int (max (max i j) k)) m
theorem nu_max (i j : Int) : nuMax2 (.int i) (.int j) = some (.int (max i j)) := by
  unfold nuMax2 nuLt nuCB
  simp only [Option.map_some, decide_eq_true_eq, Option.some.injEq]
  by_cases h : i < j
  · rw [if_pos h, Int.max_eq_right (by omega)]
  · rw [if_neg h, Int.max_eq_left (by omega)]
theorem cd_max3 {K : PySem.W.Frag} : CallD K (rNuC3 nuMax3) max3D := fun F H m vs ds Q R q s rs p => by
  obtain ⟨i, j, k, rfl, q⟩ := q
  cases rs with
  | cons r1 rs =>
    obtain ⟨v, u, rfl, r2, r3⟩ := rs.inv2
    cases r1; cases r2; cases r3
    refine ⟨_, _, _, _, rfl, ?_, p.here s (.int _) q⟩
    unfold nuMax3
    rw [nu_max]
    exact nu_max _ _
end Dq

/-! the program as plain functions over plain data -/
namespace Ls
open PySem L2 Dq
inductive Rl where | near | left | even
  deriving DecidableEq
def rt : Rl → Str
  | .near => "near"
  | .left => "left"
  | .even => "even"
def ps (p : List Bool) : Str := ⟨(p.map fun b => if b then 49 else 48).toArray⟩
def nums (l : List Nat) : List D := l.map fun n => .int (n : Nat)
/-- all patterns of so many places -/
def pats : Nat → List (List Bool)
  | 0 => [[]]
  | n + 1 => (pats n).map (false :: ·) ++ (pats n).map (true :: ·)
theorem mem_pats : ∀ (p : List Bool), p ∈ pats p.length
  | [] => by simp [pats]
  | false :: p => by
    rw [List.length_cons, pats, List.mem_append]
    exact .inl (List.mem_map_of_mem (mem_pats p))
  | true :: p => by
    rw [List.length_cons, pats, List.mem_append]
    exact .inr (List.mem_map_of_mem (mem_pats p))
/-- .. of at most six -/
def pats6 : List (List Bool) := pats 0 ++ pats 1 ++ pats 2 ++ pats 3 ++ pats 4 ++ pats 5 ++ pats 6
theorem mem_pats6 {p : List Bool} (h : p.length ≤ 6) : p ∈ pats6 := by
  have := mem_pats p
  unfold pats6
  simp only [List.mem_append]
  match hl : p.length, h with
  | 0, _ => rw [hl] at this; simp [this]
  | 1, _ => rw [hl] at this; simp [this]
  | 2, _ => rw [hl] at this; simp [this]
  | 3, _ => rw [hl] at this; simp [this]
  | 4, _ => rw [hl] at this; simp [this]
  | 5, _ => rw [hl] at this; simp [this]
  | 6, _ => rw [hl] at this; simp [this]
def placesOf (p : List Bool) : List Nat := (List.range p.length).filter fun i => p[i]?.getD false
def patOf (w : Nat) (pl : List Nat) : List Bool := (List.range w).map fun i => decide (i ∈ pl)
def evenPl (w n : Nat) : List Nat := (List.range n).map fun k => k * w / n
def insN (x : Nat) : List Nat → List Nat
  | [] => [x]
  | y :: r => if x ≤ y then x :: y :: r else y :: insN x r
def isortN : List Nat → List Nat
  | [] => []
  | x :: r => insN x (isortN r)
/-- the free places ahead, behind -/
def freeM (w : Nat) (pl : List Nat) : List Nat := (List.range w).filter fun i => !decide (i ∈ pl)
def beforeM (w : Nat) (pl : List Nat) (k : Nat) : List Nat := (freeM w pl).filter fun i => decide (0 < k) && decide (i < pl[k - 1]?.getD 0)
def behindM (w : Nat) (pl : List Nat) (k : Nat) : List Nat := (freeM w pl).filter fun i => decide (k < pl.length) && decide (pl[k]?.getD 0 < i)
def goesM (r : Rl) (w : Nat) (pl : List Nat) (k : Nat) : Bool :=
  if r = .near ∧ beforeM w pl k ≠ [] ∧ behindM w pl k ≠ [] then decide (pl[k - 1]?.getD 0 + pl[k]?.getD 0 ≤ (behindM w pl k).headD 0 + (beforeM w pl k).getLastD 0) else !decide (beforeM w pl k = [])
def shiftM (r : Rl) (w : Nat) (pl : List Nat) (k : Nat) : List Nat :=
  if goesM r w pl k = true then isortN (pl ++ [(beforeM w pl k).getLastD 0]) else isortN (pl ++ [(behindM w pl k).headD 0])
/-- the places behind a putting in; high is told with one more -/
def pbM (r : Rl) (w : Nat) (pl : List Nat) (k : Nat) : List Nat :=
  let low : Int := if 0 < k then (pl[k - 1]?.getD 0 : Nat) else -1
  let high : Int := if k < pl.length then (pl[k]?.getD 0 : Nat) else (w : Nat)
  if high - low > 1 then isortN (pl ++ [((low + high) / 2).toNat])
  else if r = .even then evenPl w (pl.length + 1) else shiftM r w pl k
def movedM (pl ot : List Nat) (k : Nat) : Nat := ((List.range pl.length).filter fun i => !decide (pl[i]? = (ot.eraseIdx k)[i]?)).length
def stepM (r : Rl) (p : List Bool) (word : Str) (k : Int) : Option (Nat × List Bool) :=
  if word = "take" ∧ 0 ≤ k ∧ k < (placesOf p).length then some (0, patOf p.length ((placesOf p).eraseIdx k.toNat))
  else if word = "put" ∧ 0 ≤ k ∧ k ≤ (placesOf p).length ∧ (placesOf p).length < p.length then
    some (movedM (placesOf p) (pbM r p.length (placesOf p) k.toNat) k.toNat, patOf p.length (pbM r p.length (placesOf p) k.toNat))
  else none
def stepD : Option (Nat × List Bool) → D
  | none => .non
  | some (n, q) => .tuple [.int (n : Nat), .str (ps q)]
/-! facts of the finite -/
theorem pl_len (p : List Bool) : (placesOf p).length ≤ p.length := by
  unfold placesOf
  refine Nat.le_trans (List.length_filter_le _ _) ?_
  rw [List.length_range]
  exact Nat.le_refl _
theorem pl_lt {p : List Bool} {i : Nat} (h : i ∈ placesOf p) : i < p.length := List.mem_range.mp (List.mem_filter.mp h).1
theorem ps_len (p : List Bool) : (ps p).length = p.length := by simp [ps, Str.length]
theorem ps_at {p : List Bool} {i : Nat} {b : Bool} (h : p[i]? = some b) : atI (ps p).cps.toList ((i : Nat) : Int) = some (if b then 49 else 48) := by
  refine atI_nat ?_
  simp [ps, h]
theorem ps_inj {p q : List Bool} : ps p = ps q ↔ p = q := by
  constructor
  · intro h
    have h1 : (p.map fun b => if b then 49 else 48) = (q.map fun b => if b then 49 else 48) := by
      have := congrArg (fun z : Str => z.cps.toList) h
      simpa [ps] using this
    exact (List.map_inj_right (fun a b hab => by cases a <;> cases b <;> simp_all)).mp h1
  · intro h
    rw [h]
theorem rt_inj {a b : Rl} : rt a = rt b ↔ a = b := by
  cases a <;> cases b <;> simp [rt] <;> decide +kernel
theorem nums_len (l : List Nat) : (nums l).length = l.length := by simp [nums]
theorem isortN_ints (l : List Nat) : isort (l.map fun n : Nat => (n : Int)) = (isortN l).map fun n : Nat => (n : Int) := by
  have hi : ∀ (x : Nat) (l : List Nat), ins (x : Int) (l.map fun n : Nat => (n : Int)) = (insN x l).map fun n : Nat => (n : Int) := by
    intro x l
    induction l with
    | nil => rfl
    | cons y r ih =>
      rw [List.map_cons, ins, insN]
      by_cases h : x ≤ y
      · rw [if_pos h, if_pos (by omega)]
        rfl
      · rw [if_neg h, if_neg (by omega), ih]
        rfl
  induction l with
  | nil => rfl
  | cons x r ih => rw [List.map_cons, isort, isortN, ih, hi]
theorem nums_ints (l : List Nat) : nums l = (l.map fun n : Nat => (n : Int)).map D.int := by simp [nums, List.map_map]

theorem nums_get {l : List Nat} {i : Nat} (h : i < l.length) : (nums l)[i]? = some (.int (l[i] : Nat)) := by simp [nums, h]
theorem nums_atN {l : List Nat} {i : Nat} (h : i < l.length) : atI (nums l) ((i : Nat) : Int) = some (.int (l[i] : Nat)) := atI_nat (nums_get h)
theorem nums_flat (l : List Nat) : (nums l).all flat = true := by
  unfold nums
  rw [List.all_map]
  exact List.all_eq_true.mpr fun _ _ => rfl
theorem nums_in (l : List Nat) (x : Nat) : inV (.int (x : Nat)) ((nums l).map toV) = decide (x ∈ l) := by
  unfold inV nums
  rw [List.map_map, List.any_map]
  induction l with
  | nil => rfl
  | cons a l ih =>
    rw [List.any_cons, ih]
    have e : ((fun y => eqV y (V.int (x : Nat))) ∘ toV ∘ fun n : Nat => D.int (n : Nat)) a = decide (x = a) := by
      show ((a : Int) == (x : Int)) = decide (x = a)
      by_cases h : x = a
      · subst h
        simp
      · rw [decide_eq_false h]
        simp only [beq_eq_false_iff_ne]
        omega
    rw [e]
    by_cases h : x = a
    · subst h
      simp
    · simp [h]
theorem cut_take (xs : List D) (k : Nat) : cutD xs none (some (k : Int)) = xs.take k := by
  unfold cutD HT.sIx
  simp only [Nat.sub_zero, List.drop_zero, if_neg (show ¬ ((k : Nat) : Int) < 0 by omega), Int.toNat_natCast]
  by_cases h : k ≤ xs.length
  · rw [Nat.min_eq_left h]
  · rw [Nat.min_eq_right (by omega), List.take_length, List.take_of_length_le (by omega)]
theorem cut_drop (xs : List D) (k : Nat) : cutD xs (some (k : Int)) none = xs.drop k := by
  unfold cutD HT.sIx
  simp only [if_neg (show ¬ ((k : Nat) : Int) < 0 by omega), Int.toNat_natCast]
  by_cases h : k ≤ xs.length
  · rw [Nat.min_eq_left h, List.take_of_length_le (by rw [List.length_drop]; omega)]
  · rw [Nat.min_eq_right (by omega), List.drop_length, List.drop_of_length_le (by omega)]
    simp
theorem cut_drop1 (xs : List D) (k : Nat) : cutD xs (some ((k : Int) + 1)) none = xs.drop (k + 1) := by
  rw [show ((k : Int) + 1) = ((k + 1 : Nat) : Int) by omega, cut_drop]
theorem take_drop_erase {α : Type} (xs : List α) (k : Nat) : xs.take k ++ xs.drop (k + 1) = xs.eraseIdx k := by
  rw [List.eraseIdx_eq_take_drop_succ]
theorem erase_map {α β : Type} (f : α → β) : ∀ (l : List α) (k : Nat), (l.map f).eraseIdx k = (l.eraseIdx k).map f
  | [], _ => rfl
  | _ :: _, 0 => rfl
  | a :: l, k + 1 => by
    show f a :: (l.map f).eraseIdx k = f a :: (l.eraseIdx k).map f
    rw [erase_map f l k]
theorem nums_erase (l : List Nat) (k : Nat) : (nums l).eraseIdx k = nums (l.eraseIdx k) := erase_map _ l k
theorem nums_append (l : List Nat) (n : Nat) : nums l ++ [.int (n : Nat)] = nums (l ++ [n]) := by simp [nums]
/-- joined signs -/
theorem str_ext {a b : Str} (h : a.cps.toList = b.cps.toList) : a = b := by
  cases a; cases b
  simp only [Str.mk.injEq]
  exact Array.toList_inj.mp h
theorem join0 : ∀ (l : List Str), (Str.join "" l).cps.toList = (l.map fun x => x.cps.toList).flatten
  | [] => rfl
  | [x] => by simp [Str.join]
  | x :: y :: r => by
    rw [List.map_cons, List.flatten_cons, ← join0 (y :: r)]
    show ((x ++ "" ++ Str.join "" (y :: r) : Str)).cps.toList = _
    have e : ∀ a b : Str, (a ++ b).cps.toList = a.cps.toList ++ b.cps.toList := fun a b => by
      show (a.cps ++ b.cps).toList = _
      simp
    rw [e, e]
    have z : ("" : Str).cps.toList = [] := by decide +kernel
    rw [z, List.append_nil]
theorem join_signs (l : List Bool) : Txt.join "" (l.map fun b => if b then ("1" : Str) else "0") = ps l := by
  refine str_ext ?_
  have e1 : (("1" : Str)).cps.toList = [49] := by decide +kernel
  have e0 : (("0" : Str)).cps.toList = [48] := by decide +kernel
  show (Builtin.Str.glued _ _).cps.toList = _
  rw [StrLaws.glued_eq_join, join0, List.map_map]
  simp only [ps]
  induction l with
  | nil => rfl
  | cons b l ih =>
    rw [List.map_cons, List.flatten_cons, ih, List.map_cons]
    cases b
    · simp [e0]
    · simp [e1]
theorem sign_len (b : Bool) : (if b then ("1" : Str) else "0").length = 1 := by cases b <;> decide +kernel
theorem signs_sum (l : List Bool) : ((l.map fun b => if b then ("1" : Str) else "0").map (·.length)).sum = l.length := by
  induction l with
  | nil => rfl
  | cons b l ih =>
    rw [List.map_cons, List.map_cons, List.sum_cons, ih, List.length_cons, sign_len]
    omega
/-- a comprehension that sifts numbers -/
theorem lc_nums {vs : List Nat} {env : Dq.Env} {j : Nat} {tt : dT} {Q : List D → Mu → Prop} {m : Mu} {l : List Nat} (c : Nat → Bool)
    (ht : ∀ i, i ∈ l → ∀ Q' : Bool → Mu → Prop, Q' (c i) m → tt ((wipeD env vs).set j (some (.int (i : Nat)))) m Q') (hl : l.length < sizeLine) (q : Q (nums (l.filter c)) m) (hj : j < (wipeD env vs).length := by simp only [wipeD, List.length_set, List.length_cons, List.length_nil]; omega) : lcD vs env (hName j) tt (dVar j) Q (nums l) [] m := by
  have key : ((nums l).filter (fun d => match d with | .int i => c i.toNat | _ => false)).map (fun d => d) = nums (l.filter c) := by
    rw [List.map_id']
    clear ht hl q
    unfold nums
    induction l with
    | nil => rfl
    | cons a l ih =>
      rw [List.map_cons, List.filter_cons, List.filter_cons, ih]
      simp only [Int.toNat_natCast]
      split <;> rfl
  refine lc_pure (fun d => match d with | .int i => c i.toNat | _ => false) (fun d => d) ?_ ?_ (by rw [nums_len]; exact hl) (by rw [key]; exact q)
  · intro x hx Q' q'
    obtain ⟨i, hi, rfl⟩ := List.mem_map.mp hx
    simp only [Int.toNat_natCast] at q'
    exact ht i hi Q' q'
  · intro x hx hc Q' q'
    exact ⟨x, List.getElem?_set_self hj, q'⟩
theorem rt_near {r : Rl} : (rt r = ("near" : Str)) = (r = .near) := propext (rt_inj (b := .near))
theorem rt_left {r : Rl} : (rt r = ("left" : Str)) = (r = .left) := propext (rt_inj (b := .left))
theorem rt_even {r : Rl} : (rt r = ("even" : Str)) = (r = .even) := propext (rt_inj (b := .even))
theorem nums_last {l : List Nat} (h : l ≠ []) : atI (nums l) (-1) = some (.int (l.getLastD 0 : Nat)) := by
  rw [← List.dropLast_concat_getLast h, ← nums_append, atI_last]
  simp
theorem nums_first {l : List Nat} (h : l ≠ []) : atI (nums l) (0 : Int) = some (.int (l.headD 0 : Nat)) := by
  obtain ⟨a, r, e⟩ := List.exists_cons_of_ne_nil h
  rw [e]
  exact nums_atN (i := 0) (by simp)
def lowM (pl : List Nat) (k : Nat) : Int := if 0 < k then (pl[k - 1]?.getD 0 : Nat) else -1
def highM (w : Nat) (pl : List Nat) (k : Nat) : Int := if k < pl.length then (pl[k]?.getD 0 : Nat) else (w : Nat)
theorem pbM_eq (r : Rl) (w : Nat) (pl : List Nat) (k : Nat) : pbM r w pl k = if highM w pl k - lowM pl k > 1 then isortN (pl ++ [((lowM pl k + highM w pl k) / 2).toNat]) else if r = .even then evenPl w (pl.length + 1) else shiftM r w pl k := rfl
def rls : List Rl := [.near, .left, .even]
theorem mem_rls (r : Rl) : r ∈ rls := by cases r <;> simp [rls]
/-- what the walk asks of a putting in -/
def pbOk (p : List Bool) : Bool := rls.all fun r => (List.range ((placesOf p).length + 1)).all fun k => !decide ((placesOf p).length < p.length) ||
  (decide ((pbM r p.length (placesOf p) k).length = (placesOf p).length + 1) && (decide (highM p.length (placesOf p) k - lowM (placesOf p) k > 1) || goesM r p.length (placesOf p) k || !decide (behindM p.length (placesOf p) k = [])))
theorem pbOk_all : pats6.all pbOk = true := by decide +kernel
theorem pb_ok {p : List Bool} (h : p.length ≤ 6) (r : Rl) {k : Nat} (hk : k ≤ (placesOf p).length) (hl : (placesOf p).length < p.length) :
    (pbM r p.length (placesOf p) k).length = (placesOf p).length + 1 ∧ (¬ highM p.length (placesOf p) k - lowM (placesOf p) k > 1 → goesM r p.length (placesOf p) k = false → behindM p.length (placesOf p) k ≠ []) := by
  have h1 := List.all_eq_true.mp pbOk_all p (mem_pats6 h)
  unfold pbOk at h1
  have h2 := List.all_eq_true.mp (List.all_eq_true.mp h1 r (mem_rls r)) k (List.mem_range.mpr (by omega))
  simp only [Bool.or_eq_true, Bool.and_eq_true, decide_eq_true_eq, Bool.not_eq_true', decide_eq_false_iff_not] at h2
  rcases h2 with h2 | ⟨h2, h3⟩
  · omega
  · refine ⟨h2, fun h4 h5 => ?_⟩
    rcases h3 with (h3 | h3) | h3
    · exact absurd h3 h4
    · rw [h5] at h3
      cases h3
    · exact h3
/-- the two words of a deed -/
inductive Wd where | put | take
  deriving DecidableEq
def wt : Wd → Str
  | .put => "put"
  | .take => "take"
theorem wt_inj {a b : Wd} : wt a = wt b ↔ a = b := by
  cases a <;> cases b <;> simp [wt] <;> decide +kernel
instance : Cod Wd where
  enc := fun w => .str (wt w)
  py := fun w => .str (wt w)
  isP := fun _ a => .str _
  lay := fun a => by
    simp only [PyData.canLay0]
    cases a <;> decide +kernel
  dep := 0
  depth := fun _ => by simp [PyData.depth]
  eqv := fun a b => by
    simp only [PyData.eqv]
    by_cases h : a = b
    · subst h; simp
    · rw [decide_eq_false h, beq_eq_false_iff_ne]
      exact fun e => h (wt_inj.mp e)
def deedD (d : Wd × Nat) : D := .tuple [.str (wt d.1), .int (d.2 : Nat)]
def deedsD (l : List (Wd × Nat)) : List D := l.map deedD
def stepW (r : Rl) (p : List Bool) (d : Wd × Nat) : Option (Nat × List Bool) := stepM r p (wt d.1) (d.2 : Nat)
def playM (r : Rl) : List Bool → List (Wd × Nat) → Option (List Nat × List Bool)
  | p, [] => some ([], p)
  | p, d :: l => match stepW r p d with
    | none => none
    | some (n, q) => match playM r q l with
      | none => none
      | some (ns, q') => some (n :: ns, q')
theorem zeros_ok {w : Nat} (h1 : 1 ≤ w) (h2 : w ≤ 6) : MulOk "0" (w : Nat) := by
  have : w = 1 ∨ w = 2 ∨ w = 3 ∨ w = 4 ∨ w = 5 ∨ w = 6 := by omega
  rcases this with rfl | rfl | rfl | rfl | rfl | rfl <;> exact ⟨by decide, fun _ _ => by decide +kernel, fun _ _ => by decide +kernel⟩
theorem zeros_eq {w : Nat} (h1 : 1 ≤ w) (h2 : w ≤ 6) : Txt.mul "0" (w : Nat) = ps (List.replicate w false) := by
  have : w = 1 ∨ w = 2 ∨ w = 3 ∨ w = 4 ∨ w = 5 ∨ w = 6 := by omega
  rcases this with rfl | rfl | rfl | rfl | rfl | rfl <;> decide +kernel
theorem patOf_len (w : Nat) (l : List Nat) : (patOf w l).length = w := by simp [patOf]
theorem stepM_len {r : Rl} {p q : List Bool} {w : Str} {k : Int} {n : Nat} (h : stepM r p w k = some (n, q)) : q.length = p.length := by
  unfold stepM at h
  split at h
  · cases h
    exact patOf_len _ _
  · split at h
    · cases h
      exact patOf_len _ _
    · cases h
/-- .. of whole numbers -/
theorem lc_ints {vs : List Nat} {env : Dq.Env} {j : Nat} {tt : dT} {Q : List D → Mu → Prop} {m : Mu} {l : List Int} (c : Int → Bool)
    (ht : ∀ i, i ∈ l → ∀ Q' : Bool → Mu → Prop, Q' (c i) m → tt ((wipeD env vs).set j (some (.int i))) m Q') (hl : l.length < sizeLine) (q : Q ((l.filter c).map D.int) m) (hj : j < (wipeD env vs).length := by simp only [wipeD, List.length_set, List.length_cons, List.length_nil]; omega) : lcD vs env (hName j) tt (dVar j) Q (l.map D.int) [] m := by
  have key : ((l.map D.int).filter (fun d => match d with | .int i => c i | _ => false)).map (fun d => d) = (l.filter c).map D.int := by
    rw [List.map_id']
    clear ht hl q
    induction l with
    | nil => rfl
    | cons a l ih =>
      rw [List.map_cons, List.filter_cons, List.filter_cons, ih]
      simp only
      split <;> rfl
  refine lc_pure (fun d => match d with | .int i => c i | _ => false) (fun d => d) ?_ ?_ (by rw [List.length_map]; exact hl) (by rw [key]; exact q)
  · intro x hx Q' q'
    obtain ⟨i, hi, rfl⟩ := List.mem_map.mp hx
    exact ht i hi Q' q'
  · intro x hx hc Q' q'
    exact ⟨x, List.getElem?_set_self hj, q'⟩
end Ls

namespace Dq
open PySem L2
theorem q_while {DD : dEnds} {env : Dq.Env} {m : Mu} {c : dT} {tb u : dS} (W : Nat → Dq.Env → Mu → Prop) (n0 : Nat) (h0 : W n0 env m)
    (hs : ∀ n e m', W n e m' → ∃ b : Bool, (∀ Q : Bool → Mu → Prop, Q b m' → c e m' Q) ∧ (b = true → ∀ nx : Dq.Env → Mu → Prop, (∀ n' e1 m1, n' < n → W n' e1 m1 → nx e1 m1) → tb { DD with nx := nx, ct := nx, bk := u DD } e m') ∧ (b = false → u DD e m')) :
    dSeq (dWhile c tb) u DD env m := by
  refine ⟨W, ⟨n0, h0⟩, fun n e m' w => ?_⟩
  obtain ⟨b, h1, h2, h3⟩ := hs n e m' w
  refine h1 _ ?_
  cases b with
  | true => exact h2 rfl _ fun n' e1 m1 hl w1 => ⟨n', hl, w1⟩
  | false => exact h3 rfl
/-- a new object known by A alone -/
theorem q_newAny {A : List D → Prop} {DD : dEnds} {env : Dq.Env} {m : Mu} {te : dE} {u : dS} {i : Nat} (h : ∀ Q : D → Mu → Prop, (∀ a, m a = none → Q (.adr a) (ups m a (.any A))) → te env m Q) (k : ∀ a, m a = none → u DD (env.set i (some (.adr a))) (ups m a (.any A))) : dSeq (dAsg te i) u DD env m := h _ k
/-- a loop over 0 .. n - 1 where n is drawn -/
theorem q_forN {DD : dEnds} {env : Dq.Env} {m : Mu} {u : dS} {wi : dI} {g : dG} {t : dS} (C : Nat → Prop) (hi : ∀ Q : List D → Mu → Prop, (∀ n, C n → Q ((List.range n).map fun i : Nat => .int (i : Nat)) m) → wi env m Q) (W : Nat → Nat → Dq.Env → Mu → Prop) (h0 : ∀ n, C n → W n 0 env m)
    (hs : ∀ n i, C n → i < n → ∀ e m', W n i e m' → ∀ nx : Dq.Env → Mu → Prop, (∀ e m, W n (i + 1) e m → nx e m) → g (.int (i : Nat)) e m' fun e1 m1 => t { DD with nx := nx, ct := nx, bk := u DD } e1 m1)
    (hd : ∀ n, C n → ∀ e m', W n n e m' → u DD e m') : dSeq (dFor wi g t) u DD env m := by
  refine hi _ fun n hn => forD_inv (W n) _ 0 (fun i d hd e m' h nx hn' => ?_) (fun e m' h => ?_) env m (h0 n hn)
  · rw [Nat.zero_add] at h hn'
    rw [List.getElem?_map] at hd
    obtain ⟨j, hj, rfl⟩ := Option.map_eq_some_iff.mp hd
    obtain ⟨hi, rfl⟩ := List.getElem?_eq_some_iff.mp hj
    rw [List.length_range] at hi
    rw [List.getElem_range]
    exact hs n i hn hi e m' h nx hn'
  · rw [Nat.zero_add, List.length_map, List.length_range] at h
    exact hd n hn e m' h
/-- a comprehension whose items are drawn -/
theorem lc_drawnA {β : Type} {vs : List Nat} {env : Dq.Env} {j : Nat} {te : dE} {Q : List D → Mu → Prop} {m : Mu} (g : β → D) : ∀ (ds : List D) (bs : List β),
    (∀ x ∈ ds, ∀ Q' : D → Mu → Prop, (∀ b, Q' (g b) m) → te ((wipeD env vs).set j (some x)) m Q') → bs.length + ds.length < sizeLine →
    (∀ cs : List β, cs.length = bs.length + ds.length → Q (cs.map g) m) → lcD vs env (hName j) dYes te Q ds (bs.map g) m
  | [], bs, _, _, q => q bs rfl
  | x :: r, bs, h, hl, q => by
    rw [List.length_cons] at hl
    refine h x List.mem_cons_self _ fun b => ⟨by rw [List.length_map]; omega, ?_⟩
    have := lc_drawnA (vs := vs) (env := env) (j := j) (te := te) (Q := Q) (m := m) g r (bs ++ [b]) (fun y hy => h y (List.mem_cons_of_mem _ hy)) (by rw [List.length_append, List.length_cons, List.length_nil]; omega) (fun cs hcs => q cs (by rw [hcs, List.length_append, List.length_cons, List.length_nil, List.length_cons]; omega))
    rw [List.map_append] at this
    exact this
theorem lc_drawn {β : Type} {vs : List Nat} {env : Dq.Env} {j : Nat} {te : dE} {Q : List D → Mu → Prop} {m : Mu} {ds : List D} (g : β → D)
    (h : ∀ x ∈ ds, ∀ Q' : D → Mu → Prop, (∀ b, Q' (g b) m) → te ((wipeD env vs).set j (some x)) m Q') (hl : ds.length < sizeLine)
    (q : ∀ cs : List β, cs.length = ds.length → Q (cs.map g) m) : lcD vs env (hName j) dYes te Q ds [] m :=
  lc_drawnA g ds [] h (by simpa using hl) fun cs hcs => q cs (by simpa using hcs)
/-- a comprehension over a list told by a function -/
theorem lc_mapA {α : Type} {vs : List Nat} {env : Dq.Env} {j : Nat} {tt : dT} {te : dE} {Q : List D → Mu → Prop} {m : Mu} (en : α → D) (c : α → Bool) (f : α → D) : ∀ (l : List α) (acc : List D),
    (∀ x ∈ l, ∀ Q' : Bool → Mu → Prop, Q' (c x) m → tt ((wipeD env vs).set j (some (en x))) m Q') → (∀ x ∈ l, c x = true → ∀ Q' : D → Mu → Prop, Q' (f x) m → te ((wipeD env vs).set j (some (en x))) m Q') →
    acc.length + l.length < sizeLine → Q (acc ++ (l.filter c).map f) m → lcD vs env (hName j) tt te Q (l.map en) acc m
  | [], acc, _, _, _, q => by
    have q' : Q (acc ++ []) m := q
    rw [List.append_nil] at q'
    exact q'
  | x :: r, acc, ht, he, hl, q => by
    rw [List.length_cons] at hl
    refine ht x List.mem_cons_self _ ?_
    rw [List.filter_cons] at q
    split
    · rename_i hc
      rw [if_pos hc] at q
      refine he x List.mem_cons_self hc _ ⟨by omega, lc_mapA en c f r _ (fun y hy => ht y (List.mem_cons_of_mem _ hy)) (fun y hy => he y (List.mem_cons_of_mem _ hy)) ?_ ?_⟩
      · rw [List.length_append, List.length_cons, List.length_nil]
        omega
      · rw [List.append_assoc]
        exact q
    · rename_i hc
      rw [if_neg hc] at q
      exact lc_mapA en c f r _ (fun y hy => ht y (List.mem_cons_of_mem _ hy)) (fun y hy => he y (List.mem_cons_of_mem _ hy)) (by omega) q
theorem lc_map {α : Type} {vs : List Nat} {env : Dq.Env} {j : Nat} {tt : dT} {te : dE} {Q : List D → Mu → Prop} {m : Mu} {en : α → D} {l : List α} (c : α → Bool) (f : α → D)
    (ht : ∀ x ∈ l, ∀ Q' : Bool → Mu → Prop, Q' (c x) m → tt ((wipeD env vs).set j (some (en x))) m Q') (he : ∀ x ∈ l, c x = true → ∀ Q' : D → Mu → Prop, Q' (f x) m → te ((wipeD env vs).set j (some (en x))) m Q')
    (hl : l.length < sizeLine) (q : Q ((l.filter c).map f) m) : lcD vs env (hName j) tt te Q (l.map en) [] m := lc_mapA en c f l [] ht he (by simpa using hl) q
theorem lc_mapAll {α : Type} {vs : List Nat} {env : Dq.Env} {j : Nat} {te : dE} {Q : List D → Mu → Prop} {m : Mu} {en : α → D} {l : List α} (f : α → D)
    (he : ∀ x ∈ l, ∀ Q' : D → Mu → Prop, Q' (f x) m → te ((wipeD env vs).set j (some (en x))) m Q') (hl : l.length < sizeLine) (q : Q (l.map f) m) : lcD vs env (hName j) dYes te Q (l.map en) [] m :=
  lc_map (fun _ => true) f (fun _ _ _ q' => q') (fun x hx _ => he x hx) hl (by rw [List.filter_eq_self.mpr (fun _ _ => rfl)]; exact q)
end Dq
/-! the laws' own helpers as plain functions -/
namespace Ls
open PySem L2 Dq
/-- the draws: two whole numbers, then great ones -/
def Dice (ds : List D) : Prop := ∃ (a b : Int) (l : List Int), ds = .int a :: .int b :: l.map D.int ∧ 0 ≤ a ∧ a < 2147483647 ∧ 0 ≤ b ∧ (∀ x ∈ l, 0 ≤ x) ∧ l.length ≤ 63
/-- what == tells of a list of draws -/
theorem rule_ix (r : Nat) (h : r < 3) : ∃ x : Rl, ([.str "near", .str "left", .str "even"] : List D)[r]? = some (.str (rt x)) := by
  have : r = 0 ∨ r = 1 ∨ r = 2 := by omega
  rcases this with rfl | rfl | rfl
  · exact ⟨.near, rfl⟩
  · exact ⟨.left, rfl⟩
  · exact ⟨.even, rfl⟩
/-- plain data of bounded depth, no dict -/
def flatP : PyData → Bool
  | .dict _ => false
  | .list _ => false
  | .tuple _ => false
  | _ => true
theorem isPs_length {m : Mu} : ∀ {xs : List D} {ds : List PyData}, IsPs m xs ds → xs.length = ds.length
  | _, _, .nil => rfl
  | _, _, .cons _ t => by rw [List.length_cons, List.length_cons, isPs_length t]
theorem isPs_get {m : Mu} : ∀ {xs : List D} {ds : List PyData} {i : Nat}, IsPs m xs ds → i < xs.length → ∃ x d, xs[i]? = some x ∧ ds[i]? = some d ∧ IsP m x d
  | _, _, _, .nil, h => by simp at h
  | _, _, 0, .cons r _, _ => ⟨_, _, rfl, rfl, r⟩
  | _, _, i + 1, .cons _ t, h => by
    obtain ⟨x, d, h1, h2, h3⟩ := isPs_get (i := i) t (by simpa using h)
    exact ⟨x, d, by simpa using h1, by simpa using h2, h3⟩
theorem depth_mem : ∀ {ds : List PyData} {i : Nat} {d : PyData}, ds[i]? = some d → d.depth ≤ PyData.depthAll ds
  | [], _, _, h => by simp at h
  | x :: xs, 0, d, h => by
    simp at h
    subst h
    simp only [PyData.depthAll]
    omega
  | x :: xs, i + 1, d, h => by
    have := depth_mem (ds := xs) (i := i) (d := d) (by simpa using h)
    simp only [PyData.depthAll]
    omega
/-! no dict in it, no list too long -/
mutual
def wideP : PyData → Bool
  | .list ds => decide (ds.length ≤ 1000) && wideA ds
  | .tuple ds => decide (ds.length ≤ 1000) && wideA ds
  | .dict _ => false
  | _ => true
def wideA : List PyData → Bool
  | [] => true
  | d :: ds => wideP d && wideA ds
end
theorem wideA_mem : ∀ {ds : List PyData} {i : Nat} {d : PyData}, wideA ds = true → ds[i]? = some d → wideP d = true
  | [], _, _, _, h => by simp at h
  | x :: xs, 0, d, hw, h => by
    simp at h
    subst h
    simp only [wideA, Bool.and_eq_true] at hw
    exact hw.1
  | x :: xs, i + 1, d, hw, h => by
    simp only [wideA, Bool.and_eq_true] at hw
    exact wideA_mem (ds := xs) (i := i) hw.2 (by simpa using h)
theorem k_NoneType_bool : kitB "NoneType" "bool" = some false := by decide +kernel
theorem k_NoneType_int : kitB "NoneType" "int" = some false := by decide +kernel
theorem k_NoneType_str : kitB "NoneType" "str" = some false := by decide +kernel
theorem k_NoneType_tuple : kitB "NoneType" "tuple" = some false := by decide +kernel
theorem k_NoneType_list : kitB "NoneType" "list" = some false := by decide +kernel
theorem k_bool_bool : kitB "bool" "bool" = some true := by decide +kernel
theorem k_bool_int : kitB "bool" "int" = some true := by decide +kernel
theorem k_bool_str : kitB "bool" "str" = some false := by decide +kernel
theorem k_bool_tuple : kitB "bool" "tuple" = some false := by decide +kernel
theorem k_bool_list : kitB "bool" "list" = some false := by decide +kernel
theorem k_int_bool : kitB "int" "bool" = some false := by decide +kernel
theorem k_int_int : kitB "int" "int" = some true := by decide +kernel
theorem k_int_str : kitB "int" "str" = some false := by decide +kernel
theorem k_int_tuple : kitB "int" "tuple" = some false := by decide +kernel
theorem k_int_list : kitB "int" "list" = some false := by decide +kernel
theorem k_str_bool : kitB "str" "bool" = some false := by decide +kernel
theorem k_str_int : kitB "str" "int" = some false := by decide +kernel
theorem k_str_str : kitB "str" "str" = some true := by decide +kernel
theorem k_str_tuple : kitB "str" "tuple" = some false := by decide +kernel
theorem k_str_list : kitB "str" "list" = some false := by decide +kernel
theorem k_list_bool : kitB "list" "bool" = some false := by decide +kernel
theorem k_list_int : kitB "list" "int" = some false := by decide +kernel
theorem k_list_str : kitB "list" "str" = some false := by decide +kernel
theorem k_list_tuple : kitB "list" "tuple" = some false := by decide +kernel
theorem k_list_list : kitB "list" "list" = some true := by decide +kernel
theorem k_tuple_bool : kitB "tuple" "bool" = some false := by decide +kernel
theorem k_tuple_int : kitB "tuple" "int" = some false := by decide +kernel
theorem k_tuple_str : kitB "tuple" "str" = some false := by decide +kernel
theorem k_tuple_tuple : kitB "tuple" "tuple" = some true := by decide +kernel
theorem k_tuple_list : kitB "tuple" "list" = some false := by decide +kernel
def pre_law_alike (k : Nat) : Pre := fun ds m Q => ∃ (x y : D) (a : PyData), ds = [x, y] ∧ IsP m x a ∧ IsP m y a ∧ a.depth < k ∧ wideP a = true ∧ Q (.bl true) m
theorem alike_all {x y : D} {xs ys : List D} {as : List PyData} {n : Nat} {m : Mu} {Q : D → Mu → Prop} (hx : vwS m x = some xs) (hy : vwS m y = some ys) (ix : IsPs m xs as) (iy : IsPs m ys as) (hd : PyData.depthAll as < n) (hw : as.length ≤ 1000) (hwa : wideA as = true) (q : Q (.bl true) m) :
    if ¬((xs.length : Nat) : Int) = ((ys.length : Nat) : Int) then Q (.bl false) m else -2 ^ 62 ≤ ((ys.length : Nat) : Int) ∧ ((ys.length : Nat) : Int) < 2 ^ 62 ∧ lcD [2] [some x, some y, none] (hName 2) dYes (dCall (pre_law_alike n) (dCons (dOp ixD (dVar 0) (dVar 2)) (dCons (dOp ixD (dVar 1) (dVar 2)) dNil)))
      (fun acc m2 => allD [.list acc] m2 Q) (List.map (fun i : Nat => D.int (i : Int)) (List.range ((ys.length : Nat) : Int).toNat)) [] m := by
  have lx := isPs_length ix
  have ly := isPs_length iy
  rw [if_neg (by omega), Int.toNat_natCast]
  refine ⟨by omega, by omega, lc_rangeAll (fun _ => .bl true) (fun i hi Q' q' => ?_) (small_line (by omega)) ?_⟩
  · obtain ⟨x1, d1, h1, h2, h3⟩ := isPs_get (i := i) ix (by omega)
    obtain ⟨y1, d2, h4, h5, h6⟩ := isPs_get (i := i) iy (by omega)
    rw [h2] at h5
    cases h5
    have hdm := depth_mem h2
    have e0 : ∀ z : D, (∀ s, z ≠ .str s) → ∀ zs d (R : D → Mu → Prop), vwS m z = some zs → atI zs ((i : Nat) : Int) = some d → R d m → ixD z (.int (i : Nat)) m R := by
      intro z hz zs d R h1 h2 h3
      refine ⟨i, rfl, ?_⟩
      cases z with
      | str s => exact absurd rfl (hz s)
      | _ => exact ⟨zs, d, h1, h2, h3⟩
    refine ⟨x, rfl, _, rfl, e0 x ?_ xs x1 _ hx (atI_nat h1) ?_⟩
    · rintro s rfl
      cases hx
    · refine ⟨y, rfl, _, rfl, e0 y ?_ ys y1 _ hy (atI_nat h4) ?_⟩
      · rintro s rfl
        cases hy
      · exact ⟨x1, y1, d1, rfl, h3, h6, by omega, wideA_mem hwa h2, q'⟩
  · refine ⟨_, rfl, List.replicate ys.length true, ?_, ?_⟩
    · simp only [vwL, Option.some.injEq]
      rw [List.map_replicate, List.map_const', List.length_range]
    · have : (List.replicate ys.length true).all id = true := by simp
      rw [this]
      exact q

theorem alike_same {x y : D} {a : PyData} {m : Mu} {Q : D → Mu → Prop} {k : Nat} (hx : IsP m x a) (hy : IsP m y a) (hd : a.depth < k) (hw : wideP a = true) (q : Q (.bl true) m) : pre_law_alike k [x, y] m Q := ⟨x, y, a, rfl, hx, hy, hd, hw, q⟩
theorem nums_isPs (m : Mu) (l : List Nat) : IsPs m (nums l) (l.map fun n : Nat => .int (n : Nat)) := cod_isPs m l
theorem nums_wide (l : List Nat) : wideA (l.map fun n : Nat => .int (n : Nat)) = true := by
  induction l with
  | nil => rfl
  | cons a l ih => rw [List.map_cons, wideA, ih]; rfl
theorem nums_depth (l : List Nat) : PyData.depthAll (l.map fun n : Nat => .int (n : Nat)) ≤ 0 := cod_depths l
theorem join_bits {bs : List Bool} {Q : D → Mu → Prop} {m : Mu} (h : bs.length ≤ 1000) (q : Q (.str (ps bs)) m) : ∃ x : List Str, bs.map (fun b => D.str (if b then "1" else "0")) = List.map D.str x ∧ (List.map (fun x => x.length) x).sum + x.length * ("" : Str).length ≤ 16777216 ∧ Q (.str (Txt.join "" x)) m := by
  refine ⟨bs.map fun b => if b then ("1" : Str) else "0", ?_, ?_, ?_⟩
  · rw [List.map_map]
    rfl
  · rw [signs_sum, List.length_map]
    have : ("" : Str).length = 0 := by decide +kernel
    rw [this]
    omega
  · rw [join_signs]
    exact q
theorem bit_ix (r : Nat) (h : r < 2) : ∃ b : Bool, ∃ c, atI ("01" : Str).cps.toList ((r : Nat) : Int) = some c ∧ (D.str ⟨#[c]⟩) = D.str (if b then "1" else "0") := by
  have : r = 0 ∨ r = 1 := by omega
  rcases this with rfl | rfl
  · exact ⟨false, 48, (by decide +kernel : atI (Str.ofString "01").cps.toList (0 : Int) = some 48), congrArg D.str (by decide +kernel : (⟨#[48]⟩ : Str) = "0")⟩
  · exact ⟨true, 49, (by decide +kernel : atI (Str.ofString "01").cps.toList (1 : Int) = some 49), congrArg D.str (by decide +kernel : (⟨#[49]⟩ : Str) = "1")⟩
/-! ### rows of things -/
abbrev Row := List (Option Int)
def rowD (l : Row) : List D := l.map Cod.enc
def lawPat (row : Row) : List Bool := row.map Option.isSome
/-- the nearest free place from n - 1 on down, -1 if there is none; from i on up -/
def leftP (p : List Bool) : Nat → Int
  | 0 => -1
  | n + 1 => if p[n]?.getD false = true then leftP p n else n
def rightP (p : List Bool) : Nat → Nat → Nat
  | 0, i => i
  | f + 1, i => if i < p.length ∧ p[i]?.getD false = true then rightP p f (i + 1) else i
def insAt {α : Type} (l : List α) (k : Nat) (x : α) : List α := l.take k ++ [x] ++ l.drop k
def evenPut (w : Nat) (things : Row) : Row := (List.range things.length).foldl (fun f j => f.set (j * w / things.length) (things[j]?.getD none)) (List.replicate w none)
def plow (p : List Bool) (k : Nat) : Int := if 0 < k then ((placesOf p)[k - 1]?.getD 0 : Nat) else -1
def phigh (p : List Bool) (k : Nat) : Nat := if k < (placesOf p).length then (placesOf p)[k]?.getD 0 else p.length
def pleft (p : List Bool) (k : Nat) : Int := leftP p (plow p k + 1).toNat
def pright (p : List Bool) (k : Nat) : Nat := rightP p p.length (phigh p k)
def pgoes (r : Rl) (p : List Bool) (k : Nat) : Bool := decide (0 ≤ pleft p k) && ((decide (pright p k = p.length) || decide (plow p k - pleft p k ≤ (pright p k : Int) - phigh p k)) || decide (r = .left))
def lawPut (r : Rl) (row : Row) (k : Nat) (new : Int) : Row :=
  let p := lawPat row
  if (phigh p k : Int) > plow p k + 1 then row.set ((plow p k + phigh p k) / 2).toNat (some new)
  else if r = .even then evenPut row.length (insAt ((placesOf p).map fun i => row[i]?.getD none) k (some new))
  else if pgoes r p k = true then insAt (row.eraseIdx (pleft p k).toNat) (plow p k).toNat (some new)
  else insAt (row.eraseIdx (pright p k)) (phigh p k) (some new)
def lawTake (row : Row) (k : Nat) : Row := row.take ((placesOf (lawPat row))[k]?.getD 0) ++ [none] ++ row.drop ((placesOf (lawPat row))[k]?.getD 0 + 1)
def idxM (row : Row) (x : Option Int) : Nat := row.findIdx fun y => decide (y = x)
def lawMoves (row other : Row) : Nat := ((row.filter fun x => x.isSome && decide (x ∈ other)).filter fun x => !decide (idxM other x = idxM row x)).length
def lawRow (p : List Bool) : Row := (List.range p.length).map fun i : Nat => if p[i]?.getD false then some (i : Int) else none
def lawStep (r : Rl) (p : List Bool) (d : Wd × Nat) : Nat × List Bool := match d.1 with
  | .take => (0, lawPat (lawTake (lawRow p) d.2))
  | .put => (lawMoves (lawRow p) (lawPut r (lawRow p) d.2 99), lawPat (lawPut r (lawRow p) d.2 99))
def okD (p : List Bool) (d : Wd × Nat) : Bool := match d.1 with
  | .take => decide (d.2 < (placesOf p).length)
  | .put => decide (d.2 ≤ (placesOf p).length) && decide ((placesOf p).length < p.length)
/-- all deeds, as the laws tell them -/
def deedsM (p : List Bool) : List (Wd × Nat) := ((List.range (placesOf p).length).map fun k => (Wd.take, k)) ++ (((List.range ((placesOf p).length + 1)).filter fun _ => decide ((placesOf p).length < p.length)).map fun k => (Wd.put, k))

theorem rowD_len (l : Row) : (rowD l).length = l.length := by simp [rowD]
theorem rowD_at {l : Row} {i : Nat} (h : i < l.length) : atI (rowD l) ((i : Nat) : Int) = some (Cod.enc l[i]) := atI_nat (by simp [rowD, h])
theorem enc_non (x : Option Int) : isN (Cod.enc x) = !x.isSome := by cases x <;> rfl
theorem pat_len (row : Row) : (lawPat row).length = row.length := by simp [lawPat]
theorem pat_at {row : Row} {i : Nat} (h : i < row.length) : (lawPat row)[i]?.getD false = row[i].isSome := by simp [lawPat, h]
theorem rowD_set (l : Row) (i : Nat) (x : Option Int) : (rowD l).set i (Cod.enc x) = rowD (l.set i x) := by
  unfold rowD
  rw [List.map_set]
theorem rowD_erase (l : Row) (i : Nat) : (rowD l).eraseIdx i = rowD (l.eraseIdx i) := erase_map _ l i
theorem rowD_ins (l : Row) (i : Nat) (x : Option Int) : (rowD l).take i ++ [Cod.enc x] ++ (rowD l).drop i = rowD (insAt l i x) := by
  unfold rowD insAt
  rw [List.map_append, List.map_append, List.map_take, List.map_drop]
  rfl
theorem row_flat (l : Row) : (rowD l).all flat = true := by
  unfold rowD
  rw [List.all_map]
  exact List.all_eq_true.mpr fun x _ => by cases x <;> rfl
theorem enc_flat (x : Option Int) : flat (Cod.enc x) = true := by cases x <;> rfl
theorem enc_eqV (x y : Option Int) : eqV (toV (Cod.enc y)) (toV (Cod.enc x)) = decide (x = y) := by
  cases x with
  | none => cases y with
    | none => rfl
    | some y => rfl
  | some x => cases y with
    | none => rfl
    | some y =>
      show (y == x) = decide (some x = some y)
      by_cases h : x = y
      · subst h; simp
      · rw [decide_eq_false (by simpa using h)]
        simp only [beq_eq_false_iff_ne]
        omega
theorem row_in (x : Option Int) (l : Row) : inV (toV (Cod.enc x)) ((rowD l).map toV) = decide (x ∈ l) := by
  unfold inV rowD
  rw [List.map_map, List.any_map]
  induction l with
  | nil => rfl
  | cons a l ih =>
    rw [List.any_cons, ih]
    have e : ((fun y => eqV y (toV (Cod.enc x))) ∘ toV ∘ Cod.enc) a = decide (x = a) := enc_eqV x a
    rw [e]
    by_cases h : x = a <;> simp [h]
theorem row_index {x : Option Int} {l : Row} {m : Mu} {Q : D → Mu → Prop} (h : x ∈ l) (q : Q (.int (idxM l x : Nat)) m) : indexD (.list (rowD l)) [Cod.enc x] m Q := by
  have h1 : l.findIdx (fun y => decide (y = x)) < l.length := List.findIdx_lt_length_of_exists ⟨x, h, by simp⟩
  have h2 : l[l.findIdx (fun y => decide (y = x))] = x := by simpa using List.findIdx_getElem (w := h1)
  refine ⟨rowD l, _, l.findIdx (fun y => decide (y = x)), Cod.enc x, rfl, rfl, enc_flat x, row_flat l, ?_, by rw [enc_eqV]; simp, fun k z' hk hz => ?_, q⟩
  · unfold rowD
    rw [List.getElem?_map, List.getElem?_eq_getElem h1, h2]
    rfl
  · unfold rowD at hz
    have hk' : k < l.length := by omega
    rw [List.getElem?_map, List.getElem?_eq_getElem hk'] at hz
    cases hz
    rw [enc_eqV]
    have := List.not_of_lt_findIdx hk
    exact decide_eq_false fun e => (of_decide_eq_false this) e.symm
theorem rep_none (n : Nat) : (List.replicate n [D.non]).flatten = rowD (List.replicate n none) := by
  unfold rowD
  rw [List.map_replicate]
  induction n with
  | zero => rfl
  | succ n ih =>
    rw [List.replicate_succ, List.flatten_cons, ih, List.replicate_succ]
    rfl
/-- the places of a row that are taken -/
theorem lc_taken {env : Dq.Env} {j : Nat} {tt : dT} {Q : List D → Mu → Prop} {m : Mu} {row : Row} (hrow : row.length ≤ 1000)
    (ht : ∀ i, (hi : i < row.length) → ∀ Q' : Bool → Mu → Prop, Q' (row[i].isSome) m → tt ((wipeD env [j]).set j (some (.int (i : Nat)))) m Q') (hj : j < (wipeD env [j]).length) (q : Q (nums (placesOf (lawPat row))) m) :
    lcD [j] env (hName j) tt (dVar j) Q ((List.range row.length).map fun i : Nat => .int (i : Int)) [] m := by
  refine lc_range (fun i => (lawPat row)[i]?.getD false) (fun i => .int (i : Nat)) (fun i hi Q' q' => ?_) (fun i hi hc Q' q' => ?_) (small_line (by omega)) ?_
  · rw [pat_at hi] at q'
    exact ht i hi Q' q'
  · exact ⟨_, List.getElem?_set_self hj, q'⟩
  · unfold placesOf nums at q
    rw [pat_len] at q
    exact q
theorem pat_lt {row : Row} {i : Nat} (h : i ∈ placesOf (lawPat row)) : i < row.length := by
  have := pl_lt h
  rwa [pat_len] at this
end Ls

/-! what holds of all patterns of at most six places -/
namespace Ls
open PySem L2 Dq
def agree (p : List Bool) : Bool := rls.all fun r => (deedsM p).all fun d => decide (stepW r p d = some (lawStep r p d)) && okD p d && decide ((placesOf (lawStep r p d).2).length = match d.1 with | .put => (placesOf p).length + 1 | .take => (placesOf p).length - 1)
theorem agree_all : pats6.all agree = true := by decide +kernel
theorem step_law {p : List Bool} (h : p.length ≤ 6) (r : Rl) {d : Wd × Nat} (hd : d ∈ deedsM p) : stepW r p d = some (lawStep r p d) := by
  have h1 := List.all_eq_true.mp agree_all p (mem_pats6 h)
  unfold agree at h1
  have h2 := List.all_eq_true.mp (List.all_eq_true.mp h1 r (mem_rls r)) d hd
  simp only [Bool.and_eq_true, decide_eq_true_eq] at h2
  exact h2.1.1
theorem step_cnt {p : List Bool} (h : p.length ≤ 6) (r : Rl) {d : Wd × Nat} (hd : d ∈ deedsM p) : (placesOf (lawStep r p d).2).length = match d.1 with | .put => (placesOf p).length + 1 | .take => (placesOf p).length - 1 := by
  have h1 := List.all_eq_true.mp agree_all p (mem_pats6 h)
  unfold agree at h1
  have h2 := List.all_eq_true.mp (List.all_eq_true.mp h1 r (mem_rls r)) d hd
  simp only [Bool.and_eq_true, decide_eq_true_eq] at h2
  exact h2.2
theorem mem_deeds {p : List Bool} {d : Wd × Nat} : d ∈ deedsM p ↔ okD p d = true := by
  obtain ⟨w, k⟩ := d
  unfold deedsM okD
  rw [List.mem_append, List.mem_map, List.mem_map]
  cases w <;> simp <;> omega
theorem count_all : (pats6.all fun p => decide (Txt.count (ps p) "1" = (placesOf p).length)) = true := by decide +kernel
theorem count_ps {p : List Bool} (h : p.length ≤ 6) : Txt.count (ps p) "1" = (placesOf p).length := by simpa using List.all_eq_true.mp count_all p (mem_pats6 h)
theorem insAt_len {α : Type} (l : List α) (k : Nat) (x : α) : (insAt l k x).length = l.length + 1 := by
  unfold insAt
  simp only [List.length_append, List.length_take, List.length_drop, List.length_cons, List.length_nil]
  omega
theorem evenPut_len (w : Nat) (th : Row) : (evenPut w th).length = w := by
  unfold evenPut
  have : ∀ (l : List Nat) (f : Row), (l.foldl (fun f j => f.set (j * w / th.length) (th[j]?.getD none)) f).length = f.length := by
    intro l
    induction l with
    | nil => intro f; rfl
    | cons j l ih => intro f; rw [List.foldl_cons, ih, List.length_set]
  rw [this, List.length_replicate]
theorem lawPut_len (r : Rl) (row : Row) (k : Nat) (new : Int) : (lawPut r row k new).length ≤ row.length + 1 := by
  unfold lawPut
  simp only
  split
  · rw [List.length_set]
    omega
  split
  · rw [evenPut_len]
    omega
  split
  · rw [insAt_len, List.length_eraseIdx]
    split <;> omega
  · rw [insAt_len, List.length_eraseIdx]
    split <;> omega
theorem lawTake_len (row : Row) (k : Nat) : (lawTake row k).length ≤ 2 * row.length + 1 := by
  unfold lawTake
  simp only [List.length_append, List.length_take, List.length_drop, List.length_cons, List.length_nil]
  omega
/-- deeds that can be done one after another where `many` things stand already; how many stand behind -/
def drawnOk (wide : Nat) : Nat → List (Wd × Nat) → Option Nat
  | many, [] => some many
  | many, (.put, k) :: l => if k ≤ many ∧ many < wide then drawnOk wide (many + 1) l else none
  | many, (.take, k) :: l => if k < many then drawnOk wide (many - 1) l else none
theorem drawnOk_put {wide many k : Nat} {l : List (Wd × Nat)} : drawnOk wide many ((.put, k) :: l) = if k ≤ many ∧ many < wide then drawnOk wide (many + 1) l else none := rfl
theorem drawnOk_take {wide many k : Nat} {l : List (Wd × Nat)} : drawnOk wide many ((.take, k) :: l) = if k < many then drawnOk wide (many - 1) l else none := rfl
theorem drawnOk_append {wide : Nat} {l' : List (Wd × Nat)} : ∀ {l : List (Wd × Nat)} {many n : Nat}, drawnOk wide many l = some n → drawnOk wide many (l ++ l') = drawnOk wide n l'
  | [], many, n, h => by
    cases h
    rfl
  | (.put, k) :: l, many, n, h => by
    rw [drawnOk_put] at h
    rw [List.cons_append, drawnOk_put]
    split at h
    · rename_i hc
      rw [if_pos hc]
      exact drawnOk_append h
    · cases h
  | (.take, k) :: l, many, n, h => by
    rw [drawnOk_take] at h
    rw [List.cons_append, drawnOk_take]
    split at h
    · rename_i hc
      rw [if_pos hc]
      exact drawnOk_append h
    · cases h
theorem playM_len {r : Rl} {q : List Bool} : ∀ {l : List (Wd × Nat)} {p : List Bool} {ms : List Nat}, playM r p l = some (ms, q) → ms.length = l.length
  | [], p, ms, h => by
    cases h
    rfl
  | e :: l, p, ms, h => by
    have h' : (match stepW r p e with | none => none | some (n, q) => match playM r q l with | none => none | some (ns, q') => some (n :: ns, q')) = some (ms, q) := h
    cases h1 : stepW r p e with
    | none => rw [h1] at h'; cases h'
    | some z =>
      obtain ⟨a, b⟩ := z
      rw [h1] at h'
      simp only at h'
      cases h2 : playM r b l with
      | none => rw [h2] at h'; cases h'
      | some z =>
        obtain ⟨as, b'⟩ := z
        rw [h2] at h'
        simp only [Option.some.injEq, Prod.mk.injEq] at h'
        obtain ⟨rfl, rfl⟩ := h'
        rw [List.length_cons, List.length_cons, playM_len h2]
theorem playM_append {r : Rl} {d : Wd × Nat} {q q' : List Bool} {n : Nat} : ∀ {l : List (Wd × Nat)} {p : List Bool} {ms : List Nat}, playM r p l = some (ms, q) → stepW r q d = some (n, q') → playM r p (l ++ [d]) = some (ms ++ [n], q')
  | [], p, ms, h, hs => by
    cases h
    show (match stepW r q d with | none => none | some (n, q) => match playM r q [] with | none => none | some (ns, q') => some (n :: ns, q')) = _
    rw [hs]
    rfl
  | e :: l, p, ms, h, hs => by
    have h' : (match stepW r p e with | none => none | some (n, q) => match playM r q l with | none => none | some (ns, q') => some (n :: ns, q')) = some (ms, q) := h
    show (match stepW r p e with | none => none | some (n, q) => match playM r q (l ++ [d]) with | none => none | some (ns, q') => some (n :: ns, q')) = _
    cases h1 : stepW r p e with
    | none => rw [h1] at h'; cases h'
    | some z =>
      obtain ⟨a, b⟩ := z
      rw [h1] at h'
      simp only at h' ⊢
      cases h2 : playM r b l with
      | none => rw [h2] at h'; cases h'
      | some z =>
        obtain ⟨as, b'⟩ := z
        rw [h2] at h'
        simp only [Option.some.injEq, Prod.mk.injEq] at h'
        obtain ⟨rfl, rfl⟩ := h'
        rw [playM_append h2 hs]
        rfl
theorem drawn_ok {p : List Bool} {d : Wd × Nat} {l : List (Wd × Nat)} {n : Nat} (h : drawnOk p.length (placesOf p).length (d :: l) = some n) : okD p d = true := by
  obtain ⟨wd, k⟩ := d
  cases wd with
  | put =>
    rw [drawnOk_put] at h
    split at h
    · rename_i hc
      simp [okD, hc]
    · cases h
  | take =>
    rw [drawnOk_take] at h
    split at h
    · rename_i hc
      simp [okD, hc]
    · cases h
/-- one deed more -/
theorem play_step {r : Rl} {p0 p : List Bool} {l : List (Wd × Nat)} {n i : Nat} {ms : List Nat} (hp : p.length = p0.length) (h6 : p0.length ≤ 6) (h0 : (placesOf p0).length = 0) (h : drawnOk p0.length 0 l = some n) (hi : i < l.length) (hpl : playM r p0 (l.take i) = some (ms, p)) (hd : drawnOk p0.length 0 (l.take i) = some (placesOf p).length) :
    okD p l[i] = true ∧ playM r p0 (l.take (i + 1)) = some (ms ++ [(lawStep r p l[i]).1], (lawStep r p l[i]).2) ∧ (lawStep r p l[i]).2.length = p0.length ∧ drawnOk p0.length 0 (l.take (i + 1)) = some (placesOf (lawStep r p l[i]).2).length := by
  have e : l.take i ++ l[i] :: l.drop (i + 1) = l := by
    rw [← List.drop_eq_getElem_cons hi, List.take_append_drop]
  have h1 := h
  rw [← e, drawnOk_append hd] at h1
  have h1' := h1
  rw [← hp] at h1'
  have hok := drawn_ok h1'
  have hmem := mem_deeds.mpr hok
  have hst := step_law (by omega) r hmem
  have hc := step_cnt (by omega) r hmem
  have ht : l.take (i + 1) = l.take i ++ [l[i]] := by rw [List.take_succ, List.getElem?_eq_getElem hi]; rfl
  refine ⟨hok, ?_, ?_, ?_⟩
  · rw [ht]
    exact playM_append hpl hst
  · rw [← hp]
    exact stepM_len (n := (lawStep r p l[i]).1) (q := (lawStep r p l[i]).2) hst
  · rw [ht, drawnOk_append hd, hc]
    generalize l[i] = d at h1
    obtain ⟨wd, k⟩ := d
    cases wd with
    | put =>
      rw [drawnOk_put] at h1 ⊢
      split at h1
      · rename_i hc
        rw [if_pos hc]
        rfl
      · cases h1
    | take =>
      rw [drawnOk_take] at h1 ⊢
      split at h1
      · rename_i hc
        rw [if_pos hc]
        rfl
      · cases h1
/-- what the walk of the laws' own putting in asks -/
def putOk (p : List Bool) : Bool := rls.all fun r => (List.range ((placesOf p).length + 1)).all fun k => !decide ((placesOf p).length < p.length) || decide ((phigh p k : Int) > plow p k + 1) ||
  ((!pgoes r p k || (decide (0 ≤ plow p k) && decide (pleft p k ≤ plow p k) && decide (plow p k < p.length))) && (pgoes r p k || (decide (pright p k < p.length))) && decide (phigh p k ≤ p.length) && decide (plow p k < p.length))
theorem putOk_all : pats6.all putOk = true := by decide +kernel
theorem put_ok {p : List Bool} (h : p.length ≤ 6) (r : Rl) {k : Nat} (hk : k ≤ (placesOf p).length) (hl : (placesOf p).length < p.length) (hg : ¬ (phigh p k : Int) > plow p k + 1) :
    (pgoes r p k = true → 0 ≤ plow p k ∧ pleft p k ≤ plow p k ∧ plow p k < p.length) ∧ (pgoes r p k = false → pright p k < p.length) ∧ phigh p k ≤ p.length ∧ plow p k < p.length := by
  have h1 := List.all_eq_true.mp putOk_all p (mem_pats6 h)
  unfold putOk at h1
  have h2 := List.all_eq_true.mp (List.all_eq_true.mp h1 r (mem_rls r)) k (List.mem_range.mpr (by omega))
  simp only [Bool.or_eq_true, Bool.and_eq_true, decide_eq_true_eq, Bool.not_eq_true', decide_eq_false_iff_not] at h2
  rcases h2 with (h2 | h2) | ⟨⟨⟨h2, h3⟩, h4⟩, h5⟩
  · omega
  · exact absurd h2 hg
  · refine ⟨fun hp => ?_, fun hp => ?_, h4, h5⟩
    · rcases h2 with h2 | h2
      · rw [hp] at h2
        cases h2
      · exact ⟨h2.1.1, h2.1.2, h2.2⟩
    · rcases h3 with h3 | h3
      · rw [hp] at h3
        cases h3
      · exact h3
end Ls

/-! shelves as plain data: a pattern and the keys in order -/
namespace Ls
open PySem L2 Dq
def ixA : List Bool → Nat → List (Option Nat)
  | [], _ => []
  | true :: p, n => some n :: ixA p (n + 1)
  | false :: p, n => none :: ixA p n
def gv (ks : List Int) (x : Option Nat) : Option Int := x.map fun i => ks[i]?.getD 0
def rowOf (p : List Bool) (ks : List Int) : Row := (ixA p 0).map (gv ks)
def up (k i : Nat) : Nat := if i < k then i else i + 1
def fillI (w : Nat) (pl : List Nat) : List (Option Nat) := (pl.zip (List.range pl.length)).foldl (fun f x => f.set x.1 (some x.2)) (List.replicate w none)
def ixAt (p : List Bool) (i : Nat) : Option Nat := (ixA p 0)[i]?.getD none
/-- what holds of a pattern -/
def ixOk (p : List Bool) : Bool :=
  (ixA p 0).all (fun x => decide (x.getD 0 < (placesOf p).length) || decide (x = none)) && decide ((placesOf p).map (ixAt p) = (List.range (placesOf p).length).map some) && decide ((ixA p 0).map Option.isSome = p) && decide ((ixA p 0).filter Option.isSome = (List.range (placesOf p).length).map some)
  && ((List.range (placesOf p).length).all fun k => decide ((ixA (patOf p.length ((placesOf p).eraseIdx k)) 0).map (Option.map (up k)) = (ixA p 0).map fun x => if x = some k then none else x) && decide (placesOf (patOf p.length ((placesOf p).eraseIdx k)) = (placesOf p).eraseIdx k))
def putAll (p : List Bool) : Bool := rls.all fun r => (List.range ((placesOf p).length + 1)).all fun k => !decide ((placesOf p).length < p.length) ||
  (let o := pbM r p.length (placesOf p) k
   let q := patOf p.length o
   decide (placesOf q = o) && decide (o.length = (placesOf p).length + 1) && decide (fillI p.length o = ixA q 0) && decide (((placesOf p).filter fun i => !decide (ixAt q i = (ixAt p i).map (up k))).length = movedM (placesOf p) o k)
   && decide (movedM (placesOf p) o k ≤ (placesOf p).length) && (!decide ((phigh p k : Int) > plow p k + 1) || decide (movedM (placesOf p) o k = 0)))
theorem ixOk_all : pats6.all ixOk = true := by decide +kernel
theorem putAll_all : pats6.all putAll = true := by decide +kernel
section
variable {p : List Bool}
theorem ix_ok (h : p.length ≤ 6) : (∀ x ∈ ixA p 0, x.getD 0 < (placesOf p).length ∨ x = none) ∧ (placesOf p).map (ixAt p) = (List.range (placesOf p).length).map some ∧ (ixA p 0).map Option.isSome = p ∧ (ixA p 0).filter Option.isSome = (List.range (placesOf p).length).map some
    ∧ ∀ k, k < (placesOf p).length → (ixA (patOf p.length ((placesOf p).eraseIdx k)) 0).map (Option.map (up k)) = ((ixA p 0).map fun x => if x = some k then none else x) ∧ placesOf (patOf p.length ((placesOf p).eraseIdx k)) = (placesOf p).eraseIdx k := by
  have h1 := List.all_eq_true.mp ixOk_all p (mem_pats6 h)
  unfold ixOk at h1
  simp only [Bool.and_eq_true, decide_eq_true_eq, List.all_eq_true, Bool.or_eq_true, List.mem_range] at h1
  obtain ⟨⟨⟨⟨h1, h2⟩, h3⟩, h4⟩, h5⟩ := h1
  exact ⟨h1, h2, h3, h4, h5⟩
theorem put_all (h : p.length ≤ 6) (r : Rl) {k : Nat} (hk : k ≤ (placesOf p).length) (hl : (placesOf p).length < p.length) :
    placesOf (patOf p.length (pbM r p.length (placesOf p) k)) = pbM r p.length (placesOf p) k ∧ (pbM r p.length (placesOf p) k).length = (placesOf p).length + 1 ∧ fillI p.length (pbM r p.length (placesOf p) k) = ixA (patOf p.length (pbM r p.length (placesOf p) k)) 0
    ∧ ((placesOf p).filter fun i => !decide (ixAt (patOf p.length (pbM r p.length (placesOf p) k)) i = (ixAt p i).map (up k))).length = movedM (placesOf p) (pbM r p.length (placesOf p) k) k ∧ movedM (placesOf p) (pbM r p.length (placesOf p) k) k ≤ (placesOf p).length ∧ ((phigh p k : Int) > plow p k + 1 → movedM (placesOf p) (pbM r p.length (placesOf p) k) k = 0) := by
  have h1 := List.all_eq_true.mp putAll_all p (mem_pats6 h)
  unfold putAll at h1
  have h2 := List.all_eq_true.mp (List.all_eq_true.mp h1 r (mem_rls r)) k (List.mem_range.mpr (by omega))
  simp only [Bool.or_eq_true, Bool.and_eq_true, decide_eq_true_eq, Bool.not_eq_true', decide_eq_false_iff_not] at h2
  rcases h2 with h2 | ⟨⟨⟨⟨⟨h2, h3⟩, h4⟩, h5⟩, h6⟩, h7⟩
  · exact absurd hl h2
  · refine ⟨h2, h3, h4, h5, h6, fun g => ?_⟩
    rcases h7 with h7 | h7
    · exact absurd g h7
    · exact h7
theorem ixA_len : ∀ (p : List Bool) (n : Nat), (ixA p n).length = p.length
  | [], _ => rfl
  | true :: p, n => by rw [ixA, List.length_cons, List.length_cons, ixA_len p]
  | false :: p, n => by rw [ixA, List.length_cons, List.length_cons, ixA_len p]
theorem rowOf_len (ks : List Int) : (rowOf p ks).length = p.length := by rw [rowOf, List.length_map, ixA_len]
theorem gv_some (ks : List Int) (x : Option Nat) : (gv ks x).isSome = x.isSome := by cases x <;> rfl
theorem rowOf_pat (h : p.length ≤ 6) (ks : List Int) : lawPat (rowOf p ks) = p := by
  unfold lawPat rowOf
  rw [List.map_map]
  have e : (Option.isSome ∘ gv ks) = Option.isSome := funext fun x => gv_some ks x
  rw [e]
  exact (ix_ok h).2.2.1
theorem rowOf_at (ks : List Int) (i : Nat) : (rowOf p ks)[i]?.getD none = gv ks (ixAt p i) := by
  unfold rowOf ixAt
  rw [List.getElem?_map]
  cases (ixA p 0)[i]? <;> rfl
theorem range_vals (ks : List Int) : ((List.range ks.length).map some).map (gv ks) = ks.map some := by
  rw [List.map_map]
  refine List.ext_getElem (by simp) fun i h1 h2 => ?_
  simp only [List.getElem_map, List.getElem_range, Function.comp]
  rw [List.length_map] at h2
  simp [gv, h2]
theorem rowOf_some (h : p.length ≤ 6) {ks : List Int} (hk : ks.length = (placesOf p).length) : (rowOf p ks).filter Option.isSome = ks.map some := by
  unfold rowOf
  rw [List.filter_map]
  have e : (Option.isSome ∘ gv ks) = Option.isSome := funext fun x => gv_some ks x
  rw [e, (ix_ok h).2.2.2.1, ← hk, range_vals]
theorem rowOf_keys (h : p.length ≤ 6) {ks : List Int} (hk : ks.length = (placesOf p).length) : (placesOf p).map (fun i => (rowOf p ks)[i]?.getD none) = ks.map some := by
  have e : (fun i => (rowOf p ks)[i]?.getD none) = gv ks ∘ ixAt p := funext fun i => rowOf_at ks i
  rw [e, ← List.map_map, (ix_ok h).2.1, ← hk, range_vals]
theorem rowOf_mem (h : p.length ≤ 6) {ks : List Int} (hk : ks.length = (placesOf p).length) (x : Int) : some x ∈ rowOf p ks ↔ x ∈ ks := by
  have e : some x ∈ rowOf p ks ↔ some x ∈ (rowOf p ks).filter Option.isSome := by simp [List.mem_filter]
  rw [e, rowOf_some h hk]
  simp
theorem up_lt {k i n : Nat} (h : i < n) : up k i < n + 1 := by unfold up; split <;> omega
theorem insAt_get {ks : List Int} {k i : Nat} {key : Int} (hk : k ≤ ks.length) (hi : i < ks.length) : (insAt ks k key)[up k i]? = ks[i]? := by
  unfold insAt up
  split
  · rename_i h
    rw [List.append_assoc, List.getElem?_append_left (by rw [List.length_take]; omega), List.getElem?_take]
    rw [if_pos h]
  · rename_i h
    rw [List.append_assoc, List.getElem?_append_right (by rw [List.length_take]; omega), List.length_take, Nat.min_eq_left hk, List.getElem?_append_right (by simp; omega)]
    simp only [List.length_cons, List.length_nil]
    rw [List.getElem?_drop]
    congr 1
    omega
theorem gv_up {ks : List Int} {k : Nat} {key : Int} (hk : k ≤ ks.length) {x : Option Nat} (hx : x.getD 0 < ks.length ∨ x = none) : gv (insAt ks k key) (x.map (up k)) = gv ks x := by
  cases x with
  | none => rfl
  | some i =>
    have hi : i < ks.length := by
      rcases hx with hx | hx
      · exact hx
      · cases hx
    simp only [gv, Option.map_some, insAt_get hk hi]
/-- the row that is laid anew -/
def fillR (w : Nat) (l : List (Nat × Int)) : Row := l.foldl (fun f x => f.set x.1 (some x.2)) (List.replicate w none)
theorem fill_map (ks : List Int) : ∀ (l : List (Nat × Nat)) (f : List (Option Nat)), (l.map fun x => (x.1, ks[x.2]?.getD 0)).foldl (fun (f : Row) (x : Nat × Int) => f.set x.1 (some x.2)) (f.map (gv ks)) = (l.foldl (fun f x => f.set x.1 (some x.2)) f).map (gv ks)
  | [], f => rfl
  | x :: l, f => by
    rw [List.map_cons, List.foldl_cons, List.foldl_cons, ← fill_map ks l]
    congr 1
    rw [List.map_set]
    rfl
theorem zip_range {α : Type} (l : List α) (ks : List Int) (h : l.length = ks.length) : l.zip ks = (l.zip (List.range l.length)).map fun x => (x.1, ks[x.2]?.getD 0) := by
  refine List.ext_getElem (by simp [h]) fun i h1 h2 => ?_
  simp only [List.getElem_map, List.getElem_zip, List.getElem_range]
  rw [List.length_zip] at h1
  rw [List.getElem?_eq_getElem (by omega)]
  rfl
theorem fill_row {o : List Nat} {ks : List Int} {w : Nat} {q : List Bool} (h : o.length = ks.length) (hf : fillI w o = ixA q 0) : fillR w (o.zip ks) = rowOf q ks := by
  unfold fillR rowOf
  rw [zip_range o ks h, ← hf, fillI]
  have := fill_map ks (o.zip (List.range o.length)) (List.replicate w none)
  rw [List.map_replicate] at this
  exact this
theorem gv_inj {ks : List Int} (hn : ks.Nodup) {x y : Option Nat} (hx : x.getD 0 < ks.length ∨ x = none) (hy : y.getD 0 < ks.length ∨ y = none) : gv ks x = gv ks y ↔ x = y := by
  refine ⟨fun e => ?_, fun e => by rw [e]⟩
  cases x with
  | none => cases y with
    | none => rfl
    | some j => cases e
  | some i => cases y with
    | none => cases e
    | some j =>
      have hi : i < ks.length := by
        rcases hx with hx | hx
        · exact hx
        · cases hx
      have hj : j < ks.length := by
        rcases hy with hy | hy
        · exact hy
        · cases hy
      simp only [gv, Option.map_some, List.getElem?_eq_getElem hi, List.getElem?_eq_getElem hj, Option.getD_some, Option.some.injEq] at e
      rw [(List.getElem_inj hn).mp e]
theorem ixAt_lt (h : p.length ≤ 6) (i : Nat) : (ixAt p i).getD 0 < (placesOf p).length ∨ ixAt p i = none := by
  unfold ixAt
  by_cases hi : i < (ixA p 0).length
  · rw [List.getElem?_eq_getElem hi]
    exact (ix_ok h).1 _ (List.getElem_mem hi)
  · rw [List.getElem?_eq_none (by omega)]
    exact .inr rfl
/-- is it the same thing that stands there, ahead and behind -/
theorem same_thing (h : p.length ≤ 6) (r : Rl) {k : Nat} {ks : List Int} {key : Int} (hks : ks.length = (placesOf p).length) (hk : k ≤ ks.length) (hl : (placesOf p).length < p.length) (hn : (insAt ks k key).Nodup) (i : Nat) :
    ((rowOf (patOf p.length (pbM r p.length (placesOf p) k)) (insAt ks k key))[i]?.getD none = (rowOf p ks)[i]?.getD none) ↔ ixAt (patOf p.length (pbM r p.length (placesOf p) k)) i = (ixAt p i).map (up k) := by
  have hp := put_all h r (by omega : k ≤ (placesOf p).length) hl
  rw [rowOf_at, rowOf_at]
  have hx := ixAt_lt h i
  rw [← hks] at hx
  rw [← gv_up (key := key) hk hx]
  refine gv_inj hn ?_ ?_
  · have := ixAt_lt (p := patOf p.length (pbM r p.length (placesOf p) k)) (by rw [patOf_len]; exact h) i
    rw [hp.1, hp.2.1] at this
    rw [insAt_len, hks]
    exact this
  · rw [insAt_len]
    rcases hx with hx | hx
    · cases e : ixAt p i with
      | none => exact .inr rfl
      | some j =>
        rw [e] at hx
        exact .inl (up_lt hx)
    · rw [hx]
      exact .inr rfl
theorem take_row (h : p.length ≤ 6) {k : Nat} {ks : List Int} (hks : ks.length = (placesOf p).length) (hk : k < ks.length) (hn : ks.Nodup) :
    ((rowOf p ks).map fun x => if x = some ks[k] then none else x) = rowOf (patOf p.length ((placesOf p).eraseIdx k)) (ks.eraseIdx k) := by
  have hp := ((ix_ok h).2.2.2.2 k (by omega)).1
  unfold rowOf
  rw [List.map_map]
  have e1 : (ixA p 0).map ((fun x => if x = some ks[k] then none else x) ∘ gv ks) = ((ixA p 0).map fun x => if x = some k then none else x).map (gv ks) := by
    rw [List.map_map]
    refine List.map_congr_left fun x hx => ?_
    have hx' := (ix_ok h).1 x hx
    rw [← hks] at hx'
    have e : gv ks x = some ks[k] ↔ x = some k := by
      have : gv ks (some k) = some ks[k] := by simp [gv, hk]
      rw [← this]
      exact gv_inj hn hx' (.inl hk)
    simp only [Function.comp]
    by_cases hc : x = some k
    · rw [if_pos (e.mpr hc), if_pos hc]
      rfl
    · rw [if_neg (fun z => hc (e.mp z)), if_neg hc]
  rw [e1, ← hp, List.map_map]
  refine List.map_congr_left fun x _ => ?_
  cases x with
  | none => rfl
  | some i =>
    simp only [Function.comp, gv, Option.map_some, Option.some.injEq]
    unfold up
    rw [List.getElem?_eraseIdx]
    split <;> rfl
end
/-! ### keys in order -/
def Incr (ks : List Int) : Prop := ks.Pairwise (· < ·)
def rankM (ks : List Int) (key : Int) : Nat := (ks.filter fun x => decide (x < key)).length
theorem Incr.nodup {ks : List Int} (h : Incr ks) : ks.Nodup := List.Pairwise.imp (fun h => Int.ne_of_lt h) h
theorem rank_split : ∀ {ks : List Int} {key : Int}, Incr ks → key ∉ ks → (∀ x ∈ ks.take (rankM ks key), x < key) ∧ (∀ x ∈ ks.drop (rankM ks key), key < x)
  | [], _, _, _ => ⟨nofun, nofun⟩
  | y :: ks, key, h, hn => by
    obtain ⟨h1, h2⟩ := List.pairwise_cons.mp h
    unfold rankM
    rw [List.filter_cons]
    by_cases hy : y < key
    · rw [if_pos (by simpa using hy), List.length_cons, List.take_succ_cons, List.drop_succ_cons]
      obtain ⟨i1, i2⟩ := rank_split (ks := ks) (key := key) h2 (fun z => hn (List.mem_cons_of_mem _ z))
      refine ⟨fun x hx => ?_, i2⟩
      rcases List.mem_cons.mp hx with rfl | hx
      · exact hy
      · exact i1 x hx
    · rw [if_neg (by simpa using hy)]
      have hne : key ≠ y := fun z => hn (z ▸ List.mem_cons_self)
      have h3 : ks.filter (fun x => decide (x < key)) = [] := by
        rw [List.filter_eq_nil_iff]
        intro x hx
        have := h1 x hx
        simp only [decide_eq_true_eq]
        omega
      rw [h3]
      refine ⟨nofun, fun x hx => ?_⟩
      rcases List.mem_cons.mp hx with rfl | hx
      · omega
      · have := h1 x hx
        omega
theorem rank_le (ks : List Int) (key : Int) : rankM ks key ≤ ks.length := List.length_filter_le _ _
theorem ins_incr {ks : List Int} {key : Int} (h : Incr ks) (hn : key ∉ ks) : Incr (insAt ks (rankM ks key) key) := by
  obtain ⟨h1, h2⟩ := rank_split h hn
  unfold insAt Incr
  rw [List.append_assoc, List.pairwise_append]
  refine ⟨h.sublist (List.take_sublist _ _), ?_, fun a ha b hb => ?_⟩
  · show List.Pairwise _ (key :: ks.drop _)
    rw [List.pairwise_cons]
    exact ⟨fun x hx => h2 x hx, h.sublist (List.drop_sublist _ _)⟩
  · have ha' := h1 a ha
    rcases List.mem_append.mp hb with hb | hb
    · rw [List.mem_singleton.mp hb]
      exact ha'
    · have := h2 b hb
      omega
theorem ins_perm' {α : Type} (ks : List α) (k : Nat) (key : α) : (insAt ks k key).Perm (key :: ks) := by
  unfold insAt
  refine List.perm_append_comm.append_right _ |>.trans ?_
  show (key :: (ks.take k ++ ks.drop k)).Perm _
  rw [List.take_append_drop]
theorem incr_eq {a b : List Int} (ha : Incr a) (hb : Incr b) (h : a.Perm b) : a = b :=
  List.Perm.eq_of_pairwise (le := (· < ·)) (fun x y _ _ h1 h2 => by omega) ha hb h
theorem isort_incr {l ks : List Int} (h : l.Perm ks) (hi : Incr ks) : isort l = ks :=
  List.Perm.eq_of_pairwise (le := (· ≤ ·)) (fun x y _ _ h1 h2 => by omega) (isort_sorted l) (List.Pairwise.imp (fun h => Int.le_of_lt h) hi) ((isort_perm l).trans h)
/-! ### the object -/
def shF (r : Rl) (w : Nat) (b : D) (n : Nat) : List (Str × D) := [("rule", .str (rt r)), ("wide", .int w), ("row", b), ("many", .int n)]
section
variable {r : Rl} {w : Nat} {b b' : D} {n n' : Nat}
theorem shF_rule : (shF r w b n).lookup ("rule" : Str) = some (.str (rt r)) := by unfold shF; rw [List.lookup_cons]; rfl
theorem shF_wide : (shF r w b n).lookup ("wide" : Str) = some (.int w) := by
  unfold shF
  rw [List.lookup_cons, show (("wide" : Str) == "rule") = false by decide +kernel]
  rfl
theorem shF_row : (shF r w b n).lookup ("row" : Str) = some b := by
  unfold shF
  rw [List.lookup_cons, show (("row" : Str) == "rule") = false by decide +kernel, List.lookup_cons, show (("row" : Str) == "wide") = false by decide +kernel]
  rfl
theorem shF_many : (shF r w b n).lookup ("many" : Str) = some (.int n) := by
  unfold shF
  rw [List.lookup_cons, show (("many" : Str) == "rule") = false by decide +kernel, List.lookup_cons, show (("many" : Str) == "wide") = false by decide +kernel, List.lookup_cons, show (("many" : Str) == "row") = false by decide +kernel]
  rfl
theorem shF_no {x : Str} (h1 : (x == ("rule" : Str)) = false) (h2 : (x == ("wide" : Str)) = false) (h3 : (x == ("row" : Str)) = false) (h4 : (x == ("many" : Str)) = false) : (shF r w b n).lookup x = none := by
  unfold shF
  rw [List.lookup_cons, h1, List.lookup_cons, h2, List.lookup_cons, h3, List.lookup_cons, h4]
  rfl
theorem shF_put_in : (shF r w b n).lookup ("put_in" : Str) = none := shF_no (by decide +kernel) (by decide +kernel) (by decide +kernel) (by decide +kernel)
theorem shF_take_out : (shF r w b n).lookup ("take_out" : Str) = none := shF_no (by decide +kernel) (by decide +kernel) (by decide +kernel) (by decide +kernel)
theorem shF_standing : (shF r w b n).lookup ("standing" : Str) = none := shF_no (by decide +kernel) (by decide +kernel) (by decide +kernel) (by decide +kernel)
theorem shF_moved : (shF r w b n).lookup ("moved" : Str) = none := shF_no (by decide +kernel) (by decide +kernel) (by decide +kernel) (by decide +kernel)
theorem shF_len : (shF r w b n).length = 4 := rfl
theorem putD_ne {f g : Str} {v x : D} {l : List (Str × D)} (h : ¬ g = f) : putD f v ((g, x) :: l) = (g, x) :: putD f v l := by
  show (if g = f then _ else _) = _
  rw [if_neg h]
theorem putD_eq {f : Str} {v x : D} {l : List (Str × D)} : putD f v ((f, x) :: l) = (f, v) :: l := by
  show (if f = f then _ else _) = _
  rw [if_pos rfl]
theorem ne_rw : ¬ ("rule" : Str) = "wide" := by decide +kernel
theorem ne_rr : ¬ ("rule" : Str) = "row" := by decide +kernel
theorem ne_rm : ¬ ("rule" : Str) = "many" := by decide +kernel
theorem ne_wr : ¬ ("wide" : Str) = "row" := by decide +kernel
theorem ne_wm : ¬ ("wide" : Str) = "many" := by decide +kernel
theorem ne_om : ¬ ("row" : Str) = "many" := by decide +kernel
theorem put_row : putD "row" b' (shF r w b n) = shF r w b' n := by
  unfold shF
  rw [putD_ne ne_rr, putD_ne ne_wr, putD_eq]
theorem put_many : putD "many" (.int (n' : Nat)) (shF r w b n) = shF r w b n' := by
  unfold shF
  rw [putD_ne ne_rm, putD_ne ne_wm, putD_ne ne_om, putD_eq]
theorem put_init : putD "many" (.int (n : Nat)) (putD "row" b (putD "wide" (.int (w : Nat)) (putD "rule" (.str (rt r)) []))) = shF r w b n := by
  show putD "many" _ (putD "row" _ (putD "wide" _ [_])) = _
  rw [putD_ne ne_rw]
  show putD "many" _ (putD "row" _ [_, _]) = _
  rw [putD_ne ne_rr, putD_ne ne_wr]
  show putD "many" _ [_, _, _] = _
  rw [putD_ne ne_rm, putD_ne ne_wm, putD_ne ne_om]
  rfl
end
/-- a shelf as plain data -/
structure Sh where
  r : Rl
  p : List Bool
  ks : List Int
  n : Nat
structure Sh.Ok (S : Sh) : Prop where
  w1 : 1 ≤ S.p.length
  w6 : S.p.length ≤ 6
  len : S.ks.length = (placesOf S.p).length
  inc : Incr S.ks
def Sh.row (S : Sh) : Row := rowOf S.p S.ks
/-- the shelf behind a putting in -/
def Sh.pb (S : Sh) (key : Int) : List Nat := pbM S.r S.p.length (placesOf S.p) (rankM S.ks key)
def Sh.found (S : Sh) (key : Int) : Nat := movedM (placesOf S.p) (S.pb key) (rankM S.ks key)
def Sh.put (S : Sh) (key : Int) : Sh := ⟨S.r, patOf S.p.length (S.pb key), insAt S.ks (rankM S.ks key) key, S.n + S.found key⟩
def Sh.take (S : Sh) (key : Int) : Sh := ⟨S.r, patOf S.p.length ((placesOf S.p).eraseIdx (rankM S.ks key)), S.ks.erase key, S.n⟩
/-- it stands in the store -/
theorem putD_len {f : Str} {v : D} : ∀ {l : List (Str × D)} {n : Nat}, l.length ≤ n → (putD f v l).length ≤ n + 1
  | [], n, _ => by simp [putD]
  | (g, x) :: l, 0, h => by simp at h
  | (g, x) :: l, n + 1, h => by
    unfold putD
    rw [List.length_cons] at h
    split
    · rw [List.length_cons]; omega
    · rw [List.length_cons]
      have := putD_len (f := f) (v := v) (l := l) (n := n) (by omega)
      omega
structure ShAt (C : Addr) (m : Mu) (a b : Addr) (S : Sh) : Prop where
  ok : S.Ok
  ha : m a = some (.ins C (shF S.r S.p.length (.adr b) S.n))
  hb : m b = some (.lst (rowD S.row))
  ne : a ≠ b
/-- all else stands as it stood -/
def Keep (m m' : Mu) (a b b' : Addr) : Prop := ∀ q o, m q = some o → q ≠ a → q ≠ b → m' q = some o ∧ q ≠ b'
theorem ShAt.keep {C a b c : Addr} {m m' : Mu} {S : Sh} (h : ShAt C m a b S) (hc : ∀ q w, m q = some w → q ≠ c → m' q = some w) (h1 : a ≠ c) (h2 : b ≠ c) : ShAt C m' a b S := ⟨h.ok, hc _ _ h.ha h1, hc _ _ h.hb h2, h.ne⟩
theorem Sh.put_ok {S : Sh} (h : S.Ok) {key : Int} (hn : key ∉ S.ks) (hl : S.ks.length < S.p.length) : (S.put key).Ok := by
  have hr := rank_le S.ks key
  have hp := put_all h.w6 S.r (k := rankM S.ks key) (by rw [← h.len]; exact hr) (by rw [← h.len]; exact hl)
  refine ⟨?_, ?_, ?_, ins_incr h.inc hn⟩
  · show 1 ≤ (patOf _ _).length
    rw [patOf_len]
    exact h.w1
  · show (patOf _ _).length ≤ 6
    rw [patOf_len]
    exact h.w6
  · show (insAt _ _ _).length = (placesOf (patOf _ _)).length
    rw [insAt_len, Sh.pb, hp.1, hp.2.1, h.len]
theorem rank_mem : ∀ {ks : List Int} {key : Int}, Incr ks → key ∈ ks → ∃ h : rankM ks key < ks.length, ks[rankM ks key] = key ∧ ks.erase key = ks.eraseIdx (rankM ks key)
  | y :: ks, key, h, hm => by
    obtain ⟨h1, h2⟩ := List.pairwise_cons.mp h
    by_cases hy : y = key
    · subst hy
      have h3 : rankM (y :: ks) y = 0 := by
        unfold rankM
        rw [List.length_eq_zero_iff, List.filter_eq_nil_iff]
        intro x hx
        rcases List.mem_cons.mp hx with rfl | hx
        · simp
        · have := h1 x hx
          simp only [decide_eq_true_eq]
          omega
      refine ⟨by rw [h3]; simp, by simp [h3], by rw [h3]; simp⟩
    · have hm' : key ∈ ks := by
        rcases List.mem_cons.mp hm with e | e
        · exact absurd e.symm hy
        · exact e
      have hlt := h1 key hm'
      obtain ⟨i1, i2, i3⟩ := rank_mem h2 hm'
      have h3 : rankM (y :: ks) key = rankM ks key + 1 := by
        unfold rankM
        rw [List.filter_cons, if_pos (by simpa using hlt), List.length_cons]
      refine ⟨by rw [h3, List.length_cons]; omega, by simp only [h3, List.getElem_cons_succ]; exact i2, ?_⟩
      rw [h3, List.eraseIdx_cons_succ, List.erase_cons, if_neg (by simpa using hy), i3]
theorem Sh.take_ok {S : Sh} (h : S.Ok) {key : Int} (hm : key ∈ S.ks) : (S.take key).Ok := by
  obtain ⟨i1, i2, i3⟩ := rank_mem h.inc hm
  have hp := ((ix_ok h.w6).2.2.2.2 (rankM S.ks key) (by rw [← h.len]; exact i1)).2
  refine ⟨?_, ?_, ?_, ?_⟩
  · show 1 ≤ (patOf _ _).length
    rw [patOf_len]
    exact h.w1
  · show (patOf _ _).length ≤ 6
    rw [patOf_len]
    exact h.w6
  · show (S.ks.erase key).length = (placesOf (patOf _ _)).length
    rw [hp, i3, List.length_eraseIdx, List.length_eraseIdx, h.len]
  · show Incr (S.ks.erase key)
    exact List.Pairwise.sublist List.erase_sublist h.inc
theorem zeros_places {w : Nat} (h1 : 1 ≤ w) (h2 : w ≤ 6) : (placesOf (List.replicate w false)).length = 0 := by
  have : w = 1 ∨ w = 2 ∨ w = 3 ∨ w = 4 ∨ w = 5 ∨ w = 6 := by omega
  rcases this with rfl | rfl | rfl | rfl | rfl | rfl <;> decide
theorem zeros_row {r : Rl} {n w : Nat} (h1 : 1 ≤ w) (h2 : w ≤ 6) : (Sh.row ⟨r, List.replicate w false, [], n⟩) = List.replicate w none := by
  have : w = 1 ∨ w = 2 ∨ w = 3 ∨ w = 4 ∨ w = 5 ∨ w = 6 := by omega
  rcases this with rfl | rfl | rfl | rfl | rfl | rfl <;> rfl
theorem cell_ne {x y : Option Int} {Q' : Bool → Mu → Prop} {m : Mu} (q : Q' (!decide (x = y)) m) : (match (Cod.enc x : D), (Cod.enc y : D) with
    | D.int i, D.int j => Q' (!decide (i = j)) m
    | D.str i, D.str j => Q' (!decide (i = j)) m
    | D.bl i, D.bl j => Q' (!decide (i = j)) m
    | x, y => eqP false x y m fun d m1 => ∃ k, d = D.bl k ∧ Q' k m1) := by
  cases x with
  | none => cases y with
    | none => exact eq_cod (α := Option Int) none none (by decide) ⟨_, rfl, q⟩
    | some y => exact eq_cod (α := Option Int) none (some y) (by decide) ⟨_, rfl, q⟩
  | some x => cases y with
    | none => exact eq_cod (α := Option Int) (some x) none (by decide) ⟨_, rfl, q⟩
    | some y =>
      simp only [Option.some.injEq] at q
      exact q
/-- the neighbours of a rank -/
def lowOk (p : List Bool) : Bool := (List.range ((placesOf p).length + 1)).all fun k =>
  ((List.range p.length).all fun i => match ixAt p i with
    | some j => if j < k then decide ((i : Int) ≤ plow p k) else decide (phigh p k ≤ i)
    | none => true) && (decide (plow p k = -1) && decide (k = 0) || decide (0 < k) && decide (ixAt p (plow p k).toNat = some (k - 1)) && decide (0 ≤ plow p k) && decide (plow p k < p.length))
  && (decide (phigh p k = p.length) && decide (k = (placesOf p).length) || decide (ixAt p (phigh p k) = some k) && decide (phigh p k < p.length))
theorem lowOk_all : pats6.all lowOk = true := by decide +kernel
theorem low_ok {p : List Bool} (h : p.length ≤ 6) {k : Nat} (hk : k ≤ (placesOf p).length) :
    (∀ i j, i < p.length → ixAt p i = some j → (j < k → (i : Int) ≤ plow p k) ∧ (¬ j < k → phigh p k ≤ i)) ∧ ((plow p k = -1 ∧ k = 0) ∨ (0 < k ∧ ixAt p (plow p k).toNat = some (k - 1) ∧ 0 ≤ plow p k ∧ plow p k < p.length)) ∧ ((phigh p k = p.length ∧ k = (placesOf p).length) ∨ (ixAt p (phigh p k) = some k ∧ phigh p k < p.length)) := by
  have h1 := List.all_eq_true.mp lowOk_all p (mem_pats6 h)
  unfold lowOk at h1
  have h2 := List.all_eq_true.mp h1 k (List.mem_range.mpr (by omega))
  simp only [Bool.or_eq_true, Bool.and_eq_true, decide_eq_true_eq, List.all_eq_true, List.mem_range] at h2
  obtain ⟨⟨h2, h3⟩, h4⟩ := h2
  refine ⟨fun i j hi hj => ?_, ?_, h4⟩
  · have := h2 i hi
    rw [hj] at this
    simp only at this
    refine ⟨fun g => ?_, fun g => ?_⟩
    · rw [if_pos g] at this
      exact of_decide_eq_true this
    · rw [if_neg g] at this
      exact of_decide_eq_true this
  · rcases h3 with h3 | h3
    · exact .inl h3
    · exact .inr ⟨h3.1.1.1, h3.1.1.2, h3.1.2, h3.2⟩
theorem rank_lt {ks : List Int} {key : Int} (h : Incr ks) (hn : key ∉ ks) {j : Nat} (hj : j < ks.length) : ks[j] < key ↔ j < rankM ks key := by
  obtain ⟨h1, h2⟩ := rank_split h hn
  constructor
  · intro hlt
    by_cases hc : j < rankM ks key
    · exact hc
    · have : ks[j] ∈ ks.drop (rankM ks key) := by
        rw [List.mem_drop_iff_getElem]
        refine ⟨j - rankM ks key, by omega, ?_⟩
        congr 1
        omega
      have := h2 _ this
      omega
  · intro hlt
    refine h1 _ ?_
    rw [List.mem_take_iff_getElem]
    exact ⟨j, by omega, rfl⟩
/-- what stands at a place, by the rank -/
theorem row_cell {S : Sh} (ok : S.Ok) {i : Nat} {v : Int} (hv : S.row[i]?.getD none = some v) : ∃ j, ∃ h : j < S.ks.length, ixAt S.p i = some j ∧ S.ks[j] = v := by
  unfold Sh.row at hv
  rw [rowOf_at] at hv
  have := ixAt_lt ok.w6 i
  cases e : ixAt S.p i with
  | none => rw [e] at hv; cases hv
  | some j =>
    rw [e] at hv this
    have hj : j < S.ks.length := by
      rw [ok.len]
      rcases this with z | z
      · exact z
      · cases z
    refine ⟨j, hj, rfl, ?_⟩
    simp only [gv, Option.map_some, List.getElem?_eq_getElem hj, Option.getD_some, Option.some.injEq] at hv
    exact hv
theorem cell_row {S : Sh} (ok : S.Ok) {i j : Nat} (h : ixAt S.p i = some j) (hj : j < S.ks.length) : S.row[i]?.getD none = some S.ks[j] := by
  unfold Sh.row
  rw [rowOf_at, h]
  simp [gv, hj]
theorem low_max {S : Sh} (ok : S.Ok) {key : Int} (hn : key ∉ S.ks) (x : Int) :
    (x ∈ (-1 : Int) :: ((List.range S.p.length).filter fun i => match S.row[i]?.getD none with | some v => decide (v < key) | none => false).map (fun i : Nat => (i : Int))) →
    (∀ y ∈ (-1 : Int) :: ((List.range S.p.length).filter fun i => match S.row[i]?.getD none with | some v => decide (v < key) | none => false).map (fun i : Nat => (i : Int)), y ≤ x) → x = plow S.p (rankM S.ks key) := by
  intro hx hmax
  have hrk := rank_le S.ks key
  obtain ⟨l1, l2, _⟩ := low_ok ok.w6 (k := rankM S.ks key) (by rw [← ok.len]; exact hrk)
  have hle : x ≤ plow S.p (rankM S.ks key) := by
    rcases List.mem_cons.mp hx with rfl | hx
    · rcases l2 with l2 | l2
      · omega
      · omega
    · obtain ⟨i, hi, rfl⟩ := List.mem_map.mp hx
      obtain ⟨hi1, hi2⟩ := List.mem_filter.mp hi
      cases e : S.row[i]?.getD none with
      | none => rw [e] at hi2; cases hi2
      | some v =>
        rw [e] at hi2
        obtain ⟨j, hj, h1, h2⟩ := row_cell ok e
        refine (l1 i j (List.mem_range.mp hi1) h1).1 ((rank_lt ok.inc hn hj).mp ?_)
        rw [h2]
        exact of_decide_eq_true hi2
  have hge : plow S.p (rankM S.ks key) ≤ x := by
    rcases l2 with l2 | ⟨g1, g2, g3, g4⟩
    · rw [l2.1]
      exact hmax _ List.mem_cons_self
    · refine hmax _ (List.mem_cons_of_mem _ (List.mem_map.mpr ⟨(plow S.p (rankM S.ks key)).toNat, List.mem_filter.mpr ⟨List.mem_range.mpr (by omega), ?_⟩, by omega⟩))
      have hj : rankM S.ks key - 1 < S.ks.length := by omega
      rw [cell_row ok g2 hj]
      exact decide_eq_true ((rank_lt ok.inc hn hj).mpr (by omega))
  omega
theorem high_min {S : Sh} (ok : S.Ok) {key : Int} (hn : key ∉ S.ks) (x : Int) :
    (x ∈ (S.p.length : Int) :: ((List.range S.p.length).filter fun i => match S.row[i]?.getD none with | some v => decide (key < v) | none => false).map (fun i : Nat => (i : Int))) →
    (∀ y ∈ (S.p.length : Int) :: ((List.range S.p.length).filter fun i => match S.row[i]?.getD none with | some v => decide (key < v) | none => false).map (fun i : Nat => (i : Int)), x ≤ y) → x = phigh S.p (rankM S.ks key) := by
  intro hx hmax
  have hrk := rank_le S.ks key
  obtain ⟨l1, _, l2⟩ := low_ok ok.w6 (k := rankM S.ks key) (by rw [← ok.len]; exact hrk)
  have hle : (phigh S.p (rankM S.ks key) : Int) ≤ x := by
    rcases List.mem_cons.mp hx with rfl | hx
    · rcases l2 with l2 | l2
      · omega
      · omega
    · obtain ⟨i, hi, rfl⟩ := List.mem_map.mp hx
      obtain ⟨hi1, hi2⟩ := List.mem_filter.mp hi
      cases e : S.row[i]?.getD none with
      | none => rw [e] at hi2; cases hi2
      | some v =>
        rw [e] at hi2
        obtain ⟨j, hj, h1, h2⟩ := row_cell ok e
        have := (l1 i j (List.mem_range.mp hi1) h1).2 (fun z => by
          have := (rank_lt ok.inc hn hj).mpr z
          rw [h2] at this
          have := of_decide_eq_true hi2
          omega)
        omega
  have hge : x ≤ (phigh S.p (rankM S.ks key) : Int) := by
    rcases l2 with l2 | ⟨g2, g4⟩
    · rw [l2.1]
      exact hmax _ List.mem_cons_self
    · refine hmax _ (List.mem_cons_of_mem _ (List.mem_map.mpr ⟨phigh S.p (rankM S.ks key), List.mem_filter.mpr ⟨List.mem_range.mpr (by omega), ?_⟩, rfl⟩))
      have hj : rankM S.ks key < S.ks.length := by
        have := ixAt_lt ok.w6 (phigh S.p (rankM S.ks key))
        rw [g2, ← ok.len] at this
        rcases this with z | z
        · exact z
        · cases z
      rw [cell_row ok g2 hj]
      refine decide_eq_true ?_
      have h1 : ¬ S.ks[rankM S.ks key] < key := fun z => Nat.lt_irrefl _ ((rank_lt ok.inc hn hj).mp z)
      have h2 : S.ks[rankM S.ks key] ≠ key := fun z => hn (z ▸ List.getElem_mem hj)
      omega
  omega
theorem apart_len {S : Sh} (ok : S.Ok) {key : Int} (hn : key ∉ S.ks) (hl : S.ks.length < S.p.length) :
    ((List.range S.p.length).filter fun i => (S.row[i]?.getD none).isSome && !decide ((S.put key).row[i]?.getD none = S.row[i]?.getD none)).length = S.found key := by
  have hrk := rank_le S.ks key
  have hkl := ok.len
  have hpa := put_all ok.w6 S.r (k := rankM S.ks key) (by omega) (by omega)
  unfold Sh.found Sh.pb
  rw [← hpa.2.2.2.1]
  have e1 : (List.range S.p.length).filter (fun i => (S.row[i]?.getD none).isSome && !decide ((S.put key).row[i]?.getD none = S.row[i]?.getD none)) = ((List.range S.p.length).filter fun i => S.p[i]?.getD false).filter fun i => !decide ((S.put key).row[i]?.getD none = S.row[i]?.getD none) := by
    rw [List.filter_filter]
    refine List.filter_congr fun i hi => ?_
    have hi' := List.mem_range.mp hi
    have e2 : (S.row[i]?.getD none).isSome = S.p[i]?.getD false := by
      have h3 : lawPat S.row = S.p := rowOf_pat ok.w6 _
      have h4 : i < S.row.length := by
        show i < (rowOf _ _).length
        rw [rowOf_len]
        exact hi'
      rw [← h3, pat_at h4, List.getElem?_eq_getElem h4]
      rfl
    rw [e2, Bool.and_comm]
  rw [e1]
  refine congrArg List.length (List.filter_congr fun i hi => ?_)
  have := same_thing (key := key) ok.w6 S.r hkl hrk (by omega) (ins_incr ok.inc hn).nodup i
  exact congrArg not (decide_eq_decide.mpr this)
/-- dice, shelf and the list of keys in the store -/
structure St (C a s l : Addr) (m : Mu) (S : Sh) (b : Addr) (ins : List Int) : Prop where
  sh : ShAt C m s b S
  di : m a = some (.any Dice)
  li : m l = some (.lst (ins.map D.int))
  nbl : b ≠ l
  nab : a ≠ b
  pm : ins.Perm S.ks
theorem St.nsl {C a s l : Addr} {m : Mu} {S : Sh} {b : Addr} {ins : List Int} (h : St C a s l m S b ins) : s ≠ l := by
  rintro rfl
  have := h.li
  rw [h.sh.ha] at this
  cases this
theorem St.nal {C a s l : Addr} {m : Mu} {S : Sh} {b : Addr} {ins : List Int} (h : St C a s l m S b ins) : a ≠ l := by
  rintro rfl
  have := h.li
  rw [h.di] at this
  cases this
theorem St.nas {C a s l : Addr} {m : Mu} {S : Sh} {b : Addr} {ins : List Int} (h : St C a s l m S b ins) : a ≠ s := by
  rintro rfl
  have := h.sh.ha
  rw [h.di] at this
  cases this
/-- the shelf is another -/
theorem St.move {C a s l : Addr} {m m' : Mu} {S S' : Sh} {b b' : Addr} {ins : List Int} (h : St C a s l m S b ins) (hS : ShAt C m' s b' S') (k : Keep m m' s b b') : ShAt C m' s b' S' ∧ m' a = some (.any Dice) ∧ m' l = some (.lst (ins.map D.int)) ∧ b' ≠ l ∧ a ≠ b' := by
  obtain ⟨k1, k2⟩ := k a _ h.di h.nas h.nab
  obtain ⟨k3, k4⟩ := k l _ h.li h.nsl.symm h.nbl.symm
  exact ⟨hS, k1, k3, k4.symm, k2⟩
/-- the list is another -/
theorem St.list {C a s l : Addr} {m : Mu} {S : Sh} {b : Addr} {ins' : List Int} (hS : ShAt C m s b S) (hd : m a = some (.any Dice)) (h1 : s ≠ l) (h2 : b ≠ l) (h3 : a ≠ l) (h4 : a ≠ b) (p : ins'.Perm S.ks) : St C a s l (ups m l (.lst (ins'.map D.int))) S b ins' :=
  ⟨hS.keep (fun q w g1 g2 => by rw [ups_ne g2]; exact g1) h1 h2, by rw [ups_ne h3]; exact hd, ups_same, h2, h4, p⟩
theorem ints_flat (l : List Int) : (l.map D.int).all flat = true := by
  rw [List.all_map]
  exact List.all_eq_true.mpr fun _ _ => rfl
theorem ints_in (l : List Int) (x : Int) : inV (.int x) ((l.map D.int).map toV) = decide (x ∈ l) := by
  unfold inV
  rw [List.map_map, List.any_map]
  induction l with
  | nil => rfl
  | cons a l ih =>
    rw [List.any_cons, ih]
    have e : ((fun y => eqV y (V.int x)) ∘ toV ∘ D.int) a = decide (x = a) := by
      show (a == x) = decide (x = a)
      by_cases h : x = a
      · subst h
        simp
      · rw [decide_eq_false h]
        simp only [beq_eq_false_iff_ne]
        omega
    rw [e]
    by_cases h : x = a <;> simp [h]
/-- == of a list of whole numbers in the store and a plain one -/
theorem eq_ints {t : Bool} {m : Mu} {Q : D → Mu → Prop} {p : Addr} {l : List Int} (hm : m p = some (.lst (l.map D.int))) (b : List Int) (q : Q (.bl (t == decide (l = b))) m) : eqP t (.adr p) (.list (b.map D.int)) m Q :=
  ⟨_, _, .adr hm (cod_isPs m l), Cod.isP m b, cod_shaped l (by decide), cod_shaped b (by decide), by
    have e : PyData.eqv (Cod.py l) (Cod.py b) = decide (l = b) := Cod.eqv l b
    show Q (.bl (t == PyData.eqv (Cod.py l) (Cod.py b))) m
    rw [e]
    exact q⟩
end Ls

/-! the laws' own moving of rows of keys -/
namespace Ls
open PySem L2 Dq
theorem ne_of_none' {m : Mu} {x y : Addr} {o : MO} (h1 : m x = some o) (h2 : m y = none) : x ≠ y := by
  rintro rfl
  rw [h1] at h2
  cases h2
def mapR (f : Int → Int) (row : Row) : Row := row.map (Option.map f)
section
variable (f : Int → Int)
theorem mapR_pat (row : Row) : lawPat (mapR f row) = lawPat row := by
  unfold lawPat mapR
  rw [List.map_map]
  refine List.map_congr_left fun x _ => ?_
  cases x <;> rfl
theorem mapR_len (row : Row) : (mapR f row).length = row.length := List.length_map _
theorem mapR_get (row : Row) (i : Nat) : (mapR f row)[i]?.getD none = (row[i]?.getD none).map f := by
  unfold mapR
  rw [List.getElem?_map]
  cases row[i]? <;> rfl
theorem insAt_map {α β : Type} (g : α → β) (l : List α) (k : Nat) (x : α) : insAt (l.map g) k (g x) = (insAt l k x).map g := by
  unfold insAt
  rw [List.map_append, List.map_append, List.map_take, List.map_drop]
  rfl
theorem evenPut_map (w : Nat) (th : Row) : evenPut w (mapR f th) = mapR f (evenPut w th) := by
  unfold evenPut
  rw [mapR_len]
  have : ∀ (l : List Nat) (g : Row), l.foldl (fun g j => g.set (j * w / th.length) ((mapR f th)[j]?.getD none)) (mapR f g) = mapR f (l.foldl (fun g j => g.set (j * w / th.length) (th[j]?.getD none)) g) := by
    intro l
    induction l with
    | nil => intro g; rfl
    | cons j l ih =>
      intro g
      rw [List.foldl_cons, List.foldl_cons, ← ih, mapR_get]
      unfold mapR
      rw [List.map_set]
  rw [← this]
  unfold mapR
  rw [List.map_replicate]
  rfl
theorem lawPut_map (r : Rl) (row : Row) (k : Nat) (new : Int) : lawPut r (mapR f row) k (f new) = mapR f (lawPut r row k new) := by
  unfold lawPut
  rw [mapR_pat, mapR_len]
  simp only
  split
  · unfold mapR
    rw [List.map_set]
    rfl
  split
  · rw [← evenPut_map]
    congr 1
    rw [show (some (f new) : Option Int) = Option.map f (some new) from rfl]
    have e : ((placesOf (lawPat row)).map fun i => (mapR f row)[i]?.getD none) = ((placesOf (lawPat row)).map fun i => row[i]?.getD none).map (Option.map f) := by
      rw [List.map_map]
      exact List.map_congr_left fun i _ => mapR_get f row i
    rw [e, insAt_map]
    rfl
  split
  · rw [show (some (f new) : Option Int) = Option.map f (some new) from rfl]
    unfold mapR
    rw [erase_map, insAt_map]
  · rw [show (some (f new) : Option Int) = Option.map f (some new) from rfl]
    unfold mapR
    rw [erase_map, insAt_map]
theorem lawTake_map (row : Row) (k : Nat) : lawTake (mapR f row) k = mapR f (lawTake row k) := by
  unfold lawTake
  rw [mapR_pat]
  unfold mapR
  rw [List.map_append, List.map_append, List.map_take, List.map_drop]
  rfl
/-- f tells the things of the two rows apart -/
def Apart (row other : Row) : Prop := ∀ x ∈ row ++ other, ∀ y ∈ row ++ other, Option.map f x = Option.map f y → x = y
theorem idxM_map {row other : Row} (h : Apart f row other) (l : Row) (hl : ∀ y ∈ l, y ∈ row ++ other) (x : Option Int) (hx : x ∈ row ++ other) : idxM (mapR f l) (x.map f) = idxM l x := by
  unfold idxM mapR
  rw [List.findIdx_map]
  induction l with
  | nil => rfl
  | cons a l ih =>
    rw [List.findIdx_cons, List.findIdx_cons, ih (fun y hy => hl y (List.mem_cons_of_mem _ hy))]
    have e : ((fun y => decide (y = Option.map f x)) ∘ Option.map f) a = decide (a = x) := by
      refine decide_eq_decide.mpr ⟨fun z => h _ (hl a List.mem_cons_self) _ hx z, fun z => by rw [z]⟩
    rw [e]
theorem lawMoves_map {row other : Row} (h : Apart f row other) : lawMoves (mapR f row) (mapR f other) = lawMoves row other := by
  unfold lawMoves
  have e1 : (mapR f row).filter (fun x => x.isSome && decide (x ∈ mapR f other)) = (row.filter fun x => x.isSome && decide (x ∈ other)).map (Option.map f) := by
    unfold mapR
    rw [List.filter_map]
    congr 1
    refine List.filter_congr fun x hx => ?_
    have hx' : x ∈ row ++ other := List.mem_append_left _ hx
    have e : (Option.map f x ∈ other.map (Option.map f)) ↔ x ∈ other := by
      constructor
      · intro z
        obtain ⟨y, hy, e⟩ := List.mem_map.mp z
        rw [h _ hx' _ (List.mem_append_right _ hy) e.symm]
        exact hy
      · exact fun z => List.mem_map_of_mem z
    show ((Option.map f x).isSome && decide (Option.map f x ∈ other.map (Option.map f))) = (x.isSome && decide (x ∈ other))
    rw [decide_eq_decide.mpr e]
    cases x <;> rfl
  rw [e1, List.filter_map, List.length_map]
  refine congrArg List.length (List.filter_congr fun x hx => ?_)
  have hx' : x ∈ row ++ other := List.mem_append_left _ (List.mem_filter.mp hx).1
  show (!decide (idxM (mapR f other) (Option.map f x) = idxM (mapR f row) (Option.map f x))) = _
  rw [idxM_map f h other (fun y hy => List.mem_append_right _ hy) x hx', idxM_map f h row (fun y hy => List.mem_append_left _ hy) x hx']
end
/-- rows of ranks, as whole numbers -/
def iw (p : List Bool) : Row := (ixA p 0).map (Option.map fun i : Nat => (i : Int))
def iu (p : List Bool) (k : Nat) : Row := (ixA p 0).map (Option.map fun i : Nat => ((up k i : Nat) : Int))
def rowsOk (p : List Bool) : Bool := (rls.all fun r => (List.range ((placesOf p).length + 1)).all fun k => !decide ((placesOf p).length < p.length) ||
    (decide (lawPut r (iu p k) k k = iw (patOf p.length (pbM r p.length (placesOf p) k))) && decide (lawMoves (iu p k) (iw (patOf p.length (pbM r p.length (placesOf p) k))) = movedM (placesOf p) (pbM r p.length (placesOf p) k) k)))
  && ((List.range (placesOf p).length).all fun k => decide (lawTake (iw p) k = iu (patOf p.length ((placesOf p).eraseIdx k)) k))
theorem rowsOk_all : pats6.all rowsOk = true := by decide +kernel
theorem rows_put {p : List Bool} (h : p.length ≤ 6) (r : Rl) {k : Nat} (hk : k ≤ (placesOf p).length) (hl : (placesOf p).length < p.length) :
    lawPut r (iu p k) k k = iw (patOf p.length (pbM r p.length (placesOf p) k)) ∧ lawMoves (iu p k) (iw (patOf p.length (pbM r p.length (placesOf p) k))) = movedM (placesOf p) (pbM r p.length (placesOf p) k) k := by
  have h1 := List.all_eq_true.mp rowsOk_all p (mem_pats6 h)
  unfold rowsOk at h1
  rw [Bool.and_eq_true] at h1
  have h2 := List.all_eq_true.mp (List.all_eq_true.mp h1.1 r (mem_rls r)) k (List.mem_range.mpr (by omega))
  simp only [Bool.or_eq_true, Bool.and_eq_true, decide_eq_true_eq, Bool.not_eq_true', decide_eq_false_iff_not] at h2
  rcases h2 with h2 | h2
  · exact absurd hl h2
  · exact h2
theorem rows_take {p : List Bool} (h : p.length ≤ 6) {k : Nat} (hk : k < (placesOf p).length) : lawTake (iw p) k = iu (patOf p.length ((placesOf p).eraseIdx k)) k := by
  have h1 := List.all_eq_true.mp rowsOk_all p (mem_pats6 h)
  unfold rowsOk at h1
  rw [Bool.and_eq_true] at h1
  exact of_decide_eq_true (List.all_eq_true.mp h1.2 k (List.mem_range.mpr hk))
/-- the thing of a rank -/
def vf (ks : List Int) (x : Int) : Int := ks[x.toNat]?.getD 0
theorem iw_row (p : List Bool) (ks : List Int) : mapR (vf ks) (iw p) = rowOf p ks := by
  unfold mapR iw rowOf
  rw [List.map_map]
  refine List.map_congr_left fun x _ => ?_
  cases x with
  | none => rfl
  | some i => simp [vf, gv]
theorem iu_row {p : List Bool} (h : p.length ≤ 6) {ks : List Int} {k : Nat} {key : Int} (hks : ks.length = (placesOf p).length) (hk : k ≤ ks.length) : mapR (vf (insAt ks k key)) (iu p k) = rowOf p ks := by
  unfold mapR iu rowOf
  rw [List.map_map]
  refine List.map_congr_left fun x hx => ?_
  have hx' := (ix_ok h).1 x hx
  rw [← hks] at hx'
  rw [← gv_up (key := key) hk hx']
  cases x with
  | none => rfl
  | some i => simp [vf, gv]
theorem vf_new {ks : List Int} {k : Nat} {key : Int} (hk : k ≤ ks.length) : vf (insAt ks k key) (k : Nat) = key := by
  unfold vf insAt
  rw [Int.toNat_natCast, List.append_assoc, List.getElem?_append_right (by rw [List.length_take]; omega), List.length_take, Nat.min_eq_left hk, Nat.sub_self]
  rfl
theorem law_put {S : Sh} (ok : S.Ok) {key : Int} (hn : key ∉ S.ks) (hl : S.ks.length < S.p.length) : lawPut S.r S.row (rankM S.ks key) key = (S.put key).row := by
  have hrk := rank_le S.ks key
  have e := (rows_put ok.w6 S.r (k := rankM S.ks key) (by rw [← ok.len]; exact hrk) (by rw [← ok.len]; exact hl)).1
  have e2 := lawPut_map (vf (insAt S.ks (rankM S.ks key) key)) S.r (iu S.p (rankM S.ks key)) (rankM S.ks key) (rankM S.ks key : Nat)
  rw [vf_new hrk, iu_row ok.w6 ok.len hrk, e, iw_row] at e2
  exact e2
theorem law_moves {S : Sh} (ok : S.Ok) {key : Int} (hn : key ∉ S.ks) (hl : S.ks.length < S.p.length) : lawMoves S.row (S.put key).row = S.found key := by
  have hrk := rank_le S.ks key
  have hkl := ok.len
  have hp := put_all ok.w6 S.r (k := rankM S.ks key) (by omega) (by omega)
  have e := (rows_put ok.w6 S.r (k := rankM S.ks key) (by omega) (by omega)).2
  have hnd := (ins_incr ok.inc hn).nodup
  have hlen : (insAt S.ks (rankM S.ks key) key).length = (placesOf S.p).length + 1 := by rw [insAt_len, hkl]
  have hq := ix_ok (p := patOf S.p.length (pbM S.r S.p.length (placesOf S.p) (rankM S.ks key))) (by rw [patOf_len]; exact ok.w6)
  rw [hp.1, hp.2.1] at hq
  have hin : ∀ x ∈ iu S.p (rankM S.ks key) ++ iw (patOf S.p.length (pbM S.r S.p.length (placesOf S.p) (rankM S.ks key))), x = none ∨ ∃ i : Nat, x = some (i : Int) ∧ i < (insAt S.ks (rankM S.ks key) key).length := by
    intro x hx
    rw [hlen]
    rcases List.mem_append.mp hx with hx | hx
    · obtain ⟨y, hy, rfl⟩ := List.mem_map.mp hx
      rcases (ix_ok ok.w6).1 y hy with h1 | h1
      · cases y with
        | none => exact .inl rfl
        | some i => exact .inr ⟨_, rfl, up_lt h1⟩
      · rw [h1]
        exact .inl rfl
    · obtain ⟨y, hy, rfl⟩ := List.mem_map.mp hx
      rcases hq.1 y hy with h1 | h1
      · cases y with
        | none => exact .inl rfl
        | some i => exact .inr ⟨_, rfl, h1⟩
      · rw [h1]
        exact .inl rfl
  have ap : Apart (vf (insAt S.ks (rankM S.ks key) key)) (iu S.p (rankM S.ks key)) (iw (patOf S.p.length (pbM S.r S.p.length (placesOf S.p) (rankM S.ks key)))) := by
    intro x hx y hy hxy
    rcases hin x hx with rfl | ⟨i, rfl, hi⟩
    · rcases hin y hy with rfl | ⟨j, rfl, hj⟩
      · rfl
      · cases hxy
    · rcases hin y hy with rfl | ⟨j, rfl, hj⟩
      · cases hxy
      · simp only [Option.map_some, Option.some.injEq, vf, Int.toNat_natCast, List.getElem?_eq_getElem hi, List.getElem?_eq_getElem hj, Option.getD_some] at hxy
        rw [(List.getElem_inj hnd).mp hxy]
  have e2 := lawMoves_map _ ap
  rw [iu_row ok.w6 ok.len hrk, iw_row, e] at e2
  exact e2
theorem law_take {S : Sh} (ok : S.Ok) {key : Int} (hm : key ∈ S.ks) : lawTake S.row (rankM S.ks key) = (S.take key).row := by
  obtain ⟨i1, i2, i3⟩ := rank_mem ok.inc hm
  have hkl := ok.len
  have e := rows_take ok.w6 (k := rankM S.ks key) (by omega)
  have e2 := lawTake_map (vf S.ks) (iw S.p) (rankM S.ks key)
  rw [iw_row, e] at e2
  have e3 : mapR (vf S.ks) (iu (patOf S.p.length ((placesOf S.p).eraseIdx (rankM S.ks key))) (rankM S.ks key)) = (S.take key).row := by
    unfold mapR iu Sh.row rowOf Sh.take
    simp only
    rw [List.map_map, i3]
    refine List.map_congr_left fun x _ => ?_
    cases x with
    | none => rfl
    | some i =>
      simp only [Function.comp, gv, Option.map_some, Option.some.injEq, vf, Int.toNat_natCast]
      unfold up
      rw [List.getElem?_eraseIdx]
      split <;> rfl
  rw [e3] at e2
  exact e2
/-! ### two shelves, and what the law tells of them -/
def sideL (s : Addr) (S : Sh) : List D := [.adr s, .str (rt S.r), .list (rowD S.row), .int S.n]
structure Side (C : Addr) (m : Mu) (q s b : Addr) (S : Sh) : Prop where
  sh : ShAt C m s b S
  ql : m q = some (.lst (sideL s S))
  ne : b ≠ q
structure St2 (C a : Addr) (m : Mu) (q s b : Addr) (S : Sh) (q' s' b' : Addr) (S' : Sh) : Prop where
  di : m a = some (.any Dice)
  x : Side C m q s b S
  y : Side C m q' s' b' S'
  ss : s ≠ s'
  bb : b ≠ b'
  qq : q ≠ q'
  bq : b ≠ q'
  qb : b' ≠ q
section
variable {C a q s b q' s' b' : Addr} {m m' : Mu} {S S' : Sh}
theorem St2.symm (h : St2 C a m q s b S q' s' b' S') : St2 C a m q' s' b' S' q s b S := ⟨h.di, h.y, h.x, h.ss.symm, h.bb.symm, h.qq.symm, h.qb, h.bq⟩
theorem ne_of_at {m : Mu} {x y : Addr} {u w : MO} (h1 : m x = some u) (h2 : m y = some w) (h : u ≠ w) : x ≠ y := by
  rintro rfl
  rw [h1] at h2
  exact h (Option.some.inj h2)
theorem Side.keep {l : Addr} (h : Side C m q s b S) (k : ∀ x w, m x = some w → x ≠ l → m' x = some w) (h1 : q ≠ l) (h2 : b ≠ l) (h3 : s ≠ l) : Side C m' q s b S := ⟨h.sh.keep k h3 h2, k _ _ h.ql h1, h.ne⟩
theorem St2.keep {l : Addr} (h : St2 C a m q s b S q' s' b' S') (k : ∀ x w, m x = some w → x ≠ l → m' x = some w) (ha : a ≠ l) (h1 : q ≠ l) (h2 : b ≠ l) (h3 : s ≠ l) (h4 : q' ≠ l) (h5 : b' ≠ l) (h6 : s' ≠ l) : St2 C a m' q s b S q' s' b' S' :=
  ⟨k _ _ h.di ha, h.x.keep k h1 h2 h3, h.y.keep k h4 h5 h6, h.ss, h.bb, h.qq, h.bq, h.qb⟩
/-- something new beside them -/
theorem St2.fresh {c : Addr} {o : MO} (h : St2 C a m q s b S q' s' b' S') (hc : m c = none) : St2 C a (ups m c o) q s b S q' s' b' S' :=
  h.keep (fun x w h1 h2 => by rw [ups_ne h2]; exact h1) (ne_of_none' h.di hc) (ne_of_none' h.x.ql hc) (ne_of_none' h.x.sh.hb hc) (ne_of_none' h.x.sh.ha hc) (ne_of_none' h.y.ql hc) (ne_of_none' h.y.sh.hb hc) (ne_of_none' h.y.sh.ha hc)
/-- the first shelf has moved; the law tells it -/
theorem St2.step {b1 : Addr} {S1 : Sh} {m1 : Mu} (h : St2 C a m q s b S q' s' b' S') (hS : ShAt C m1 s b1 S1) (kp : Keep m m1 s b b1) :
    m1 q = some (.lst (sideL s S)) ∧ St2 C a (ups m1 q (.lst (sideL s S1))) q s b1 S1 q' s' b' S' := by
  have k1 := kp q _ h.x.ql (ne_of_at h.x.ql h.x.sh.ha nofun) h.x.ne.symm
  have k2 := kp a _ h.di (ne_of_at h.di h.x.sh.ha nofun) (ne_of_at h.di h.x.sh.hb nofun)
  have k3 := kp s' _ h.y.sh.ha h.ss.symm (ne_of_at h.y.sh.ha h.x.sh.hb nofun)
  have k4 := kp b' _ h.y.sh.hb (ne_of_at h.y.sh.hb h.x.sh.ha nofun) h.bb.symm
  have k5 := kp q' _ h.y.ql (ne_of_at h.y.ql h.x.sh.ha nofun) h.bq.symm
  have kk : ∀ x w, m1 x = some w → x ≠ q → (ups m1 q (.lst (sideL s S1))) x = some w := fun x w h1 h2 => by rw [ups_ne h2]; exact h1
  refine ⟨k1.1, kk _ _ k2.1 (ne_of_at h.di h.x.ql nofun), ⟨hS.keep kk (ne_of_at h.x.sh.ha h.x.ql nofun) k1.2.symm, ups_same, k1.2.symm⟩, ⟨⟨h.y.sh.ok, kk _ _ k3.1 (ne_of_at h.y.sh.ha h.x.ql nofun), kk _ _ k4.1 h.qb, h.y.sh.ne⟩, kk _ _ k5.1 h.qq.symm, h.y.ne⟩, h.ss, k4.2.symm, h.qq, k5.2.symm, h.qb⟩
end
theorem none_mem {S : Sh} (ok : S.Ok) (h : none ∈ S.row) : S.ks.length < S.p.length := by
  have e := rowOf_some ok.w6 ok.len
  have hl : S.row.length = S.p.length := rowOf_len _
  have h2 : (S.row.filter Option.isSome).length < S.row.length := by
    rcases Nat.lt_or_ge (S.row.filter Option.isSome).length S.row.length with g | g
    · exact g
    · have := List.length_filter_le Option.isSome S.row
      have e2 : S.row.filter Option.isSome = S.row := List.filter_eq_self.mpr (List.length_filter_eq_length_iff.mp (by omega))
      have := List.filter_eq_self.mp e2 _ h
      cases this
  have e' : S.row.filter Option.isSome = S.ks.map some := e
  rw [e', List.length_map] at h2
  omega
def Sh.zero (r : Rl) (wd : Nat) : Sh := ⟨r, List.replicate wd false, [], 0⟩
theorem side_new {C : Addr} {m' : Mu} {s b' l q : Addr} {r : Rl} {wd : Nat} {xs ys : List D} (hw1 : 1 ≤ wd) (hw2 : wd ≤ 6) (hS : ShAt C m' s b' (Sh.zero r wd)) (hq : m' q = none) (hl : m' l = some (.lst xs)) (nb : l ≠ b') :
    Side C (ups (ups m' q (.lst [.adr s, .str (rt r), .list (List.replicate wd [D.non]).flatten, .int 0])) l (.lst ys)) q s b' (Sh.zero r wd) ∧ q ≠ l ∧ b' ≠ l := by
  have nql : q ≠ l := (ne_of_none' hl hq).symm
  have k : ∀ x w, m' x = some w → x ≠ l → (ups (ups m' q (.lst [.adr s, .str (rt r), .list (List.replicate wd [D.non]).flatten, .int 0])) l (.lst ys)) x = some w := fun x w h1 h2 => by
    rw [ups_ne h2, ups_ne (ne_of_none' h1 hq)]
    exact h1
  refine ⟨⟨hS.keep k (ne_of_at hS.ha hl nofun) nb.symm, ?_, ne_of_none' hS.hb hq⟩, nql, nb.symm⟩
  rw [ups_ne nql, ups_same]
  unfold sideL Sh.zero
  simp only
  rw [zeros_row hw1 hw2, rep_none]
  rfl
theorem index_int {l : List Int} {m : Mu} {Q : D → Mu → Prop} {k : Int} {j : Nat} (hj : l[j]? = some k) (hn : l.Nodup) (q : Q (.int (j : Nat)) m) : indexD (.list (l.map D.int)) [.int k] m Q := by
  obtain ⟨hjl, hjk⟩ := List.getElem?_eq_some_iff.mp hj
  refine ⟨l.map D.int, _, j, .int k, rfl, rfl, rfl, ints_flat l, by rw [List.getElem?_map, hj]; rfl, by show (k == k) = true; simp, fun i z' hi hz => ?_, q⟩
  rw [List.getElem?_map] at hz
  obtain ⟨y, hy, rfl⟩ := Option.map_eq_some_iff.mp hz
  show (y == k) = false
  rw [beq_eq_false_iff_ne]
  rintro rfl
  obtain ⟨hil, hiy⟩ := List.getElem?_eq_some_iff.mp hy
  have := (List.getElem_inj hn).mp (hiy.trans hjk.symm)
  omega
theorem row_isPs (m : Mu) (l : Row) : IsPs m (rowD l) (l.map Cod.py) := cod_isPs m l
theorem row_wide (l : Row) : wideA (l.map Cod.py) = true := by
  induction l with
  | nil => rfl
  | cons a l ih =>
    rw [List.map_cons, wideA, ih]
    cases a <;> rfl
theorem row_depth (l : Row) : PyData.depthAll (l.map Cod.py) ≤ 0 := cod_depths l
end Ls

/-! rules beside one another -/
namespace Ls
open PySem L2 Dq
theorem q_asgGP {DD : dEnds} {env : Dq.Env} {m : Mu} {te : dE} {u : dS} {g : dG} (P : Dq.Env → Mu → Prop) (h : ∀ Q : Dq.Env → Mu → Prop, (∀ e m1, P e m1 → Q e m1) → te env m fun d m1 => g d env m1 Q) (k : ∀ e m1, P e m1 → u DD e m1) : dSeq (dAsgG te g) u DD env m := h _ k
theorem s_asgP {DD : dEnds} {env : Dq.Env} {m : Mu} {te : dE} {i : Nat} (P : D → Mu → Prop) (h : ∀ Q : D → Mu → Prop, (∀ d m1, P d m1 → Q d m1) → te env m Q) (k : ∀ d m1, P d m1 → DD.nx (env.set i (some d)) m1) : dAsg te i DD env m := h _ k
theorem ints_sum (l : List Nat) : (l.map fun n : Nat => (n : Int)).sum = (l.sum : Nat) := by
  induction l with
  | nil => rfl
  | cons a l ih =>
    rw [List.map_cons, List.sum_cons, List.sum_cons, ih]
    omega
theorem pow2_le {a b : Nat} (h : a ≤ b) : (2 : Int) ^ a ≤ 2 ^ b := by
  have := Nat.pow_le_pow_right (n := 2) (by decide) h
  exact_mod_cast this
def cntDelta (w : Wd) : Int := match w with | .put => 1 | .take => -1
def beside (p : List Bool) : Bool := (deedsM p).all fun d =>
  decide ((lawStep .near p d).1 ≤ (lawStep .left p d).1) && decide ((lawStep .near p d).1 ≤ (placesOf p).length) && decide ((lawStep .left p d).1 ≤ (placesOf p).length) && decide ((lawStep .even p d).1 ≤ (placesOf p).length)
  && decide (((List.range p.length).filter fun i => !decide ((lawStep .near p d).2[i]?.getD false = p[i]?.getD false)).length = 1) && decide (((List.range p.length).filter fun i => !decide ((lawStep .left p d).2[i]?.getD false = p[i]?.getD false)).length = 1)
theorem beside_all : pats6.all beside = true := by decide +kernel
theorem beside_ok {p : List Bool} (h : p.length ≤ 6) {d : Wd × Nat} (hd : d ∈ deedsM p) : (lawStep .near p d).1 ≤ (lawStep .left p d).1 ∧ (lawStep .near p d).1 ≤ (placesOf p).length ∧ (lawStep .left p d).1 ≤ (placesOf p).length ∧ (lawStep .even p d).1 ≤ (placesOf p).length
    ∧ ((List.range p.length).filter fun i => !decide ((lawStep .near p d).2[i]?.getD false = p[i]?.getD false)).length = 1 ∧ ((List.range p.length).filter fun i => !decide ((lawStep .left p d).2[i]?.getD false = p[i]?.getD false)).length = 1 := by
  have h1 := List.all_eq_true.mp beside_all p (mem_pats6 h)
  unfold beside at h1
  have h2 := List.all_eq_true.mp h1 d hd
  simp only [Bool.and_eq_true, decide_eq_true_eq] at h2
  obtain ⟨⟨⟨⟨⟨h1, h2⟩, h3⟩, h4⟩, h5⟩, h6⟩ := h2
  exact ⟨h1, h2, h3, h4, h5, h6⟩
/-! ### keys far enough apart -/
def topK : Int := 10 ^ 30
def Spread (G : Int) (ks : List Int) : Prop := List.Pairwise (fun x y => x + G ≤ y) (0 :: (ks ++ [topK]))
theorem Spread.incr {G : Int} {ks : List Int} (h : Spread G ks) (hG : 0 < G) : Incr ks := by
  have h2 : List.Pairwise (fun x y => x + G ≤ y) ks := h.sublist ((List.sublist_append_left _ _).trans (List.sublist_cons_self _ _))
  exact List.Pairwise.imp (fun h => by omega) h2
theorem Spread.erase {G : Int} {ks ks' : List Int} (h : Spread G ks) (hs : List.Sublist ks' ks) : Spread G ks' := h.sublist ((hs.append_right _).cons_cons _)
theorem Spread.half {G G' : Int} {ks : List Int} (h : Spread G ks) (hG : G' ≤ G) : Spread G' ks := List.Pairwise.imp (fun h => by omega) h
theorem spread_ins {G : Int} {ks : List Int} {k : Nat} (hG : 0 < G) (h : Spread (2 * G) ks) (hk : k ≤ ks.length) {low high : Int} (hl : (0 :: ks)[k]? = some low) (hh : (ks ++ [topK])[k]? = some high) :
    Spread G (insAt ks k ((low + high) / 2)) ∧ rankM ks ((low + high) / 2) = k ∧ (low + high) / 2 ∉ ks := by
  obtain ⟨hl1, hl2⟩ := List.getElem?_eq_some_iff.mp hl
  obtain ⟨hh1, hh2⟩ := List.getElem?_eq_some_iff.mp hh
  have e : 0 :: (ks ++ [topK]) = (0 :: ks.take k) ++ (ks ++ [topK]).drop k := by
    rw [List.drop_append_of_le_length hk, List.cons_append, ← List.append_assoc, List.take_append_drop]
  have h' := h
  unfold Spread at h'
  rw [e, List.pairwise_append] at h'
  obtain ⟨p1, p2, p3⟩ := h'
  have q1 : List.Pairwise (fun x y => x + 2 * G ≤ y) (0 :: ks) := h.sublist ((List.sublist_append_left _ _).cons_cons _)
  have q2 : List.Pairwise (fun x y => x + 2 * G ≤ y) (ks ++ [topK]) := h.sublist (List.sublist_cons_self _ _)
  have t1 : 0 :: ks.take k = (0 :: ks).take (k + 1) := rfl
  have lowm : low ∈ (0 :: ks).take (k + 1) := by
    rw [List.mem_take_iff_getElem]
    exact ⟨k, by rw [List.length_cons]; omega, hl2⟩
  have highm : high ∈ (ks ++ [topK]).drop k := by
    rw [List.mem_drop_iff_getElem]
    exact ⟨0, by omega, by simpa using hh2⟩
  have lowl : ∀ x ∈ (0 :: ks).take (k + 1), x ≤ low := by
    intro x hx
    rw [List.mem_take_iff_getElem] at hx
    obtain ⟨i, hi, rfl⟩ := hx
    by_cases hik : i = k
    · subst hik
      rw [hl2]
      exact Int.le_refl _
    · have := List.pairwise_iff_getElem.mp q1 i k (by omega) hl1 (by omega)
      rw [hl2] at this
      omega
  have highl : ∀ y ∈ (ks ++ [topK]).drop k, high ≤ y := by
    intro y hy
    rw [List.mem_drop_iff_getElem] at hy
    obtain ⟨i, hi, rfl⟩ := hy
    by_cases hik : i = 0
    · subst hik
      simp only [Nat.add_zero]
      rw [hh2]
      exact Int.le_refl _
    · have := List.pairwise_iff_getElem.mp q2 k (k + i) hh1 (by omega) (by omega)
      rw [hh2] at this
      omega
  have hgap : low + 2 * G ≤ high := p3 low (t1 ▸ lowm) high highm
  have k1 : low + G ≤ (low + high) / 2 := by omega
  have k2 : (low + high) / 2 + G ≤ high := by omega
  have a1 : ∀ x ∈ ks.take k, x < (low + high) / 2 := fun x hx => by
    have := lowl x (t1 ▸ List.mem_cons_of_mem _ hx)
    omega
  have a2 : ∀ x ∈ ks.drop k, (low + high) / 2 < x := fun x hx => by
    have := highl x (by rw [List.drop_append_of_le_length hk]; exact List.mem_append_left _ hx)
    omega
  have hr : rankM ks ((low + high) / 2) = k := by
    unfold rankM
    conv => lhs; rw [← List.take_append_drop k ks]
    rw [List.filter_append, List.filter_eq_self.mpr (fun x hx => decide_eq_true (a1 x hx)), List.filter_eq_nil_iff.mpr (fun x hx => by have := a2 x hx; simp only [decide_eq_true_eq]; omega), List.append_nil, List.length_take]
    omega
  refine ⟨?_, hr, fun hm => ?_⟩
  · unfold Spread insAt
    have e2 : (0 : Int) :: (ks.take k ++ [(low + high) / 2] ++ ks.drop k ++ [topK]) = (0 :: ks.take k) ++ ((low + high) / 2 :: (ks ++ [topK]).drop k) := by
      rw [List.drop_append_of_le_length hk]
      simp
    rw [e2, List.pairwise_append]
    refine ⟨List.Pairwise.imp (fun h => by omega) p1, List.pairwise_cons.mpr ⟨fun y hy => ?_, List.Pairwise.imp (fun h => by omega) p2⟩, fun x hx y hy => ?_⟩
    · have := highl y hy
      omega
    · rcases List.mem_cons.mp hy with rfl | hy
      · have := lowl x hx
        omega
      · have := p3 x hx y hy
        omega
  · rw [← List.take_append_drop k ks] at hm
    rcases List.mem_append.mp hm with hm | hm
    · have := a1 _ hm
      omega
    · have := a2 _ hm
      omega
/-- the shelf's moving is the law's -/
theorem sh_put_step {S : Sh} (ok : S.Ok) {key : Int} {k : Nat} (hk : rankM S.ks key = k) (hl : S.ks.length < S.p.length) : S.found key = (lawStep S.r S.p (.put, k)).1 ∧ (S.put key).p = (lawStep S.r S.p (.put, k)).2 := by
  have hr := rank_le S.ks key
  have hd : (Wd.put, k) ∈ deedsM S.p := by
    rw [mem_deeds]
    have := ok.len
    simp only [okD, Bool.and_eq_true, decide_eq_true_eq]
    omega
  have h := step_law ok.w6 S.r hd
  unfold stepW stepM at h
  have e1 : ¬ ((wt Wd.put = "take") ∧ (0 : Int) ≤ ((k : Nat) : Int) ∧ ((k : Nat) : Int) < (placesOf S.p).length) := fun z => absurd z.1 (by decide +kernel)
  have e2 : (wt Wd.put = "put") ∧ (0 : Int) ≤ ((k : Nat) : Int) ∧ ((k : Nat) : Int) ≤ (placesOf S.p).length ∧ (placesOf S.p).length < S.p.length := ⟨rfl, by omega, by have := ok.len; omega, by have := ok.len; omega⟩
  rw [if_neg e1, if_pos e2, Int.toNat_natCast] at h
  have h3 := Option.some.inj h
  rw [← h3]
  unfold Sh.found Sh.put Sh.pb
  rw [hk]
  exact ⟨rfl, rfl⟩
theorem sh_take_step {S : Sh} (ok : S.Ok) {key : Int} {k : Nat} (hk : rankM S.ks key = k) (hl : k < S.ks.length) : 0 = (lawStep S.r S.p (.take, k)).1 ∧ (S.take key).p = (lawStep S.r S.p (.take, k)).2 := by
  have hd : (Wd.take, k) ∈ deedsM S.p := by
    rw [mem_deeds]
    have := ok.len
    simp only [okD, decide_eq_true_eq]
    omega
  have h := step_law ok.w6 S.r hd
  unfold stepW stepM at h
  have e2 : (wt Wd.take = "take") ∧ (0 : Int) ≤ ((k : Nat) : Int) ∧ ((k : Nat) : Int) < (placesOf S.p).length := ⟨rfl, by omega, by have := ok.len; omega⟩
  rw [if_pos e2, Int.toNat_natCast] at h
  have h3 := Option.some.inj h
  rw [← h3]
  unfold Sh.take
  rw [hk]
  exact ⟨rfl, rfl⟩
theorem rank_at {ks : List Int} (h : Incr ks) {k : Nat} (hk : k < ks.length) : rankM ks ks[k] = k := by
  obtain ⟨i1, i2, _⟩ := rank_mem h (List.getElem_mem hk)
  exact (List.getElem_inj h.nodup).mp i2
end Ls

set_option maxHeartbeats 2000000
namespace Ls
open PySem L2 Dq
def top (i : Nat) : Stmt := PySem.Challenge.pw_looseshelf_k09_whole_rules_beside_one_an.main.body.getD i (.Pass ⟨0, 0, 0, 0⟩)
abbrev s_ShelfError : Stmt := top 1
abbrev s_BadWidth : Stmt := top 2
abbrev s_BadRule : Stmt := top 3
abbrev s_BadPattern : Stmt := top 4
abbrev s_BadDeed : Stmt := top 5
abbrev s_BadKey : Stmt := top 6
abbrev s_need_width : Stmt := top 12
abbrev s_need_rule : Stmt := top 13
abbrev s_need_pattern : Stmt := top 14
abbrev s_places_of : Stmt := top 15
abbrev s_pattern_of : Stmt := top 16
abbrev s_even_places : Stmt := top 17
abbrev s_shifted : Stmt := top 18
abbrev s_places_behind : Stmt := top 19
abbrev s_moved : Stmt := top 20
abbrev s_step : Stmt := top 21
abbrev s_done : Stmt := top 22
abbrev s_played : Stmt := top 23
abbrev s_Shelf : Stmt := top 25
abbrev s__law_dice : Stmt := top 27
abbrev s__law_off : Stmt := top 28
abbrev s__law_rule : Stmt := top 29
abbrev s__law_deeds : Stmt := top 30
abbrev s__law_drawn : Stmt := top 31
abbrev s_law : Stmt := top 32
abbrev s_Shelf___init__ : Stmt := inClass (top 25) 0
abbrev s_Shelf_put_in : Stmt := inClass (top 25) 1
abbrev s_Shelf_take_out : Stmt := inClass (top 25) 2
abbrev s_Shelf_standing : Stmt := inClass (top 25) 3
abbrev s_Shelf_moved : Stmt := inClass (top 25) 4
local macro_rules | `(tactic| walk_at "dx") => `(tactic| simp only [dFld, dSFld, dMeth, dMake, shF_rule, shF_wide, shF_row, shF_many, shF_put_in, shF_take_out, shF_standing, shF_moved, put_row, put_many, shF_len, MO.ins.injEq, jZip, hUnl, hCons, hNil, hName, dSetS, max3D, sumD, popAtD, dNext, dAsg, dDrop, dRet, dRetN, dIfS, dAsgG, dPar, dFor, dC, dVar, dOp, dTest, dChain, dChain3, dAnd, dOr, dNot, dVal, dAndV, dOrV, dNotV, dIf, dNil, dCons, dTup, dLst, dLc, dPart, dNoPart, dSl, dCall, dCB, dBM, dBM0, negD, dYes, iiD, cmpD, isNoneD, isN, eqD, addD, mulD, ixD, strIx, lenD, lenOf, absD, max2D, min2D, intD, sortedD, listD, isiD, tyOf, sliceD, inD, appD, popD, popAtD, insD, joinD, countD, isL, isS, dSetS, hName, hNil, hCons, hTup, jList, jTup, jRange1, jRange2, jStr, jEnum, jEnumS, jZip, vwL, vwS, vwI, mkL, startD, wipeD, List.length_cons, List.length_nil, List.map_cons, List.map_nil, List.replicate, List.cons_append, List.nil_append, List.getElem?_cons_zero, List.getElem?_cons_succ, List.set_cons_zero, List.set_cons_succ, Option.some.injEq, exists_eq_left', exists_eq_left, exists_eq_right', exists_and_left, exists_and_right, Nat.sub_self, Nat.reduceAdd, Nat.reduceSub, List.replicate_zero, List.append_nil, List.cons.injEq, and_true, true_and, and_assoc, D.int.injEq, D.str.injEq, D.bl.injEq, D.list.injEq, D.tuple.injEq, D.adr.injEq, D.ty.injEq, MO.lst.injEq, MO.dK.injEq, ups_same, ups_ups, at0, at1, at2, at3, ix0, ix1, Option.isSome_some, Bool.true_beq, Bool.false_beq, Bool.not_true, Bool.not_false, if_true, if_false, Bool.false_eq_true, reduceCtorEq, false_and, and_false, or_false, false_or, exists_false, exists_const, decide_eq_true_eq, Bool.not_eq_true', decide_eq_false_iff_not])
local macro_rules | `(tactic| walk_at "dxs") => `(tactic| simp only [dFld, dSFld, dMeth, dMake, shF_rule, shF_wide, shF_row, shF_many, shF_put_in, shF_take_out, shF_standing, shF_moved, put_row, put_many, shF_len, MO.ins.injEq, jZip, hUnl, hCons, hNil, hName, dSetS, max3D, sumD, popAtD, dNext, dSeq, dAsg, dDrop, dRet, dRetN, dIfS, dAsgG, dPar, dFor, dC, dVar, dOp, dTest, dChain, dChain3, dAnd, dOr, dNot, dVal, dAndV, dOrV, dNotV, dIf, dNil, dCons, dTup, dLst, dLc, dPart, dNoPart, dSl, dCall, dCB, dBM, dBM0, negD, dYes, iiD, cmpD, isNoneD, isN, eqD, addD, mulD, ixD, strIx, lenD, lenOf, absD, max2D, min2D, intD, sortedD, listD, isiD, tyOf, sliceD, inD, appD, popD, popAtD, insD, joinD, countD, isL, isS, dSetS, hName, hNil, hCons, hTup, jList, jTup, jRange1, jRange2, jStr, jEnum, jEnumS, jZip, vwL, vwS, vwI, mkL, startD, wipeD, List.length_cons, List.length_nil, List.map_cons, List.map_nil, List.replicate, List.cons_append, List.nil_append, List.getElem?_cons_zero, List.getElem?_cons_succ, List.set_cons_zero, List.set_cons_succ, Option.some.injEq, exists_eq_left', exists_eq_left, exists_eq_right', exists_and_left, exists_and_right, Nat.sub_self, Nat.reduceAdd, Nat.reduceSub, List.replicate_zero, List.append_nil, List.cons.injEq, and_true, true_and, and_assoc, D.int.injEq, D.str.injEq, D.bl.injEq, D.list.injEq, D.tuple.injEq, D.adr.injEq, D.ty.injEq, MO.lst.injEq, MO.dK.injEq, ups_same, ups_ups, at0, at1, at2, at3, ix0, ix1, Option.isSome_some, Bool.true_beq, Bool.false_beq, Bool.not_true, Bool.not_false, if_true, if_false, Bool.false_eq_true, reduceCtorEq, false_and, and_false, or_false, false_or, exists_false, exists_const, decide_eq_true_eq, Bool.not_eq_true', decide_eq_false_iff_not])

local macro_rules | `(tactic| walk_at "dg") => `(tactic| simp only [hName, hNil, hCons, hTup, List.length_cons, List.length_nil, Option.some.injEq, exists_eq_left', exists_eq_left, exists_eq_right', exists_and_left, exists_and_right, Nat.reduceAdd, List.cons.injEq, and_true, true_and, and_assoc, D.tuple.injEq, D.list.injEq, reduceCtorEq, List.set_cons_zero, List.set_cons_succ])

local macro_rules | `(tactic| walk_at "dk") => `(tactic| simp only [k_NoneType_bool, k_NoneType_int, k_NoneType_str, k_NoneType_tuple, k_NoneType_list, k_bool_bool, k_bool_int, k_bool_str, k_bool_tuple, k_bool_list, k_int_bool, k_int_int, k_int_str, k_int_tuple, k_int_list, k_str_bool, k_str_int, k_str_str, k_str_tuple, k_str_list, k_list_bool, k_list_int, k_list_str, k_list_tuple, k_list_list, k_tuple_bool, k_tuple_int, k_tuple_str, k_tuple_tuple, k_tuple_list, Option.some.injEq, exists_eq_left', exists_eq_left, if_true, if_false, Bool.false_eq_true, Bool.true_eq_false, not_true, not_false_iff, ne_eq, decide_true, decide_false, reduceCtorEq])

/-- what the top has left -/
structure TX (K : PySem.W.Frag) (mg : Str → Option Value) (C : Addr) : Prop where
  b_abs : mg "abs" = none
  b_enumerate : mg "enumerate" = none
  b_int : mg "int" = none
  b_len : mg "len" = none
  b_list : mg "list" = none
  b_max : mg "max" = none
  b_range : mg "range" = none
  b_sorted : mg "sorted" = none
  b_sum : mg "sum" = none
  b_zip : mg "zip" = none
  c_MOST_WIDE : GlobC K mg "MOST_WIDE" (.int 6) (.int 6)
  c_RULES : ∃ a, GlobC K mg "RULES" (.ref a) (.tseq [.str "near", .str "left", .str "even"])
  c_FREE : GlobC K mg "FREE" (.str "0") (.str "0")
  c_TAKEN : GlobC K mg "TAKEN" (.str "1") (.str "1")
  cl : Cls K C
  mgC : mg "Shelf" = some (.ref C)
  na_rule : NoAttr K C "rule"
  na_wide : NoAttr K C "wide"
  na_row : NoAttr K C "row"
  na_many : NoAttr K C "many"
  h_Shelf___init__ : HasI K C "Shelf.__init__" s_Shelf___init__
  h_Shelf_put_in : HasM K C "put_in" "Shelf.put_in" s_Shelf_put_in
  h_Shelf_take_out : HasM K C "take_out" "Shelf.take_out" s_Shelf_take_out
  h_Shelf_standing : HasM K C "standing" "Shelf.standing" s_Shelf_standing
  h_Shelf_moved : HasM K C "moved" "Shelf.moved" s_Shelf_moved
  h_need_width : Has K mg "need_width" s_need_width
  h_need_rule : Has K mg "need_rule" s_need_rule
  h_need_pattern : Has K mg "need_pattern" s_need_pattern
  h_places_of : Has K mg "places_of" s_places_of
  h_pattern_of : Has K mg "pattern_of" s_pattern_of
  h_even_places : Has K mg "even_places" s_even_places
  h_shifted : Has K mg "shifted" s_shifted
  h_places_behind : Has K mg "places_behind" s_places_behind
  h_moved : Has K mg "moved" s_moved
  h_step : Has K mg "step" s_step
  h_done : Has K mg "done" s_done
  h_played : Has K mg "played" s_played
  h__law_dice : Has K mg "_law_dice" s__law_dice
  h__law_off : Has K mg "_law_off" s__law_off
  h__law_rule : Has K mg "_law_rule" s__law_rule
  h__law_deeds : Has K mg "_law_deeds" s__law_deeds
  h__law_drawn : Has K mg "_law_drawn" s__law_drawn
  h_law : Has K mg "law" s_law
section
variable {P : Program} {w : World} {K : PySem.W.Frag} {mg : Str → Option Value} {base : Heap} {C : Addr}
def pre__law_dice : Pre := fun ds m Q => ∃ (ns : List Int), ds = [.seq (ns.map D.int), .int 0] ∧ ns.length ≤ 63 ∧ ∀ a, m a = none → Q (.adr a) (ups m a (.any Dice))
theorem len__law_dice : ∀ ds m Q, pre__law_dice ds m Q → ds.length = 2 := by
  rintro ds m Q ⟨w, rfl, _⟩
  rfl
abbrev n__law_dice : List Str := ["_law_script", "_law_k", "_law_found", "_law_cell"]
theorem sc__law_dice : FnScope n__law_dice ["_law_script", "_law_k"] (defScope s__law_dice) := ⟨rfl, rfl, rfl, by decide +kernel, rfl, by decide +kernel, by decide +kernel⟩
def pre'_law_dice : Pre := fun ds m Q => ∃ (ns : List Int), ds = [.seq (ns.map D.int), .int 0] ∧ ns.length ≤ 63 ∧ ∀ a xs, m a = none → Dice xs → Q (.adr a) (ups m a (.lst xs))
theorem len'_law_dice : ∀ ds m Q, pre'_law_dice ds m Q → ds.length = 2 := by
  rintro ds m Q ⟨w, rfl, _⟩
  rfl
theorem def'_law_dice (T : TX K mg C) : Def P w K mg base "_law_dice" 1 pre'_law_dice := by
  refine Def.of (ps := ["_law_script", "_law_k"]) T.h__law_dice (fun _ _ _ _ _ _ us hl => match us, hl with | [_, _], _ => rfl) fun f fd F => ok_def F sc__law_dice len'_law_dice fun cdv A outer s H E hr => ⟨_, _, ss_cons (s_set (i := 2) sc__law_dice.nd (d_v 1))
    (ss_cons (s_for (i_list (d_v 0)) (g_name (i := 3) sc__law_dice.nd)
    (ss_one (s_set (i := 2) sc__law_dice.nd (d_mod (d_add false (d_mul false (d_v 2) (d_int)) (d_callB call_abs cd_abs T.b_abs (by decide +kernel) (a_cons (d_v 3) (a_nil)))) (d_int)))))
    (ss_one (s_ret (d_add true (d_lst false (a_cons (d_v 2) (a_cons (d_int) (a_nil)))) (d_lc false sc__law_dice.nd (own := [("_law_cell", 3)]) (i_list (d_v 0)) (blkOk_by (own := [("_law_cell", 3)]) (N := n__law_dice) (sc := defScope s__law_dice) (by decide +kernel)) (fun _ _ _ _ _ => g_name (i := 3) sc__law_dice.nd) (fun _ _ _ _ _ => ts_one (t_cmp o_ge opd_cmp (d_v 3) (d_pow (d_int) (d_int)) (nomark _))) (fun _ _ _ _ _ => d_v 3) (keeps_name (by decide))))))), ?_⟩
  rintro ds m Q ⟨ns, rfl, h1, q⟩
  refine q_asg (.int 0) (fun Q q => ?_) ?_
  · walk_at "dx"
    exact q
  refine q_for (ns.map D.int) (fun Q q => ?_) (fun i env m' => m' = m ∧ ∃ (f : Int) (x : Option D), 0 ≤ f ∧ f < 2147483647 ∧ env = [some (.seq (ns.map D.int)), some (.int 0), some (.int f), x]) ⟨rfl, 0, none, by decide, by decide, rfl⟩ ?_ ?_
  · walk_at "dx"
    exact q
  · rintro i d hd env m' ⟨rfl, f, x, h3, h4, rfl⟩ nx hn
    rw [List.getElem?_map] at hd
    obtain ⟨c, hc, rfl⟩ := Option.map_eq_some_iff.mp hd
    walk_at "dg"
    refine s_asg' (.int ((f * 31 + (if c < 0 then -c else c)) % 2147483647)) (fun Q q => ?_) ?_
    · walk_at "dx"
      exact ⟨.inl ⟨by omega, by omega⟩, by decide, q⟩
    · exact hn _ _ ⟨rfl, _, _, Int.emod_nonneg _ (by decide), Int.emod_lt_of_pos _ (by decide), rfl⟩
  · rintro env m' ⟨rfl, f, x, h3, h4, rfl⟩
    have hfl : (ns.filter fun c => decide (10 ^ 18 ≤ c)).length ≤ ns.length := List.length_filter_le _ _
    walk_at "dx"
    refine ⟨by decide, lc_ints (fun c => decide (10 ^ 18 ≤ c)) (fun c hc Q' q' => ?_) (small_line (by omega)) ?_⟩
    · walk_at "dx"
      exact ⟨⟨by decide, by decide, by decide⟩, q'⟩
    · rw [List.length_map]
      refine ⟨Nat.le_trans (by omega : _ ≤ 100) (by decide), fun a ha => q a _ ha ⟨f, 0, _, rfl, h3, h4, by decide, fun x hx => ?_, by omega⟩⟩
      have := (List.mem_filter.mp hx).2
      simp only [decide_eq_true_eq] at this
      omega
theorem def__law_dice (T : TX K mg C) : Def P w K mg base "_law_dice" 1 pre__law_dice := by
  refine (def'_law_dice T).weak (spD_newAny (A := Dice) ?_)
  rintro ds m Q ⟨ns, rfl, h1, q⟩
  exact ⟨ns, rfl, h1, fun a xs ha hd => ⟨a, xs, ha, rfl, hd, rfl, q a ha⟩⟩
def pre__law_off : Pre := fun ds m Q => ∃ (p : Addr) (n : Nat), ds = [.adr p, .int n] ∧ m p = some (.any Dice) ∧ 0 < n ∧ n < 1073741824 ∧ ∀ r : Nat, r < n → Q (.int r) m
theorem len__law_off : ∀ ds m Q, pre__law_off ds m Q → ds.length = 2 := by
  rintro ds m Q ⟨w, n, rfl, _⟩
  rfl
abbrev n__law_off : List Str := ["_law_d", "_law_most", "_law_found"]
theorem sc__law_off : FnScope n__law_off ["_law_d", "_law_most"] (defScope s__law_off) := ⟨rfl, rfl, rfl, by decide +kernel, rfl, by decide +kernel, by decide +kernel⟩
def pre'_law_off : Pre := fun ds m Q => ∃ (p : Addr) (n : Nat) (xs : List D), ds = [.adr p, .int n] ∧ m p = some (.lst xs) ∧ Dice xs ∧ 0 < n ∧ n < 1073741824 ∧ ∀ (r : Nat) xs', r < n → Dice xs' → Q (.int r) (ups m p (.lst xs'))
theorem len'_law_off : ∀ ds m Q, pre'_law_off ds m Q → ds.length = 2 := by
  rintro ds m Q ⟨w, n, xs, rfl, _⟩
  rfl
theorem def'_law_off (T : TX K mg C) : Def P w K mg base "_law_off" 1 pre'_law_off := by
  refine Def.of (ps := ["_law_d", "_law_most"]) T.h__law_off (fun _ _ _ _ _ _ us hl => match us, hl with | [_, _], _ => rfl) fun f fd F => ok_def F sc__law_off len'_law_off fun cdv A outer s H E hr => ⟨_, _, ss_cons (s_if (DW.t (w_and (t_cmp (op_eqAll (u64 hr)) opd_eq (d_ix (d_v 0) (d_int)) (d_int) (nomark _)) (w_and1 (t_cmp o_gt opd_cmp (d_callB cr_lenAll cd_len T.b_len (by decide +kernel) (a_cons (d_v 0) (a_nil))) (d_int) (nomark _)))))
    (ss_one (s_setL (d_bm PySem.F.plainAttrs_list PySem.F.slot_list_pop PySem.F.type_list_pop mt_popAt md_popAt tyL' (d_v 0) (a_cons (d_int) (a_nil))) (d_v 0) (d_int)))
    (ss_nil))
    (ss_cons (s_if (t_cmp o_gt opd_cmp (d_ix (d_v 0) (d_int)) (d_int) (nomark _))
    (ss_cons (s_set (i := 2) sc__law_off.nd (d_mod (d_ix (d_v 0) (d_int)) (d_v 1)))
    (ss_cons (s_setL (d_fdiv (d_ix (d_v 0) (d_int)) (d_v 1)) (d_v 0) (d_int))
    (ss_one (s_ret (d_v 2)))))
    (ss_nil))
    (ss_cons (s_setL (d_mod (d_add false (d_mul false (d_ix (d_v 0) (d_int)) (d_int)) (d_int)) (d_int)) (d_v 0) (d_int))
    (ss_one (s_ret (d_mod (d_fdiv (d_ix (d_v 0) (d_int)) (d_int)) (d_v 1)))))), ?_⟩
  rintro ds m Q ⟨p, n, xs, rfl, hm, ⟨a, b, l, rfl, ha1, ha2, hb, hl, hlen⟩, hn0, hn1, q⟩
  have em : m = ups m p (.lst (.int a :: .int b :: l.map D.int)) := (ups_eq hm).symm
  refine q_ifM (fun e m1 => e = [some (.adr p), some (.int n), none] ∧ ∃ (b : Int) (l : List Int), m1 = ups m p (.lst (.int a :: .int b :: l.map D.int)) ∧ 0 ≤ b ∧ (∀ x ∈ l, 0 ≤ x) ∧ l.length ≤ 63)
    (decide (b = 0) && decide (2 < l.length + 2)) (fun Q q => ?_) (fun h N hN => ?_) (fun h N hN => ?_) ?_
  · rw [em] at q ⊢
    walk_at "dx"
    by_cases hb0 : b = 0
    · rw [if_pos hb0]
      rw [decide_eq_true hb0] at q
      simp only [List.length_map]
      refine (congrArg (fun k => Q k _) (decide_eq_decide.mpr ?_)).mp q
      omega
    · rw [if_neg hb0]
      rw [decide_eq_false hb0] at q
      exact q
  · simp only [Bool.and_eq_true, decide_eq_true_eq] at h
    obtain ⟨hb0, hl2⟩ := h
    cases l with
    | nil => simp at hl2
    | cons c l =>
      rw [em]
      walk_at "dx"
      refine ⟨by decide, by decide, 2, seqIx_nat (j := 2) (by omega), _, rfl, 1, ix1, ?_⟩
      refine hN _ _ ⟨rfl, c, l, rfl, hl c List.mem_cons_self, fun x hx => hl x (List.mem_cons_of_mem _ hx), ?_⟩
      rw [List.length_cons] at hlen
      omega
  · walk_at "dx"
    exact hN _ _ ⟨rfl, b, l, em, hb, hl, hlen⟩
  rintro env m1 ⟨rfl, b, l, rfl, hb, hl, hlen⟩
  refine q_when (decide (0 < b)) (fun Q q => ?_) (fun h => ?_) (fun h => ?_)
  · walk_at "dx"
    exact q
  · refine q_asg (.int (b % n)) (fun Q q => ?_) ?_
    · walk_at "dx"
      exact ⟨by omega, q⟩
    · unfold dSeq
      walk_at "dx"
      refine ⟨⟨by omega, by omega⟩, ?_⟩
      have h1 := Int.emod_nonneg b (show (n : Int) ≠ 0 by omega)
      have h2 := Int.emod_lt_of_pos b (show (0 : Int) < n by omega)
      obtain ⟨r, hr⟩ := Int.eq_ofNat_of_zero_le h1
      rw [hr]
      exact q r _ (by omega) ⟨a, b / n, l, rfl, ha1, ha2, Int.ediv_nonneg hb (by omega), hl, hlen⟩
  · unfold dSeq
    walk_at "dx"
    refine ⟨.inl ⟨by omega, by omega⟩, by decide, ⟨by decide, by decide⟩, by omega, ?_⟩
    have h0 : 0 ≤ (a * 48271 + 11) % 2147483647 := Int.emod_nonneg _ (by decide)
    have h1 : 0 ≤ (a * 48271 + 11) % 2147483647 / 64 % n := Int.emod_nonneg _ (by omega)
    have h2 := Int.emod_lt_of_pos ((a * 48271 + 11) % 2147483647 / 64) (show (0 : Int) < n by omega)
    obtain ⟨r, hr⟩ := Int.eq_ofNat_of_zero_le h1
    rw [hr]
    exact q r _ (by omega) ⟨_, b, l, rfl, h0, Int.emod_lt_of_pos _ (by decide), hb, hl, hlen⟩
theorem def__law_off (T : TX K mg C) : Def P w K mg base "_law_off" 1 pre__law_off := by
  refine (def'_law_off T).weak (spD_any (A := Dice) ?_)
  rintro ds m Q ⟨p, n, rfl, h1, h2, h3, q⟩
  refine ⟨p, h1, fun xs hx => ⟨p, n, xs, rfl, ups_same, hx, h2, h3, fun r xs' hr hx' => ⟨xs', hx', ups_ups, q r hr⟩⟩⟩
def pre__law_drawn : Pre := fun ds m Q => ∃ (a : Addr) (wide most : Nat), ds = [.adr a, .int wide, .int most] ∧ m a = some (.any Dice) ∧ 1 ≤ wide ∧ wide ≤ 6 ∧ most ≤ 100 ∧ ∀ l : List (Wd × Nat), l.length ≤ most → (∃ n, drawnOk wide 0 l = some n) → Q (.list (deedsD l)) m
theorem len__law_drawn : ∀ ds m Q, pre__law_drawn ds m Q → ds.length = 3 := by
  rintro ds m Q ⟨a, w, most, rfl, _⟩
  rfl
abbrev n__law_drawn : List Str := ["_law_d", "_law_wide", "_law_most", "_law_many", "_law_found", "_law_turn", "_law_is_put"]
theorem sc__law_drawn : FnScope n__law_drawn ["_law_d", "_law_wide", "_law_most"] (defScope s__law_drawn) := ⟨rfl, rfl, rfl, by decide +kernel, rfl, by decide +kernel, by decide +kernel⟩
theorem def__law_drawn (T : TX K mg C) : Def P w K mg base "_law_drawn" 2 pre__law_drawn := by
  refine Def.of (ps := ["_law_d", "_law_wide", "_law_most"]) T.h__law_drawn (fun _ _ _ _ _ _ us hl => match us, hl with | [_, _, _], _ => rfl) fun f fd F => ok_def F sc__law_drawn len__law_drawn fun cdv A outer s H E hr => ⟨_, _, ss_cons (s_set (i := 3) sc__law_drawn.nd (d_int))
    (ss_cons (s_set (i := 4) sc__law_drawn.nd (d_lst true (a_nil)))
    (ss_cons (s_for (i_range1 T.b_range (a_cons (d_call (def__law_off T) (hr.mono (by decide)) (a_cons (d_v 0) (a_cons (d_add false (d_v 2) (d_int)) (a_nil)))) (a_nil))) (g_name (i := 5) sc__law_drawn.nd)
    (ss_cons (s_set (i := 6) sc__law_drawn.nd (d_or (d_cmp (op_eqAll (u64 hr)) opd_eq (d_v 3) (d_int) (nomark _)) (d_one (d_and (d_cmp o_lt opd_cmp (d_v 3) (d_v 1) (nomark _)) (d_one (d_cmp o_gt opd_cmp (d_call (def__law_off T) (hr.mono (by decide)) (a_cons (d_v 0) (a_cons (d_int) (a_nil)))) (d_int) (nomark _)))))))
    (ss_one (s_if (t_val (d_v 6))
    (ss_cons (s_expr (d_bm PySem.F.plainAttrs_list PySem.F.slot_list_append PySem.F.type_list_append mt_append md_append tyL' (d_v 4) (a_cons (d_tup (a_cons (d_str) (a_cons (d_ix (d_lst false (a_cons (d_int) (a_cons (d_v 3) (a_cons (d_call (def__law_off T) (hr.mono (by decide)) (a_cons (d_v 0) (a_cons (d_add false (d_v 3) (d_int)) (a_nil)))) (a_nil))))) (d_call (def__law_off T) (hr.mono (by decide)) (a_cons (d_v 0) (a_cons (d_int) (a_nil))))) (a_nil)))) (a_nil))))
    (ss_one (s_set (i := 3) sc__law_drawn.nd (d_add false (d_v 3) (d_int)))))
    (ss_cons (s_expr (d_bm PySem.F.plainAttrs_list PySem.F.slot_list_append PySem.F.type_list_append mt_append md_append tyL' (d_v 4) (a_cons (d_tup (a_cons (d_str) (a_cons (d_call (def__law_off T) (hr.mono (by decide)) (a_cons (d_v 0) (a_cons (d_v 3) (a_nil)))) (a_nil)))) (a_nil))))
    (ss_one (s_set (i := 3) sc__law_drawn.nd (d_sub (d_v 3) (d_int)))))))))
    (ss_fz 4 (ss_one (s_ret (d_v 4)))))), ?_⟩
  rintro ds m Q ⟨a, wide, most, rfl, h1, h2, h3, h4, q⟩
  refine q_asg (.int 0) (fun Q q => ?_) ?_
  · walk_at "dx"
    exact q
  refine q_new (ds := []) (fun Q q => ?_) fun b hb => ?_
  · walk_at "dx"
    exact ⟨by decide, q⟩
  have ne : a ≠ b := by
    rintro rfl
    rw [hb] at h1
    cases h1
  refine q_forN (fun n => n ≤ most) (fun Q q => ?_) (fun _ i e m' => ∃ (many : Nat) (l : List (Wd × Nat)) (x y : Option D), e = [some (.adr a), some (.int wide), some (.int most), some (.int many), some (.adr b), x, y] ∧ m' = ups m b (.lst (deedsD l)) ∧ l.length = i ∧ drawnOk wide 0 l = some many ∧ many ≤ wide) (fun n hn => ⟨0, [], none, none, rfl, rfl, rfl, rfl, by omega⟩) ?_ ?_
  · walk_at "dx"
    refine ⟨a, most + 1, rfl, by rw [ups_ne ne]; exact h1, by omega, by omega, fun r hr => ?_⟩
    refine ⟨_, rfl, by omega, by omega, ?_⟩
    rw [Int.toNat_natCast]
    exact q r (by omega)
  · rintro n i hn hi e m' ⟨many, l, x, y, rfl, rfl, hl, hok, hm⟩ nx hnx
    walk_at "dg"
    refine q_asg' (P := fun d m1 => m1 = ups m b (.lst (deedsD l)) ∧ ∃ c, d = .bl c ∧ (c = true → many < wide) ∧ (c = false → 0 < many)) (fun Q q => ?_) ?_
    · walk_at "dx"
      have hma : (ups m b (.lst (deedsD l))) a = some (.any Dice) := by rw [ups_ne ne]; exact h1
      split
      · exact q _ _ ⟨rfl, true, rfl, fun _ => by omega, nofun⟩
      · split
        · exact ⟨a, 3, rfl, hma, by decide, by decide, fun r hr => ⟨_, rfl, q _ _ ⟨rfl, _, rfl, fun _ => by omega, fun _ => by omega⟩⟩⟩
        · exact q _ _ ⟨rfl, false, rfl, nofun, fun _ => by omega⟩
    · rintro d m1 ⟨rfl, c, rfl, hb1, hb2⟩
      refine s_if' c (fun Q q => ?_) (fun hc => ?_) (fun hc => ?_)
      · walk_at "dx"
        exact q
      · walk_at "dxs"
        have hma : (ups m b (.lst (deedsD l))) a = some (.any Dice) := by rw [ups_ne ne]; exact h1
        refine ⟨a, many + 1, rfl, hma, by omega, by omega, fun k hk => ⟨by decide, a, 3, rfl, hma, by decide, by decide, fun r hr => ⟨_, rfl, ?_⟩⟩⟩
        have key : ∀ k' : Nat, k' ≤ many → nx [some (.adr a), some (.int wide), some (.int most), some (.int ((many : Int) + 1)), some (.adr b), some (.int i), some (.bl true)] (ups (ups m b (.lst (deedsD l))) b (.lst (deedsD l ++ [.tuple [.str "put", .int (k' : Nat)]]))) := by
          intro k' hk'
          refine hnx _ _ ⟨many + 1, l ++ [(.put, k')], some (.int i), some (.bl true), ?_, ?_, by rw [List.length_append, hl]; rfl, ?_, hb1 hc⟩
          · rw [show (((many + 1 : Nat)) : Int) = (many : Int) + 1 by omega]
          · rw [ups_ups]
            unfold deedsD
            rw [List.map_append]
            rfl
          · rw [drawnOk_append hok, drawnOk_put, if_pos ⟨hk', hb1 hc⟩]
            rfl
        have hlen : (deedsD l).length < sizeLine := small_line (by unfold deedsD; rw [List.length_map]; omega)
        cases hc
        have : r = 0 ∨ r = 1 ∨ r = 2 := by omega
        rcases this with rfl | rfl | rfl
        · exact ⟨_, at0, by decide, _, ups_same, hlen, key 0 (by omega)⟩
        · exact ⟨_, at1, by decide, _, ups_same, hlen, key many (by omega)⟩
        · exact ⟨_, at2, by decide, _, ups_same, hlen, key k (by omega)⟩
      · walk_at "dxs"
        have hma : (ups m b (.lst (deedsD l))) a = some (.any Dice) := by rw [ups_ne ne]; exact h1
        have h0 := hb2 hc
        have hlen : (deedsD l).length < sizeLine := small_line (by unfold deedsD; rw [List.length_map]; omega)
        refine ⟨a, many, rfl, hma, by omega, by omega, fun k hk => ⟨by decide, _, ups_same, hlen, hnx _ _ ⟨many - 1, l ++ [(.take, k)], some (.int i), some (.bl c), ?_, ?_, by rw [List.length_append, hl]; rfl, ?_, by omega⟩⟩⟩
        · rw [show (((many - 1 : Nat)) : Int) = (many : Int) - 1 by omega]
        · rw [ups_ups]
          unfold deedsD
          rw [List.map_append]
          rfl
        · rw [drawnOk_append hok, drawnOk_take, if_pos hk]
          rfl
  · rintro n hn e m' ⟨many, l, x, y, rfl, rfl, hl, hok, hm⟩
    refine fz_list rfl ups_same ?_
    rw [del_ups hb]
    walk_at "dx"
    exact q l (by omega) ⟨_, hok⟩
def pre_need_rule : Pre := fun ds m Q => ∃ r : Rl, ds = [.str (rt r)] ∧ Q .non m
theorem len_need_rule : ∀ ds m Q, pre_need_rule ds m Q → ds.length = 1 := by
  rintro ds m Q ⟨w, rfl, _⟩
  rfl
abbrev n_need_rule : List Str := ["rule"]
theorem sc_need_rule : FnScope n_need_rule ["rule"] (defScope s_need_rule) := ⟨rfl, rfl, rfl, by decide +kernel, rfl, by decide +kernel, by decide +kernel⟩
theorem def_need_rule (T : TX K mg C) : Def P w K mg base "need_rule" 1 pre_need_rule := by
  refine Def.of (ps := ["rule"]) T.h_need_rule (fun _ _ _ _ _ _ us hl => match us, hl with | [_], _ => rfl) fun f fd F => ok_def F sc_need_rule len_need_rule fun cdv A outer s H E hr => ⟨_, _, ss_one (s_if (t_cmp op_notInAll (opd_in true) (d_v 0) (d_glob T.c_RULES.choose_spec) rfl)
    (ss_one (s_never))
    (ss_nil)), ?_⟩
  rintro ds m Q ⟨r, rfl, q⟩
  walk_at "dxs"
  refine ⟨rfl, rfl, ?_⟩
  rw [show inV (toV (.str (rt r))) [toV (.str "near"), toV (.str "left"), toV (.str "even")] = true by cases r <;> decide +kernel]
  exact q
def pre_need_width : Pre := fun ds m Q => ∃ w : Int, ds = [.int w] ∧ 1 ≤ w ∧ w ≤ 6 ∧ Q .non m
theorem len_need_width : ∀ ds m Q, pre_need_width ds m Q → ds.length = 1 := by
  rintro ds m Q ⟨w, rfl, _⟩
  rfl
abbrev n_need_width : List Str := ["wide"]
theorem sc_need_width : FnScope n_need_width ["wide"] (defScope s_need_width) := ⟨rfl, rfl, rfl, by decide +kernel, rfl, by decide +kernel, by decide +kernel⟩
theorem def_need_width (T : TX K mg C) : Def P w K mg base "need_width" 1 pre_need_width := by
  refine Def.of (ps := ["wide"]) T.h_need_width (fun _ _ _ _ _ _ us hl => match us, hl with | [_], _ => rfl) fun f fd F => ok_def F sc_need_width len_need_width fun cdv A outer s H E hr => ⟨_, _, ss_one (s_if (t_not (t_chain o_le o_le opd_cmp opd_cmp (d_int) (d_v 0) (d_glob T.c_MOST_WIDE)))
    (ss_one (s_never))
    (ss_nil)), ?_⟩
  rintro ds m Q ⟨w, rfl, h1, h2, q⟩
  walk_at "dxs"
  rw [if_pos h1, if_neg (by simpa using h2)]
  exact q
def pre_Shelf___init__ (C : Addr) : Pre := fun ds m Q => ∃ (a : Addr) (r : Rl) (w : Nat), ds = [.adr a, .str (rt r), .int w] ∧ m a = some (.ins C []) ∧ 1 ≤ w ∧ w ≤ 6 ∧ ∀ m' b', ShAt C m' a b' ⟨r, List.replicate w false, [], 0⟩ → Keep m m' a a b' → Q .non m'
theorem len_Shelf___init__ (C : Addr) : ∀ ds m Q, pre_Shelf___init__ C ds m Q → ds.length = 3 := by
  rintro ds m Q ⟨a, r, w, rfl, _⟩
  rfl
abbrev n_Shelf___init__ : List Str := ["self", "rule", "wide"]
theorem sc_Shelf___init__ : FnScope n_Shelf___init__ ["self", "rule", "wide"] (defScope s_Shelf___init__) := ⟨rfl, rfl, rfl, by decide +kernel, rfl, by decide +kernel, by decide +kernel⟩
theorem idef_Shelf (T : TX K mg C) : IDef P w K mg base C 2 (pre_Shelf___init__ C) := by
  refine IDef.of (ps := ["self", "rule", "wide"]) T.h_Shelf___init__ (fun _ _ _ _ _ _ us hl => match us, hl with | [_, _, _], _ => rfl) fun f fd F => ok_def F sc_Shelf___init__ (len_Shelf___init__ C) fun cdv A outer s H E hr => ⟨_, _, ss_cons (s_expr (d_call (def_need_rule T) (hr.mono (by decide)) (a_cons (d_v 1) (a_nil))))
    (ss_cons (s_expr (d_call (def_need_width T) (hr.mono (by decide)) (a_cons (d_v 2) (a_nil))))
    (ss_cons (s_fld T.cl T.na_rule (d_v 1) (d_v 0))
    (ss_cons (s_fld T.cl T.na_wide (d_v 2) (d_v 0))
    (ss_cons (s_fld T.cl T.na_row (d_mul true (d_lst false (a_cons (d_non) (a_nil))) (d_v 2)) (d_v 0))
    (ss_one (s_fld T.cl T.na_many (d_int) (d_v 0))))))), ?_⟩
  rintro ds m Q ⟨a, r, w, rfl, h1, h2, h3, q⟩
  refine q_drop (fun Q q => ?_) ?_
  · walk_at "dx"
    exact ⟨r, rfl, q _⟩
  refine q_drop (fun Q q => ?_) ?_
  · walk_at "dx"
    exact ⟨w, rfl, by omega, by omega, q _⟩
  walk_at "dxs"
  rw [Int.toNat_natCast]
  refine ⟨_, h1, by decide, Nat.lt_of_le_of_lt (putD_len (n := 0) (l := []) (Nat.le_refl 0)) (by decide), by decide, by omega, by omega, Nat.le_trans (by omega : _ ≤ 100) (by decide), fun b hb => ?_⟩
  have nab : a ≠ b := by
    rintro rfl
    rw [ups_same] at hb
    cases hb
  refine ⟨_, by rw [ups_ne nab, ups_same], Nat.lt_of_le_of_lt (putD_len (putD_len (n := 0) (l := []) (Nat.le_refl 0))) (by decide), Nat.lt_of_le_of_lt (putD_len (putD_len (putD_len (n := 0) (l := []) (Nat.le_refl 0)))) (by decide), ?_⟩
  rw [rep_none, show D.int 0 = D.int ((0 : Nat) : Int) from rfl, put_init]
  rw [ups_ne nab.symm] at hb
  refine q _ b ⟨⟨?_, ?_, ?_, .nil⟩, by rw [ups_same]; simp, ?_, nab⟩ fun x o hx h2 h3 => ⟨?_, ?_⟩
  · show 1 ≤ (List.replicate w false).length
    rw [List.length_replicate]
    exact h2
  · show (List.replicate w false).length ≤ 6
    rw [List.length_replicate]
    exact h3
  · exact (zeros_places h2 h3).symm
  · rw [ups_ne nab.symm, ups_same, zeros_row h2 h3]
  · rw [ups_ne h2, ups_ne, ups_ne h2, hx]
    rintro rfl
    rw [hx] at hb
    cases hb
  · rintro rfl
    rw [hx] at hb
    cases hb
def pre__law_deeds : Pre := fun ds m Q => ∃ (p : List Bool), ds = [.str (ps p)] ∧ p.length ≤ 6 ∧ Q (.list (deedsD (deedsM p))) m
theorem len__law_deeds : ∀ ds m Q, pre__law_deeds ds m Q → ds.length = 1 := by
  rintro ds m Q ⟨w, rfl, _⟩
  rfl
abbrev n__law_deeds : List Str := ["_law_pattern", "_law_many", "_law_found", "_law_rank"]
theorem sc__law_deeds : FnScope n__law_deeds ["_law_pattern"] (defScope s__law_deeds) := ⟨rfl, rfl, rfl, by decide +kernel, rfl, by decide +kernel, by decide +kernel⟩
theorem def__law_deeds (T : TX K mg C) : Def P w K mg base "_law_deeds" 1 pre__law_deeds := by
  refine Def.of (ps := ["_law_pattern"]) T.h__law_deeds (fun _ _ _ _ _ _ us hl => match us, hl with | [_], _ => rfl) fun f fd F => ok_def F sc__law_deeds len__law_deeds fun cdv A outer s H E hr => ⟨_, _, ss_cons (s_set (i := 1) sc__law_deeds.nd (d_bm PySem.F.plainAttrs_str PySem.F.slot_str_count PySem.F.type_str_count mt_count md_count tyS' (d_v 0) (a_cons (d_str) (a_nil))))
    (ss_cons (s_setLc false (i := 2) sc__law_deeds.nd (own := [("_law_rank", 3)]) (i_range1 T.b_range (a_cons (d_v 1) (a_nil))) (blkOk_by (own := [("_law_rank", 3)]) (N := n__law_deeds) (sc := defScope s__law_deeds) (by decide +kernel)) (fun _ _ _ _ _ => g_name (i := 3) sc__law_deeds.nd) (fun _ _ _ _ _ => ts_nil) (fun _ _ _ _ _ => d_tup (a_cons (d_str) (a_cons (d_v 3) (a_nil)))) (keeps_name (by decide)) (sw_true rfl rfl rfl (by decide +kernel)))
    (ss_one (s_ret (d_add false (d_v 2) (d_lc false sc__law_deeds.nd (own := [("_law_rank", 3)]) (i_range1 T.b_range (a_cons (d_add false (d_v 1) (d_int)) (a_nil))) (blkOk_by (own := [("_law_rank", 3)]) (N := n__law_deeds) (sc := defScope s__law_deeds) (by decide +kernel)) (fun _ _ _ _ _ => g_name (i := 3) sc__law_deeds.nd) (fun _ _ _ _ _ => ts_one (t_cmp o_lt opd_cmp (d_v 1) (d_callB cr_lenAll cd_len T.b_len (by decide +kernel) (a_cons (d_v 0) (a_nil))) (nomark _))) (fun _ _ _ _ _ => d_tup (a_cons (d_str) (a_cons (d_v 3) (a_nil)))) (keeps_name (by decide))))))), ?_⟩
  rintro ds m Q ⟨p, rfl, h1, q⟩
  have hpl := pl_len p
  refine q_asg (.int (placesOf p).length) (fun Q q => ?_) ?_
  · walk_at "dx"
    rw [count_ps h1]
    exact ⟨⟨_, rfl⟩, q⟩
  refine q_asg (.list ((List.range (placesOf p).length).map fun k => deedD (.take, k))) (fun Q q => ?_) ?_
  · walk_at "dx"
    refine ⟨by omega, by omega, ?_⟩
    rw [Int.toNat_natCast]
    refine lc_rangeAll (fun k => deedD (.take, k)) (fun i hi Q' q' => ?_) (small_line (by omega)) q
    walk_at "dx"
    exact ⟨by decide, q'⟩
  walk_at "dx"
  refine ⟨by omega, by omega, ?_⟩
  rw [show (((placesOf p).length : Nat) : Int) + 1 = (((placesOf p).length + 1 : Nat) : Int) by omega, Int.toNat_natCast]
  refine lc_range (fun _ => decide ((placesOf p).length < p.length)) (fun k => deedD (.put, k)) (fun i hi Q' q' => ?_) (fun i hi hc Q' q' => ?_) (small_line (by omega)) ?_
  · walk_at "dx"
    rw [ps_len]
    refine ⟨Nat.le_trans (by omega : _ ≤ 100) (by decide), ?_⟩
    refine (congrArg (fun k => Q' k m) (decide_eq_decide.mpr ?_)).mp q'
    omega
  · walk_at "dx"
    exact ⟨by decide, q'⟩
  · unfold deedsM deedsD at q
    rw [List.map_append, List.map_map, List.map_map] at q
    refine ⟨Nat.le_trans (?_ : _ ≤ 100) (by decide), q⟩
    rw [List.length_map, List.length_range, List.length_map]
    have := List.length_filter_le (fun _ => decide ((placesOf p).length < p.length)) (List.range ((placesOf p).length + 1))
    rw [List.length_range] at this
    omega
def pre__law_rule : Pre := fun ds m Q => ∃ (p : Addr), ds = [.adr p] ∧ m p = some (.any Dice) ∧ ∀ r : Rl, Q (.str (rt r)) m
theorem len__law_rule : ∀ ds m Q, pre__law_rule ds m Q → ds.length = 1 := by
  rintro ds m Q ⟨w, rfl, _⟩
  rfl
abbrev n__law_rule : List Str := ["_law_d"]
theorem sc__law_rule : FnScope n__law_rule ["_law_d"] (defScope s__law_rule) := ⟨rfl, rfl, rfl, by decide +kernel, rfl, by decide +kernel, by decide +kernel⟩
theorem def__law_rule (T : TX K mg C) : Def P w K mg base "_law_rule" 2 pre__law_rule := by
  refine Def.of (ps := ["_law_d"]) T.h__law_rule (fun _ _ _ _ _ _ us hl => match us, hl with | [_], _ => rfl) fun f fd F => ok_def F sc__law_rule len__law_rule fun cdv A outer s H E hr => ⟨_, _, ss_one (s_ret (d_ix (d_lst false (a_cons (d_str) (a_cons (d_str) (a_cons (d_str) (a_nil))))) (d_call (def__law_off T) (hr.mono (by decide)) (a_cons (d_v 0) (a_cons (d_int) (a_nil)))))), ?_⟩
  rintro ds m Q ⟨p, rfl, hm, q⟩
  walk_at "dxs"
  refine ⟨by decide, p, 3, rfl, hm, by decide, by decide, fun r hr => ?_⟩
  obtain ⟨x, hx⟩ := rule_ix r hr
  exact ⟨_, rfl, _, atI_nat hx, q x⟩
def pre_places_of : Pre := fun ds m Q => ∃ p : List Bool, ds = [.str (ps p)] ∧ p.length ≤ 6 ∧ Q (.list (nums (placesOf p))) m
theorem len_places_of : ∀ ds m Q, pre_places_of ds m Q → ds.length = 1 := by
  rintro ds m Q ⟨w, rfl, _⟩
  rfl
abbrev n_places_of : List Str := ["pattern", "at"]
theorem sc_places_of : FnScope n_places_of ["pattern"] (defScope s_places_of) := ⟨rfl, rfl, rfl, by decide +kernel, rfl, by decide +kernel, by decide +kernel⟩
theorem def_places_of (T : TX K mg C) : Def P w K mg base "places_of" 1 pre_places_of := by
  refine Def.of (ps := ["pattern"]) T.h_places_of (fun _ _ _ _ _ _ us hl => match us, hl with | [_], _ => rfl) fun f fd F => ok_def F sc_places_of len_places_of fun cdv A outer s H E hr => ⟨_, _, ss_one (s_ret (d_lc false sc_places_of.nd (own := [("at", 1)]) (i_range1 T.b_range (a_cons (d_callB cr_lenAll cd_len T.b_len (by decide +kernel) (a_cons (d_v 0) (a_nil))) (a_nil))) (blkOk_by (own := [("at", 1)]) (N := n_places_of) (sc := defScope s_places_of) (by decide +kernel)) (fun _ _ _ _ _ => g_name (i := 1) sc_places_of.nd) (fun _ _ _ _ _ => ts_one (t_cmp (op_eqAll (u64 hr)) opd_eq (d_ix (d_v 0) (d_v 1)) (d_glob T.c_TAKEN) (nomark _))) (fun _ _ _ _ _ => d_v 1) (keeps_name (by decide)))), ?_⟩
  rintro ds m Q ⟨p, rfl, hp, q⟩
  walk_at "dxs"
  rw [ps_len]
  refine ⟨Nat.le_trans hp (by decide), by omega, by omega, ?_⟩
  rw [Int.toNat_natCast]
  refine lc_range (fun i => p[i]?.getD false) (fun i => .int (i : Nat)) (fun i hi Q' q' => ?_) (fun i hi hc Q' q' => ?_) (small_line (by omega)) q
  · walk_at "dx"
    rw [ps_len]
    refine ⟨Nat.le_trans hp (by decide), _, ps_at (List.getElem?_eq_getElem hi), ?_⟩
    rw [List.getElem?_eq_getElem hi] at q'
    revert q'
    cases p[i] <;> exact fun q => q
  · walk_at "dx"
    exact q' 
def pre_shifted : Pre := fun ds m Q => ∃ (r : Rl) (w : Nat) (pl : List Nat) (k : Nat), ds = [.str (rt r), .int w, .list (nums pl), .int k] ∧ w ≤ 6 ∧ k ≤ pl.length ∧ pl.length ≤ 6 ∧ (goesM r w pl k = false → behindM w pl k ≠ []) ∧ Q (.list (nums (shiftM r w pl k))) m
theorem len_shifted : ∀ ds m Q, pre_shifted ds m Q → ds.length = 4 := by
  rintro ds m Q ⟨r, w, pl, k, rfl, _⟩
  rfl
abbrev n_shifted : List Str := ["rule", "wide", "places", "rank", "free", "before", "behind", "goes_left", "at"]
theorem sc_shifted : FnScope n_shifted ["rule", "wide", "places", "rank"] (defScope s_shifted) := ⟨rfl, rfl, rfl, by decide +kernel, rfl, by decide +kernel, by decide +kernel⟩
theorem def_shifted (T : TX K mg C) : Def P w K mg base "shifted" 1 pre_shifted := by
  refine Def.of (ps := ["rule", "wide", "places", "rank"]) T.h_shifted (fun _ _ _ _ _ _ us hl => match us, hl with | [_, _, _, _], _ => rfl) fun f fd F => ok_def F sc_shifted len_shifted fun cdv A outer s H E hr => ⟨_, _, ss_cons (s_setLc false (i := 4) sc_shifted.nd (own := [("at", 8)]) (i_range1 T.b_range (a_cons (d_v 1) (a_nil))) (blkOk_by (own := [("at", 8)]) (N := n_shifted) (sc := defScope s_shifted) (by decide +kernel)) (fun _ _ _ _ _ => g_name (i := 8) sc_shifted.nd) (fun _ _ _ _ _ => ts_one (t_cmp op_notInAll (opd_in true) (d_v 8) (d_v 2) rfl)) (fun _ _ _ _ _ => d_v 8) (keeps_name (by decide)) (sw_true rfl rfl rfl (by decide +kernel)))
    (ss_cons (s_setLc false (i := 5) sc_shifted.nd (own := [("at", 8)]) (i_list (d_v 4)) (blkOk_by (own := [("at", 8)]) (N := n_shifted) (sc := defScope s_shifted) (by decide +kernel)) (fun _ _ _ _ _ => g_name (i := 8) sc_shifted.nd) (fun _ _ _ _ _ => ts_one (DW.t (w_and (t_cmp o_gt opd_cmp (d_v 3) (d_int) (nomark _)) (w_and1 (t_cmp o_lt opd_cmp (d_v 8) (d_ix (d_v 2) (d_sub (d_v 3) (d_int))) (nomark _)))))) (fun _ _ _ _ _ => d_v 8) (keeps_name (by decide)) (sw_true rfl rfl rfl (by decide +kernel)))
    (ss_cons (s_setLc false (i := 6) sc_shifted.nd (own := [("at", 8)]) (i_list (d_v 4)) (blkOk_by (own := [("at", 8)]) (N := n_shifted) (sc := defScope s_shifted) (by decide +kernel)) (fun _ _ _ _ _ => g_name (i := 8) sc_shifted.nd) (fun _ _ _ _ _ => ts_one (DW.t (w_and (t_cmp o_lt opd_cmp (d_v 3) (d_callB cr_lenAll cd_len T.b_len (by decide +kernel) (a_cons (d_v 2) (a_nil))) (nomark _)) (w_and1 (t_cmp o_gt opd_cmp (d_v 8) (d_ix (d_v 2) (d_v 3)) (nomark _)))))) (fun _ _ _ _ _ => d_v 8) (keeps_name (by decide)) (sw_true rfl rfl rfl (by decide +kernel)))
    (ss_cons (s_set (i := 7) sc_shifted.nd (d_cmp (op_neAll (u64 hr)) opd_ne (d_v 5) (d_lst false (a_nil)) (nomark _)))
    (ss_cons (s_if (DW.t (w_and (t_cmp (op_eqAll (u64 hr)) opd_eq (d_v 0) (d_str) (nomark _)) (w_and (t_cmp (op_neAll (u64 hr)) opd_ne (d_v 5) (d_lst false (a_nil)) (nomark _)) (w_and1 (t_cmp (op_neAll (u64 hr)) opd_ne (d_v 6) (d_lst false (a_nil)) (nomark _))))))
    (ss_one (s_set (i := 7) sc_shifted.nd (d_cmp o_le opd_cmp (d_sub (d_ix (d_v 2) (d_sub (d_v 3) (d_int))) (d_ix (d_v 5) (d_neg (d_int)))) (d_sub (d_ix (d_v 6) (d_int)) (d_ix (d_v 2) (d_v 3))) (nomark _))))
    (ss_nil))
    (ss_cons (s_if (t_val (d_v 7))
    (ss_one (s_ret (d_callB c_sorted (cd_sorted false) T.b_sorted (by decide +kernel) (a_cons (d_add false (d_v 2) (d_lst false (a_cons (d_ix (d_v 5) (d_neg (d_int))) (a_nil)))) (a_nil)))))
    (ss_nil))
    (ss_one (s_ret (d_callB c_sorted (cd_sorted false) T.b_sorted (by decide +kernel) (a_cons (d_add false (d_v 2) (d_lst false (a_cons (d_ix (d_v 6) (d_int)) (a_nil)))) (a_nil)))))))))), ?_⟩
  rintro ds m Q ⟨r, w, pl, k, rfl, h1, h2, h3, h4, q⟩
  have hfl : (freeM w pl).length ≤ w := by
    unfold freeM
    exact Nat.le_trans (List.length_filter_le _ _) (by rw [List.length_range]; exact Nat.le_refl _)
  refine q_asg (.list (nums (freeM w pl))) (fun Q q => ?_) ?_
  · walk_at "dx"
    rw [Int.toNat_natCast]
    refine ⟨by omega, by omega, lc_range (fun i => !decide (i ∈ pl)) (fun i => .int (i : Nat)) (fun i hi Q' q' => ?_) (fun i hi hc Q' q' => ?_) (small_line (by omega)) q⟩
    · walk_at "dx"
      refine ⟨rfl, nums_flat pl, ?_⟩
      rw [show toV (.int (i : Nat)) = .int (i : Nat) from rfl, nums_in]
      exact q'
    · walk_at "dx"
      exact q'
  refine q_asg (.list (nums (beforeM w pl k))) (fun Q q => ?_) ?_
  · walk_at "dx"
    refine lc_nums (fun i => decide (0 < k) && decide (i < pl[k - 1]?.getD 0)) (fun i hi Q' q' => ?_) (small_line (by omega)) (by exact q)
    walk_at "dx"
    by_cases hk : 0 < k
    · rw [if_pos (by omega)]
      rw [decide_eq_true hk] at q'
      have hk' : k - 1 < pl.length := by omega
      refine ⟨_, by rw [show ((k : Int) - 1) = ((k - 1 : Nat) : Int) by omega]; exact nums_atN hk', ?_⟩
      walk_at "dx"
      rw [List.getElem?_eq_getElem hk'] at q'
      simpa using q'
    · rw [if_neg (by omega)]
      rw [decide_eq_false hk] at q'
      exact q'
  refine q_asg (.list (nums (behindM w pl k))) (fun Q q => ?_) ?_
  · walk_at "dx"
    refine lc_nums (fun i => decide (k < pl.length) && decide (pl[k]?.getD 0 < i)) (fun i hi Q' q' => ?_) (small_line (by omega)) (by exact q)
    walk_at "dx"
    rw [nums_len]
    by_cases hk : k < pl.length
    · rw [if_pos (by omega)]
      rw [decide_eq_true hk] at q'
      refine ⟨_, nums_atN hk, ?_⟩
      walk_at "dx"
      rw [List.getElem?_eq_getElem hk] at q'
      simpa using q'
    · rw [if_neg (by omega)]
      rw [decide_eq_false hk] at q'
      exact q'
  refine q_asg (.bl (!decide (beforeM w pl k = []))) (fun Q q => ?_) ?_
  · walk_at "dx"
    exact ⟨Nat.zero_le _, eq_nats _ [] (by simpa using q)⟩
  have last := @nums_last (beforeM w pl k)
  have first := @nums_first (behindM w pl k)
  refine q_ifAsg (decide (r = .near) && (!decide (beforeM w pl k = []) && !decide (behindM w pl k = []))) (.bl (goesM r w pl k)) (fun Q q => ?_) (fun hb Q q => ?_) (fun hb => ?_) ?_
  · walk_at "dx"
    simp only [rt_near]
    by_cases hr : r = .near
    · rw [decide_eq_true hr] at q
      rw [if_pos hr]
      refine ⟨Nat.zero_le _, eq_nats _ [] ?_⟩
      walk_at "dx"
      by_cases hx : beforeM w pl k = []
      · rw [if_neg (by simp [hx])]
        simpa [hx] using q
      · rw [if_pos (by simp [hx])]
        refine ⟨Nat.zero_le _, eq_nats _ [] ?_⟩
        walk_at "dx"
        simpa [hx] using q
    · rw [decide_eq_false hr] at q
      rw [if_neg hr]
      exact q
  · simp only [Bool.and_eq_true, decide_eq_true_eq, Bool.not_eq_true', decide_eq_false_iff_not] at hb
    obtain ⟨hr, hx, hy⟩ := hb
    have hk : 0 < k := by
      refine Nat.pos_of_ne_zero fun e => hx ?_
      subst e
      simp [beforeM]
    have hk2 : k < pl.length := by
      refine Nat.lt_of_not_le fun e => hy ?_
      have : ¬ k < pl.length := by omega
      simp [behindM, this]
    walk_at "dx"
    refine ⟨_, by rw [show ((k : Int) - 1) = ((k - 1 : Nat) : Int) by omega]; exact nums_atN (show k - 1 < pl.length by omega), _, last hx, ?_⟩
    walk_at "dx"
    refine ⟨_, first hy, _, nums_atN hk2, ?_⟩
    walk_at "dx"
    unfold goesM at q
    rw [if_pos ⟨hr, hx, hy⟩, List.getElem?_eq_getElem hk2, List.getElem?_eq_getElem (show k - 1 < pl.length by omega)] at q
    simp only [Option.getD_some] at q
    refine (congrArg (fun b => Q (.bl b) m) (decide_eq_decide.mpr ?_)).mp q
    omega
  · simp only [startD, n_shifted, List.length_cons, List.length_nil, List.map_cons, List.map_nil, List.replicate, List.cons_append, List.nil_append, List.set_cons_succ, List.set_cons_zero, List.getElem?_cons_succ, List.getElem?_cons_zero]
    refine congrArg (fun b => some (some (D.bl b))) ?_
    unfold goesM
    rw [if_neg]
    rintro ⟨h, hx, hy⟩
    simp [h, hx, hy] at hb
  refine q_when (goesM r w pl k) (fun Q q => ?_) (fun hb => ?_) (fun hb => ?_)
  · walk_at "dx"
    exact q
  · have hx : beforeM w pl k ≠ [] := by
      intro e
      unfold goesM at hb
      rw [if_neg (fun h => h.2.1 e), e] at hb
      simp at hb
    unfold shiftM at q
    rw [if_pos hb] at q
    walk_at "dx"
    refine ⟨_, last hx, by decide, ?_⟩
    rw [nums_len]
    refine ⟨Nat.le_trans (by omega : _ ≤ 100) (by decide), _, (by rw [nums_append, nums_ints]), ?_, ?_⟩
    · rw [List.length_map, List.length_append]
      simp
      omega
    · rw [isortN_ints, ← nums_ints]
      exact q
  · have hy : behindM w pl k ≠ [] := h4 hb
    unfold shiftM at q
    rw [if_neg (by rw [hb]; decide)] at q
    walk_at "dx"
    refine ⟨_, first hy, by decide, ?_⟩
    rw [nums_len]
    refine ⟨Nat.le_trans (by omega : _ ≤ 100) (by decide), _, (by rw [nums_append, nums_ints]), ?_, ?_⟩
    · rw [List.length_map, List.length_append]
      simp
      omega
    · rw [isortN_ints, ← nums_ints]
      exact q
def pre_even_places : Pre := fun ds m Q => ∃ (w n : Nat), ds = [.int w, .int n] ∧ w ≤ 6 ∧ n ≤ 6 ∧ Q (.list (nums (evenPl w n))) m
theorem len_even_places : ∀ ds m Q, pre_even_places ds m Q → ds.length = 2 := by
  rintro ds m Q ⟨w, pl, rfl, _⟩
  rfl
abbrev n_even_places : List Str := ["wide", "many", "number"]
theorem sc_even_places : FnScope n_even_places ["wide", "many"] (defScope s_even_places) := ⟨rfl, rfl, rfl, by decide +kernel, rfl, by decide +kernel, by decide +kernel⟩
theorem def_even_places (T : TX K mg C) : Def P w K mg base "even_places" 1 pre_even_places := by
  refine Def.of (ps := ["wide", "many"]) T.h_even_places (fun _ _ _ _ _ _ us hl => match us, hl with | [_, _], _ => rfl) fun f fd F => ok_def F sc_even_places len_even_places fun cdv A outer s H E hr => ⟨_, _, ss_one (s_ret (d_lc false sc_even_places.nd (own := [("number", 2)]) (i_range1 T.b_range (a_cons (d_v 1) (a_nil))) (blkOk_by (own := [("number", 2)]) (N := n_even_places) (sc := defScope s_even_places) (by decide +kernel)) (fun _ _ _ _ _ => g_name (i := 2) sc_even_places.nd) (fun _ _ _ _ _ => ts_nil) (fun _ _ _ _ _ => d_fdiv (d_mul false (d_v 2) (d_v 0)) (d_v 1)) (keeps_name (by decide)))), ?_⟩
  rintro ds m Q ⟨w, n, rfl, hw, hn, q⟩
  walk_at "dxs"
  refine ⟨by omega, by omega, ?_⟩
  rw [Int.toNat_natCast]
  refine lc_rangeAll (fun i => .int (i * w / n : Nat)) (fun i hi Q' q' => ?_) (small_line (by omega)) ?_
  · walk_at "dx"
    refine ⟨.inl ⟨by omega, by omega⟩, ⟨by omega, by omega⟩, ?_⟩
    simpa using q'
  · rw [show nums (evenPl w n) = (List.range n).map (fun i => D.int (i * w / n : Nat)) by unfold nums evenPl; rw [List.map_map]; rfl] at q
    exact q
def pre_places_behind : Pre := fun ds m Q => ∃ (r : Rl) (p : List Bool) (k : Nat), ds = [.str (rt r), .int p.length, .list (nums (placesOf p)), .int k] ∧ p.length ≤ 6 ∧ k ≤ (placesOf p).length ∧ (placesOf p).length < p.length ∧ Q (.list (nums (pbM r p.length (placesOf p) k))) m
theorem len_places_behind : ∀ ds m Q, pre_places_behind ds m Q → ds.length = 4 := by
  rintro ds m Q ⟨r, w, k, rfl, _⟩
  rfl
abbrev n_places_behind : List Str := ["rule", "wide", "places", "rank", "low", "high"]
theorem sc_places_behind : FnScope n_places_behind ["rule", "wide", "places", "rank"] (defScope s_places_behind) := ⟨rfl, rfl, rfl, by decide +kernel, rfl, by decide +kernel, by decide +kernel⟩
theorem def_places_behind (T : TX K mg C) : Def P w K mg base "places_behind" 2 pre_places_behind := by
  refine Def.of (ps := ["rule", "wide", "places", "rank"]) T.h_places_behind (fun _ _ _ _ _ _ us hl => match us, hl with | [_, _, _, _], _ => rfl) fun f fd F => ok_def F sc_places_behind len_places_behind fun cdv A outer s H E hr => ⟨_, _, ss_cons (s_set (i := 4) sc_places_behind.nd (d_ifx (t_cmp o_gt opd_cmp (d_v 3) (d_int) (nomark _)) (d_ix (d_v 2) (d_sub (d_v 3) (d_int))) (d_neg (d_int))))
    (ss_cons (s_set (i := 5) sc_places_behind.nd (d_ifx (t_cmp o_lt opd_cmp (d_v 3) (d_callB cr_lenAll cd_len T.b_len (by decide +kernel) (a_cons (d_v 2) (a_nil))) (nomark _)) (d_ix (d_v 2) (d_v 3)) (d_v 1)))
    (ss_cons (s_if (t_cmp o_gt opd_cmp (d_sub (d_v 5) (d_v 4)) (d_int) (nomark _))
    (ss_one (s_ret (d_callB c_sorted (cd_sorted false) T.b_sorted (by decide +kernel) (a_cons (d_add false (d_v 2) (d_lst false (a_cons (d_fdiv (d_add false (d_v 4) (d_v 5)) (d_int)) (a_nil)))) (a_nil)))))
    (ss_nil))
    (ss_cons (s_if (t_cmp (op_eqAll (u64 hr)) opd_eq (d_v 0) (d_str) (nomark _))
    (ss_one (s_ret (d_call (def_even_places T) (hr.mono (by decide)) (a_cons (d_v 1) (a_cons (d_add false (d_callB cr_lenAll cd_len T.b_len (by decide +kernel) (a_cons (d_v 2) (a_nil))) (d_int)) (a_nil))))))
    (ss_nil))
    (ss_one (s_ret (d_call (def_shifted T) (hr.mono (by decide)) (a_cons (d_v 0) (a_cons (d_v 1) (a_cons (d_v 2) (a_cons (d_v 3) (a_nil))))))))))), ?_⟩
  rintro ds m Q ⟨r, p, k, rfl, h1, h2, h3, q⟩
  have hok := (pb_ok h1 r h2 h3).2
  rw [pbM_eq] at q
  refine q_asg (.int (lowM (placesOf p) k)) (fun Q q => ?_) ?_
  · walk_at "dx"
    unfold lowM at q
    by_cases hk : 0 < k
    · rw [if_pos hk] at q
      rw [if_pos (by omega)]
      have hk' : k - 1 < (placesOf p).length := by omega
      rw [List.getElem?_eq_getElem hk'] at q
      exact ⟨_, by rw [show ((k : Int) - 1) = ((k - 1 : Nat) : Int) by omega]; exact nums_atN hk', q⟩
    · rw [if_neg hk] at q
      rw [if_neg (by omega)]
      exact q
  refine q_asg (.int (highM p.length (placesOf p) k)) (fun Q q => ?_) ?_
  · walk_at "dx"
    rw [nums_len]
    unfold highM at q
    by_cases hk : k < (placesOf p).length
    · rw [if_pos hk, List.getElem?_eq_getElem hk] at q
      rw [if_pos (by omega)]
      exact ⟨_, nums_atN hk, q⟩
    · rw [if_neg hk] at q
      rw [if_neg (by omega)]
      exact q
  have hlow : -1 ≤ lowM (placesOf p) k := by
    unfold lowM
    split <;> omega
  refine q_when (decide (highM p.length (placesOf p) k - lowM (placesOf p) k > 1)) (fun Q q => ?_) (fun hb => ?_) (fun hb => ?_)
  · walk_at "dx"
    exact q
  · rw [decide_eq_true_eq] at hb
    rw [if_pos hb] at q
    walk_at "dx"
    refine ⟨⟨by decide, by decide⟩, by decide, ?_⟩
    rw [nums_len]
    refine ⟨Nat.le_trans (by omega : _ ≤ 100) (by decide), ((placesOf p ++ [((lowM (placesOf p) k + highM p.length (placesOf p) k) / 2).toNat]).map fun n : Nat => (n : Int)), ?_, ?_, ?_⟩
    · rw [← nums_ints, ← nums_append]
      congr 3
      omega
    · rw [List.length_map, List.length_append]
      simp
      omega
    · rw [isortN_ints, ← nums_ints]
      exact q
  · rw [decide_eq_false_iff_not] at hb
    rw [if_neg hb] at q
    refine q_when (decide (r = .even)) (fun Q q => ?_) (fun hc => ?_) (fun hc => ?_)
    · walk_at "dx"
      simp only [rt_even]
      exact q
    · rw [decide_eq_true_eq] at hc
      rw [if_pos hc] at q
      walk_at "dx"
      rw [nums_len]
      exact ⟨p.length, (placesOf p).length + 1, rfl, h1, by omega, q⟩
    · rw [decide_eq_false_iff_not] at hc
      rw [if_neg hc] at q
      walk_at "dx"
      exact ⟨r, p.length, placesOf p, k, rfl, h1, h2, by omega, hok hb, q⟩
def pre_pattern_of : Pre := fun ds m Q => ∃ (w : Nat) (pl : List Nat), ds = [.int w, .list (nums pl)] ∧ w ≤ 6 ∧ Q (.str (ps (patOf w pl))) m
theorem len_pattern_of : ∀ ds m Q, pre_pattern_of ds m Q → ds.length = 2 := by
  rintro ds m Q ⟨w, pl, rfl, _⟩
  rfl
abbrev n_pattern_of : List Str := ["wide", "places", "at"]
theorem sc_pattern_of : FnScope n_pattern_of ["wide", "places"] (defScope s_pattern_of) := ⟨rfl, rfl, rfl, by decide +kernel, rfl, by decide +kernel, by decide +kernel⟩
theorem def_pattern_of (T : TX K mg C) : Def P w K mg base "pattern_of" 1 pre_pattern_of := by
  refine Def.of (ps := ["wide", "places"]) T.h_pattern_of (fun _ _ _ _ _ _ us hl => match us, hl with | [_, _], _ => rfl) fun f fd F => ok_def F sc_pattern_of len_pattern_of fun cdv A outer s H E hr => ⟨_, _, ss_one (s_ret (d_bm PySem.F.plainAttrs_str PySem.F.slot_str_join PySem.F.type_str_join m_join md_join tyS' (d_str) (a_cons (d_lc false sc_pattern_of.nd (own := [("at", 2)]) (i_range1 T.b_range (a_cons (d_v 0) (a_nil))) (blkOk_by (own := [("at", 2)]) (N := n_pattern_of) (sc := defScope s_pattern_of) (by decide +kernel)) (fun _ _ _ _ _ => g_name (i := 2) sc_pattern_of.nd) (fun _ _ _ _ _ => ts_nil) (fun _ _ _ _ _ => d_ifx (t_cmp op_inAll (opd_in false) (d_v 2) (d_v 1) rfl) (d_glob T.c_TAKEN) (d_glob T.c_FREE)) (keeps_name (by decide))) (a_nil)))), ?_⟩
  rintro ds m Q ⟨w, pl, rfl, hw, q⟩
  walk_at "dxs"
  refine ⟨⟨_, rfl⟩, by omega, by omega, ?_⟩
  rw [Int.toNat_natCast]
  refine lc_rangeAll (fun i => .str (if decide (i ∈ pl) then "1" else "0")) (fun i hi Q' q' => ?_) (small_line (by omega)) ?_
  · walk_at "dx"
    refine ⟨rfl, nums_flat pl, ?_⟩
    rw [show toV (.int (i : Nat)) = .int (i : Nat) from rfl, nums_in]
    revert q'
    cases decide (i ∈ pl) <;> exact fun q => q
  · refine ⟨(patOf w pl).map fun b => if b then ("1" : Str) else "0", ?_, ?_, ?_⟩
    · unfold patOf
      rw [List.map_map, List.map_map]
      rfl
    · rw [signs_sum]
      simp only [patOf, List.length_map, List.length_range]
      have : ("" : Str).length = 0 := by decide +kernel
      rw [this]
      omega
    · rw [join_signs]
      exact q
def pre_moved : Pre := fun ds m Q => ∃ (pl ot : List Nat) (k : Nat), ds = [.list (nums pl), .list (nums ot), .int k] ∧ ot.length = pl.length + 1 ∧ k ≤ pl.length ∧ pl.length ≤ 100 ∧ Q (.int (movedM pl ot k : Nat)) m
theorem len_moved : ∀ ds m Q, pre_moved ds m Q → ds.length = 3 := by
  rintro ds m Q ⟨w, pl, k, rfl, _⟩
  rfl
abbrev n_moved : List Str := ["places", "others", "rank", "rest", "at"]
theorem sc_moved : FnScope n_moved ["places", "others", "rank"] (defScope s_moved) := ⟨rfl, rfl, rfl, by decide +kernel, rfl, by decide +kernel, by decide +kernel⟩
theorem def_moved (T : TX K mg C) : Def P w K mg base "moved" 1 pre_moved := by
  refine Def.of (ps := ["places", "others", "rank"]) T.h_moved (fun _ _ _ _ _ _ us hl => match us, hl with | [_, _, _], _ => rfl) fun f fd F => ok_def F sc_moved len_moved fun cdv A outer s H E hr => ⟨_, _, ss_cons (s_set (i := 3) sc_moved.nd (d_add false (d_slice false (d_v 1) (o_none) (o_some (d_v 2))) (d_slice false (d_v 1) (o_some (d_add false (d_v 2) (d_int))) (o_none))))
    (ss_one (s_ret (d_callB cr_lenAll cd_len T.b_len (by decide +kernel) (a_cons (d_lc false sc_moved.nd (own := [("at", 4)]) (i_range1 T.b_range (a_cons (d_callB cr_lenAll cd_len T.b_len (by decide +kernel) (a_cons (d_v 0) (a_nil))) (a_nil))) (blkOk_by (own := [("at", 4)]) (N := n_moved) (sc := defScope s_moved) (by decide +kernel)) (fun _ _ _ _ _ => g_name (i := 4) sc_moved.nd) (fun _ _ _ _ _ => ts_one (t_cmp (op_neAll (u64 hr)) opd_ne (d_ix (d_v 0) (d_v 4)) (d_ix (d_v 3) (d_v 4)) (nomark _))) (fun _ _ _ _ _ => d_v 4) (keeps_name (by decide))) (a_nil))))), ?_⟩
  rintro ds m Q ⟨pl, ot, k, rfl, h1, h2, h3, q⟩
  refine q_asg (.list (nums (ot.eraseIdx k))) (fun Q q => ?_) ?_
  · walk_at "dx"
    rw [cut_take, cut_drop1, take_drop_erase, nums_erase]
    refine ⟨?_, q⟩
    simp only [List.length_take, List.length_drop, nums_len]
    exact Nat.le_trans (by omega : _ ≤ 300) (by decide)
  · walk_at "dx"
    rw [nums_len, Int.toNat_natCast]
    refine ⟨by omega, by omega, ?_⟩
    have hel : (ot.eraseIdx k).length = pl.length := by
      rw [List.length_eraseIdx, if_pos (by omega)]
      omega
    refine lc_range (fun i => !decide (pl[i]? = (ot.eraseIdx k)[i]?)) (fun i => .int (i : Nat)) (fun i hi Q' q' => ?_) (fun i hi hc Q' q' => ?_) (small_line (by omega)) ?_
    · walk_at "dx"
      refine ⟨_, nums_atN hi, _, nums_atN (hel.symm ▸ hi), ?_⟩
      rw [List.getElem?_eq_getElem hi, List.getElem?_eq_getElem (hel.symm ▸ hi)] at q'
      simpa [Int.ofNat_inj] using q'
    · walk_at "dx"
      exact q'
    · rw [List.length_map]
      exact q
def pre_step : Pre := fun ds m Q => ∃ (r : Rl) (p : List Bool) (word : Str) (k : Int), ds = [.str (rt r), .str (ps p), .tuple [.str word, .int k]] ∧ p.length ≤ 6 ∧ Q (stepD (stepM r p word k)) m
theorem len_step : ∀ ds m Q, pre_step ds m Q → ds.length = 3 := by
  rintro ds m Q ⟨r, w, k, _, rfl, _⟩
  rfl
abbrev n_step : List Str := ["rule", "pattern", "deed", "places", "word", "rank", "others"]
theorem sc_step : FnScope n_step ["rule", "pattern", "deed"] (defScope s_step) := ⟨rfl, rfl, rfl, by decide +kernel, rfl, by decide +kernel, by decide +kernel⟩
theorem def_step (T : TX K mg C) : Def P w K mg base "step" 3 pre_step := by
  refine Def.of (ps := ["rule", "pattern", "deed"]) T.h_step (fun _ _ _ _ _ _ us hl => match us, hl with | [_, _, _], _ => rfl) fun f fd F => ok_def F sc_step len_step fun cdv A outer s H E hr => ⟨_, _, ss_cons (s_set (i := 3) sc_step.nd (d_call (def_places_of T) (hr.mono (by decide)) (a_cons (d_v 1) (a_nil))))
    (ss_cons (s_asg (d_v 2) (g_tup (n := 2) (gs_cons (g_name (i := 4) sc_step.nd) (gs_cons (g_name (i := 5) sc_step.nd) (gs_nil)))))
    (ss_cons (s_if (DW.t (w_and (t_cmp (op_eqAll (u64 hr)) opd_eq (d_v 4) (d_str) (nomark _)) (w_and1 (t_chain o_le o_lt opd_cmp opd_cmp (d_int) (d_v 5) (d_callB cr_lenAll cd_len T.b_len (by decide +kernel) (a_cons (d_v 3) (a_nil)))))))
    (ss_one (s_ret (d_tup (a_cons (d_int) (a_cons (d_call (def_pattern_of T) (hr.mono (by decide)) (a_cons (d_callB cr_lenAll cd_len T.b_len (by decide +kernel) (a_cons (d_v 1) (a_nil))) (a_cons (d_add false (d_slice false (d_v 3) (o_none) (o_some (d_v 5))) (d_slice false (d_v 3) (o_some (d_add false (d_v 5) (d_int))) (o_none))) (a_nil)))) (a_nil))))))
    (ss_nil))
    (ss_cons (s_if (DW.t (w_and (t_cmp (op_eqAll (u64 hr)) opd_eq (d_v 4) (d_str) (nomark _)) (w_and1 (t_chain3 o_le o_le o_lt opd_cmp opd_cmp opd_cmp (d_int) (d_v 5) (d_callB cr_lenAll cd_len T.b_len (by decide +kernel) (a_cons (d_v 3) (a_nil))) (d_callB cr_lenAll cd_len T.b_len (by decide +kernel) (a_cons (d_v 1) (a_nil)))))))
    (ss_cons (s_set (i := 6) sc_step.nd (d_call (def_places_behind T) (hr.mono (by decide)) (a_cons (d_v 0) (a_cons (d_callB cr_lenAll cd_len T.b_len (by decide +kernel) (a_cons (d_v 1) (a_nil))) (a_cons (d_v 3) (a_cons (d_v 5) (a_nil)))))))
    (ss_one (s_ret (d_tup (a_cons (d_call (def_moved T) (hr.mono (by decide)) (a_cons (d_v 3) (a_cons (d_v 6) (a_cons (d_v 5) (a_nil))))) (a_cons (d_call (def_pattern_of T) (hr.mono (by decide)) (a_cons (d_callB cr_lenAll cd_len T.b_len (by decide +kernel) (a_cons (d_v 1) (a_nil))) (a_cons (d_v 6) (a_nil)))) (a_nil)))))))
    (ss_nil))
    (ss_one (s_ret (d_non)))))), ?_⟩
  rintro ds m Q ⟨r, p, word, k, rfl, h1, q⟩
  have hpl := pl_len p
  refine q_asg (.list (nums (placesOf p))) (fun Q q => ?_) ?_
  · walk_at "dx"
    exact ⟨p, rfl, h1, q⟩
  refine q_asgG (e1 := [some (.str (rt r)), some (.str (ps p)), some (.tuple [.str word, .int k]), some (.list (nums (placesOf p))), some (.str word), some (.int k), none]) (fun Q q => ?_) ?_
  · walk_at "dx"
    exact q
  have e1 : (placesOf p).length ≤ 6 := by omega
  unfold stepM at q
  refine q_when (decide (word = "take" ∧ 0 ≤ k ∧ k < (placesOf p).length)) (fun Q q => ?_) (fun hb => ?_) (fun hb => ?_)
  · walk_at "dx"
    rw [nums_len]
    by_cases h : word = "take"
    · rw [if_pos h]
      by_cases h0 : 0 ≤ k
      · rw [if_pos h0]
        simpa [h, h0] using q
      · rw [if_neg h0]
        simpa [h, h0] using q
    · rw [if_neg h]
      simpa [h] using q
  · rw [decide_eq_true_eq] at hb
    rw [if_pos hb] at q
    obtain ⟨k, rfl⟩ := Int.eq_ofNat_of_zero_le hb.2.1
    walk_at "dx"
    rw [ps_len, cut_take, cut_drop1, take_drop_erase, nums_erase]
    simp only [List.length_take, List.length_drop, nums_len]
    refine ⟨Nat.le_trans h1 (by decide), Nat.le_trans (by omega : _ ≤ 100) (by decide), p.length, _, rfl, h1, by decide, ?_⟩
    exact q
  · rw [decide_eq_false_iff_not] at hb
    rw [if_neg hb] at q
    refine q_when (decide (word = "put" ∧ 0 ≤ k ∧ k ≤ (placesOf p).length ∧ (placesOf p).length < p.length)) (fun Q q => ?_) (fun hc => ?_) (fun hc => ?_)
    · walk_at "dx"
      rw [nums_len, ps_len]
      by_cases h : word = "put"
      · rw [if_pos h]
        by_cases h0 : 0 ≤ k
        · rw [if_pos h0]
          by_cases h2 : k ≤ (placesOf p).length
          · rw [if_pos h2]
            refine ⟨Nat.le_trans h1 (by decide), ?_⟩
            simpa [h, h0, h2] using q
          · rw [if_neg h2]
            simpa [h, h0, h2] using q
        · rw [if_neg h0]
          simpa [h, h0] using q
      · rw [if_neg h]
        simpa [h] using q
    · rw [decide_eq_true_eq] at hc
      rw [if_pos hc] at q
      obtain ⟨hw, h0, h2, h3⟩ := hc
      obtain ⟨k, rfl⟩ := Int.eq_ofNat_of_zero_le h0
      have hk : k ≤ (placesOf p).length := by omega
      have hpb := (pb_ok h1 r hk h3).1
      refine q_asg (.list (nums (pbM r p.length (placesOf p) k))) (fun Q q => ?_) ?_
      · walk_at "dx"
        rw [ps_len]
        exact ⟨Nat.le_trans h1 (by decide), r, p, k, rfl, h1, hk, h3, q⟩
      · walk_at "dx"
        rw [ps_len]
        exact ⟨_, _, k, rfl, hpb, hk, by omega, Nat.le_trans h1 (by decide), p.length, _, rfl, h1, by decide, q⟩
    · rw [decide_eq_false_iff_not] at hc
      rw [if_neg hc] at q
      walk_at "dx"
      exact q
def pre_played : Pre := fun ds m Q => ∃ (r : Rl) (w : Nat) (l : List (Wd × Nat)) (o : List Nat × List Bool), ds = [.str (rt r), .int w, .list (deedsD l)] ∧ 1 ≤ w ∧ w ≤ 6 ∧ l.length ≤ 200 ∧ playM r (List.replicate w false) l = some o ∧ ∀ a, m a = none → Q (.tuple [.adr a, .str (ps o.2)]) (ups m a (.lst (nums o.1)))
theorem len_played : ∀ ds m Q, pre_played ds m Q → ds.length = 3 := by
  rintro ds m Q ⟨r, w, k, _, rfl, _⟩
  rfl
abbrev n_played : List Str := ["rule", "wide", "deeds", "pattern", "found", "number", "deed", "told"]
theorem sc_played : FnScope n_played ["rule", "wide", "deeds"] (defScope s_played) := ⟨rfl, rfl, rfl, by decide +kernel, rfl, by decide +kernel, by decide +kernel⟩
theorem def_played (T : TX K mg C) : Def P w K mg base "played" 4 pre_played := by
  refine Def.of (ps := ["rule", "wide", "deeds"]) T.h_played (fun _ _ _ _ _ _ us hl => match us, hl with | [_, _, _], _ => rfl) fun f fd F => ok_def F sc_played len_played fun cdv A outer s H E hr => ⟨_, _, ss_cons (s_expr (d_call (def_need_rule T) (hr.mono (by decide)) (a_cons (d_v 0) (a_nil))))
    (ss_cons (s_expr (d_call (def_need_width T) (hr.mono (by decide)) (a_cons (d_v 1) (a_nil))))
    (ss_cons (s_set (i := 3) sc_played.nd (d_mul false (d_glob T.c_FREE) (d_v 1)))
    (ss_cons (s_set (i := 4) sc_played.nd (d_lst true (a_nil)))
    (ss_cons (s_for (i_enum T.b_enumerate (a_cons (d_v 2) (a_nil))) (g_tup (n := 2) (gs_cons (g_name (i := 5) sc_played.nd) (gs_cons (g_name (i := 6) sc_played.nd) (gs_nil))))
    (ss_cons (s_set (i := 7) sc_played.nd (d_call (def_step T) (hr.mono (by decide)) (a_cons (d_v 0) (a_cons (d_v 3) (a_cons (d_v 6) (a_nil))))))
    (ss_cons (s_if (t_cmp op_isN opd_isN (d_v 7) (d_non) (nomark _))
    (ss_one (s_never))
    (ss_nil))
    (ss_cons (s_expr (d_bm PySem.F.plainAttrs_list PySem.F.slot_list_append PySem.F.type_list_append mt_append md_append tyL' (d_v 4) (a_cons (d_ix (d_v 7) (d_int)) (a_nil))))
    (ss_one (s_set (i := 3) sc_played.nd (d_ix (d_v 7) (d_int))))))))
    (ss_one (s_ret (d_tup (a_cons (d_v 4) (a_cons (d_v 3) (a_nil)))))))))), ?_⟩
  rintro ds m Q ⟨r, w, l, o, rfl, h1, h2, h3, ho, q⟩
  refine q_drop (fun Q q => ?_) ?_
  · walk_at "dx"
    exact ⟨r, rfl, q _⟩
  refine q_drop (fun Q q => ?_) ?_
  · walk_at "dx"
    exact ⟨w, rfl, by omega, by omega, q _⟩
  refine q_asg (.str (ps (List.replicate w false))) (fun Q q => ?_) ?_
  · walk_at "dx"
    refine ⟨zeros_ok h1 h2, ?_⟩
    rw [zeros_eq h1 h2]
    exact q
  refine q_new (ds := []) (fun Q q => ?_) fun a ha => ?_
  · walk_at "dx"
    exact ⟨Nat.zero_le _, q⟩
  refine q_for (enumD 0 (deedsD l)) (fun Q q => ?_) (fun i env m' => ∃ ns p' x y z, m' = ups m a (.lst (nums ns)) ∧ ns.length = i ∧ p'.length = w ∧ env = [some (.str (rt r)), some (.int w), some (.list (deedsD l)), some (.str (ps p')), some (.adr a), x, y, z] ∧ ∃ o', playM r p' (l.drop i) = some o' ∧ o = (ns ++ o'.1, o'.2))
    ⟨[], List.replicate w false, _, _, _, rfl, rfl, by simp, rfl, o, ho, by simp⟩ ?_ ?_
  · walk_at "dx"
    exact q
  · rintro i d hd env m' ⟨ns, p', x, y, z, rfl, hl, hp, rfl, o', ho', e⟩ nx hn
    rw [enumD_get] at hd
    obtain ⟨t, ht, rfl⟩ := Option.map_eq_some_iff.mp hd
    unfold deedsD at ht
    rw [List.getElem?_map] at ht
    obtain ⟨⟨wd, k⟩, hc, rfl⟩ := Option.map_eq_some_iff.mp ht
    have hi := (List.getElem?_eq_some_iff.mp hc).1
    have hdr : l.drop i = (wd, k) :: l.drop (i + 1) := by
      rw [← (List.getElem?_eq_some_iff.mp hc).2, List.getElem_cons_drop]
    rw [hdr, playM] at ho'
    cases hs : stepW r p' (wd, k) with
    | none =>
      rw [hs] at ho'
      cases ho'
    | some nq =>
      obtain ⟨n, q'⟩ := nq
      rw [hs] at ho'
      simp only at ho'
      cases hpl : playM r q' (l.drop (i + 1)) with
      | none =>
        rw [hpl] at ho'
        cases ho'
      | some o2 =>
        rw [hpl] at ho'
        cases ho'
        have hq' : q'.length = w := by rw [← hp]; exact stepM_len hs
        walk_at "dg"
        refine q_asg (stepD (some (n, q'))) (fun Q q => ?_) ?_
        · walk_at "dx"
          refine ⟨r, p', wt wd, (k : Nat), rfl, by omega, ?_⟩
          rw [show stepM r p' (wt wd) (k : Nat) = some (n, q') from hs]
          exact q
        refine q_when false (fun Q q => ?_) (fun hb => by cases hb) (fun _ => ?_)
        · walk_at "dx"
          exact q
        refine q_dropM (m1 := ups m a (.lst (nums (ns ++ [n])))) (fun Q q => ?_) ?_
        · unfold stepD
          walk_at "dx"
          rw [nums_len, nums_append]
          exact ⟨small_line (by omega), q _⟩
        refine s_asg' (.str (ps q')) (fun Q q => ?_) ?_
        · unfold stepD
          walk_at "dx"
          exact q
        refine hn _ _ ⟨ns ++ [n], q', _, _, _, rfl, by simp [hl], hq', rfl, o2, hpl, ?_⟩
        rw [e]
        simp
  · rintro env m' ⟨ns, p', x, y, z, rfl, hl, hp, rfl, o', ho', e⟩
    rw [enumD_length, deedsD, List.length_map, List.drop_length] at ho'
    cases ho'
    have q := q a ha
    rw [e] at q
    simp only [List.append_nil] at q
    walk_at "dx"
    exact ⟨by decide, q⟩
def pre_Shelf_take_out (C : Addr) : Pre := fun ds m Q => ∃ (a b : Addr) (S : Sh) (key : Int), ds = [.adr a, .int key] ∧ ShAt C m a b S ∧ key ∈ S.ks ∧ ∀ m' b', ShAt C m' a b' (S.take key) → Keep m m' a b b' → Q .non m'
theorem len_Shelf_take_out (C : Addr) : ∀ ds m Q, pre_Shelf_take_out C ds m Q → ds.length = 2 := by
  rintro ds m Q ⟨a, b, S, k, rfl, _⟩
  rfl
abbrev n_Shelf_take_out : List Str := ["self", "key", "one"]
theorem sc_Shelf_take_out : FnScope n_Shelf_take_out ["self", "key"] (defScope s_Shelf_take_out) := ⟨rfl, rfl, rfl, by decide +kernel, rfl, by decide +kernel, by decide +kernel⟩
theorem mdef_take_out (T : TX K mg C) : MDef P w K mg base C "take_out" 1 (pre_Shelf_take_out C) := by
  refine MDef.of (ps := ["self", "key"]) T.h_Shelf_take_out (fun _ _ _ _ _ _ us hl => match us, hl with | [_, _], _ => rfl) fun f fd F => ok_def F sc_Shelf_take_out (len_Shelf_take_out C) fun cdv A outer s H E hr => ⟨_, _, ss_cons (s_if (t_cmp op_notInAll (opd_in true) (d_v 1) (d_fld T.cl T.na_row (d_v 0)) rfl)
    (ss_one (s_never))
    (ss_nil))
    (ss_fzF "row" (ss_one (s_fld T.cl T.na_row (d_lc true sc_Shelf_take_out.nd (own := [("one", 2)]) (i_list (d_fld T.cl T.na_row (d_v 0))) (blkOk_by (own := [("one", 2)]) (N := n_Shelf_take_out) (sc := defScope s_Shelf_take_out) (by decide +kernel)) (fun _ _ _ _ _ => g_name (i := 2) sc_Shelf_take_out.nd) (fun _ _ _ _ _ => ts_nil) (fun _ _ _ _ _ => d_ifx (t_cmp (op_eqAll (u64 hr)) opd_eq (d_v 2) (d_v 1) (nomark _)) (d_non) (d_v 2)) (keeps_name (by decide))) (d_v 0)))), ?_⟩
  rintro ds m Q ⟨a, b, S, key, rfl, ⟨ok, ha, hb, nab⟩, hn, q⟩
  have hlen : S.row.length = S.p.length := rowOf_len _
  have h6 := ok.w6
  have hkl := ok.len
  refine q_when false (fun Q q => ?_) nofun (fun _ => ?_)
  · walk_at "dx"
    refine ⟨_, ha, _, shF_row, rowD S.row, ?_, rfl, row_flat _, ?_⟩
    · simp only [hb]
    · rw [show (D.int key) = Cod.enc (some key) from rfl, row_in, show decide (some key ∈ S.row) = true from decide_eq_true ((rowOf_mem h6 hkl key).mpr hn)]
      exact q
  refine ⟨a, b, _, _, _, ha, shF_row, hb, nab, ?_⟩
  rw [put_row]
  obtain ⟨i1, i2, i3⟩ := rank_mem ok.inc hn
  refine s_sfldNew (ds := rowD (S.take key).row) (a := a) (fun Q q => ?_) (fun m1 Q q => ?_) ups_same (Nat.lt_of_le_of_lt (Nat.le_of_eq shF_len) (by decide)) (fun c hc nac => ?_)
  · walk_at "dx"
    unfold rowD
    refine lc_mapAll (fun x => Cod.enc (if x = some key then none else x)) (fun x hx Q' q' => ?_) (small_line (by omega)) ?_
    · walk_at "dx"
      cases x with
      | none => exact eq_cod (α := Option Int) none (some key) (by decide) ⟨_, rfl, q'⟩
      | some v =>
        simp only [Option.some.injEq] at q'
        show if v = key then _ else _
        split
        · rename_i hv
          rw [if_pos hv] at q'
          exact q'
        · rename_i hv
          rw [if_neg hv] at q'
          exact q'
    · have e := take_row h6 hkl i1 ok.inc.nodup
      rw [i2] at e
      have e2 : S.row.map (fun x => (Cod.enc (if x = some key then none else x) : D)) = rowD (S.take key).row := by
        unfold rowD Sh.take Sh.row
        simp only
        rw [i3, ← e, List.map_map]
        rfl
      rw [e2]
      exact q
  · walk_at "dx"
    exact q
  · rw [put_row]
    have hmb : ∀ x o, m x = some o → x ≠ a → x ≠ b → (ups (del m b) a (.ins C (shF S.r S.p.length (.list (rowD S.row)) S.n))) x = some o := fun x o h1 h2 h3 => by
      rw [ups_ne h2]
      unfold del
      rw [if_neg h3]
      exact h1
    have hpp : S.p.length = (S.take key).p.length := (patOf_len _ _).symm
    refine q _ c ⟨Sh.take_ok ok hn, ?_, by rw [ups_ne nac.symm, ups_same], nac⟩ fun x o h1 h2 h3 => ⟨?_, ?_⟩
    · rw [ups_same, hpp]
      rfl
    · rw [ups_ne h2, ups_ne, hmb x o h1 h2 h3]
      rintro rfl
      rw [hmb x o h1 h2 h3] at hc
      cases hc
    · rintro rfl
      rw [hmb x o h1 h2 h3] at hc
      cases hc
def pre_need_pattern : Pre := fun ds m Q => ∃ p : List Bool, ds = [.str (ps p)] ∧ p.length ≤ 6 ∧ p ≠ [] ∧ Q .non m
theorem len_need_pattern : ∀ ds m Q, pre_need_pattern ds m Q → ds.length = 1 := by
  rintro ds m Q ⟨w, rfl, _⟩
  rfl
abbrev n_need_pattern : List Str := ["pattern", "at", "sign"]
theorem sc_need_pattern : FnScope n_need_pattern ["pattern"] (defScope s_need_pattern) := ⟨rfl, rfl, rfl, by decide +kernel, rfl, by decide +kernel, by decide +kernel⟩
theorem def_need_pattern (T : TX K mg C) : Def P w K mg base "need_pattern" 1 pre_need_pattern := by
  refine Def.of (ps := ["pattern"]) T.h_need_pattern (fun _ _ _ _ _ _ us hl => match us, hl with | [_], _ => rfl) fun f fd F => ok_def F sc_need_pattern len_need_pattern fun cdv A outer s H E hr => ⟨_, _, ss_cons (s_for (i_enumS T.b_enumerate (a_cons (d_v 0) (a_nil))) (g_tup (n := 2) (gs_cons (g_name (i := 1) sc_need_pattern.nd) (gs_cons (g_name (i := 2) sc_need_pattern.nd) (gs_nil))))
    (ss_one (s_if (DW.t (w_or (t_cmp o_ge opd_cmp (d_v 1) (d_glob T.c_MOST_WIDE) (nomark _)) (w_or1 (t_cmp op_notInAll (opd_in true) (d_v 2) (d_tup (a_cons (d_glob T.c_FREE) (a_cons (d_glob T.c_TAKEN) (a_nil)))) rfl))))
    (ss_one (s_never))
    (ss_nil))))
    (ss_one (s_if (t_cmp (op_eqAll (u64 hr)) opd_eq (d_v 0) (d_str) (nomark _))
    (ss_one (s_never))
    (ss_nil))), ?_⟩
  rintro ds m Q ⟨p, rfl, h1, h2, q⟩
  unfold dSeq dFor
  walk_at "dx"
  refine forD_inv (fun i env m' => m' = m ∧ ∃ a b, env = [some (.str (ps p)), a, b]) _ 0 ?_ ?_ _ _ ⟨rfl, _, _, rfl⟩
  · rintro i d hd env m' ⟨rfl, a, b, rfl⟩ nx hn
    rw [enumD_get] at hd
    obtain ⟨x, hx, rfl⟩ := Option.map_eq_some_iff.mp hd
    obtain ⟨c, hc, rfl⟩ := by
      rw [List.getElem?_map] at hx
      exact Option.map_eq_some_iff.mp hx
    have hi : i < p.length := by
      have := (List.getElem?_eq_some_iff.mp hc).1
      simpa [ps] using this
    have hcb : c = if p[i] then 49 else 48 := by
      have : (ps p).cps.toList[i]? = some (if p[i] then 49 else 48) := by simp [ps, hi]
      rw [this] at hc
      exact (Option.some.inj hc).symm
    walk_at "dx"
    rw [if_neg (by omega)]
    refine ⟨by decide, rfl, rfl, ?_⟩
    have hin : inV (toV (.str ⟨#[c]⟩)) [toV (.str "0"), toV (.str "1")] = true := by
      rw [hcb]
      cases p[i] <;> decide +kernel
    rw [hin]
    exact hn _ _ ⟨rfl, _, _, rfl⟩
  · rintro env m' ⟨rfl, a, b, rfl⟩
    walk_at "dx"
    rw [if_neg ?_]
    · exact q
    · intro e
      have := congrArg Str.length e
      rw [ps_len] at this
      cases p
      · exact h2 rfl
      · cases this
def pre_done : Pre := fun ds m Q => ∃ (r : Rl) (p : List Bool) (word : Str) (k : Int) (o : Nat × List Bool), ds = [.str (rt r), .str (ps p), .tuple [.str word, .int k]] ∧ p.length ≤ 6 ∧ p ≠ [] ∧ stepM r p word k = some o ∧ Q (stepD (some o)) m
theorem len_done : ∀ ds m Q, pre_done ds m Q → ds.length = 3 := by
  rintro ds m Q ⟨r, w, k, _, _, rfl, _⟩
  rfl
abbrev n_done : List Str := ["rule", "pattern", "deed", "found"]
theorem sc_done : FnScope n_done ["rule", "pattern", "deed"] (defScope s_done) := ⟨rfl, rfl, rfl, by decide +kernel, rfl, by decide +kernel, by decide +kernel⟩
theorem def_done (T : TX K mg C) : Def P w K mg base "done" 4 pre_done := by
  refine Def.of (ps := ["rule", "pattern", "deed"]) T.h_done (fun _ _ _ _ _ _ us hl => match us, hl with | [_, _, _], _ => rfl) fun f fd F => ok_def F sc_done len_done fun cdv A outer s H E hr => ⟨_, _, ss_cons (s_expr (d_call (def_need_rule T) (hr.mono (by decide)) (a_cons (d_v 0) (a_nil))))
    (ss_cons (s_expr (d_call (def_need_pattern T) (hr.mono (by decide)) (a_cons (d_v 1) (a_nil))))
    (ss_cons (s_set (i := 3) sc_done.nd (d_call (def_step T) (hr.mono (by decide)) (a_cons (d_v 0) (a_cons (d_v 1) (a_cons (d_v 2) (a_nil))))))
    (ss_cons (s_if (t_cmp op_isN opd_isN (d_v 3) (d_non) (nomark _))
    (ss_one (s_never))
    (ss_nil))
    (ss_one (s_ret (d_v 3)))))), ?_⟩
  rintro ds m Q ⟨r, p, word, k, o, rfl, h1, h2, ho, q⟩
  refine q_drop (fun Q q => ?_) ?_
  · walk_at "dx"
    exact ⟨r, rfl, q _⟩
  refine q_drop (fun Q q => ?_) ?_
  · walk_at "dx"
    exact ⟨p, rfl, h1, h2, q _⟩
  refine q_asg (stepD (some o)) (fun Q q => ?_) ?_
  · walk_at "dx"
    exact ⟨r, p, word, k, rfl, h1, by rw [ho]; exact q⟩
  refine q_when false (fun Q q => ?_) (fun hb => by cases hb) (fun _ => ?_)
  · walk_at "dx"
    exact q
  · walk_at "dx"
    exact q
def pre_Shelf_put_in (C : Addr) : Pre := fun ds m Q => ∃ (a b : Addr) (S : Sh) (key : Int), ds = [.adr a, .int key] ∧ ShAt C m a b S ∧ key ∉ S.ks ∧ S.ks.length < S.p.length ∧ ∀ m' b', ShAt C m' a b' (S.put key) → Keep m m' a b b' → Q (.int (S.found key)) m'
theorem len_Shelf_put_in (C : Addr) : ∀ ds m Q, pre_Shelf_put_in C ds m Q → ds.length = 2 := by
  rintro ds m Q ⟨a, b, S, k, rfl, _⟩
  rfl
abbrev n_Shelf_put_in : List Str := ["self", "key", "places", "keys", "rank", "others", "before", "at", "one", "found"]
theorem sc_Shelf_put_in : FnScope n_Shelf_put_in ["self", "key"] (defScope s_Shelf_put_in) := ⟨rfl, rfl, rfl, by decide +kernel, rfl, by decide +kernel, by decide +kernel⟩
theorem mdef_put_in (T : TX K mg C) : MDef P w K mg base C "put_in" 3 (pre_Shelf_put_in C) := by
  refine MDef.of (ps := ["self", "key"]) T.h_Shelf_put_in (fun _ _ _ _ _ _ us hl => match us, hl with | [_, _], _ => rfl) fun f fd F => ok_def F sc_Shelf_put_in (len_Shelf_put_in C) fun cdv A outer s H E hr => ⟨_, _, ss_cons (s_if (t_cmp op_inAll (opd_in false) (d_v 1) (d_fld T.cl T.na_row (d_v 0)) rfl)
    (ss_one (s_never))
    (ss_nil))
    (ss_cons (s_setLc false (i := 2) sc_Shelf_put_in.nd (own := [("at", 7)]) (i_range1 T.b_range (a_cons (d_fld T.cl T.na_wide (d_v 0)) (a_nil))) (blkOk_by (own := [("at", 7)]) (N := n_Shelf_put_in) (sc := defScope s_Shelf_put_in) (by decide +kernel)) (fun _ _ _ _ _ => g_name (i := 7) sc_Shelf_put_in.nd) (fun _ _ _ _ _ => ts_one (t_cmp op_notN opd_notN (d_ix (d_fld T.cl T.na_row (d_v 0)) (d_v 7)) (d_non) (nomark _))) (fun _ _ _ _ _ => d_v 7) (keeps_name (by decide)) (sw_true rfl rfl rfl (by decide +kernel)))
    (ss_cons (s_if (t_cmp (op_eqAll (u64 hr)) opd_eq (d_callB cr_lenAll cd_len T.b_len (by decide +kernel) (a_cons (d_v 2) (a_nil))) (d_fld T.cl T.na_wide (d_v 0)) (nomark _))
    (ss_one (s_never))
    (ss_nil))
    (ss_cons (s_setLc false (i := 3) sc_Shelf_put_in.nd (own := [("at", 7)]) (i_list (d_v 2)) (blkOk_by (own := [("at", 7)]) (N := n_Shelf_put_in) (sc := defScope s_Shelf_put_in) (by decide +kernel)) (fun _ _ _ _ _ => g_name (i := 7) sc_Shelf_put_in.nd) (fun _ _ _ _ _ => ts_nil) (fun _ _ _ _ _ => d_ix (d_fld T.cl T.na_row (d_v 0)) (d_v 7)) (keeps_name (by decide)) (sw_true rfl rfl rfl (by decide +kernel)))
    (ss_cons (s_set (i := 4) sc_Shelf_put_in.nd (d_callB cr_lenAll cd_len T.b_len (by decide +kernel) (a_cons (d_lc false sc_Shelf_put_in.nd (own := [("one", 8)]) (i_list (d_v 3)) (blkOk_by (own := [("one", 8)]) (N := n_Shelf_put_in) (sc := defScope s_Shelf_put_in) (by decide +kernel)) (fun _ _ _ _ _ => g_name (i := 8) sc_Shelf_put_in.nd) (fun _ _ _ _ _ => ts_one (t_cmp o_lt opd_cmp (d_v 8) (d_v 1) (nomark _))) (fun _ _ _ _ _ => d_v 8) (keeps_name (by decide))) (a_nil))))
    (ss_cons (s_set (i := 5) sc_Shelf_put_in.nd (d_call (def_places_behind T) (hr.mono (by decide)) (a_cons (d_fld T.cl T.na_rule (d_v 0)) (a_cons (d_fld T.cl T.na_wide (d_v 0)) (a_cons (d_v 2) (a_cons (d_v 4) (a_nil)))))))
    (ss_cons (s_set (i := 6) sc_Shelf_put_in.nd (d_fld T.cl T.na_row (d_v 0)))
    (ss_cons (s_fld T.cl T.na_row (d_mul true (d_lst false (a_cons (d_non) (a_nil))) (d_fld T.cl T.na_wide (d_v 0))) (d_v 0))
    (ss_cons (s_for (i_zip T.b_zip (a_cons (d_v 5) (a_cons (d_add false (d_add false (d_slice false (d_v 3) (o_none) (o_some (d_v 4))) (d_lst false (a_cons (d_v 1) (a_nil)))) (d_slice false (d_v 3) (o_some (d_v 4)) (o_none))) (a_nil)))) (g_tup (n := 2) (gs_cons (g_name (i := 7) sc_Shelf_put_in.nd) (gs_cons (g_name (i := 8) sc_Shelf_put_in.nd) (gs_nil))))
    (ss_one (s_setL (d_v 8) (d_fld T.cl T.na_row (d_v 0)) (d_v 7))))
    (ss_cons (s_set (i := 9) sc_Shelf_put_in.nd (d_callB cr_lenAll cd_len T.b_len (by decide +kernel) (a_cons (d_lc false sc_Shelf_put_in.nd (own := [("at", 7)]) (i_list (d_v 2)) (blkOk_by (own := [("at", 7)]) (N := n_Shelf_put_in) (sc := defScope s_Shelf_put_in) (by decide +kernel)) (fun _ _ _ _ _ => g_name (i := 7) sc_Shelf_put_in.nd) (fun _ _ _ _ _ => ts_one (t_cmp (op_neAll (u64 hr)) opd_ne (d_ix (d_fld T.cl T.na_row (d_v 0)) (d_v 7)) (d_ix (d_v 6) (d_v 7)) (nomark _))) (fun _ _ _ _ _ => d_v 7) (keeps_name (by decide))) (a_nil))))
    (ss_cons (s_fld T.cl T.na_many (d_add false (d_fld T.cl T.na_many (d_v 0)) (d_v 9)) (d_v 0))
    (ss_one (s_ret (d_v 9))))))))))))), ?_⟩
  rintro ds m Q ⟨a, b, S, key, rfl, ⟨ok, ha, hb, nab⟩, hn, hl, q⟩
  have hlen : S.row.length = S.p.length := rowOf_len _
  have h6 := ok.w6
  have hkl := ok.len
  have hpat : lawPat S.row = S.p := rowOf_pat h6 _
  have hrk := rank_le S.ks key
  have hpa := put_all h6 S.r (k := rankM S.ks key) (by omega) (by omega)
  refine q_when false (fun Q q => ?_) nofun (fun _ => ?_)
  · walk_at "dx"
    refine ⟨_, ha, _, shF_row, rowD S.row, ?_, rfl, row_flat _, ?_⟩
    · simp only [hb]
    · rw [show (D.int key) = Cod.enc (some key) from rfl, row_in, show decide (some key ∈ S.row) = false from decide_eq_false (fun z => hn ((rowOf_mem h6 hkl key).mp z))]
      exact q
  refine q_asg (.list (nums (placesOf S.p))) (fun Q q => ?_) ?_
  · walk_at "dx"
    refine ⟨_, ha, _, shF_wide, _, rfl, by omega, by omega, ?_⟩
    rw [Int.toNat_natCast, ← hlen]
    rw [← hpat] at q
    refine lc_taken (by omega) (fun i hi Q' q' => ?_) (by simp only [wipeD, List.length_set, List.length_cons, List.length_nil]; decide) q
    walk_at "dx"
    refine ⟨_, ha, _, shF_row, ?_⟩
    simp only [hb, Option.some.injEq, exists_eq_left']
    refine ⟨_, rowD_at hi, ?_⟩
    revert q'
    cases S.row[i] <;> exact fun q => q
  refine q_when false (fun Q q => ?_) nofun (fun _ => ?_)
  · walk_at "dx"
    refine ⟨_, ha, _, shF_wide, ?_⟩
    rw [nums_len]
    simp only
    rw [decide_eq_false (by omega)]
    exact q
  refine q_asg (.list (S.ks.map D.int)) (fun Q q => ?_) ?_
  · walk_at "dx"
    unfold nums
    refine lc_mapAll (fun i => Cod.enc (S.row[i]?.getD none)) (fun i hi Q' q' => ?_) (small_line (by omega)) ?_
    · walk_at "dx"
      have hi' : i < S.row.length := by
        have := pl_lt hi
        omega
      refine ⟨_, ha, _, shF_row, ?_⟩
      simp only [hb, Option.some.injEq, exists_eq_left']
      rw [List.getElem?_eq_getElem hi'] at q'
      exact ⟨_, rowD_at hi', q'⟩
    · have e := rowOf_keys h6 hkl
      have e2 : (placesOf S.p).map (fun i => Cod.enc (S.row[i]?.getD none)) = S.ks.map D.int := by
        rw [show (fun i => Cod.enc (S.row[i]?.getD none)) = Cod.enc ∘ (fun i => S.row[i]?.getD none) from rfl, ← List.map_map]
        unfold Sh.row
        rw [e, List.map_map]
        rfl
      rw [e2]
      exact q
  refine q_asg (.int (rankM S.ks key)) (fun Q q => ?_) ?_
  · walk_at "dx"
    refine lc_ints (fun x => decide (x < key)) (fun x hx Q' q' => ?_) (small_line (by omega)) ?_
    · walk_at "dx"
      exact q'
    · rw [List.length_map]
      exact q
  refine q_asg (.list (nums (S.pb key))) (fun Q q => ?_) ?_
  · walk_at "dx"
    refine ⟨_, ha, _, shF_rule, _, ha, _, shF_wide, ?_⟩
    exact ⟨S.r, S.p, rankM S.ks key, rfl, h6, by omega, by omega, q⟩
  refine q_asg (.adr b) (fun Q q => ?_) ?_
  · walk_at "dx"
    exact ⟨_, ha, _, shF_row, q⟩
  refine q_sfldNew (ds := rowD (List.replicate S.p.length none)) (a := a) (fun Q q => ?_) (fun m1 Q q => ?_) ha (Nat.lt_of_le_of_lt (Nat.le_of_eq shF_len) (by decide)) (fun c hc nac => ?_)
  · walk_at "dx"
    refine ⟨by decide, _, ha, _, shF_wide, _, rfl, by omega, by omega, ?_⟩
    rw [Int.toNat_natCast, rep_none]
    exact ⟨Nat.le_trans (by omega : _ ≤ 100) (by decide), q⟩
  · walk_at "dx"
    exact q
  rw [put_row]
  have hbc : b ≠ c := by
    rintro rfl
    rw [hb] at hc
    cases hc
  have hol : (S.pb key).length = (insAt S.ks (rankM S.ks key) key).length := by rw [insAt_len, Sh.pb, hpa.2.1, hkl]
  refine q_for (((S.pb key).zip (insAt S.ks (rankM S.ks key) key)).map fun x => .tuple [.int (x.1 : Nat), .int x.2]) (fun Q q => ?_) (fun i e m' => ∃ x7 x8, e = [some (.adr a), some (.int key), some (.list (nums (placesOf S.p))), some (.list (S.ks.map D.int)), some (.int (rankM S.ks key)), some (.list (nums (S.pb key))), some (.adr b), x7, x8, none]
      ∧ m' a = some (.ins C (shF S.r S.p.length (.adr c) S.n)) ∧ m' c = some (.lst (rowD (fillR S.p.length (((S.pb key).zip (insAt S.ks (rankM S.ks key) key)).take i)))) ∧ ∀ q o, m q = some o → q ≠ a → m' q = some o) ⟨_, _, rfl, ups_same, by rw [ups_ne nac.symm, ups_same]; rfl, fun q o h1 h2 => ?_⟩ ?_ ?_
  · walk_at "dx"
    rw [cut_take, cut_drop]
    have e : zipD (nums (S.pb key)) ((S.ks.map D.int).take (rankM S.ks key) ++ [.int key] ++ (S.ks.map D.int).drop (rankM S.ks key)) = ((S.pb key).zip (insAt S.ks (rankM S.ks key) key)).map fun x => .tuple [.int (x.1 : Nat), .int x.2] := by
      have e0 : (S.ks.map D.int).take (rankM S.ks key) ++ [.int key] ++ (S.ks.map D.int).drop (rankM S.ks key) = (insAt S.ks (rankM S.ks key) key).map D.int := by
        unfold insAt
        rw [List.map_append, List.map_append, List.map_take, List.map_drop]
        rfl
      rw [e0]
      exact zipD_map _ _ _ _
    rw [e]
    refine ⟨by decide, ?_, ?_, q⟩
    · rw [List.length_take, List.length_map]
      exact Nat.le_trans (by omega : _ ≤ 100) (by decide)
    · rw [List.length_append, List.length_take, List.length_drop, List.length_map, List.length_cons, List.length_nil]
      exact Nat.le_trans (by omega : _ ≤ 100) (by decide)
  · rw [ups_ne h2, ups_ne, h1]
    rintro rfl
    rw [h1] at hc
    cases hc
  · rintro i d hd e m' ⟨x7, x8, rfl, g1, g2, g3⟩ nx hnx
    rw [List.getElem?_map] at hd
    obtain ⟨x, hx, rfl⟩ := Option.map_eq_some_iff.mp hd
    walk_at "dg"
    walk_at "dx"
    obtain ⟨hil, hix⟩ := List.getElem?_eq_some_iff.mp hx
    have hx1 : x.1 ∈ S.pb key := (List.of_mem_zip (hix ▸ List.getElem_mem hil)).1
    have hxl : x.1 < S.p.length := by
      have hx2 : x.1 ∈ placesOf (patOf S.p.length (S.pb key)) := by
        unfold Sh.pb
        rw [hpa.1]
        exact hx1
      have := pl_lt hx2
      rwa [patOf_len] at this
    have hfl : ∀ l : List (Nat × Int), (fillR S.p.length l).length = S.p.length := by
      have : ∀ (l : List (Nat × Int)) (f : Row), (l.foldl (fun f x => f.set x.1 (some x.2)) f).length = f.length := by
        intro l
        induction l with
        | nil => intro f; rfl
        | cons j l ih => intro f; rw [List.foldl_cons, ih, List.length_set]
      intro l
      unfold fillR
      rw [this, List.length_replicate]
    refine ⟨_, g1, _, shF_row, _, rfl, _, g2, x.1, ?_, hnx _ _ ⟨_, _, rfl, by rw [ups_ne nac]; exact g1, ?_, fun q o h1 h2 => ?_⟩⟩
    · rw [rowD_len, hfl]
      exact ixN_nat hxl
    · rw [ups_same, show D.int x.2 = Cod.enc (some x.2) from rfl, rowD_set, List.take_succ, hx]
      unfold fillR
      rw [List.foldl_append]
      rfl
    · rw [ups_ne, g3 q o h1 h2]
      rintro rfl
      rw [h1] at hc
      cases hc
  rintro e m' ⟨x7, x8, rfl, g1, g2, g3⟩
  rw [List.length_map, List.take_length, fill_row hol hpa.2.2.1] at g2
  have hrow : rowOf (patOf S.p.length (S.pb key)) (insAt S.ks (rankM S.ks key) key) = (S.put key).row := rfl
  have g4 := g3 b _ hb nab.symm
  refine q_asg (.int (S.found key)) (fun Q q => ?_) ?_
  · walk_at "dx"
    unfold nums
    refine lc_map (fun i => !decide ((S.put key).row[i]?.getD none = S.row[i]?.getD none)) (fun i => .int (i : Nat)) (fun i hi Q' q' => ?_) (fun i hi hc Q' q' => ?_) (small_line (by omega)) ?_
    · have hi0 := pl_lt hi
      have hi1 : i < S.row.length := by omega
      have hi2 : i < (S.put key).row.length := by
        show i < (rowOf _ _).length
        rw [rowOf_len]
        show i < (patOf _ _).length
        rw [patOf_len]
        exact hi0
      walk_at "dx"
      refine ⟨_, g1, _, shF_row, ?_⟩
      simp only [g2, g4, Option.some.injEq, exists_eq_left']
      refine ⟨_, rowD_at hi2, _, rowD_at hi1, ?_⟩
      rw [List.getElem?_eq_getElem hi1, List.getElem?_eq_getElem hi2] at q'
      simp only [Option.getD_some] at q'
      generalize (S.put key).row[i] = x at q' ⊢
      generalize S.row[i] = y at q' ⊢
      exact cell_ne q'
    · walk_at "dx"
      exact q'
    · rw [List.length_map]
      have e : ((placesOf S.p).filter fun i => !decide ((S.put key).row[i]?.getD none = S.row[i]?.getD none)).length = S.found key := by
        unfold Sh.found Sh.pb
        rw [← hpa.2.2.2.1]
        refine congrArg List.length (List.filter_congr fun i hi => ?_)
        have := same_thing (key := key) h6 S.r hkl hrk (by omega) (ins_incr ok.inc hn).nodup i
        exact congrArg not (decide_eq_decide.mpr this)
      rw [e]
      exact q
  refine q_sfld (a := a) (.int ((S.n + S.found key : Nat) : Int)) (fun Q q => ?_) (fun Q q => ?_) g1 (Nat.lt_of_le_of_lt (Nat.le_of_eq shF_len) (by decide)) ?_
  · walk_at "dx"
    refine ⟨_, g1, _, shF_many, ?_⟩
    rw [show ((S.n + S.found key : Nat) : Int) = (S.n : Int) + (S.found key : Nat) by omega] at q
    exact q
  · walk_at "dx"
    exact q
  rw [put_many]
  walk_at "dx"
  have hpp : S.p.length = (S.put key).p.length := (patOf_len _ _).symm
  refine q _ c ⟨Sh.put_ok ok hn hl, ?_, ?_, nac⟩ fun x o h1 h2 h3 => ⟨?_, ?_⟩
  · rw [ups_same, hpp]
    rfl
  · rw [ups_ne nac.symm]
    exact g2
  · rw [ups_ne h2]
    exact g3 x o h1 h2
  · rintro rfl
    rw [h1] at hc
    cases hc
def pre_Shelf_standing (C : Addr) : Pre := fun ds m Q => ∃ (a b : Addr) (S : Sh), ds = [.adr a] ∧ ShAt C m a b S ∧ Q (.list (rowD S.row)) m
theorem len_Shelf_standing (C : Addr) : ∀ ds m Q, pre_Shelf_standing C ds m Q → ds.length = 1 := by
  rintro ds m Q ⟨a, b, S, rfl, _⟩
  rfl
abbrev n_Shelf_standing : List Str := ["self"]
theorem sc_Shelf_standing : FnScope n_Shelf_standing ["self"] (defScope s_Shelf_standing) := ⟨rfl, rfl, rfl, by decide +kernel, rfl, by decide +kernel, by decide +kernel⟩
theorem mdef_standing (T : TX K mg C) : MDef P w K mg base C "standing" 1 (pre_Shelf_standing C) := by
  refine MDef.of (ps := ["self"]) T.h_Shelf_standing (fun _ _ _ _ _ _ us hl => match us, hl with | [_], _ => rfl) fun f fd F => ok_def F sc_Shelf_standing (len_Shelf_standing C) fun cdv A outer s H E hr => ⟨_, _, ss_one (s_ret (d_callTy c_list (cd_list false) T.b_list (by decide +kernel) (a_cons (d_fld T.cl T.na_row (d_v 0)) (a_nil)))), ?_⟩
  rintro ds m Q ⟨a, b, S, rfl, ⟨ok, ha, hb, nab⟩, q⟩
  walk_at "dxs"
  refine ⟨_, ha, _, shF_row, rowD S.row, ?_, q⟩
  simp only [hb]
def pre_law : Pre := fun ds m Q => ∃ ns : List Int, ds = [.seq (ns.map D.int)] ∧ ns.length ≤ 63 ∧ ∀ m', Q (.bl true) m'
theorem len_law : ∀ ds m Q, pre_law ds m Q → ds.length = 1 := by
  rintro ds m Q ⟨ns, rfl, _⟩
  rfl
abbrev n_law : List Str := ["_law_script", "_law_d", "_law_turn", "_law_wide", "_law_pattern", "_law_deed", "_law_near", "_law_left", "_law_even", "_law_many", "_law_told", "_law_rule_here", "_law_deeds_here", "_law_shelf", "_law_keys", "_law_total", "_law_number", "_law_word", "_law_rank", "_law_low", "_law_high", "_law_moves", "_law_at", "_law_key"]
theorem sc_law : FnScope n_law ["_law_script"] (defScope s_law) := ⟨rfl, rfl, rfl, by decide +kernel, rfl, by decide +kernel, by decide +kernel⟩
theorem ok_law (T : TX K mg C) {f : Addr} {fd : FuncData} (F : Fun K "law" "law" s_law f fd) : FnOk P w K mg base CX0 5 f fd ["_law_script"] (spD K pre_law) := by
  refine ok_def F sc_law len_law fun cdv A outer s H E hr => ⟨_, _, ss_cons (s_set (i := 1) sc_law.nd (d_call (def__law_dice T) (hr.mono (by decide)) (a_cons (d_v 0) (a_cons (d_int) (a_nil)))))
    (ss_cons (s_for (i_range1 T.b_range (a_cons (d_int) (a_nil))) (g_name (i := 2) sc_law.nd)
    (ss_cons (s_set (i := 3) sc_law.nd (d_add false (d_int) (d_call (def__law_off T) (hr.mono (by decide)) (a_cons (d_v 1) (a_cons (d_int) (a_nil))))))
    (ss_cons (s_set (i := 4) sc_law.nd (d_bm PySem.F.plainAttrs_str PySem.F.slot_str_join PySem.F.type_str_join m_join md_join tyS' (d_str) (a_cons (d_lc false sc_law.nd (own := [("_law_at", 22)]) (i_range1 T.b_range (a_cons (d_v 3) (a_nil))) (blkOk_by (own := [("_law_at", 22)]) (N := n_law) (sc := defScope s_law) (by decide +kernel)) (fun _ _ _ _ _ => g_name (i := 22) sc_law.nd) (fun _ _ _ _ _ => ts_nil) (fun _ _ _ _ _ => d_ix (d_str) (d_call (def__law_off T) (hr.mono (by decide)) (a_cons (d_v 1) (a_cons (d_int) (a_nil))))) (keeps_name (by decide))) (a_nil))))
    (ss_one (s_for (i_list (d_call (def__law_deeds T) (hr.mono (by decide)) (a_cons (d_v 4) (a_nil)))) (g_name (i := 5) sc_law.nd)
    (ss_cons (s_asg (d_lc false sc_law.nd (own := [("_law_rule_here", 11)]) (i_list (d_lst false (a_cons (d_str) (a_cons (d_str) (a_cons (d_str) (a_nil)))))) (blkOk_by (own := [("_law_rule_here", 11)]) (N := n_law) (sc := defScope s_law) (by decide +kernel)) (fun _ _ _ _ _ => g_name (i := 11) sc_law.nd) (fun _ _ _ _ _ => ts_nil) (fun _ _ _ _ _ => d_call (def_done T) (hr.mono (by decide)) (a_cons (d_v 11) (a_cons (d_v 4) (a_cons (d_v 5) (a_nil))))) (keeps_name (by decide))) (g_unl (n := 3) (gs_cons (g_name (i := 6) sc_law.nd) (gs_cons (g_name (i := 7) sc_law.nd) (gs_cons (g_name (i := 8) sc_law.nd) (gs_nil))))))
    (ss_cons (s_set (i := 9) sc_law.nd (d_bm PySem.F.plainAttrs_str PySem.F.slot_str_count PySem.F.type_str_count mt_count md_count tyS' (d_v 4) (a_cons (d_str) (a_nil))))
    (ss_cons (s_if (DW.t (w_or (t_cmp o_gt opd_cmp (d_ix (d_v 6) (d_int)) (d_ix (d_v 7) (d_int)) (nomark _)) (w_or1 (t_cmp o_gt opd_cmp (d_callB (L2.call_max3Nu rfl) cd_max3 T.b_max (by decide +kernel) (a_cons (d_ix (d_v 6) (d_int)) (a_cons (d_ix (d_v 7) (d_int)) (a_cons (d_ix (d_v 8) (d_int)) (a_nil))))) (d_v 9) (nomark _)))))
    (ss_one (s_ret (d_bl)))
    (ss_nil))
    (ss_cons (s_for (i_list (d_lst false (a_cons (d_v 6) (a_cons (d_v 7) (a_cons (d_v 8) (a_nil)))))) (g_name (i := 10) sc_law.nd)
    (ss_one (s_if (t_cmp (op_neAll (u64 hr)) opd_ne (d_bm PySem.F.plainAttrs_str PySem.F.slot_str_count PySem.F.type_str_count mt_count md_count tyS' (d_ix (d_v 10) (d_int)) (a_cons (d_str) (a_nil))) (d_add false (d_v 9) (d_ix (d_lst false (a_cons (d_int) (a_cons (d_neg (d_int)) (a_nil)))) (d_callTy call_int1 cd_int T.b_int (by decide +kernel) (a_cons (d_cmp (op_eqAll (u64 hr)) opd_eq (d_ix (d_v 5) (d_int)) (d_str) (nomark _)) (a_nil))))) (nomark _))
    (ss_one (s_ret (d_bl)))
    (ss_nil))))
    (ss_one (s_for (i_list (d_lst false (a_cons (d_v 6) (a_cons (d_v 7) (a_nil))))) (g_name (i := 10) sc_law.nd)
    (ss_one (s_if (t_cmp (op_neAll (u64 hr)) opd_ne (d_callB cr_lenAll cd_len T.b_len (by decide +kernel) (a_cons (d_lc false sc_law.nd (own := [("_law_at", 22)]) (i_range1 T.b_range (a_cons (d_v 3) (a_nil))) (blkOk_by (own := [("_law_at", 22)]) (N := n_law) (sc := defScope s_law) (by decide +kernel)) (fun _ _ _ _ _ => g_name (i := 22) sc_law.nd) (fun _ _ _ _ _ => ts_one (t_cmp (op_neAll (u64 hr)) opd_ne (d_ix (d_ix (d_v 10) (d_int)) (d_v 22)) (d_ix (d_v 4) (d_v 22)) (nomark _))) (fun _ _ _ _ _ => d_v 22) (keeps_name (by decide))) (a_nil))) (d_int) (nomark _))
    (ss_one (s_ret (d_bl)))
    (ss_nil))))))))))))))
    (ss_cons (s_par (i := 11) (j := 3) sc_law.nd (a_cons (d_call (def__law_rule T) (hr.mono (by decide)) (a_cons (d_v 1) (a_nil))) (a_cons (d_add false (d_int) (d_call (def__law_off T) (hr.mono (by decide)) (a_cons (d_v 1) (a_cons (d_int) (a_nil))))) (a_nil))))
    (ss_cons (s_set (i := 12) sc_law.nd (d_call (def__law_drawn T) (hr.mono (by decide)) (a_cons (d_v 1) (a_cons (d_v 3) (a_cons (d_int) (a_nil))))))
    (ss_cons (s_set (i := 13) sc_law.nd (d_make (idef_Shelf T) (hr.mono (by decide)) T.mgC (a_cons (d_v 11) (a_cons (d_v 3) (a_nil)))))
    (ss_cons (s_set (i := 14) sc_law.nd (d_lst true (a_nil)))
    (ss_cons (s_set (i := 15) sc_law.nd (d_int))
    (ss_cons (s_for (i_range1 T.b_range (a_cons (d_callB cr_lenAll cd_len T.b_len (by decide +kernel) (a_cons (d_v 12) (a_nil))) (a_nil))) (g_name (i := 16) sc_law.nd)
    (ss_cons (s_asg (d_ix (d_v 12) (d_v 16)) (g_tup (n := 2) (gs_cons (g_name (i := 17) sc_law.nd) (gs_cons (g_name (i := 18) sc_law.nd) (gs_nil)))))
    (ss_cons (s_if (t_cmp (op_eqAll (u64 hr)) opd_eq (d_v 17) (d_str) (nomark _))
    (ss_one (s_expr (d_meth (mdef_take_out T) T.cl (hr.mono (by decide)) (d_v 13) (a_cons (d_bm PySem.F.plainAttrs_list PySem.F.slot_list_pop PySem.F.type_list_pop mt_popAt md_popAt tyL' (d_v 14) (a_cons (d_v 18) (a_nil))) (a_nil)))))
    (ss_cons (s_set (i := 19) sc_law.nd (d_ix (d_add false (d_lst false (a_cons (d_int) (a_nil))) (d_v 14)) (d_v 18)))
    (ss_cons (s_set (i := 20) sc_law.nd (d_ix (d_add false (d_v 14) (d_lst false (a_cons (d_pow (d_int) (d_int)) (a_nil)))) (d_v 18)))
    (ss_cons (s_expr (d_bm PySem.F.plainAttrs_list PySem.F.slot_list_insert PySem.F.type_list_insert mt_insert md_insert tyL' (d_v 14) (a_cons (d_v 18) (a_cons (d_fdiv (d_add false (d_v 19) (d_v 20)) (d_int)) (a_nil)))))
    (ss_one (s_set (i := 15) sc_law.nd (d_add false (d_v 15) (d_meth (mdef_put_in T) T.cl (hr.mono (by decide)) (d_v 13) (a_cons (d_ix (d_v 14) (d_v 18)) (a_nil))))))))))
    (ss_cons (s_asg (d_call (def_played T) (hr.mono (by decide)) (a_cons (d_v 11) (a_cons (d_v 3) (a_cons (d_slice false (d_v 12) (o_none) (o_some (d_add false (d_v 16) (d_int)))) (a_nil))))) (g_tup (n := 2) (gs_cons (g_name (i := 21) sc_law.nd) (gs_cons (g_name (i := 4) sc_law.nd) (gs_nil)))))
    (ss_one (s_if (DW.t (w_or (t_cmp (op_neAll (u64 hr)) opd_ne (d_bm PySem.F.plainAttrs_str PySem.F.slot_str_join PySem.F.type_str_join m_join md_join tyS' (d_str) (a_cons (d_lc false sc_law.nd (own := [("_law_key", 23)]) (i_list (d_meth0 (mdef_standing T) T.cl (hr.mono (by decide)) (d_v 13))) (blkOk_by (own := [("_law_key", 23)]) (N := n_law) (sc := defScope s_law) (by decide +kernel)) (fun _ _ _ _ _ => g_name (i := 23) sc_law.nd) (fun _ _ _ _ _ => ts_nil) (fun _ _ _ _ _ => d_ix (d_str) (d_callTy call_int1 cd_int T.b_int (by decide +kernel) (a_cons (d_cmp op_notN opd_notN (d_v 23) (d_non) (nomark _)) (a_nil)))) (keeps_name (by decide))) (a_nil))) (d_v 4) (nomark _)) (w_or1 (t_cmp (op_neAll (u64 hr)) opd_ne (d_callB c_sum cd_sum T.b_sum (by decide +kernel) (a_cons (d_v 21) (a_nil))) (d_v 15) (nomark _)))))
    (ss_one (s_ret (d_bl)))
    (ss_nil)))))))
    (ss_one (s_ret (d_bl)))))))))), ?_⟩
  rintro ds m Q ⟨ns, rfl, h1, q⟩
  refine q_newAny (A := Dice) (fun Q q => ?_) fun a ha => ?_
  · walk_at "dx"
    exact ⟨ns, rfl, h1, q⟩
  refine q_for ((List.range 4).map fun i : Nat => .int (i : Nat)) (fun Q q => ?_) (fun i e m' => ∃ x2 x3 x4 x5 x6 x7 x8 x9 x10, e = [some (.seq (ns.map D.int)), some (.adr a), x2, x3, x4, x5, x6, x7, x8, x9, x10, none, none, none, none, none, none, none, none, none, none, none, none, none] ∧ m' = ups m a (.any Dice)) ⟨_, _, _, _, _, _, _, _, _, rfl, rfl⟩ ?_ ?_
  · walk_at "dx"
    exact ⟨by decide, by decide, q⟩
  · rintro i d hd e m' ⟨x2, x3, x4, x5, x6, x7, x8, x9, x10, rfl, rfl⟩ nx hnx
    walk_at "dg"
    refine q_asg' (P := fun d m1 => m1 = ups m a (.any Dice) ∧ ∃ w : Nat, d = .int w ∧ 1 ≤ w ∧ w ≤ 6) (fun Q q => ?_) ?_
    · walk_at "dx"
      refine ⟨a, 6, rfl, ups_same, by decide, by decide, fun k hk => ⟨_, rfl, q _ _ ⟨rfl, 1 + k, by rw [show ((1 + k : Nat) : Int) = 1 + (k : Int) by omega], by omega, by omega⟩⟩⟩
    rintro d2 m2 ⟨rfl, wd, rfl, hw1, hw2⟩
    refine q_asg' (P := fun d m1 => m1 = ups m a (.any Dice) ∧ ∃ p : List Bool, d = .str (ps p) ∧ p.length = wd) (fun Q q => ?_) ?_
    · walk_at "dx"
      refine ⟨⟨_, rfl⟩, by omega, by omega, ?_⟩
      rw [Int.toNat_natCast]
      refine lc_drawn (β := Bool) (fun b => .str (if b then "1" else "0")) (fun x hx Q' q' => ?_) (by rw [List.length_map, List.length_range]; exact small_line (by omega)) (fun bs hbs => ?_)
      · walk_at "dx"
        refine ⟨a, 2, rfl, ups_same, by decide, by decide, fun k hk => ⟨_, rfl, by decide +kernel, ?_⟩⟩
        obtain ⟨b, c, hc, e⟩ := bit_ix k hk
        refine ⟨c, hc, ?_⟩
        rw [e]
        exact q' b
      · rw [List.length_map, List.length_range] at hbs
        exact join_bits (by omega) (q _ _ ⟨rfl, bs, rfl, hbs⟩)
    rintro d3 m3 ⟨rfl, p, rfl, hp⟩
    have h6 : p.length ≤ 6 := by omega
    have hne : p ≠ [] := by
      rintro rfl
      simp at hp
      omega
    refine q_forL (deedsD (deedsM p)) (fun Q q => ?_) (fun i e m' => ∃ x2 x5 x6 x7 x8 x9 x10, e = [some (.seq (ns.map D.int)), some (.adr a), x2, some (.int wd), some (.str (ps p)), x5, x6, x7, x8, x9, x10, none, none, none, none, none, none, none, none, none, none, none, none, none] ∧ m' = ups m a (.any Dice)) ⟨_, _, _, _, _, _, _, rfl, rfl⟩ ?_ ?_
    · walk_at "dx"
      exact ⟨p, rfl, h6, _, rfl, q⟩
    · rintro i d hd e m' ⟨x2, x5, x6, x7, x8, x9, x10, rfl, rfl⟩ nx2 hnx2
      unfold deedsD at hd
      rw [List.getElem?_map] at hd
      obtain ⟨d, hd', rfl⟩ := Option.map_eq_some_iff.mp hd
      have hm : d ∈ deedsM p := List.mem_of_getElem? hd'
      obtain ⟨f1, f2, f3, f4, f5, f6⟩ := beside_ok h6 hm
      have hcn : ∀ r, (placesOf (lawStep r p d).2).length = match d.1 with | .put => (placesOf p).length + 1 | .take => (placesOf p).length - 1 := fun r => step_cnt h6 r hm
      have hpos : d.1 = .take → 0 < (placesOf p).length := by
        intro hz
        have := mem_deeds.mp hm
        obtain ⟨w, k⟩ := d
        cases hz
        simp only [okD, decide_eq_true_eq] at this
        omega
      have hln : ∀ r, (lawStep r p d).2.length = p.length := fun r => stepM_len (n := (lawStep r p d).1) (q := (lawStep r p d).2) (step_law h6 r hm)
      have tD : ∀ r, stepD (some (lawStep r p d)) = .tuple [.int (lawStep r p d).1, .str (ps (lawStep r p d).2)] := fun r => rfl
      walk_at "dg"
      refine q_asgG (e1 := [some (.seq (ns.map D.int)), some (.adr a), x2, some (.int wd), some (.str (ps p)), some (deedD d), some (stepD (some (lawStep .near p d))), some (stepD (some (lawStep .left p d))), some (stepD (some (lawStep .even p d))), x9, x10, none, none, none, none, none, none, none, none, none, none, none, none, none]) (fun Q q => ?_) ?_
      · walk_at "dx"
        refine ⟨by decide, ?_⟩
        refine lc_mapAll (en := fun r : Rl => .str (rt r)) (l := [.near, .left, .even]) (fun r => stepD (some (lawStep r p d))) (fun r hr Q' q' => ?_) (by decide) ?_
        · walk_at "dx"
          exact ⟨r, p, wt d.1, (d.2 : Nat), lawStep r p d, rfl, h6, hne, step_law h6 r hm, q'⟩
        · exact ⟨rfl, _, _, rfl, _, _, rfl, _, _, rfl, rfl, q⟩
      refine q_asg (.int (placesOf p).length) (fun Q q => ?_) ?_
      · walk_at "dx"
        rw [count_ps h6]
        exact ⟨⟨_, rfl⟩, q⟩
      refine q_when false (fun Q q => ?_) nofun (fun _ => ?_)
      · simp only [tD]
        walk_at "dx"
        rw [if_neg (by omega), decide_eq_false (by omega)]
        exact q
      refine q_for [stepD (some (lawStep .near p d)), stepD (some (lawStep .left p d)), stepD (some (lawStep .even p d))] (fun Q q => ?_) (fun i e m' => ∃ x10, e = [some (.seq (ns.map D.int)), some (.adr a), x2, some (.int wd), some (.str (ps p)), some (deedD d), some (stepD (some (lawStep .near p d))), some (stepD (some (lawStep .left p d))), some (stepD (some (lawStep .even p d))), some (.int (placesOf p).length), x10, none, none, none, none, none, none, none, none, none, none, none, none, none] ∧ m' = ups m a (.any Dice)) ⟨_, rfl, rfl⟩ ?_ ?_
      · walk_at "dx"
        exact ⟨by decide, q⟩
      · rintro j d2 hd2 e m' ⟨x10, rfl, rfl⟩ nx3 hnx3
        have hr : ∃ r, d2 = stepD (some (lawStep r p d)) := by
          match j, hd2 with
          | 0, hd2 => exact ⟨.near, by cases hd2; rfl⟩
          | 1, hd2 => exact ⟨.left, by cases hd2; rfl⟩
          | 2, hd2 => exact ⟨.even, by cases hd2; rfl⟩
          | j + 3, hd2 => cases hd2
        obtain ⟨r, rfl⟩ := hr
        walk_at "dg"
        refine s_if' false (fun Q q => ?_) nofun (fun _ => ?_)
        · simp only [tD, deedD]
          walk_at "dx"
          rw [count_ps (by rw [hln]; exact h6), hcn]
          refine ⟨⟨_, rfl⟩, by decide, ?_⟩
          cases hw : d.1 with
          | put =>
            refine ⟨.int 1, ?_, 1, rfl, ?_⟩
            · rw [if_neg (by decide +kernel)]
              exact at0
            · simp only
              rw [decide_eq_true (by omega)]
              exact q
          | take =>
            have := hpos hw
            refine ⟨.int (-1), ?_, -1, rfl, ?_⟩
            · rw [if_pos (show wt Wd.take = Str.ofString "take" from rfl)]
              exact at1
            · simp only
              rw [decide_eq_true (by omega)]
              exact q
        · walk_at "dx"
          exact hnx3 _ _ ⟨_, rfl, rfl⟩
      rintro e m' ⟨x10, rfl, rfl⟩
      refine q_forL [stepD (some (lawStep .near p d)), stepD (some (lawStep .left p d))] (fun Q q => ?_) (fun i e m' => ∃ x10, e = [some (.seq (ns.map D.int)), some (.adr a), x2, some (.int wd), some (.str (ps p)), some (deedD d), some (stepD (some (lawStep .near p d))), some (stepD (some (lawStep .left p d))), some (stepD (some (lawStep .even p d))), some (.int (placesOf p).length), x10, none, none, none, none, none, none, none, none, none, none, none, none, none] ∧ m' = ups m a (.any Dice)) ⟨_, rfl, rfl⟩ ?_ ?_
      · walk_at "dx"
        exact ⟨by decide, q⟩
      · rintro j d2 hd2 e m' ⟨x10, rfl, rfl⟩ nx3 hnx3
        have hr : ∃ r, d2 = stepD (some (lawStep r p d)) ∧ ((List.range p.length).filter fun i => !decide ((lawStep r p d).2[i]?.getD false = p[i]?.getD false)).length = 1 := by
          match j, hd2 with
          | 0, hd2 => exact ⟨.near, by cases hd2; rfl, f5⟩
          | 1, hd2 => exact ⟨.left, by cases hd2; rfl, f6⟩
          | j + 2, hd2 => cases hd2
        obtain ⟨r, rfl, hone⟩ := hr
        walk_at "dg"
        refine s_if' false (fun Q q => ?_) nofun (fun _ => ?_)
        · walk_at "dx"
          refine ⟨by omega, by omega, ?_⟩
          rw [Int.toNat_natCast, ← hp]
          refine lc_range (fun i => !decide ((lawStep r p d).2[i]?.getD false = p[i]?.getD false)) (fun i => .int (i : Nat)) (fun i hi Q' q' => ?_) (fun i hi hc Q' q' => ?_) (small_line (by omega)) ?_
          · simp only [tD]
            walk_at "dx"
            have hi2 : i < (lawStep r p d).2.length := by rw [hln]; exact hi
            refine ⟨by rw [ps_len, hln]; exact Nat.le_trans h6 (by decide), _, ps_at (List.getElem?_eq_getElem hi2), by rw [ps_len]; exact Nat.le_trans h6 (by decide), _, ps_at (List.getElem?_eq_getElem hi), ?_⟩
            rw [List.getElem?_eq_getElem hi, List.getElem?_eq_getElem hi2] at q'
            simp only [Option.getD_some] at q'
            generalize (lawStep r p d).2[i] = x at q' ⊢
            generalize p[i] = y at q' ⊢
            revert q'
            cases x <;> cases y <;> exact fun q => q
          · walk_at "dx"
            exact q'
          · rw [List.length_map, hone]
            exact q
        · walk_at "dx"
          exact hnx3 _ _ ⟨_, rfl, rfl⟩
      · rintro e m' ⟨x10, rfl, rfl⟩
        exact hnx2 _ _ ⟨_, _, _, _, _, _, _, rfl, rfl⟩
    · rintro e m' ⟨x2, x5, x6, x7, x8, x9, x10, rfl, rfl⟩
      exact hnx _ _ ⟨_, _, _, _, _, _, _, _, _, rfl, rfl⟩
  rintro e m' ⟨x2, x3, x4, x5, x6, x7, x8, x9, x10, rfl, rfl⟩
  have par : ∀ (u : dS) (DD : dEnds) (m1 : Mu), m1 a = some (.any Dice) →
      (∀ (r : Rl) (wd : Nat), 1 ≤ wd → wd ≤ 6 → u DD [some (.seq (ns.map D.int)), some (.adr a), x2, some (.int wd), x4, x5, x6, x7, x8, x9, x10, some (.str (rt r)), none, none, none, none, none, none, none, none, none, none, none, none] m1) →
      dSeq (dPar 11 3 (dCons (dCall pre__law_rule (dCons (dVar 1) dNil)) (dCons (dOp (addD false) (dC (D.int 1)) (dCall pre__law_off (dCons (dVar 1) (dCons (dC (D.int 6)) dNil)))) dNil))) u DD [some (.seq (ns.map D.int)), some (.adr a), x2, x3, x4, x5, x6, x7, x8, x9, x10, none, none, none, none, none, none, none, none, none, none, none, none, none] m1 := by
    rintro u DD m1 hm k
    walk_at "dxs"
    refine ⟨a, rfl, hm, fun r => ⟨a, 6, rfl, hm, by decide, by decide, fun c hc => ⟨_, rfl, ?_⟩⟩⟩
    rw [show (1 : Int) + (c : Int) = ((1 + c : Nat) : Int) by omega]
    exact k r (1 + c) (by omega) (by omega)
  refine par _ _ _ ups_same fun r wd hw1 hw2 => ?_
  have hrep : (List.replicate wd false).length = wd := List.length_replicate
  have hz := zeros_places hw1 hw2
  refine q_asg' (P := fun d m3 => m3 = ups m a (.any Dice) ∧ ∃ l, d = .list (deedsD l) ∧ l.length ≤ 40 ∧ ∃ n, drawnOk wd 0 l = some n) (fun Q q => ?_) ?_
  · walk_at "dx"
    exact ⟨a, wd, 40, rfl, ups_same, hw1, hw2, by decide, fun l hl hok => q _ _ ⟨rfl, l, rfl, hl, hok⟩⟩
  rintro d3 m3 ⟨rfl, l, rfl, hl, nn, hok⟩
  refine q_asg' (P := fun d m1 => ∃ s b, d = .adr s ∧ ShAt C m1 s b (Sh.zero r wd) ∧ m1 a = some (.any Dice) ∧ a ≠ b) (fun Q q => ?_) ?_
  · walk_at "dx"
    intro s hs
    refine ⟨s, r, wd, rfl, ups_same, hw1, hw2, fun m' b' hS kp => ⟨rfl, q _ _ ?_⟩⟩
    have nas : a ≠ s := by
      rintro rfl
      rw [ups_same] at hs
      cases hs
    obtain ⟨k1, k2⟩ := kp a (.any Dice) (by rw [ups_ne nas, ups_same]) nas nas
    exact ⟨s, b', rfl, hS, k1, k2⟩
  rintro d0 m0 ⟨s, b, rfl, hS, hma, nab⟩
  refine q_new (ds := []) (fun Q q => ?_) fun kl hkl => ?_
  · walk_at "dx"
    exact ⟨by decide, q⟩
  refine q_asg (.int 0) (fun Q q => ?_) ?_
  · walk_at "dx"
    exact q
  have nal : a ≠ kl := ne_of_none' hma hkl
  refine q_for ((List.range l.length).map fun i : Nat => .int (i : Nat)) (fun Q q => ?_) (fun i e m' => ∃ (S : Sh) (b : Addr) (ms : List Nat) (x4 x16 x17 x18 x19 x20 x21 : Option D), e = [some (.seq (ns.map D.int)), some (.adr a), x2, some (.int wd), x4, x5, x6, x7, x8, x9, x10, some (.str (rt r)), some (.list (deedsD l)), some (.adr s), some (.adr kl), some (.int S.n), x16, x17, x18, x19, x20, x21, none, none]
      ∧ St C a s kl m' S b S.ks ∧ S.r = r ∧ S.p.length = wd ∧ playM r (List.replicate wd false) (l.take i) = some (ms, S.p) ∧ drawnOk wd 0 (l.take i) = some (placesOf S.p).length ∧ S.n = ms.sum ∧ Spread (2 ^ (60 - i)) S.ks)
      ⟨Sh.zero r wd, b, [], _, _, _, _, _, _, _, rfl, ⟨hS.keep (fun q w h1 h2 => by rw [ups_ne h2]; exact h1) (ne_of_none' hS.ha hkl) (ne_of_none' hS.hb hkl), by rw [ups_ne nal]; exact hma, ups_same, ne_of_none' hS.hb hkl, nab, .refl _⟩, rfl, hrep, rfl, by rw [show (placesOf (Sh.zero r wd).p).length = 0 from hz]; rfl, rfl, ?_⟩ ?_ ?_
  · walk_at "dx"
    rw [show (deedsD l).length = l.length by simp [deedsD], Int.toNat_natCast]
    exact ⟨by omega, by omega, q⟩
  · show List.Pairwise _ [0, topK]
    decide
  · rintro i d hd e m1 ⟨S, b, ms, x4, x16, x17, x18, x19, x20, x21, rfl, hSt, hr, hpw, hplay, hdr, hsum, hsp⟩ nx hnx
    subst hr
    rw [List.getElem?_map] at hd
    obtain ⟨i', hi', rfl⟩ := Option.map_eq_some_iff.mp hd
    obtain ⟨hi, rfl⟩ := List.getElem?_eq_some_iff.mp hi'
    rw [List.length_range] at hi
    rw [List.getElem_range]
    have ok := hSt.sh.ok
    have hst := play_step (r := S.r) (p0 := List.replicate wd false) (p := S.p) (by rw [hrep, hpw]) (by rw [hrep]; exact hw2) hz (by rw [hrep]; exact hok) hi hplay (by rw [hrep]; exact hdr)
    rw [hrep] at hst
    obtain ⟨hok1, hpl1, hln1, hdr1⟩ := hst
    walk_at "dg"
    obtain ⟨⟨w, k⟩, hwk⟩ : ∃ x, l[i] = x := ⟨_, rfl⟩
    rw [hwk] at hok1 hpl1 hln1 hdr1
    refine q_asgG (e1 := [some (.seq (ns.map D.int)), some (.adr a), x2, some (.int wd), x4, x5, x6, x7, x8, x9, x10, some (.str (rt S.r)), some (.list (deedsD l)), some (.adr s), some (.adr kl), some (.int S.n), some (.int i), some (.str (wt w)), some (.int k), x19, x20, x21, none, none]) (fun Q q => ?_) ?_
    · walk_at "dx"
      refine ⟨deedD (w, k), atI_nat (by unfold deedsD; rw [List.getElem?_map, List.getElem?_eq_getElem hi, hwk]; rfl), [.str (wt w), .int (k : Nat)], rfl, rfl, _, _, rfl, _, _, rfl, rfl, q⟩
    have hG : (0 : Int) < 2 ^ (60 - (i + 1)) := Int.pow_pos (by decide)
    refine q_ifM (fun e m2 => ∃ (T : Sh) (b : Addr) (x19 x20 : Option D), e = [some (.seq (ns.map D.int)), some (.adr a), x2, some (.int wd), x4, x5, x6, x7, x8, x9, x10, some (.str (rt S.r)), some (.list (deedsD l)), some (.adr s), some (.adr kl), some (.int T.n), some (.int i), some (.str (wt w)), some (.int k), x19, x20, x21, none, none]
      ∧ St C a s kl m2 T b T.ks ∧ T.r = S.r ∧ T.p = (lawStep S.r S.p (w, k)).2 ∧ T.n = S.n + (lawStep S.r S.p (w, k)).1 ∧ Spread (2 ^ (60 - (i + 1))) T.ks) (decide (w = .take)) (fun Q q => ?_) (fun hb N hN => ?_) (fun hb N hN => ?_) ?_
    · walk_at "dx"
      rw [show decide (wt w = Str.ofString "take") = decide (w = .take) by cases w <;> decide +kernel]
      exact q
    · have hw := of_decide_eq_true hb
      subst hw
      have hk : k < S.ks.length := by
        have := ok.len
        simp only [okD, decide_eq_true_eq] at hok1
        omega
      have klen : S.ks.length ≤ 6 := by have := ok.w6; have := pl_len S.p; have := ok.len; omega
      have hrk := rank_at ok.inc hk
      obtain ⟨i1, i2, i3⟩ := rank_mem ok.inc (List.getElem_mem hk)
      have e3 : S.ks.erase S.ks[k] = S.ks.eraseIdx k := by rw [i3, hrk]
      obtain ⟨t1, t2⟩ := sh_take_step ok hrk hk
      have hSk : ShAt C (ups m1 kl (.lst ((S.ks.eraseIdx k).map D.int))) s b S := hSt.sh.keep (fun x w h1 h2 => by rw [ups_ne h2]; exact h1) hSt.nsl hSt.nbl
      refine s_dropP (fun m4 => ∃ b', St C a s kl m4 (S.take S.ks[k]) b' (S.take S.ks[k]).ks) (fun Q q => ?_) ?_
      · walk_at "dx"
        refine ⟨_, hSt.sh.ha, shF_take_out, by rw [hSt.li]; rfl, _, hSt.li, by omega, by omega, k, by rw [List.length_map]; exact seqIx_nat hk, .int S.ks[k], by rw [List.getElem?_map, List.getElem?_eq_getElem hk]; rfl, s, b, S, S.ks[k], rfl, by rw [erase_map]; exact hSk, List.getElem_mem hk, fun m' b' h1 kp => q _ _ ⟨b', ?_⟩⟩
        rw [erase_map] at kp
        obtain ⟨c1, c2⟩ := kp a (.any Dice) (by rw [ups_ne hSt.nal]; exact hSt.di) hSt.nas hSt.nab
        obtain ⟨c3, c4⟩ := kp kl _ ups_same hSt.nsl.symm hSt.nbl.symm
        refine ⟨h1, c1, ?_, c4.symm, c2, .refl _⟩
        rw [c3]
        show _ = some (MO.lst ((S.ks.erase S.ks[k]).map D.int))
        rw [e3]
      · rintro m4 ⟨b', h4⟩
        refine hN _ _ ⟨S.take S.ks[k], b', _, _, rfl, h4, rfl, t2, by rw [← t1]; rfl, ?_⟩
        refine (hsp.erase ?_).half ?_
        · show List.Sublist (S.ks.erase _) _
          exact List.erase_sublist
        · exact pow2_le (by omega)
    · have hw : w = .put := by
        have := of_decide_eq_false hb
        cases w
        · rfl
        · exact absurd rfl this
      subst hw
      simp only [okD, Bool.and_eq_true, decide_eq_true_eq] at hok1
      have hkl2 := ok.len
      have hk : k ≤ S.ks.length := by omega
      have hl1 : k < (0 :: S.ks).length := by rw [List.length_cons]; omega
      have hl2 : k < (S.ks ++ [topK]).length := by rw [List.length_append, List.length_cons]; omega
      have hsp' : Spread (2 * 2 ^ (60 - (i + 1))) S.ks := by
        have e : (2 : Int) * 2 ^ (60 - (i + 1)) = 2 ^ (60 - i) := by
          rw [show 60 - i = (60 - (i + 1)) + 1 by omega, Int.pow_succ]
          omega
        rw [e]
        exact hsp
      obtain ⟨j1, j2, j3⟩ := spread_ins hG hsp' hk (List.getElem?_eq_getElem hl1) (List.getElem?_eq_getElem hl2)
      have klen : S.ks.length ≤ 6 := by have := ok.w6; have := pl_len S.p; omega
      refine q_asg (.int (0 :: S.ks)[k]) (fun Q q => ?_) ?_
      · walk_at "dx"
        refine ⟨by decide, S.ks.map D.int, by rw [hSt.li], by rw [List.length_map]; exact Nat.le_trans (by omega : _ ≤ 100) (by decide), .int (0 :: S.ks)[k], atI_nat ?_, q⟩
        rw [show (D.int 0 :: S.ks.map D.int) = (0 :: S.ks).map D.int from rfl, List.getElem?_map, List.getElem?_eq_getElem hl1]
        rfl
      refine q_asg (.int (S.ks ++ [topK])[k]) (fun Q q => ?_) ?_
      · walk_at "dx"
        refine ⟨⟨by decide, by decide, by decide⟩, by decide, S.ks.map D.int, by rw [hSt.li], by rw [List.length_map]; exact Nat.le_trans (by omega : _ ≤ 100) (by decide), .int (S.ks ++ [topK])[k], atI_nat ?_, q⟩
        rw [show (S.ks.map D.int ++ [D.int (10 ^ Int.toNat 30)]) = (S.ks ++ [topK]).map D.int by rw [List.map_append]; rfl, List.getElem?_map, List.getElem?_eq_getElem hl2]
        rfl
      generalize (0 :: S.ks)[k] = low at j1 j2 j3 ⊢
      generalize (S.ks ++ [topK])[k] = high at j1 j2 j3 ⊢
      obtain ⟨t1, t2⟩ := sh_put_step ok j2 (by omega)
      refine q_dropM (m1 := ups m1 kl (.lst ((insAt S.ks k ((low + high) / 2)).map D.int))) (fun Q q => ?_) ?_
      · walk_at "dx"
        refine ⟨by rw [hSt.li]; rfl, ⟨by decide, by decide⟩, S.ks.map D.int, hSt.li, small_line (by rw [List.length_map]; omega), by omega, by omega, ?_⟩
        rw [Int.toNat_natCast, show (S.ks.map D.int).take k ++ [D.int ((low + high) / 2)] ++ (S.ks.map D.int).drop k = insAt (S.ks.map D.int) k (D.int ((low + high) / 2)) from rfl, insAt_map]
        exact q _
      have hSk : ShAt C (ups m1 kl (.lst ((insAt S.ks k ((low + high) / 2)).map D.int))) s b S := hSt.sh.keep (fun x w h1 h2 => by rw [ups_ne h2]; exact h1) hSt.nsl hSt.nbl
      refine s_asgP (fun d m4 => d = .int ((S.n + S.found ((low + high) / 2) : Nat) : Int) ∧ ∃ b', St C a s kl m4 (S.put ((low + high) / 2)) b' (S.put ((low + high) / 2)).ks) (fun Q q => ?_) ?_
      · walk_at "dx"
        refine ⟨_, hSk.ha, shF_put_in, .int ((low + high) / 2), atI_nat ?_, s, b, S, (low + high) / 2, rfl, hSk, j3, by omega, fun m' b' h1 kp => ⟨_, rfl, ?_⟩⟩
        · rw [List.getElem?_map]
          unfold insAt
          rw [List.append_assoc, List.getElem?_append_right (by rw [List.length_take]; omega), List.length_take, Nat.min_eq_left hk, Nat.sub_self]
          rfl
        obtain ⟨c1, c2⟩ := kp a (.any Dice) (by rw [ups_ne hSt.nal]; exact hSt.di) hSt.nas hSt.nab
        obtain ⟨c3, c4⟩ := kp kl _ ups_same hSt.nsl.symm hSt.nbl.symm
        refine q _ _ ⟨by rw [show ((S.n + S.found ((low + high) / 2) : Nat) : Int) = (S.n : Int) + (S.found ((low + high) / 2) : Nat) by omega], b', h1, c1, ?_, c4.symm, c2, .refl _⟩
        rw [c3]
        show _ = some (MO.lst ((insAt S.ks (rankM S.ks _) _).map D.int))
        rw [j2]
      · rintro d4 m4 ⟨rfl, b', h4⟩
        refine hN _ _ ⟨S.put ((low + high) / 2), b', _, _, rfl, h4, rfl, t2, by rw [← t1]; rfl, ?_⟩
        show Spread _ (insAt S.ks (rankM S.ks _) _)
        rw [j2]
        exact j1
    rintro e m2 ⟨T, b2, x19, x20, rfl, hT, hTr, hTp, hTn, hTs⟩
    refine q_asgGP (fun e m3 => ∃ c, m2 c = none ∧ e = [some (.seq (ns.map D.int)), some (.adr a), x2, some (.int wd), some (.str (ps T.p)), x5, x6, x7, x8, x9, x10, some (.str (rt S.r)), some (.list (deedsD l)), some (.adr s), some (.adr kl), some (.int T.n), some (.int i), some (.str (wt w)), some (.int k), x19, x20, some (.adr c), none, none] ∧ m3 = ups m2 c (.lst (nums (ms ++ [(lawStep S.r S.p (w, k)).1])))) (fun Q q => ?_) ?_
    · walk_at "dx"
      rw [show ((i : Int) + 1) = ((i + 1 : Nat) : Int) by omega, cut_take]
      have e : (deedsD l).take (i + 1) = deedsD (l.take (i + 1)) := by
        unfold deedsD
        rw [List.map_take]
      rw [e]
      refine ⟨S.r, wd, l.take (i + 1), _, rfl, hw1, hw2, by rw [List.length_take]; omega, hpl1, fun c hc => ⟨_, rfl, rfl, _, _, rfl, _, _, rfl, rfl, ?_⟩⟩
      rw [← hTp]
      exact q _ _ ⟨c, hc, rfl, rfl⟩
    rintro e m3 ⟨c, hc, rfl, rfl⟩
    have hT2 : St C a s kl (ups m2 c (.lst (nums (ms ++ [(lawStep S.r S.p (w, k)).1])))) T b2 T.ks := ⟨hT.sh.keep (fun x w h1 h2 => by rw [ups_ne h2]; exact h1) (ne_of_none' hT.sh.ha hc) (ne_of_none' hT.sh.hb hc), by rw [ups_ne (ne_of_none' hT.di hc)]; exact hT.di, by rw [ups_ne (ne_of_none' hT.li hc)]; exact hT.li, hT.nbl, hT.nab, hT.pm⟩
    refine s_if' false (fun Q q => ?_) nofun (fun _ => ?_)
    · walk_at "dx"
      refine ⟨⟨_, rfl⟩, _, hT2.sh.ha, shF_standing, s, b2, T, rfl, hT2.sh, rowD T.row, rfl, ?_⟩
      have hrl : T.row.length = T.p.length := rowOf_len _
      have hT6 := hT.sh.ok.w6
      unfold rowD
      refine lc_mapAll (fun x : Option Int => .str (if x.isSome then "1" else "0")) (fun x hx Q' q' => ?_) (small_line (by omega)) ?_
      · walk_at "dx"
        cases x with
        | none => exact ⟨by decide +kernel, 48, (by decide +kernel : atI (Str.ofString "01").cps.toList (0 : Int) = some 48), q'⟩
        | some x => exact ⟨by decide +kernel, 49, (by decide +kernel : atI (Str.ofString "01").cps.toList (1 : Int) = some 49), q'⟩
      · refine ⟨(lawPat T.row).map fun b => if b then ("1" : Str) else "0", ?_, ?_, ?_⟩
        · unfold lawPat
          rw [List.map_map, List.map_map]
          rfl
        · rw [signs_sum]
          simp only [lawPat, List.length_map, List.length_range]
          have : ("" : Str).length = 0 := by decide +kernel
          rw [this]
          omega
        · rw [join_signs, show lawPat T.row = T.p from rowOf_pat hT6 _]
          rw [if_neg (by simp)]
          refine ⟨(ms ++ [(lawStep S.r S.p (w, k)).1]).map (fun n : Nat => (n : Int)), by rw [ups_same, nums_ints], ?_⟩
          rw [ints_sum, hTn, hsum, List.sum_append]
          rw [decide_eq_true (by simp)]
          exact q
    · walk_at "dx"
      refine hnx _ _ ⟨T, b2, ms ++ [(lawStep S.r S.p (w, k)).1], _, _, _, _, _, _, _, rfl, hT2, hTr, by rw [hTp, hln1], by rw [hTp]; exact hpl1, by rw [hTp]; exact hdr1, ?_, hTs⟩
      rw [hTn, hsum, List.sum_append]
      simp
  · rintro e m' ⟨S, b, ms, x4, x16, x17, x18, x19, x20, x21, rfl, hSt, _⟩
    walk_at "dx"
    exact q _
end
theorem all_mk {l : PySem.W.OpenLaw} {w : World} {K : PySem.W.Frag} {h : Heap} {mg : Str → Option Value} {fa : Addr} (X : K.In h) (G : h.Ns mainGlobals mg) (hfa : mg "law" = some (.ref fa))
    {t_MOST_WIDE : Tok}
    {a_RULES : Addr} {od_RULES : Option Addr} {n_RULES : Nat} {sl_RULES : Array (Option Value)} {t_RULES_0 t_RULES_1 t_RULES_2 : Tok}
    {t_FREE : Tok}
    {t_TAKEN : Tok}
    {C : Addr}
    {f_Shelf___init__ : Addr} {od_Shelf___init__ an_Shelf___init__ : Option Addr} {sl_Shelf___init__ : Array (Option Value)} {oc_Shelf___init__ kV_Shelf___init__ dc_Shelf___init__ pm_Shelf___init__ cd_Shelf___init__ ct_Shelf___init__ : Value}
    {f_Shelf_put_in : Addr} {od_Shelf_put_in an_Shelf_put_in : Option Addr} {sl_Shelf_put_in : Array (Option Value)} {oc_Shelf_put_in kV_Shelf_put_in dc_Shelf_put_in pm_Shelf_put_in cd_Shelf_put_in ct_Shelf_put_in : Value}
    {f_Shelf_take_out : Addr} {od_Shelf_take_out an_Shelf_take_out : Option Addr} {sl_Shelf_take_out : Array (Option Value)} {oc_Shelf_take_out kV_Shelf_take_out dc_Shelf_take_out pm_Shelf_take_out cd_Shelf_take_out ct_Shelf_take_out : Value}
    {f_Shelf_standing : Addr} {od_Shelf_standing an_Shelf_standing : Option Addr} {sl_Shelf_standing : Array (Option Value)} {oc_Shelf_standing kV_Shelf_standing dc_Shelf_standing pm_Shelf_standing cd_Shelf_standing ct_Shelf_standing : Value}
    {f_Shelf_moved : Addr} {od_Shelf_moved an_Shelf_moved : Option Addr} {sl_Shelf_moved : Array (Option Value)} {oc_Shelf_moved kV_Shelf_moved dc_Shelf_moved pm_Shelf_moved cd_Shelf_moved ct_Shelf_moved : Value}
    {f_need_width : Addr} {od_need_width an_need_width : Option Addr} {sl_need_width : Array (Option Value)} {oc_need_width kV_need_width dc_need_width pm_need_width cd_need_width ct_need_width : Value}
    {f_need_rule : Addr} {od_need_rule an_need_rule : Option Addr} {sl_need_rule : Array (Option Value)} {oc_need_rule kV_need_rule dc_need_rule pm_need_rule cd_need_rule ct_need_rule : Value}
    {f_need_pattern : Addr} {od_need_pattern an_need_pattern : Option Addr} {sl_need_pattern : Array (Option Value)} {oc_need_pattern kV_need_pattern dc_need_pattern pm_need_pattern cd_need_pattern ct_need_pattern : Value}
    {f_places_of : Addr} {od_places_of an_places_of : Option Addr} {sl_places_of : Array (Option Value)} {oc_places_of kV_places_of dc_places_of pm_places_of cd_places_of ct_places_of : Value}
    {f_pattern_of : Addr} {od_pattern_of an_pattern_of : Option Addr} {sl_pattern_of : Array (Option Value)} {oc_pattern_of kV_pattern_of dc_pattern_of pm_pattern_of cd_pattern_of ct_pattern_of : Value}
    {f_even_places : Addr} {od_even_places an_even_places : Option Addr} {sl_even_places : Array (Option Value)} {oc_even_places kV_even_places dc_even_places pm_even_places cd_even_places ct_even_places : Value}
    {f_shifted : Addr} {od_shifted an_shifted : Option Addr} {sl_shifted : Array (Option Value)} {oc_shifted kV_shifted dc_shifted pm_shifted cd_shifted ct_shifted : Value}
    {f_places_behind : Addr} {od_places_behind an_places_behind : Option Addr} {sl_places_behind : Array (Option Value)} {oc_places_behind kV_places_behind dc_places_behind pm_places_behind cd_places_behind ct_places_behind : Value}
    {f_moved : Addr} {od_moved an_moved : Option Addr} {sl_moved : Array (Option Value)} {oc_moved kV_moved dc_moved pm_moved cd_moved ct_moved : Value}
    {f_step : Addr} {od_step an_step : Option Addr} {sl_step : Array (Option Value)} {oc_step kV_step dc_step pm_step cd_step ct_step : Value}
    {f_done : Addr} {od_done an_done : Option Addr} {sl_done : Array (Option Value)} {oc_done kV_done dc_done pm_done cd_done ct_done : Value}
    {f_played : Addr} {od_played an_played : Option Addr} {sl_played : Array (Option Value)} {oc_played kV_played dc_played pm_played cd_played ct_played : Value}
    {f__law_dice : Addr} {od__law_dice an__law_dice : Option Addr} {sl__law_dice : Array (Option Value)} {oc__law_dice kV__law_dice dc__law_dice pm__law_dice cd__law_dice ct__law_dice : Value}
    {f__law_off : Addr} {od__law_off an__law_off : Option Addr} {sl__law_off : Array (Option Value)} {oc__law_off kV__law_off dc__law_off pm__law_off cd__law_off ct__law_off : Value}
    {f__law_rule : Addr} {od__law_rule an__law_rule : Option Addr} {sl__law_rule : Array (Option Value)} {oc__law_rule kV__law_rule dc__law_rule pm__law_rule cd__law_rule ct__law_rule : Value}
    {f__law_deeds : Addr} {od__law_deeds an__law_deeds : Option Addr} {sl__law_deeds : Array (Option Value)} {oc__law_deeds kV__law_deeds dc__law_deeds pm__law_deeds cd__law_deeds ct__law_deeds : Value}
    {f__law_drawn : Addr} {od__law_drawn an__law_drawn : Option Addr} {sl__law_drawn : Array (Option Value)} {oc__law_drawn kV__law_drawn dc__law_drawn pm__law_drawn cd__law_drawn ct__law_drawn : Value}
    {f_law : Addr} {od_law an_law : Option Addr} {sl_law : Array (Option Value)} {oc_law kV_law dc_law pm_law cd_law ct_law : Value}
    (z_abs : PySem.W.nsIn K mainGlobals "abs" = some none)
    (z_enumerate : PySem.W.nsIn K mainGlobals "enumerate" = some none)
    (z_int : PySem.W.nsIn K mainGlobals "int" = some none)
    (z_len : PySem.W.nsIn K mainGlobals "len" = some none)
    (z_list : PySem.W.nsIn K mainGlobals "list" = some none)
    (z_max : PySem.W.nsIn K mainGlobals "max" = some none)
    (z_range : PySem.W.nsIn K mainGlobals "range" = some none)
    (z_sorted : PySem.W.nsIn K mainGlobals "sorted" = some none)
    (z_sum : PySem.W.nsIn K mainGlobals "sum" = some none)
    (z_zip : PySem.W.nsIn K mainGlobals "zip" = some none)
    (g_MOST_WIDE : PySem.W.nsIn K mainGlobals "MOST_WIDE" = some (some (.int 6 t_MOST_WIDE)))
    (g_RULES : PySem.W.nsIn K mainGlobals "RULES" = some (some (.ref a_RULES)))
    (l_RULES : K.lookup a_RULES = some ⟨.type "tuple", od_RULES, .seq #[.str "near" t_RULES_0, .str "left" t_RULES_1, .str "even" t_RULES_2] n_RULES, sl_RULES⟩)
    (g_FREE : PySem.W.nsIn K mainGlobals "FREE" = some (some (.str "0" t_FREE)))
    (g_TAKEN : PySem.W.nsIn K mainGlobals "TAKEN" = some (some (.str "1" t_TAKEN)))
    (a_cls : PySem.W.nsIn K mainGlobals "Shelf" = some (some (.ref C)))
    (pg : PySem.W.plainGet K C Str.empty = true) (hd : PySem.W.hasDictIn K C = true) (po : PySem.W.plainOver K C = true) (sa : PySem.W.findIn K (.ref C) "__setattr__" = some (some (.builtin "object.__setattr__"))) (mk : PySem.W.makesIn K C = true) (kc : PySem.W.keepIn K (.ref C) = true)
    (na_rule : PySem.W.findIn K (.ref C) "rule" = some none)
    (na_wide : PySem.W.findIn K (.ref C) "wide" = some none)
    (na_row : PySem.W.findIn K (.ref C) "row" = some none)
    (na_many : PySem.W.findIn K (.ref C) "many" = some none)
    (a_Shelf___init__ : PySem.W.findIn K (.ref C) "__init__" = some (some (.ref f_Shelf___init__))) (i_Shelf___init__ : PySem.W.isFn K (.ref f_Shelf___init__) = true)
    (l_Shelf___init__ : K.lookup f_Shelf___init__ = some ⟨oc_Shelf___init__, od_Shelf___init__, .func (PySem.W.fnOf "__init__" "Shelf.__init__" (defArgs s_Shelf___init__) (defBody s_Shelf___init__) (defScope s_Shelf___init__) .none kV_Shelf___init__ dc_Shelf___init__ pm_Shelf___init__ an_Shelf___init__ cd_Shelf___init__ ct_Shelf___init__), sl_Shelf___init__⟩)
    (c_Shelf___init__ : PySem.W.codeIn K cd_Shelf___init__ "Shelf.__init__" = true)
    (k_Shelf___init__ : PySem.W.keepIn K (.ref f_Shelf___init__) = true)
    (a_Shelf_put_in : PySem.W.findIn K (.ref C) "put_in" = some (some (.ref f_Shelf_put_in))) (i_Shelf_put_in : PySem.W.isFn K (.ref f_Shelf_put_in) = true)
    (l_Shelf_put_in : K.lookup f_Shelf_put_in = some ⟨oc_Shelf_put_in, od_Shelf_put_in, .func (PySem.W.fnOf "put_in" "Shelf.put_in" (defArgs s_Shelf_put_in) (defBody s_Shelf_put_in) (defScope s_Shelf_put_in) .none kV_Shelf_put_in dc_Shelf_put_in pm_Shelf_put_in an_Shelf_put_in cd_Shelf_put_in ct_Shelf_put_in), sl_Shelf_put_in⟩)
    (c_Shelf_put_in : PySem.W.codeIn K cd_Shelf_put_in "Shelf.put_in" = true)
    (k_Shelf_put_in : PySem.W.keepIn K (.ref f_Shelf_put_in) = true)
    (a_Shelf_take_out : PySem.W.findIn K (.ref C) "take_out" = some (some (.ref f_Shelf_take_out))) (i_Shelf_take_out : PySem.W.isFn K (.ref f_Shelf_take_out) = true)
    (l_Shelf_take_out : K.lookup f_Shelf_take_out = some ⟨oc_Shelf_take_out, od_Shelf_take_out, .func (PySem.W.fnOf "take_out" "Shelf.take_out" (defArgs s_Shelf_take_out) (defBody s_Shelf_take_out) (defScope s_Shelf_take_out) .none kV_Shelf_take_out dc_Shelf_take_out pm_Shelf_take_out an_Shelf_take_out cd_Shelf_take_out ct_Shelf_take_out), sl_Shelf_take_out⟩)
    (c_Shelf_take_out : PySem.W.codeIn K cd_Shelf_take_out "Shelf.take_out" = true)
    (k_Shelf_take_out : PySem.W.keepIn K (.ref f_Shelf_take_out) = true)
    (a_Shelf_standing : PySem.W.findIn K (.ref C) "standing" = some (some (.ref f_Shelf_standing))) (i_Shelf_standing : PySem.W.isFn K (.ref f_Shelf_standing) = true)
    (l_Shelf_standing : K.lookup f_Shelf_standing = some ⟨oc_Shelf_standing, od_Shelf_standing, .func (PySem.W.fnOf "standing" "Shelf.standing" (defArgs s_Shelf_standing) (defBody s_Shelf_standing) (defScope s_Shelf_standing) .none kV_Shelf_standing dc_Shelf_standing pm_Shelf_standing an_Shelf_standing cd_Shelf_standing ct_Shelf_standing), sl_Shelf_standing⟩)
    (c_Shelf_standing : PySem.W.codeIn K cd_Shelf_standing "Shelf.standing" = true)
    (k_Shelf_standing : PySem.W.keepIn K (.ref f_Shelf_standing) = true)
    (a_Shelf_moved : PySem.W.findIn K (.ref C) "moved" = some (some (.ref f_Shelf_moved))) (i_Shelf_moved : PySem.W.isFn K (.ref f_Shelf_moved) = true)
    (l_Shelf_moved : K.lookup f_Shelf_moved = some ⟨oc_Shelf_moved, od_Shelf_moved, .func (PySem.W.fnOf "moved" "Shelf.moved" (defArgs s_Shelf_moved) (defBody s_Shelf_moved) (defScope s_Shelf_moved) .none kV_Shelf_moved dc_Shelf_moved pm_Shelf_moved an_Shelf_moved cd_Shelf_moved ct_Shelf_moved), sl_Shelf_moved⟩)
    (c_Shelf_moved : PySem.W.codeIn K cd_Shelf_moved "Shelf.moved" = true)
    (k_Shelf_moved : PySem.W.keepIn K (.ref f_Shelf_moved) = true)
    (a_need_width : PySem.W.nsIn K mainGlobals "need_width" = some (some (.ref f_need_width)))
    (l_need_width : K.lookup f_need_width = some ⟨oc_need_width, od_need_width, .func (PySem.W.fnOf "need_width" "need_width" (defArgs s_need_width) (defBody s_need_width) (defScope s_need_width) .none kV_need_width dc_need_width pm_need_width an_need_width cd_need_width ct_need_width), sl_need_width⟩)
    (c_need_width : PySem.W.codeIn K cd_need_width "need_width" = true)
    (k_need_width : PySem.W.keepIn K (.ref f_need_width) = true)
    (a_need_rule : PySem.W.nsIn K mainGlobals "need_rule" = some (some (.ref f_need_rule)))
    (l_need_rule : K.lookup f_need_rule = some ⟨oc_need_rule, od_need_rule, .func (PySem.W.fnOf "need_rule" "need_rule" (defArgs s_need_rule) (defBody s_need_rule) (defScope s_need_rule) .none kV_need_rule dc_need_rule pm_need_rule an_need_rule cd_need_rule ct_need_rule), sl_need_rule⟩)
    (c_need_rule : PySem.W.codeIn K cd_need_rule "need_rule" = true)
    (k_need_rule : PySem.W.keepIn K (.ref f_need_rule) = true)
    (a_need_pattern : PySem.W.nsIn K mainGlobals "need_pattern" = some (some (.ref f_need_pattern)))
    (l_need_pattern : K.lookup f_need_pattern = some ⟨oc_need_pattern, od_need_pattern, .func (PySem.W.fnOf "need_pattern" "need_pattern" (defArgs s_need_pattern) (defBody s_need_pattern) (defScope s_need_pattern) .none kV_need_pattern dc_need_pattern pm_need_pattern an_need_pattern cd_need_pattern ct_need_pattern), sl_need_pattern⟩)
    (c_need_pattern : PySem.W.codeIn K cd_need_pattern "need_pattern" = true)
    (k_need_pattern : PySem.W.keepIn K (.ref f_need_pattern) = true)
    (a_places_of : PySem.W.nsIn K mainGlobals "places_of" = some (some (.ref f_places_of)))
    (l_places_of : K.lookup f_places_of = some ⟨oc_places_of, od_places_of, .func (PySem.W.fnOf "places_of" "places_of" (defArgs s_places_of) (defBody s_places_of) (defScope s_places_of) .none kV_places_of dc_places_of pm_places_of an_places_of cd_places_of ct_places_of), sl_places_of⟩)
    (c_places_of : PySem.W.codeIn K cd_places_of "places_of" = true)
    (k_places_of : PySem.W.keepIn K (.ref f_places_of) = true)
    (a_pattern_of : PySem.W.nsIn K mainGlobals "pattern_of" = some (some (.ref f_pattern_of)))
    (l_pattern_of : K.lookup f_pattern_of = some ⟨oc_pattern_of, od_pattern_of, .func (PySem.W.fnOf "pattern_of" "pattern_of" (defArgs s_pattern_of) (defBody s_pattern_of) (defScope s_pattern_of) .none kV_pattern_of dc_pattern_of pm_pattern_of an_pattern_of cd_pattern_of ct_pattern_of), sl_pattern_of⟩)
    (c_pattern_of : PySem.W.codeIn K cd_pattern_of "pattern_of" = true)
    (k_pattern_of : PySem.W.keepIn K (.ref f_pattern_of) = true)
    (a_even_places : PySem.W.nsIn K mainGlobals "even_places" = some (some (.ref f_even_places)))
    (l_even_places : K.lookup f_even_places = some ⟨oc_even_places, od_even_places, .func (PySem.W.fnOf "even_places" "even_places" (defArgs s_even_places) (defBody s_even_places) (defScope s_even_places) .none kV_even_places dc_even_places pm_even_places an_even_places cd_even_places ct_even_places), sl_even_places⟩)
    (c_even_places : PySem.W.codeIn K cd_even_places "even_places" = true)
    (k_even_places : PySem.W.keepIn K (.ref f_even_places) = true)
    (a_shifted : PySem.W.nsIn K mainGlobals "shifted" = some (some (.ref f_shifted)))
    (l_shifted : K.lookup f_shifted = some ⟨oc_shifted, od_shifted, .func (PySem.W.fnOf "shifted" "shifted" (defArgs s_shifted) (defBody s_shifted) (defScope s_shifted) .none kV_shifted dc_shifted pm_shifted an_shifted cd_shifted ct_shifted), sl_shifted⟩)
    (c_shifted : PySem.W.codeIn K cd_shifted "shifted" = true)
    (k_shifted : PySem.W.keepIn K (.ref f_shifted) = true)
    (a_places_behind : PySem.W.nsIn K mainGlobals "places_behind" = some (some (.ref f_places_behind)))
    (l_places_behind : K.lookup f_places_behind = some ⟨oc_places_behind, od_places_behind, .func (PySem.W.fnOf "places_behind" "places_behind" (defArgs s_places_behind) (defBody s_places_behind) (defScope s_places_behind) .none kV_places_behind dc_places_behind pm_places_behind an_places_behind cd_places_behind ct_places_behind), sl_places_behind⟩)
    (c_places_behind : PySem.W.codeIn K cd_places_behind "places_behind" = true)
    (k_places_behind : PySem.W.keepIn K (.ref f_places_behind) = true)
    (a_moved : PySem.W.nsIn K mainGlobals "moved" = some (some (.ref f_moved)))
    (l_moved : K.lookup f_moved = some ⟨oc_moved, od_moved, .func (PySem.W.fnOf "moved" "moved" (defArgs s_moved) (defBody s_moved) (defScope s_moved) .none kV_moved dc_moved pm_moved an_moved cd_moved ct_moved), sl_moved⟩)
    (c_moved : PySem.W.codeIn K cd_moved "moved" = true)
    (k_moved : PySem.W.keepIn K (.ref f_moved) = true)
    (a_step : PySem.W.nsIn K mainGlobals "step" = some (some (.ref f_step)))
    (l_step : K.lookup f_step = some ⟨oc_step, od_step, .func (PySem.W.fnOf "step" "step" (defArgs s_step) (defBody s_step) (defScope s_step) .none kV_step dc_step pm_step an_step cd_step ct_step), sl_step⟩)
    (c_step : PySem.W.codeIn K cd_step "step" = true)
    (k_step : PySem.W.keepIn K (.ref f_step) = true)
    (a_done : PySem.W.nsIn K mainGlobals "done" = some (some (.ref f_done)))
    (l_done : K.lookup f_done = some ⟨oc_done, od_done, .func (PySem.W.fnOf "done" "done" (defArgs s_done) (defBody s_done) (defScope s_done) .none kV_done dc_done pm_done an_done cd_done ct_done), sl_done⟩)
    (c_done : PySem.W.codeIn K cd_done "done" = true)
    (k_done : PySem.W.keepIn K (.ref f_done) = true)
    (a_played : PySem.W.nsIn K mainGlobals "played" = some (some (.ref f_played)))
    (l_played : K.lookup f_played = some ⟨oc_played, od_played, .func (PySem.W.fnOf "played" "played" (defArgs s_played) (defBody s_played) (defScope s_played) .none kV_played dc_played pm_played an_played cd_played ct_played), sl_played⟩)
    (c_played : PySem.W.codeIn K cd_played "played" = true)
    (k_played : PySem.W.keepIn K (.ref f_played) = true)
    (a__law_dice : PySem.W.nsIn K mainGlobals "_law_dice" = some (some (.ref f__law_dice)))
    (l__law_dice : K.lookup f__law_dice = some ⟨oc__law_dice, od__law_dice, .func (PySem.W.fnOf "_law_dice" "_law_dice" (defArgs s__law_dice) (defBody s__law_dice) (defScope s__law_dice) .none kV__law_dice dc__law_dice pm__law_dice an__law_dice cd__law_dice ct__law_dice), sl__law_dice⟩)
    (c__law_dice : PySem.W.codeIn K cd__law_dice "_law_dice" = true)
    (k__law_dice : PySem.W.keepIn K (.ref f__law_dice) = true)
    (a__law_off : PySem.W.nsIn K mainGlobals "_law_off" = some (some (.ref f__law_off)))
    (l__law_off : K.lookup f__law_off = some ⟨oc__law_off, od__law_off, .func (PySem.W.fnOf "_law_off" "_law_off" (defArgs s__law_off) (defBody s__law_off) (defScope s__law_off) .none kV__law_off dc__law_off pm__law_off an__law_off cd__law_off ct__law_off), sl__law_off⟩)
    (c__law_off : PySem.W.codeIn K cd__law_off "_law_off" = true)
    (k__law_off : PySem.W.keepIn K (.ref f__law_off) = true)
    (a__law_rule : PySem.W.nsIn K mainGlobals "_law_rule" = some (some (.ref f__law_rule)))
    (l__law_rule : K.lookup f__law_rule = some ⟨oc__law_rule, od__law_rule, .func (PySem.W.fnOf "_law_rule" "_law_rule" (defArgs s__law_rule) (defBody s__law_rule) (defScope s__law_rule) .none kV__law_rule dc__law_rule pm__law_rule an__law_rule cd__law_rule ct__law_rule), sl__law_rule⟩)
    (c__law_rule : PySem.W.codeIn K cd__law_rule "_law_rule" = true)
    (k__law_rule : PySem.W.keepIn K (.ref f__law_rule) = true)
    (a__law_deeds : PySem.W.nsIn K mainGlobals "_law_deeds" = some (some (.ref f__law_deeds)))
    (l__law_deeds : K.lookup f__law_deeds = some ⟨oc__law_deeds, od__law_deeds, .func (PySem.W.fnOf "_law_deeds" "_law_deeds" (defArgs s__law_deeds) (defBody s__law_deeds) (defScope s__law_deeds) .none kV__law_deeds dc__law_deeds pm__law_deeds an__law_deeds cd__law_deeds ct__law_deeds), sl__law_deeds⟩)
    (c__law_deeds : PySem.W.codeIn K cd__law_deeds "_law_deeds" = true)
    (k__law_deeds : PySem.W.keepIn K (.ref f__law_deeds) = true)
    (a__law_drawn : PySem.W.nsIn K mainGlobals "_law_drawn" = some (some (.ref f__law_drawn)))
    (l__law_drawn : K.lookup f__law_drawn = some ⟨oc__law_drawn, od__law_drawn, .func (PySem.W.fnOf "_law_drawn" "_law_drawn" (defArgs s__law_drawn) (defBody s__law_drawn) (defScope s__law_drawn) .none kV__law_drawn dc__law_drawn pm__law_drawn an__law_drawn cd__law_drawn ct__law_drawn), sl__law_drawn⟩)
    (c__law_drawn : PySem.W.codeIn K cd__law_drawn "_law_drawn" = true)
    (k__law_drawn : PySem.W.keepIn K (.ref f__law_drawn) = true)
    (a_law : PySem.W.nsIn K mainGlobals "law" = some (some (.ref f_law)))
    (l_law : K.lookup f_law = some ⟨oc_law, od_law, .func (PySem.W.fnOf "law" "law" (defArgs s_law) (defBody s_law) (defScope s_law) .none kV_law dc_law pm_law an_law cd_law ct_law), sl_law⟩)
    (c_law : PySem.W.codeIn K cd_law "law" = true)
    (k_law : PySem.W.keepIn K (.ref f_law) = true) :
    ∃ fd : FuncData, (∀ (s : Shared) (v : Value), BindsTo s fd ⟨[v], []⟩ [("_law_script", v)]) ∧ ∀ base : Heap, K.In base → base.Ns mainGlobals mg → FnOk l.prog w K mg base CX0 5 fa fd ["_law_script"] (spD K pre_law) := by
  have e := hfa.symm.trans (PySem.W.mg_of X G a_law)
  cases e
  have T : TX K mg C := ⟨PySem.W.mg_none_of X G z_abs,
    PySem.W.mg_none_of X G z_enumerate,
    PySem.W.mg_none_of X G z_int,
    PySem.W.mg_none_of X G z_len,
    PySem.W.mg_none_of X G z_list,
    PySem.W.mg_none_of X G z_max,
    PySem.W.mg_none_of X G z_range,
    PySem.W.mg_none_of X G z_sorted,
    PySem.W.mg_none_of X G z_sum,
    PySem.W.mg_none_of X G z_zip,
    globI (PySem.W.mg_of X G g_MOST_WIDE),
    globT (us := [.str "near" t_RULES_0, .str "left" t_RULES_1, .str "even" t_RULES_2]) (ss := ["near", "left", "even"]) (PySem.W.mg_of X G g_RULES) l_RULES (by show 3 ≤ sizeLine; decide) (⟨⟨_, rfl⟩, ⟨⟨_, rfl⟩, ⟨⟨_, rfl⟩, trivial⟩⟩⟩),
    globS (PySem.W.mg_of X G g_FREE),
    globS (PySem.W.mg_of X G g_TAKEN),
    ⟨pg, hd, po, sa⟩,
    PySem.W.mg_of X G a_cls,
    na_rule,
    na_wide,
    na_row,
    na_many,
    ⟨⟨_, _, fun_mk (st := s_Shelf___init__) l_Shelf___init__ c_Shelf___init__ k_Shelf___init__, ⟨mk, a_Shelf___init__, i_Shelf___init__, kc⟩⟩⟩,
    ⟨⟨_, _, fun_mk (st := s_Shelf_put_in) l_Shelf_put_in c_Shelf_put_in k_Shelf_put_in, ⟨a_Shelf_put_in, i_Shelf_put_in, k_Shelf_put_in⟩⟩⟩,
    ⟨⟨_, _, fun_mk (st := s_Shelf_take_out) l_Shelf_take_out c_Shelf_take_out k_Shelf_take_out, ⟨a_Shelf_take_out, i_Shelf_take_out, k_Shelf_take_out⟩⟩⟩,
    ⟨⟨_, _, fun_mk (st := s_Shelf_standing) l_Shelf_standing c_Shelf_standing k_Shelf_standing, ⟨a_Shelf_standing, i_Shelf_standing, k_Shelf_standing⟩⟩⟩,
    ⟨⟨_, _, fun_mk (st := s_Shelf_moved) l_Shelf_moved c_Shelf_moved k_Shelf_moved, ⟨a_Shelf_moved, i_Shelf_moved, k_Shelf_moved⟩⟩⟩,
    ⟨⟨_, _, fun_mk (st := s_need_width) l_need_width c_need_width k_need_width, PySem.W.mg_of X G a_need_width⟩⟩,
    ⟨⟨_, _, fun_mk (st := s_need_rule) l_need_rule c_need_rule k_need_rule, PySem.W.mg_of X G a_need_rule⟩⟩,
    ⟨⟨_, _, fun_mk (st := s_need_pattern) l_need_pattern c_need_pattern k_need_pattern, PySem.W.mg_of X G a_need_pattern⟩⟩,
    ⟨⟨_, _, fun_mk (st := s_places_of) l_places_of c_places_of k_places_of, PySem.W.mg_of X G a_places_of⟩⟩,
    ⟨⟨_, _, fun_mk (st := s_pattern_of) l_pattern_of c_pattern_of k_pattern_of, PySem.W.mg_of X G a_pattern_of⟩⟩,
    ⟨⟨_, _, fun_mk (st := s_even_places) l_even_places c_even_places k_even_places, PySem.W.mg_of X G a_even_places⟩⟩,
    ⟨⟨_, _, fun_mk (st := s_shifted) l_shifted c_shifted k_shifted, PySem.W.mg_of X G a_shifted⟩⟩,
    ⟨⟨_, _, fun_mk (st := s_places_behind) l_places_behind c_places_behind k_places_behind, PySem.W.mg_of X G a_places_behind⟩⟩,
    ⟨⟨_, _, fun_mk (st := s_moved) l_moved c_moved k_moved, PySem.W.mg_of X G a_moved⟩⟩,
    ⟨⟨_, _, fun_mk (st := s_step) l_step c_step k_step, PySem.W.mg_of X G a_step⟩⟩,
    ⟨⟨_, _, fun_mk (st := s_done) l_done c_done k_done, PySem.W.mg_of X G a_done⟩⟩,
    ⟨⟨_, _, fun_mk (st := s_played) l_played c_played k_played, PySem.W.mg_of X G a_played⟩⟩,
    ⟨⟨_, _, fun_mk (st := s__law_dice) l__law_dice c__law_dice k__law_dice, PySem.W.mg_of X G a__law_dice⟩⟩,
    ⟨⟨_, _, fun_mk (st := s__law_off) l__law_off c__law_off k__law_off, PySem.W.mg_of X G a__law_off⟩⟩,
    ⟨⟨_, _, fun_mk (st := s__law_rule) l__law_rule c__law_rule k__law_rule, PySem.W.mg_of X G a__law_rule⟩⟩,
    ⟨⟨_, _, fun_mk (st := s__law_deeds) l__law_deeds c__law_deeds k__law_deeds, PySem.W.mg_of X G a__law_deeds⟩⟩,
    ⟨⟨_, _, fun_mk (st := s__law_drawn) l__law_drawn c__law_drawn k__law_drawn, PySem.W.mg_of X G a__law_drawn⟩⟩,
    ⟨⟨_, _, fun_mk (st := s_law) l_law c_law k_law, PySem.W.mg_of X G a_law⟩⟩⟩
  exact ⟨PySem.W.fnOf "law" "law" (defArgs s_law) (defBody s_law) (defScope s_law) .none kV_law dc_law pm_law an_law cd_law ct_law, fun s v => .of_eq rfl, fun base _ _ => ok_law T (fun_mk (st := s_law) l_law c_law k_law)⟩
theorem walk {l : PySem.W.OpenLaw} {q : Program} {loose : List Str} {XP : (Str → Option Value) → Heap → Prop} {YP : World → Heap → Prop} {d : DefRec} {K : Params → PySem.W.Frag} (hn : l.most = some 63) (hdf : d.params.defaults = [])
    (hY : ∀ (w : World) (h : Heap), YP w h → (K w.params).In h)
    (F : ∀ (w : World) (mg : Str → Option Value) (fa : Addr) (h : Heap), (K w.params).In h → h.Ns mainGlobals mg → mg d.name = some (.ref fa) →
      ∃ fd : FuncData, (∀ (s : Shared) (u : Value), BindsTo s fd ⟨[u], []⟩ [("_law_script", u)]) ∧ ∀ base : Heap, (K w.params).In base → base.Ns mainGlobals mg → FnOk l.prog w (K w.params) mg base CX0 5 fa fd ["_law_script"] (spD (K w.params) pre_law)) :
    PySem.W.WalkO q loose XP YP l.row.toRowW d [] (fun f vs => PySem.call f vs) :=
  L2.walk_of (n := 63) (k := 5) (x := "_law_script") (CX := fun _ => CX0) (sp := fun w => spD (K w.params) pre_law) hn (by decide) hdf ⟨rfl, by decide, by decide⟩ hY F (fun _ _ a ns hl _ hS => law_in (n := 63) (fun Q q => ⟨ns, rfl, hl, q⟩) hS _) fun _ _ _ _ _ z => z
end Ls
open PySem PySem.W PyProof.Rows
set_option maxRecDepth 100000 in
set_option maxHeartbeats 0 in
theorem PySem.Challenge.cw_looseshelf_k09_whole_rules_beside_one_an_holds : PySem.Challenge.rw_looseshelf_k09_whole_rules_beside_one_an.Holds := by
  w_on; o_law; k_head; (case hw => w_witness2)
  k_fill
  refine Ls.walk (l := PySem.Challenge.rw_looseshelf_k09_whole_rules_beside_one_an) rfl rfl (fun w h Y => PySem.W.kIn_of Y) ?F
  case F =>
    intro w mg fa h KX G hmg
    refine' Ls.all_mk KX G hmg ?z_abs ?z_enumerate ?z_int ?z_len ?z_list ?z_max ?z_range ?z_sorted ?z_sum ?z_zip ?g_MOST_WIDE ?g_RULES ?l_RULES ?g_FREE ?g_TAKEN ?a_cls ?pg ?hd ?po ?sa ?mk ?kc ?na_rule ?na_wide ?na_row ?na_many ?a_Shelf___init__ ?i_Shelf___init__ ?l_Shelf___init__ ?c_Shelf___init__ ?k_Shelf___init__ ?a_Shelf_put_in ?i_Shelf_put_in ?l_Shelf_put_in ?c_Shelf_put_in ?k_Shelf_put_in ?a_Shelf_take_out ?i_Shelf_take_out ?l_Shelf_take_out ?c_Shelf_take_out ?k_Shelf_take_out ?a_Shelf_standing ?i_Shelf_standing ?l_Shelf_standing ?c_Shelf_standing ?k_Shelf_standing ?a_Shelf_moved ?i_Shelf_moved ?l_Shelf_moved ?c_Shelf_moved ?k_Shelf_moved ?a_need_width ?l_need_width ?c_need_width ?k_need_width ?a_need_rule ?l_need_rule ?c_need_rule ?k_need_rule ?a_need_pattern ?l_need_pattern ?c_need_pattern ?k_need_pattern ?a_places_of ?l_places_of ?c_places_of ?k_places_of ?a_pattern_of ?l_pattern_of ?c_pattern_of ?k_pattern_of ?a_even_places ?l_even_places ?c_even_places ?k_even_places ?a_shifted ?l_shifted ?c_shifted ?k_shifted ?a_places_behind ?l_places_behind ?c_places_behind ?k_places_behind ?a_moved ?l_moved ?c_moved ?k_moved ?a_step ?l_step ?c_step ?k_step ?a_done ?l_done ?c_done ?k_done ?a_played ?l_played ?c_played ?k_played ?a__law_dice ?l__law_dice ?c__law_dice ?k__law_dice ?a__law_off ?l__law_off ?c__law_off ?k__law_off ?a__law_rule ?l__law_rule ?c__law_rule ?k__law_rule ?a__law_deeds ?l__law_deeds ?c__law_deeds ?k__law_deeds ?a__law_drawn ?l__law_drawn ?c__law_drawn ?k__law_drawn ?a_law ?l_law ?c_law ?k_law
    (case z_abs => k_is)
    (case z_enumerate => k_is)
    (case z_int => k_is)
    (case z_len => k_is)
    (case z_list => k_is)
    (case z_max => k_is)
    (case z_range => k_is)
    (case z_sorted => k_is)
    (case z_sum => k_is)
    (case z_zip => k_is)
    (case g_MOST_WIDE => k_is)
    (case g_RULES => k_is)
    (case l_RULES => k_is)
    (case g_FREE => k_is)
    (case g_TAKEN => k_is)
    (case a_cls => k_is)
    (case pg => k_is)
    (case hd => k_is)
    (case po => k_is)
    (case sa => k_is)
    (case mk => k_is)
    (case kc => k_is)
    (case na_rule => k_is)
    (case na_wide => k_is)
    (case na_row => k_is)
    (case na_many => k_is)
    (case a_Shelf___init__ => k_is)
    (case i_Shelf___init__ => k_is)
    (case l_Shelf___init__ => k_is)
    (case c_Shelf___init__ => k_is)
    (case k_Shelf___init__ => k_is)
    (case a_Shelf_put_in => k_is)
    (case i_Shelf_put_in => k_is)
    (case l_Shelf_put_in => k_is)
    (case c_Shelf_put_in => k_is)
    (case k_Shelf_put_in => k_is)
    (case a_Shelf_take_out => k_is)
    (case i_Shelf_take_out => k_is)
    (case l_Shelf_take_out => k_is)
    (case c_Shelf_take_out => k_is)
    (case k_Shelf_take_out => k_is)
    (case a_Shelf_standing => k_is)
    (case i_Shelf_standing => k_is)
    (case l_Shelf_standing => k_is)
    (case c_Shelf_standing => k_is)
    (case k_Shelf_standing => k_is)
    (case a_Shelf_moved => k_is)
    (case i_Shelf_moved => k_is)
    (case l_Shelf_moved => k_is)
    (case c_Shelf_moved => k_is)
    (case k_Shelf_moved => k_is)
    (case a_need_width => k_is)
    (case l_need_width => k_is)
    (case c_need_width => k_is)
    (case k_need_width => k_is)
    (case a_need_rule => k_is)
    (case l_need_rule => k_is)
    (case c_need_rule => k_is)
    (case k_need_rule => k_is)
    (case a_need_pattern => k_is)
    (case l_need_pattern => k_is)
    (case c_need_pattern => k_is)
    (case k_need_pattern => k_is)
    (case a_places_of => k_is)
    (case l_places_of => k_is)
    (case c_places_of => k_is)
    (case k_places_of => k_is)
    (case a_pattern_of => k_is)
    (case l_pattern_of => k_is)
    (case c_pattern_of => k_is)
    (case k_pattern_of => k_is)
    (case a_even_places => k_is)
    (case l_even_places => k_is)
    (case c_even_places => k_is)
    (case k_even_places => k_is)
    (case a_shifted => k_is)
    (case l_shifted => k_is)
    (case c_shifted => k_is)
    (case k_shifted => k_is)
    (case a_places_behind => k_is)
    (case l_places_behind => k_is)
    (case c_places_behind => k_is)
    (case k_places_behind => k_is)
    (case a_moved => k_is)
    (case l_moved => k_is)
    (case c_moved => k_is)
    (case k_moved => k_is)
    (case a_step => k_is)
    (case l_step => k_is)
    (case c_step => k_is)
    (case k_step => k_is)
    (case a_done => k_is)
    (case l_done => k_is)
    (case c_done => k_is)
    (case k_done => k_is)
    (case a_played => k_is)
    (case l_played => k_is)
    (case c_played => k_is)
    (case k_played => k_is)
    (case a__law_dice => k_is)
    (case l__law_dice => k_is)
    (case c__law_dice => k_is)
    (case k__law_dice => k_is)
    (case a__law_off => k_is)
    (case l__law_off => k_is)
    (case c__law_off => k_is)
    (case k__law_off => k_is)
    (case a__law_rule => k_is)
    (case l__law_rule => k_is)
    (case c__law_rule => k_is)
    (case k__law_rule => k_is)
    (case a__law_deeds => k_is)
    (case l__law_deeds => k_is)
    (case c__law_deeds => k_is)
    (case k__law_deeds => k_is)
    (case a__law_drawn => k_is)
    (case l__law_drawn => k_is)
    (case c__law_drawn => k_is)
    (case k__law_drawn => k_is)
    (case a_law => k_is)
    (case l_law => k_is)
    (case c_law => k_is)
    (case k_law => k_is)
