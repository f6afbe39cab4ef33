import PyProof.Rows.All
import Wide.All
import OpenK.AllK
import Wide.FinOn
import HandS.ForMost
import HandS.Lambda
import KE.KDflt
import HandS.Walk
import HandS.Style
import HandS.Deep
import HandS.IsInst
import HandS.More
import KE.GoesMore
import HandS.SetFor
import HandS.NoneIn
import HandS.Flt
import HandS.SetKeys
import PyProof.Rows.SortShellAny
import HandS.TupAny
import KE.SortData
import KE.DataMinMax
import KE.KDictDisplayH
import HandS.ForExc
import HandS.ExcInit
import HandS.ExcIs
import HandS.ExcField
import HandS.HotCalls
import HandS.ClsMeth
import HandS.EndTab
import KE.KExcIs
import KE.KIsAll
import KE.KNestM
import PySem.Challenge.RW_looseshelf_k01_what_is_none
set_option Elab.async false
set_option linter.all false
set_option maxRecDepth 100000
/-! closures: their texts, objects that stand as they are -/
namespace Dq
open PySem L2
/-- a lambda's text -/
structure LamT where
  params : Arguments
  body : Expr
  scope : Scope
  qual : Str
  dv : List Int
/-- the object at a is o, as it stands -/
def exactO (a : Addr) (o : Obj) : HO := .ext fun h => h.get? a = some o
/-- the function object of a lambda -/
def lamObj (T : LamT) (clo : List (Str × Addr)) (pm : Value) (c : Addr) (ct dV doc : Value) : Obj := PySem.W.kdv_obj "<lambda>" T.qual T.params (.expr T.body) T.scope clo dV doc pm c ct
/-- its defaults: none, or numbers in a tuple that stands as it is -/
def DvOk (H : Hp) (dv : List Int) (dV : Value) : Prop := (dv = [] ∧ dV = .none) ∨ ∃ (t : Addr) (us : List Value), dV = .ref t ∧ H t = some (exactO t (PySem.W.kdv_tup us)) ∧ Vals (dv.map .int) us ∧ dv ≠ []
end Dq

namespace Dq
open PySem L2

/-! ### deep data: a value with all that it leads to; adr: an object that may change, told by the store -/
inductive D where
  | non | bl (b : Bool) | int (i : Int) | str (x : Str) | ty (n : String) | adr (a : Addr)
  | list (xs : List D) | tuple (xs : List D) | seq (xs : List D) | tseq (xs : List D) | dict (kvs : List (Key × D)) | dicT (kvs : List (List Key × D))
inductive MO where
  | lst (xs : List D) | dK (kvs : List (Key × D)) | dT (kvs : List (List Key × D)) | ins (C : Addr) (fs : List (Str × D)) | any (P : List D → Prop)
  | tab (q : Str) | clo (T : LamT) (cl : List (Str × Addr)) | cel (d : D) | raw (u : HO)
abbrev Env := List (Option D)
abbrev Mu := Addr → Option MO
def ups (m : Mu) (p : Addr) (o : MO) : Mu := fun a => if a = p then some o else m a
def del (m : Mu) (p : Addr) : Mu := fun a => if a = p then none else m a
theorem ups_same {m : Mu} {p : Addr} {o : MO} : ups m p o p = some o := if_pos rfl
theorem ups_ne {m : Mu} {a p : Addr} {o : MO} (h : a ≠ p) : ups m p o a = m a := if_neg h
theorem ups_ups {m : Mu} {p : Addr} {o u : MO} : ups (ups m p o) p u = ups m p u := by
  funext a
  unfold ups
  by_cases h : a = p
  · rw [if_pos h, if_pos h]
  · rw [if_neg h, if_neg h, if_neg h]
theorem del_ups {m : Mu} {p : Addr} {o : MO} (h : m p = none) : del (ups m p o) p = m := by
  funext a
  unfold del ups
  by_cases e : a = p
  · rw [if_pos e, e, h]
  · rw [if_neg e, if_neg e]
def hide (F H : Hp) (m : Mu) : Hp := fun a => match m a, F a with | none, none => H a | _, _ => none

/-! ### what stays of a heap -/
structure ExtW (H H' : Hp) : Prop where
  ext : ∀ a φ, H a = some (.ext φ) → H' a = some (.ext φ)
  lst : ∀ a vs, H a = some (.lst vs) → H' a = some (.lst vs)
  tup : ∀ a vs, H a = some (.tup vs) → H' a = some (.tup vs)
  rl : ∀ a vs, Rd H a (.lst vs) → Rd H' a (.lst vs)
  rt : ∀ a vs, Rd H a (.tup vs) → Rd H' a (.tup vs)
  dk : ∀ a vs, Rd H a (.dK vs) → Rd H' a (.dK vs)
  dt : ∀ a vs, Rd H a (.dT vs) → Rd H' a (.dT vs)
structure Ext (H H' : Hp) : Prop where
  ext : ∀ a φ, H a = some (.ext φ) → H' a = some (.ext φ)
  lst : ∀ a vs, H a = some (.lst vs) → H' a = some (.lst vs)
  tup : ∀ a vs, H a = some (.tup vs) → H' a = some (.tup vs)
  rl : ∀ a vs, Rd H a (.lst vs) → Rd H' a (.lst vs)
  rt : ∀ a vs, Rd H a (.tup vs) → Rd H' a (.tup vs)
  dk : ∀ a vs, Rd H a (.dK vs) → Rd H' a (.dK vs)
  dt : ∀ a vs, Rd H a (.dT vs) → Rd H' a (.dT vs)
  fz : ∀ a o u, H a = some (.frz o u) → H' a = some (.frz o u)
theorem Ext.wk {H H' : Hp} (e : Ext H H') : ExtW H H' := ⟨e.ext, e.lst, e.tup, e.rl, e.rt, e.dk, e.dt⟩
theorem Ext.refl {H : Hp} : Ext H H := ⟨fun _ _ h => h, fun _ _ h => h, fun _ _ h => h, fun _ _ h => h, fun _ _ h => h, fun _ _ h => h, fun _ _ h => h, fun _ _ _ h => h⟩
theorem Ext.trans {H H1 H2 : Hp} (a : Ext H H1) (b : Ext H1 H2) : Ext H H2 :=
  ⟨fun p v h => b.ext p v (a.ext p v h), fun p v h => b.lst p v (a.lst p v h), fun p v h => b.tup p v (a.tup p v h), fun p v h => b.rl p v (a.rl p v h), fun p v h => b.rt p v (a.rt p v h), fun p v h => b.dk p v (a.dk p v h), fun p v h => b.dt p v (a.dt p v h), fun p o v h => b.fz p o v (a.fz p o v h)⟩
theorem rd_same {H H' : Hp} (e : ∀ a o, H a = some o → H' a = some o) {a : Addr} {u : HO} (h : Rd H a u) : Rd H' a u := by
  rcases h with h | ⟨o, h⟩
  · exact .inl (e _ _ h)
  · exact .inr ⟨o, e _ _ h⟩
theorem Ext.same {H H' : Hp} (e : ∀ a o, H a = some o → H' a = some o) : Ext H H' :=
  ⟨fun p _ h => e p _ h, fun p _ h => e p _ h, fun p _ h => e p _ h, fun _ _ h => rd_same e h, fun _ _ h => rd_same e h, fun _ _ h => rd_same e h, fun _ _ h => rd_same e h, fun p _ _ h => e p _ h⟩
theorem ExtW.sql {K : PySem.W.Frag} {H H' : Hp} (e : ExtW H H') {a : Addr} {xs : List V} (h : SqL K H a xs) : SqL K H' a xs := h.elim (fun z => .inl (e.rl _ _ z)) .inr
theorem ExtW.sqt {K : PySem.W.Frag} {H H' : Hp} (e : ExtW H H') {a : Addr} {xs : List V} (h : SqT K H a xs) : SqT K H' a xs := h.elim (fun z => .inl (e.rt _ _ z)) .inr
theorem Ext.sql {K : PySem.W.Frag} {H H' : Hp} (e : Ext H H') {a : Addr} {xs : List V} (h : SqL K H a xs) : SqL K H' a xs := h.elim (fun z => .inl (e.rl _ _ z)) .inr
theorem Ext.sqt {K : PySem.W.Frag} {H H' : Hp} (e : Ext H H') {a : Addr} {xs : List V} (h : SqT K H a xs) : SqT K H' a xs := h.elim (fun z => .inl (e.rt _ _ z)) .inr

/-! ### a value stands for deep data -/
mutual
inductive Rep (K : PySem.W.Frag) (H : Hp) : V → D → Prop
  | non : Rep K H .non .non
  | bl (b : Bool) : Rep K H (.bl b) (.bl b)
  | int (i : Int) : Rep K H (.int i) (.int i)
  | str (x : Str) : Rep K H (.str x) (.str x)
  | ty (n : String) : Rep K H (.ty n) (.ty n)
  | adr (a : Addr) : Rep K H (.ref a) (.adr a)
  | list {a : Addr} {vs : List V} {ds : List D} : H a = some (.lst vs) → Reps K H vs ds → Rep K H (.ref a) (.list ds)
  | tuple {a : Addr} {vs : List V} {ds : List D} : H a = some (.tup vs) → Reps K H vs ds → Rep K H (.ref a) (.tuple ds)
  | seq {a : Addr} {vs : List V} {ds : List D} : SqL K H a vs → Reps K H vs ds → Rep K H (.ref a) (.seq ds)
  | tseq {a : Addr} {vs : List V} {ds : List D} : SqT K H a vs → Reps K H vs ds → Rep K H (.ref a) (.tseq ds)
  | dict {a : Addr} {kvs : List (Key × V)} {ks : List (Key × D)} : Rd H a (.dK kvs) → RepK K H kvs ks → Rep K H (.ref a) (.dict ks)
  | dicT {a : Addr} {kvs : List (List Key × V)} {ks : List (List Key × D)} : Rd H a (.dT kvs) → RepT K H kvs ks → Rep K H (.ref a) (.dicT ks)
inductive Reps (K : PySem.W.Frag) (H : Hp) : List V → List D → Prop
  | nil : Reps K H [] []
  | cons {v : V} {vs : List V} {d : D} {ds : List D} : Rep K H v d → Reps K H vs ds → Reps K H (v :: vs) (d :: ds)
inductive RepK (K : PySem.W.Frag) (H : Hp) : List (Key × V) → List (Key × D) → Prop
  | nil : RepK K H [] []
  | cons {k : Key} {v : V} {vs : List (Key × V)} {d : D} {ds : List (Key × D)} : Rep K H v d → RepK K H vs ds → RepK K H ((k, v) :: vs) ((k, d) :: ds)
inductive RepT (K : PySem.W.Frag) (H : Hp) : List (List Key × V) → List (List Key × D) → Prop
  | nil : RepT K H [] []
  | cons {k : List Key} {v : V} {vs : List (List Key × V)} {d : D} {ds : List (List Key × D)} : Rep K H v d → RepT K H vs ds → RepT K H ((k, v) :: vs) ((k, d) :: ds)
end
section
variable {K : PySem.W.Frag} {H H' : Hp}
mutual
theorem Rep.monoW (e : ExtW H H') : ∀ {v : V} {d : D}, Rep K H v d → Rep K H' v d
  | _, _, .non => .non
  | _, _, .bl b => .bl b
  | _, _, .int i => .int i
  | _, _, .str x => .str x
  | _, _, .ty n => .ty n
  | _, _, .adr a => .adr a
  | _, _, .list h r => .list (e.lst _ _ h) (Reps.monoW e r)
  | _, _, .tuple h r => .tuple (e.tup _ _ h) (Reps.monoW e r)
  | _, _, .seq h r => .seq (e.sql h) (Reps.monoW e r)
  | _, _, .tseq h r => .tseq (e.sqt h) (Reps.monoW e r)
  | _, _, .dict h r => .dict (e.dk _ _ h) (RepK.monoW e r)
  | _, _, .dicT h r => .dicT (e.dt _ _ h) (RepT.monoW e r)
theorem Reps.monoW (e : ExtW H H') : ∀ {vs : List V} {ds : List D}, Reps K H vs ds → Reps K H' vs ds
  | _, _, .nil => .nil
  | _, _, .cons r t => .cons (Rep.monoW e r) (Reps.monoW e t)
theorem RepK.monoW (e : ExtW H H') : ∀ {vs : List (Key × V)} {ds : List (Key × D)}, RepK K H vs ds → RepK K H' vs ds
  | _, _, .nil => .nil
  | _, _, .cons r t => .cons (Rep.monoW e r) (RepK.monoW e t)
theorem RepT.monoW (e : ExtW H H') : ∀ {vs : List (List Key × V)} {ds : List (List Key × D)}, RepT K H vs ds → RepT K H' vs ds
  | _, _, .nil => .nil
  | _, _, .cons r t => .cons (Rep.monoW e r) (RepT.monoW e t)
end
theorem Rep.mono (e : Ext H H') {v : V} {d : D} (r : Rep K H v d) : Rep K H' v d := r.monoW e.wk
theorem Reps.mono (e : Ext H H') {v : List V} {d : List D} (r : Reps K H v d) : Reps K H' v d := r.monoW e.wk
theorem RepK.mono (e : Ext H H') {v : List (Key × V)} {d : List (Key × D)} (r : RepK K H v d) : RepK K H' v d := r.monoW e.wk
theorem RepT.mono (e : Ext H H') {v : List (List Key × V)} {d : List (List Key × D)} (r : RepT K H v d) : RepT K H' v d := r.monoW e.wk
theorem Reps.length : ∀ {vs : List V} {ds : List D}, Reps K H vs ds → vs.length = ds.length
  | _, _, .nil => rfl
  | _, _, .cons _ t => by rw [List.length_cons, List.length_cons, t.length]
theorem Reps.get : ∀ {vs : List V} {ds : List D} {i : Nat} {d : D}, Reps K H vs ds → ds[i]? = some d → ∃ v, vs[i]? = some v ∧ Rep K H v d
  | _, _, _, _, .nil, e => by simp at e
  | _, _, 0, _, .cons r _, e => by simp at e; subst e; exact ⟨_, rfl, r⟩
  | _, _, i + 1, x, .cons _ t, e => by
    obtain ⟨u, h1, h2⟩ := Reps.get (i := i) (d := x) t (by simpa using e)
    exact ⟨u, by simpa using h1, h2⟩
theorem Reps.get' : ∀ {vs : List V} {ds : List D} {i : Nat} {v : V}, Reps K H vs ds → vs[i]? = some v → ∃ d, ds[i]? = some d ∧ Rep K H v d
  | _, _, _, _, .nil, e => by simp at e
  | _, _, 0, _, .cons r _, e => by simp at e; subst e; exact ⟨_, rfl, r⟩
  | _, _, i + 1, x, .cons _ t, e => by
    obtain ⟨u, h1, h2⟩ := Reps.get' (i := i) (v := x) t (by simpa using e)
    exact ⟨u, by simpa using h1, h2⟩
theorem Reps.append : ∀ {xs ys : List V} {us ws : List D}, Reps K H xs us → Reps K H ys ws → Reps K H (xs ++ ys) (us ++ ws)
  | _, _, _, _, .nil, s => s
  | _, _, _, _, .cons r t, s => .cons r (Reps.append t s)
theorem Reps.one {v : V} {d : D} (r : Rep K H v d) : Reps K H [v] [d] := .cons r .nil
theorem Reps.take : ∀ {xs : List V} {us : List D} (n : Nat), Reps K H xs us → Reps K H (xs.take n) (us.take n)
  | _, _, 0, _ => .nil
  | _, _, _ + 1, .nil => .nil
  | _, _, n + 1, .cons r t => .cons r (Reps.take n t)
theorem Reps.drop : ∀ {xs : List V} {us : List D} (n : Nat), Reps K H xs us → Reps K H (xs.drop n) (us.drop n)
  | _, _, 0, r => r
  | _, _, _ + 1, .nil => .nil
  | _, _, n + 1, .cons _ t => Reps.drop n t
theorem Reps.set {x : V} {u : D} (r : Rep K H x u) : ∀ {xs : List V} {us : List D} (i : Nat), Reps K H xs us → Reps K H (xs.set i x) (us.set i u)
  | _, _, _, .nil => .nil
  | _, _, 0, .cons _ t => .cons r t
  | _, _, i + 1, .cons q t => .cons q (Reps.set r i t)
theorem Reps.erase : ∀ {xs : List V} {us : List D} (i : Nat), Reps K H xs us → Reps K H (xs.eraseIdx i) (us.eraseIdx i)
  | _, _, _, .nil => .nil
  | _, _, 0, .cons _ t => t
  | _, _, i + 1, .cons q t => .cons q (Reps.erase i t)
theorem Reps.inv1 {vs : List V} {d : D} (r : Reps K H vs [d]) : ∃ v, vs = [v] ∧ Rep K H v d := by
  cases r with
  | cons r t => cases t; exact ⟨_, rfl, r⟩
theorem Reps.inv2 {vs : List V} {d e : D} (r : Reps K H vs [d, e]) : ∃ v u, vs = [v, u] ∧ Rep K H v d ∧ Rep K H u e := by
  cases r with
  | cons r t =>
    cases t with
    | cons r2 t => cases t; exact ⟨_, _, rfl, r, r2⟩
end

/-! ### the store stands in the heap -/
def MOk (K : PySem.W.Frag) (H Hh : Hp) (p : Addr) : MO → Prop
  | .lst xs => ∃ vs, H p = some (.lst vs) ∧ Reps K Hh vs xs
  | .dK ks => ∃ kvs, H p = some (.dK kvs) ∧ RepK K Hh kvs ks
  | .dT ks => ∃ kvs, H p = some (.dT kvs) ∧ RepT K Hh kvs ks
  | .ins C fs => ∃ dx fvs, H p = some (.ins C dx fvs) ∧ Paired (fun (a : Str × V) (b : Str × D) => a.1 = b.1 ∧ Rep K Hh a.2 b.2) fvs fs
  | .any P => ∃ vs ds, H p = some (.lst vs) ∧ Reps K Hh vs ds ∧ P ds
  | .tab q => ∃ ps, H p = some (.tbl ps) ∧ TriplesOk ps.toList ∧ ∀ (pos : Pos) (cv : Value), codeAmong pos ps.toList = some cv → ∃ c, cv = .ref c ∧ Hh c = some (LamX.CodeO c q)
  | .clo T cl => ∃ pm ct c dV doc, H p = some (exactO p (lamObj T cl pm c ct dV doc)) ∧ Hh c = some (LamX.CodeO c T.qual) ∧ DvOk Hh T.dv dV
  | .cel d => ∃ o u v, H p = some (exactO p o) ∧ o.data = .cell (some u) ∧ RelV v u ∧ Rep K Hh v d
  | .raw u => H p = some u ∧ ∀ vs, u ≠ .tup vs
/-- F: what stands apart, read by nobody here, and stays -/
structure Stt (K : PySem.W.Frag) (F H : Hp) (m : Mu) : Prop where
  fr : ∀ p o, F p = some o → H p = some o ∧ m p = none
  ok : ∀ p o, m p = some o → MOk K H (hide F H m) p o
  ft : ∀ p vs, F p ≠ some (.tup vs)
theorem ft_upd {F : Hp} {A : Addr} {o : HO} (h : ∀ p vs, F p ≠ some (.tup vs)) (ho : ∀ vs, o ≠ .tup vs) : ∀ p vs, upd F A o p ≠ some (.tup vs) := fun p vs e => by
  by_cases hp : p = A
  · subst hp
    rw [upd_same] at e
    exact ho vs (Option.some.inj e)
  · rw [upd_ne hp] at e
    exact h p vs e
theorem ft_back {F : Hp} {A : Addr} {o : HO} (h : ∀ p vs, upd F A o p ≠ some (.tup vs)) (hF : F A = none) : ∀ p vs, F p ≠ some (.tup vs) := fun p vs e => by
  by_cases hp : p = A
  · subst hp
    rw [hF] at e
    cases e
  · exact h p vs (by rw [upd_ne hp]; exact e)
theorem MOk.noTup {K : PySem.W.Frag} {H Hh : Hp} {p : Addr} {o : MO} (h : MOk K H Hh p o) (vs : List V) : H p ≠ some (.tup vs) := by
  intro z
  cases o with
  | lst xs => obtain ⟨_, e, _⟩ := h; rw [e] at z; cases z
  | dK xs => obtain ⟨_, e, _⟩ := h; rw [e] at z; cases z
  | dT xs => obtain ⟨_, e, _⟩ := h; rw [e] at z; cases z
  | ins C xs => obtain ⟨_, _, e, _⟩ := h; rw [e] at z; cases z
  | any A => obtain ⟨_, _, e, _⟩ := h; rw [e] at z; cases z
  | tab q => obtain ⟨_, e, _⟩ := h; rw [e] at z; cases z
  | clo T cl =>
    obtain ⟨_, _, _, _, _, e, _⟩ := h
    rw [e] at z
    have z := Option.some.inj z
    unfold exactO at z
    cases z
  | cel d =>
    obtain ⟨_, _, _, e, _⟩ := h
    rw [e] at z
    have z := Option.some.inj z
    unfold exactO at z
    cases z
  | raw u =>
    obtain ⟨e, k⟩ := h
    rw [e] at z
    exact k vs (Option.some.inj z)
theorem MOk.there {K : PySem.W.Frag} {H Hh : Hp} {p : Addr} {o : MO} (h : MOk K H Hh p o) : ∃ u, H p = some u := by
  cases o with
  | lst xs => obtain ⟨_, e, _⟩ := h; exact ⟨_, e⟩
  | dK xs => obtain ⟨_, e, _⟩ := h; exact ⟨_, e⟩
  | dT xs => obtain ⟨_, e, _⟩ := h; exact ⟨_, e⟩
  | ins C xs => obtain ⟨_, _, e, _⟩ := h; exact ⟨_, e⟩
  | any P => obtain ⟨_, _, e, _⟩ := h; exact ⟨_, e⟩
  | tab q => obtain ⟨_, e, _⟩ := h; exact ⟨_, e⟩
  | clo T cl => obtain ⟨_, _, _, _, _, e, _⟩ := h; exact ⟨_, e⟩
  | cel d => obtain ⟨_, _, _, e, _⟩ := h; exact ⟨_, e⟩
  | raw u => exact ⟨_, h.1⟩
theorem Paired.monoR {α β : Type} {F G : α → β → Prop} : ∀ {l1 : List α} {l2 : List β}, Paired F l1 l2 → (∀ a b, F a b → G a b) → Paired G l1 l2
  | _, _, .nil, _ => .nil
  | _, _, .cons r t, f => .cons (f _ _ r) (Paired.monoR t f)
theorem MOk.monoW {K : PySem.W.Frag} {H H' Hh Hh' : Hp} {p : Addr} {o : MO} (h : MOk K H Hh p o) (e : H' p = H p) (x : ExtW Hh Hh') : MOk K H' Hh' p o := by
  cases o with
  | lst xs => obtain ⟨_, q, r⟩ := h; exact ⟨_, e.trans q, r.monoW x⟩
  | dK xs => obtain ⟨_, q, r⟩ := h; exact ⟨_, e.trans q, r.monoW x⟩
  | dT xs => obtain ⟨_, q, r⟩ := h; exact ⟨_, e.trans q, r.monoW x⟩
  | ins C xs => obtain ⟨_, _, q, r⟩ := h; exact ⟨_, _, e.trans q, Paired.monoR r fun _ _ z => ⟨z.1, z.2.monoW x⟩⟩
  | any P => obtain ⟨_, _, q, r, k⟩ := h; exact ⟨_, _, e.trans q, r.monoW x, k⟩
  | tab q =>
    obtain ⟨ps, h1, h2, h3⟩ := h
    refine ⟨ps, e.trans h1, h2, fun pos cv hc => ?_⟩
    obtain ⟨c, e1, e2⟩ := h3 pos cv hc
    exact ⟨c, e1, x.ext _ _ e2⟩
  | clo T cl =>
    obtain ⟨pm, ct, c, dV, doc, h1, h2, h3⟩ := h
    refine ⟨pm, ct, c, dV, doc, e.trans h1, x.ext _ _ h2, h3.elim .inl fun z => .inr ?_⟩
    obtain ⟨t, us, g1, g2, g3⟩ := z
    exact ⟨t, us, g1, x.ext _ _ g2, g3⟩
  | cel d =>
    obtain ⟨o, u, v, g2, g3, g4, g5⟩ := h
    exact ⟨o, u, v, e.trans g2, g3, g4, g5.monoW x⟩
  | raw u => exact ⟨e.trans h.1, h.2⟩
theorem MOk.mono {K : PySem.W.Frag} {H H' Hh Hh' : Hp} {p : Addr} {o : MO} (h : MOk K H Hh p o) (e : H' p = H p) (x : Ext Hh Hh') : MOk K H' Hh' p o := h.monoW e x.wk
section
variable {K : PySem.W.Frag} {F H H' : Hp} {m : Mu} {p : Addr} {o : HO}
theorem Stt.free (s : Stt K F H m) (h : H p = none) : m p = none := by
  cases e : m p with
  | none => rfl
  | some u =>
    obtain ⟨w, q⟩ := (s.ok p u e).there
    rw [h] at q
    cases q
theorem Stt.freeF (s : Stt K F H m) (h : H p = none) : F p = none := by
  cases e : F p with
  | none => rfl
  | some u =>
    have q := (s.fr p u e).1
    rw [h] at q
    cases q
theorem hide_le {a : Addr} {u : HO} (h : hide F H m a = some u) : H a = some u := by
  unfold hide at h
  split at h
  · exact h
  · cases h
theorem hide_un {a : Addr} {u : HO} (h : hide F H m a = some u) : m a = none ∧ F a = none := by
  unfold hide at h
  split at h
  · rename_i h1 h2
    exact ⟨h1, h2⟩
  · cases h
theorem hide_at {a : Addr} (h : m a = none) (h2 : F a = none) : hide F H m a = H a := by
  unfold hide
  rw [h, h2]
theorem Ext.unhide : Ext (hide F H m) H := Ext.same fun _ _ h => hide_le h
/-- a new object -/
theorem Ext.new (s : Stt K F H m) (h : H p = none) : Ext (hide F H m) (hide F (upd H p o) m) := Ext.same fun a u e => by
  have e1 := hide_le e
  rw [hide_at (hide_un e).1 (hide_un e).2, upd_ne (ne_of_none e1 h)]
  exact e1
theorem Stt.new (s : Stt K F H m) (h : H p = none) : Stt K F (upd H p o) m := by
  refine ⟨fun q u e => ?_, fun q u e => ?_, s.ft⟩
  · obtain ⟨h1, h2⟩ := s.fr q u e
    exact ⟨by rw [upd_ne (ne_of_none h1 h)]; exact h1, h2⟩
  · obtain ⟨w, z⟩ := (s.ok q u e).there
    exact (s.ok q u e).mono (upd_ne (ne_of_none z h)) (Ext.new s h)
/-- a new object that the store is to know -/
theorem Ext.newM {w : MO} (s : Stt K F H m) (h : H p = none) : Ext (hide F H m) (hide F (upd H p o) (ups m p w)) := Ext.same fun a u e => by
  have e1 := hide_le e
  have ne := ne_of_none e1 h
  rw [hide_at (by rw [ups_ne ne]; exact (hide_un e).1) (hide_un e).2, upd_ne ne]
  exact e1
theorem Stt.newM {w : MO} (s : Stt K F H m) (h : H p = none) (k : MOk K (upd H p o) (hide F (upd H p o) (ups m p w)) p w) : Stt K F (upd H p o) (ups m p w) := by
  refine ⟨fun q u e => ?_, fun q u e => ?_, s.ft⟩
  · obtain ⟨h1, h2⟩ := s.fr q u e
    exact ⟨by rw [upd_ne (ne_of_none h1 h)]; exact h1, by rw [ups_ne (ne_of_none h1 h)]; exact h2⟩
  · by_cases hq : q = p
    · subst hq
      rw [ups_same] at e
      cases e
      exact k
    · rw [ups_ne hq] at e
      obtain ⟨v, z⟩ := (s.ok q u e).there
      exact (s.ok q u e).mono (upd_ne (ne_of_none z h)) (Ext.newM s h)
/-- an object of the store is changed -/
theorem hide_chg {w w' : MO} (h : m p = some w) : hide F (upd H p o) (ups m p w') = hide F H m := by
  funext a
  unfold hide
  by_cases e : a = p
  · subst e
    rw [ups_same, h]
  · rw [ups_ne e, upd_ne e]
theorem Stt.chg {w w' : MO} (s : Stt K F H m) (h : m p = some w) (k : MOk K (upd H p o) (hide F H m) p w') : Stt K F (upd H p o) (ups m p w') := by
  refine ⟨fun q u e => ?_, fun q u e => ?_, s.ft⟩
  · obtain ⟨h1, h2⟩ := s.fr q u e
    have ne : q ≠ p := by
      rintro rfl
      rw [h] at h2
      cases h2
    exact ⟨by rw [upd_ne ne]; exact h1, by rw [ups_ne ne]; exact h2⟩
  · rw [hide_chg h]
    by_cases hq : q = p
    · subst hq
      rw [ups_same] at e
      cases e
      exact k
    · rw [ups_ne hq] at e
      exact (s.ok q u e).mono (upd_ne hq) Ext.refl
/-- an object leaves the store -/
theorem Ext.del : Ext (hide F H m) (hide F H (del m p)) := Ext.same fun a u e => by
  have e1 := hide_le e
  rw [hide_at _ (hide_un e).2]
  · exact e1
  · unfold Dq.del
    split
    · rfl
    · exact (hide_un e).1
theorem Stt.del (s : Stt K F H m) : Stt K F H (del m p) := by
  refine ⟨fun q u e => ⟨(s.fr q u e).1, ?_⟩, fun q u e => ?_, s.ft⟩
  · unfold Dq.del
    split
    · rfl
    · exact (s.fr q u e).2
  · unfold Dq.del at e
    split at e
    · cases e
    · exact (s.ok q u e).mono rfl Ext.del
/-- an object is set apart: it stands in H, is known to nobody -/
theorem hide_apart (h : F p = none) : ∀ a, a ≠ p → hide (upd F p o) H m a = hide F H m a := fun a ne => by
  unfold hide
  rw [upd_ne ne]
end

/-! ### the frame -/
def RepS (K : PySem.W.Frag) (H : Hp) (σ : L2.St) (env : Env) : Prop := env.length = σ.length ∧ ∀ (i : Nat) (d : D), env[i]? = some (some d) → ∃ v, σ[i]? = some (some v) ∧ Rep K H v d
theorem RepS.monoW {K : PySem.W.Frag} {H H' : Hp} {σ : L2.St} {env : Env} (e : ExtW H H') (r : RepS K H σ env) : RepS K H' σ env :=
  ⟨r.1, fun i d h => let ⟨v, h1, h2⟩ := r.2 i d h; ⟨v, h1, h2.monoW e⟩⟩
theorem RepS.mono {K : PySem.W.Frag} {H H' : Hp} {σ : L2.St} {env : Env} (e : Ext H H') (r : RepS K H σ env) : RepS K H' σ env := r.monoW e.wk
theorem RepS.set {K : PySem.W.Frag} {H : Hp} {σ : L2.St} {env : Env} {i : Nat} {v : V} {d : D} (r : RepS K H σ env) (q : Rep K H v d) : RepS K H (σ.set i (some v)) (env.set i (some d)) := by
  refine ⟨by rw [List.length_set, List.length_set]; exact r.1, fun j e h => ?_⟩
  rw [List.getElem?_set] at h
  rw [List.getElem?_set]
  by_cases hij : i = j
  · subst hij
    rw [if_pos rfl] at h
    split at h
    · rename_i hl
      rw [if_pos rfl, if_pos (r.1 ▸ hl)]
      cases h
      exact ⟨v, rfl, q⟩
    · cases h
  · rw [if_neg hij] at h
    rw [if_neg hij]
    exact r.2 j e h
/-- slots may be forgotten, and told anew by what stands for the same value -/
theorem RepS.put {K : PySem.W.Frag} {H : Hp} {σ : L2.St} {env : Env} {i : Nat} {d d' : D} (r : RepS K H σ env) (h : env[i]? = some (some d)) (q : ∀ v, Rep K H v d → Rep K H v d') : RepS K H σ (env.set i (some d')) := by
  refine ⟨by rw [List.length_set]; exact r.1, fun j e h' => ?_⟩
  rw [List.getElem?_set] at h'
  by_cases hij : i = j
  · subst hij
    rw [if_pos rfl] at h'
    split at h'
    · cases h'
      obtain ⟨v, h1, h2⟩ := r.2 i d h
      exact ⟨v, h1, q v h2⟩
    · cases h'
  · rw [if_neg hij] at h'
    exact r.2 j e h'
end Dq

namespace Dq
open PySem L2

/-! ### deep readings -/
abbrev dE := Env → Mu → (D → Mu → Prop) → Prop
abbrev dT := Env → Mu → (Bool → Mu → Prop) → Prop
abbrev dA := Env → Mu → (List D → Mu → Prop) → Prop
structure dEnds where
  nx : Env → Mu → Prop
  rt : D → Mu → Prop
  bk : Env → Mu → Prop := fun _ _ => False
  ct : Env → Mu → Prop := fun _ _ => False
abbrev dS := dEnds → Env → Mu → Prop
structure Ok (K : PySem.W.Frag) (F H : Hp) (σ : L2.St) (env : Env) (m : Mu) : Prop where
  st : Stt K F H m
  fr : RepS K (hide F H m) σ env
/-- what is wanted of a value, behind H and m -/
def Pst (K : PySem.W.Frag) (F H : Hp) (m : Mu) (Q : D → Mu → Prop) (R : VK) : Prop :=
  ∀ v H' d m', Ext (hide F H m) (hide F H' m') → Stt K F H' m' → Rep K (hide F H' m') v d → Q d m' → R v H'
def PstB (K : PySem.W.Frag) (F H : Hp) (m : Mu) (Q : Bool → Mu → Prop) (R : Bool → Hp → Prop) : Prop :=
  ∀ v H' m', Ext (hide F H m) (hide F H' m') → Stt K F H' m' → Q v m' → R v H'
def PstA (K : PySem.W.Frag) (F H : Hp) (m : Mu) (Q : List D → Mu → Prop) (R : List V → Hp → Prop) : Prop :=
  ∀ vs H' ds m', Ext (hide F H m) (hide F H' m') → Stt K F H' m' → Reps K (hide F H' m') vs ds → Q ds m' → R vs H'
def PstX (K : PySem.W.Frag) (F H : Hp) (m : Mu) (Q : Env → Mu → Prop) (R : L2.St → Hp → Prop) : Prop :=
  ∀ σ' H' env' m', Ext (hide F H m) (hide F H' m') → Ok K F H' σ' env' m' → Q env' m' → R σ' H'
structure PstS (K : PySem.W.Frag) (F H : Hp) (m : Mu) (DD : dEnds) (RR : Ends) : Prop where
  nx : PstX K F H m DD.nx RR.nx
  rt : Pst K F H m DD.rt RR.rt
  bk : PstX K F H m DD.bk RR.bk
  ct : PstX K F H m DD.ct RR.ct
section
variable {K : PySem.W.Frag} {F H H1 : Hp} {m m1 : Mu}
theorem Pst.at {Q : D → Mu → Prop} {R : VK} (p : Pst K F H m Q R) (e : Ext (hide F H m) (hide F H1 m1)) : Pst K F H1 m1 Q R := fun v H' d m' e' s r q => p v H' d m' (e.trans e') s r q
theorem PstB.at {Q : Bool → Mu → Prop} {R : Bool → Hp → Prop} (p : PstB K F H m Q R) (e : Ext (hide F H m) (hide F H1 m1)) : PstB K F H1 m1 Q R := fun v H' m' e' s q => p v H' m' (e.trans e') s q
theorem PstA.at {Q : List D → Mu → Prop} {R : List V → Hp → Prop} (p : PstA K F H m Q R) (e : Ext (hide F H m) (hide F H1 m1)) : PstA K F H1 m1 Q R := fun v H' d m' e' s r q => p v H' d m' (e.trans e') s r q
theorem PstX.at {Q : Env → Mu → Prop} {R : L2.St → Hp → Prop} (p : PstX K F H m Q R) (e : Ext (hide F H m) (hide F H1 m1)) : PstX K F H1 m1 Q R := fun v H' d m' e' s q => p v H' d m' (e.trans e') s q
theorem PstS.at {DD : dEnds} {RR : Ends} (p : PstS K F H m DD RR) (e : Ext (hide F H m) (hide F H1 m1)) : PstS K F H1 m1 DD RR := ⟨p.nx.at e, p.rt.at e, p.bk.at e, p.ct.at e⟩
theorem Ok.at {σ : L2.St} {env : Env} (o : Ok K F H σ env m) (s : Stt K F H1 m1) (e : Ext (hide F H m) (hide F H1 m1)) : Ok K F H1 σ env m1 := ⟨s, o.fr.mono e⟩
theorem Pst.here {Q : D → Mu → Prop} {R : VK} (p : Pst K F H m Q R) (s : Stt K F H m) {v : V} {d : D} (r : Rep K (hide F H m) v d) (q : Q d m) : R v H := p v H d m Ext.refl s r q
/-- a new list as data -/
theorem Pst.newL {Q : D → Mu → Prop} {R : VK} (p : Pst K F H m Q R) (s : Stt K F H m) {vs : List V} {ds : List D} (r : Reps K (hide F H m) vs ds) (q : Q (.list ds) m) (a : Addr) (h : H a = none) : R (.ref a) (upd H a (.lst vs)) :=
  p _ _ _ m (Ext.new s h) (s.new h) (.list (by rw [hide_at (s.free h) (s.freeF h), upd_same]) (r.mono (Ext.new s h))) q
theorem Pst.newT {Q : D → Mu → Prop} {R : VK} (p : Pst K F H m Q R) (s : Stt K F H m) {vs : List V} {ds : List D} (r : Reps K (hide F H m) vs ds) (q : Q (.tuple ds) m) (a : Addr) (h : H a = none) : R (.ref a) (upd H a (.tup vs)) :=
  p _ _ _ m (Ext.new s h) (s.new h) (.tuple (by rw [hide_at (s.free h) (s.freeF h), upd_same]) (r.mono (Ext.new s h))) q
/-- a new list that may change -/
theorem Pst.newM {Q : D → Mu → Prop} {R : VK} (p : Pst K F H m Q R) (s : Stt K F H m) {vs : List V} {ds : List D} (r : Reps K (hide F H m) vs ds) (q : ∀ a, m a = none → Q (.adr a) (ups m a (.lst ds))) (a : Addr) (h : H a = none) : R (.ref a) (upd H a (.lst vs)) :=
  p _ _ _ _ (Ext.newM s h) (s.newM h (show MOk K _ _ a (.lst ds) from ⟨vs, upd_same, r.mono (Ext.newM s h)⟩)) (.adr a) (q a (s.free h))
end
/-- a new list: data (false), or one that may change (true) -/
def mkL (b : Bool) (ds : List D) (m : Mu) (Q : D → Mu → Prop) : Prop := match b with
  | false => Q (.list ds) m
  | true => ∀ a, m a = none → Q (.adr a) (ups m a (.lst ds))
theorem mkL_f {ds : List D} {m : Mu} {Q : D → Mu → Prop} : mkL false ds m Q = Q (.list ds) m := rfl
theorem mkL_t {ds : List D} {m : Mu} {Q : D → Mu → Prop} : mkL true ds m Q = ∀ a, m a = none → Q (.adr a) (ups m a (.lst ds)) := rfl
theorem Pst.newB {K : PySem.W.Frag} {F H : Hp} {m : Mu} {Q : D → Mu → Prop} {R : VK} (b : Bool) (p : Pst K F H m Q R) (s : Stt K F H m) {vs : List V} {ds : List D} (r : Reps K (hide F H m) vs ds) (q : mkL b ds m Q) (a : Addr) (h : H a = none) : R (.ref a) (upd H a (.lst vs)) := by
  cases b with
  | false => exact p.newL s r q a h
  | true => exact p.newM s r q a h

def WE (K : PySem.W.Frag) (te : TE) (t : dE) : Prop := ∀ F env m Q σ H R, t env m Q → Ok K F H σ env m → Pst K F H m Q R → te σ H R
def WT (K : PySem.W.Frag) (te : TT) (t : dT) : Prop := ∀ F env m Q σ H R, t env m Q → Ok K F H σ env m → PstB K F H m Q R → te σ H R
def WA (K : PySem.W.Frag) (te : TA) (t : dA) : Prop := ∀ F env m Q σ H R, t env m Q → Ok K F H σ env m → PstA K F H m Q R → te σ H R
def WS (K : PySem.W.Frag) (ts : TS) (t : dS) : Prop := ∀ F DD env m σ H RR, t DD env m → Ok K F H σ env m → PstS K F H m DD RR → ts RR σ H
structure DE (K : PySem.W.Frag) (X : Cx) (e : Expr) (te : TE) (t : dE) : Prop where
  p : PE X e te
  w : WE K te t
structure DT (K : PySem.W.Frag) (X : Cx) (e : Expr) (te : TT) (t : dT) : Prop where
  p : PT X e te
  w : WT K te t
structure DW (K : PySem.W.Frag) (X : Cx) (e : Expr) (te : TT) (t : dT) : Prop where
  p : PW X e te
  w : WT K te t
structure DA (K : PySem.W.Frag) (X : Cx) (es : List Expr) (te : TA) (t : dA) : Prop where
  p : PA X es te
  w : WA K te t
structure DS (K : PySem.W.Frag) (X : Cx) (st : Stmt) (ts : TS) (t : dS) : Prop where
  p : PS X st ts
  w : WS K ts t
structure DSs (K : PySem.W.Frag) (X : Cx) (st : List Stmt) (ts : TS) (t : dS) : Prop where
  p : PSs X st ts
  w : WS K ts t

/-! ### values -/
def dC (d : D) : dE := fun _ m Q => Q d m
def dVar (i : Nat) : dE := fun env m Q => ∃ d, env[i]? = some (some d) ∧ Q d m
theorem WE.c {K : PySem.W.Frag} {v : V} {d : D} (r : ∀ H, Rep K H v d) : WE K (tC v) (dC d) := fun _ _ _ _ _ _ _ q o p => p.here o.st (r _) q
section
variable {K : PySem.W.Frag} {X : Cx} {pos : Pos}
theorem d_int {i : Int} {j : Nat} : DE K X (.Constant (.int i) j pos) (tC (.int i)) (dC (.int i)) := ⟨pe_int, .c fun _ => .int i⟩
theorem d_bl {i : Bool} {j : Nat} : DE K X (.Constant (.bool i) j pos) (tC (.bl i)) (dC (.bl i)) := ⟨pe_bl, .c fun _ => .bl i⟩
theorem d_non {j : Nat} : DE K X (.Constant .none j pos) (tC .non) (dC .non) := ⟨pe_non, .c fun _ => .non⟩
theorem d_str {i : Str} {j : Nat} : DE K X (.Constant (.str i) j pos) (tC (.str i)) (dC (.str i)) := ⟨pe_str, .c fun _ => .str i⟩
theorem d_v (i : Nat) {x : Str} (hN : X.N[i]? = some x := by rfl) (hv : Vis X.env.scope x := by first | exact Or.inl rfl | exact Or.inr (Or.inl rfl) | exact Or.inr (Or.inr rfl)) (hd : (x == ("__debug__" : Str)) = false := by decide)
    (hcd : (x == ("__classdict__" : Str)) = false := by decide) : DE K X (.Name x pos) (tVar i) (dVar i) := ⟨pv i hN hv hd hcd, fun F env m Q σ H R q o p => by
  obtain ⟨d, h, q⟩ := q
  obtain ⟨v, e, r⟩ := o.fr.2 i d h
  exact ⟨v, e, p.here o.st r q⟩⟩
/-- a constant of the module -/
structure GlobC (K : PySem.W.Frag) (mg : Str → Option Value) (x : Str) (v : V) (d : D) : Prop where
  ex : ∃ u, mg x = some u ∧ RelV v u ∧ ∀ H, Rep K H v d
theorem d_glob {x : Str} {v : V} {d : D} (hm : GlobC K X.mg x v d) (hg : Gl X x := by rfl) (hd : (x == ("__debug__" : Str)) = false := by decide) : DE K X (.Name x pos) (tC v) (dC d) := by
  obtain ⟨u, h1, h2, h3⟩ := hm
  exact ⟨pe_glob hg h1 h2 hd, .c h3⟩
end

/-! ### operators -/
def OpD (K : PySem.W.Frag) (r : R2) (rd : D → D → Mu → (D → Mu → Prop) → Prop) : Prop :=
  ∀ F H m x y v u Q R, rd x y m Q → Stt K F H m → Rep K (hide F H m) v x → Rep K (hide F H m) u y → Pst K F H m Q R → r v u H R
def dOp (rd : D → D → Mu → (D → Mu → Prop) → Prop) (ta tb : dE) : dE := fun env m Q => ta env m fun x m1 => tb env m1 fun y m2 => rd x y m2 Q
theorem WE.op {K : PySem.W.Frag} {r : R2} {rd : D → D → Mu → (D → Mu → Prop) → Prop} {ta tb : TE} {da db : dE} (h : OpD K r rd) (ha : WE K ta da) (hb : WE K tb db) : WE K (tOp r ta tb) (dOp rd da db) :=
  fun F env m Q σ H R q o p => ha F env m _ σ H _ q o fun v H1 x m1 e1 s1 r1 q1 => hb F env m1 _ σ H1 _ q1 (o.at s1 e1) fun u H2 y m2 e2 s2 r2 q2 => h F H2 m2 x y v u Q R q2 s2 (r1.mono e2) r2 (p.at (e1.trans e2))
/-- what a value is as a list, a tuple -/
def vwL (m : Mu) : D → Option (List D)
  | .list xs => some xs
  | .adr p => match m p with
    | some (.lst xs) => some xs
    | _ => none
  | _ => none
def vwS (m : Mu) : D → Option (List D)
  | .tuple xs => some xs
  | .seq xs => some xs
  | .tseq xs => some xs
  | d => vwL m d
section
variable {K : PySem.W.Frag} {F H : Hp} {m : Mu} {v : V} {d : D} {xs : List D}
theorem vwL_list : vwL m (.list xs) = some xs := rfl
theorem vwL_adr {p : Addr} : vwL m (.adr p) = (match m p with | some (.lst xs) => some xs | _ => none) := rfl
theorem vwS_tuple : vwS m (.tuple xs) = some xs := rfl
theorem vwS_seq : vwS m (.seq xs) = some xs := rfl
theorem vwS_tseq : vwS m (.tseq xs) = some xs := rfl
theorem vwS_list : vwS m (.list xs) = some xs := rfl
theorem vwS_adr {p : Addr} : vwS m (.adr p) = (match m p with | some (.lst xs) => some xs | _ => none) := rfl
theorem lst_of (s : Stt K F H m) (r : Rep K (hide F H m) v d) (h : vwL m d = some xs) : ∃ a vs, v = .ref a ∧ H a = some (.lst vs) ∧ Reps K (hide F H m) vs xs := by
  cases d with
  | list ys =>
    cases h
    cases r with
    | list e r => exact ⟨_, _, rfl, hide_le e, r⟩
  | adr p =>
    cases r
    rw [vwL_adr] at h
    split at h
    · rename_i z hz
      cases h
      obtain ⟨vs, e, r⟩ := s.ok _ _ hz
      exact ⟨_, _, rfl, e, r⟩
    · cases h
  | _ => cases h
theorem sq_of (s : Stt K F H m) (r : Rep K (hide F H m) v d) (h : vwS m d = some xs) : ∃ a vs, v = .ref a ∧ (SqL K H a vs ∨ SqT K H a vs) ∧ Reps K (hide F H m) vs xs := by
  cases d with
  | tuple ys =>
    cases h
    cases r with
    | tuple e r => exact ⟨_, _, rfl, .inr (.of (hide_le e)), r⟩
  | seq ys =>
    cases h
    cases r with
    | seq e r => exact ⟨_, _, rfl, .inl (Ext.unhide.sql e), r⟩
  | tseq ys =>
    cases h
    cases r with
    | tseq e r => exact ⟨_, _, rfl, .inr (Ext.unhide.sqt e), r⟩
  | list ys =>
    obtain ⟨a, vs, h1, h2, h3⟩ := lst_of s r h
    exact ⟨a, vs, h1, .inl (.of h2), h3⟩
  | adr ys =>
    obtain ⟨a, vs, h1, h2, h3⟩ := lst_of s r h
    exact ⟨a, vs, h1, .inl (.of h2), h3⟩
  | _ => cases h
end

/-- + -/
def addD (b : Bool) (x y : D) (m : Mu) (Q : D → Mu → Prop) : Prop := match x with
  | .int i => ∃ j, y = .int j ∧ Q (.int (i + j)) m
  | .str s => ∃ t, y = .str t ∧ s.length + t.length ≤ sizeLine ∧ Q (.str (s ++ t)) m
  | x => ∃ xs ys, vwL m x = some xs ∧ vwL m y = some ys ∧ xs.length + ys.length ≤ sizeLine ∧ mkL b (xs ++ ys) m Q
def rAddAll : R2 := fun x y H Q => rI0 (fun i j => .int (i + j)) x y H Q ∨ rCat x y H Q ∨ (∃ i j, x = .str i ∧ y = .str j ∧ i.length + j.length ≤ sizeLine ∧ Q (.str (i ++ j)) H)
theorem op_addAll {X : Cx} : OpR X (binaryOp .Add) rAddAll := op_add.or (op_cat.or op_add_str)
theorem addD_list {K : PySem.W.Frag} {F H : Hp} {m : Mu} {x y : D} {v u : V} {Q : D → Mu → Prop} {R : VK} {b : Bool} (h : ∃ xs ys, vwL m x = some xs ∧ vwL m y = some ys ∧ xs.length + ys.length ≤ sizeLine ∧ mkL b (xs ++ ys) m Q)
    (s : Stt K F H m) (rx : Rep K (hide F H m) v x) (ry : Rep K (hide F H m) u y) (p : Pst K F H m Q R) : rAddAll v u H R := by
  obtain ⟨xs, ys, hx, hy, hl, q⟩ := h
  obtain ⟨a, vs, rfl, ha, ra⟩ := lst_of s rx hx
  obtain ⟨c, us, rfl, hc, rc⟩ := lst_of s ry hy
  exact .inr (.inl ⟨a, c, vs, us, rfl, rfl, ha, hc, by rw [ra.length, rc.length]; exact hl, fun l hl => p.newB b s (ra.append rc) q l hl⟩)
theorem opd_add {K : PySem.W.Frag} (b : Bool) : OpD K rAddAll (addD b) := fun F H m x y v u Q R q s rx ry p => by
  cases x with
  | int i =>
    obtain ⟨j, rfl, q⟩ := q
    cases rx; cases ry
    exact .inl ⟨_, _, rfl, rfl, p.here s (.int _) q⟩
  | str i =>
    obtain ⟨j, rfl, hl, q⟩ := q
    cases rx; cases ry
    exact .inr (.inr ⟨_, _, rfl, rfl, hl, p.here s (.str _) q⟩)
  | non => exact addD_list q s rx ry p
  | bl _ => exact addD_list q s rx ry p
  | ty _ => exact addD_list q s rx ry p
  | adr _ => exact addD_list q s rx ry p
  | list _ => exact addD_list q s rx ry p
  | tuple _ => exact addD_list q s rx ry p
  | seq _ => exact addD_list q s rx ry p
  | tseq _ => exact addD_list q s rx ry p
  | dict _ => exact addD_list q s rx ry p
  | dicT _ => exact addD_list q s rx ry p
section
variable {K : PySem.W.Frag} {X : Cx} {a b c : Expr} {ta tb tc : TE} {da db dc : dE} {pos : Pos}
theorem d_add (k : Bool) (ha : DE K X a ta da) (hb : DE K X b tb db) : DE K X (.BinOp a .Add b pos) (tOp rAddAll ta tb) (dOp (addD k) da db) := by
  obtain ⟨h1, w1⟩ := ha
  obtain ⟨h2, w2⟩ := hb
  exact ⟨pe_op op_addAll h1 h2, .op (opd_add k) w1 w2⟩
/-- two whole numbers -/
def iiD (C : Int → Int → Prop) (g : Int → Int → D) (x y : D) (m : Mu) (Q : D → Mu → Prop) : Prop := ∃ i j, x = .int i ∧ y = .int j ∧ C i j ∧ Q (g i j) m
theorem opd_ii {K : PySem.W.Frag} {C : Int → Int → Prop} {f : Int → Int → V} {g : Int → Int → D} (h : ∀ H i j, Rep K H (f i j) (g i j)) : OpD K (rI C f) (iiD C g) := fun F H m x y v u Q R q s rx ry p => by
  obtain ⟨i, j, rfl, rfl, hc, q⟩ := q
  cases rx; cases ry
  exact ⟨i, j, rfl, rfl, hc, p.here s (h _ i j) q⟩
theorem d_sub (ha : DE K X a ta da) (hb : DE K X b tb db) : DE K X (.BinOp a .Sub b pos) (tOp (rI (fun _ _ => True) fun i j => .int (i - j)) ta tb) (dOp (iiD (fun _ _ => True) fun i j => .int (i - j)) da db) := by
  obtain ⟨h1, w1⟩ := ha
  obtain ⟨h2, w2⟩ := hb
  refine ⟨pe_op (r := rI (fun _ _ => True) fun i j => .int (i - j)) ?_ h1 h2, .op (opd_ii fun _ i j => .int _) w1 w2⟩
  intro pins s σ H x y v u Q I rx ry ⟨i, j, e1, e2, _, q⟩
  exact op_sub pins s σ H x y v u Q I rx ry ⟨i, j, e1, e2, q⟩
theorem d_fdiv (ha : DE K X a ta da) (hb : DE K X b tb db) : DE K X (.BinOp a .FloorDiv b pos) (tOp (rI CDiv fun i j => .int (i / j)) ta tb) (dOp (iiD CDiv fun i j => .int (i / j)) da db) := by
  obtain ⟨h1, w1⟩ := ha
  obtain ⟨h2, w2⟩ := hb
  exact ⟨pe_op op_fdiv h1 h2, .op (opd_ii fun _ i j => .int _) w1 w2⟩
theorem d_mod (ha : DE K X a ta da) (hb : DE K X b tb db) : DE K X (.BinOp a .Mod b pos) (tOp (rI (fun _ j => 0 < j) fun i j => .int (i % j)) ta tb) (dOp (iiD (fun _ j => 0 < j) fun i j => .int (i % j)) da db) := by
  obtain ⟨h1, w1⟩ := ha
  obtain ⟨h2, w2⟩ := hb
  exact ⟨pe_op op_mod h1 h2, .op (opd_ii fun _ i j => .int _) w1 w2⟩
theorem d_pow (ha : DE K X a ta da) (hb : DE K X b tb db) : DE K X (.BinOp a .Pow b pos) (tOp (rI CPow fun i j => .int (i ^ j.toNat)) ta tb) (dOp (iiD CPow fun i j => .int (i ^ j.toNat)) da db) := by
  obtain ⟨h1, w1⟩ := ha
  obtain ⟨h2, w2⟩ := hb
  exact ⟨pe_op op_pow h1 h2, .op (opd_ii fun _ i j => .int _) w1 w2⟩
/-- *: two whole numbers; a text, a list, so many times -/
def mulD (b : Bool) (x y : D) (m : Mu) (Q : D → Mu → Prop) : Prop := match x with
  | .int i => ∃ j, y = .int j ∧ CMul i j ∧ Q (.int (i * j)) m
  | .str s => ∃ j, y = .int j ∧ MulOk s j ∧ Q (.str (Txt.mul s j)) m
  | x => ∃ xs j, vwL m x = some xs ∧ y = .int j ∧ -(2 ^ 63) ≤ j ∧ j < 2 ^ 63 ∧ xs.length * j.toNat ≤ sizeLine ∧ mkL b (List.replicate j.toNat xs).flatten m Q

def rMulAll : R2 := fun x y H Q => rI CMul (fun i j => .int (i * j)) x y H Q ∨ rRep x y H Q ∨ (∃ i j, x = .str i ∧ y = .int j ∧ MulOk i j ∧ Q (.str (Txt.mul i j)) H)
theorem op_mulStr {X : Cx} : OpR X (binaryOp .Mult) (fun x y H Q => ∃ i j, x = .str i ∧ y = .int j ∧ MulOk i j ∧ Q (.str (Txt.mul i j)) H) := by
  intro pins s σ H x y v u Q I rx ry ⟨i, j, e1, e2, ok, q⟩
  subst e1 e2
  obtain ⟨t, rfl⟩ := rx
  obtain ⟨t', rfl⟩ := ry
  exact SB.mul ok fun t2 k => ⟨.str _, H, I.tok _, ⟨_, rfl⟩, q⟩
theorem op_mulAll {X : Cx} : OpR X (binaryOp .Mult) rMulAll := op_mul.or (op_rep.or op_mulStr)
theorem mulD_list {K : PySem.W.Frag} {F H : Hp} {m : Mu} {x y : D} {v u : V} {Q : D → Mu → Prop} {R : VK} {b : Bool} (h : ∃ xs j, vwL m x = some xs ∧ y = .int j ∧ -(2 ^ 63) ≤ j ∧ j < 2 ^ 63 ∧ xs.length * j.toNat ≤ sizeLine ∧ mkL b (List.replicate j.toNat xs).flatten m Q)
    (s : Stt K F H m) (rx : Rep K (hide F H m) v x) (ry : Rep K (hide F H m) u y) (p : Pst K F H m Q R) : rMulAll v u H R := by
  obtain ⟨xs, j, hx, rfl, h1, h2, hl, q⟩ := h
  obtain ⟨a, vs, rfl, ha, ra⟩ := lst_of s rx hx
  cases ry
  refine .inr (.inl ⟨a, j, vs, rfl, rfl, ha, h1, h2, by rw [ra.length]; exact hl, fun l hl => p.newB b s ?_ q l hl⟩)
  have all : ∀ n, Reps K (hide F H m) (List.replicate n vs).flatten (List.replicate n xs).flatten := by
    intro n
    induction n with
    | zero => exact .nil
    | succ n ih =>
      rw [List.replicate_succ, List.replicate_succ, List.flatten_cons, List.flatten_cons]
      exact ra.append ih
  exact all _
theorem opd_mul {K : PySem.W.Frag} (b : Bool) : OpD K rMulAll (mulD b) := fun F H m x y v u Q R q s rx ry p => by
  cases x with
  | int i =>
    obtain ⟨j, rfl, hc, q⟩ := q
    cases rx; cases ry
    exact .inl ⟨_, _, rfl, rfl, hc, p.here s (.int _) q⟩
  | str i =>
    obtain ⟨j, rfl, hl, q⟩ := q
    cases rx; cases ry
    exact .inr (.inr ⟨_, _, rfl, rfl, hl, p.here s (.str _) q⟩)
  | non => exact mulD_list q s rx ry p
  | bl _ => exact mulD_list q s rx ry p
  | ty _ => exact mulD_list q s rx ry p
  | adr _ => exact mulD_list q s rx ry p
  | list _ => exact mulD_list q s rx ry p
  | tuple _ => exact mulD_list q s rx ry p
  | seq _ => exact mulD_list q s rx ry p
  | tseq _ => exact mulD_list q s rx ry p
  | dict _ => exact mulD_list q s rx ry p
  | dicT _ => exact mulD_list q s rx ry p
theorem d_mul (k : Bool) (ha : DE K X a ta da) (hb : DE K X b tb db) : DE K X (.BinOp a .Mult b pos) (tOp rMulAll ta tb) (dOp (mulD k) da db) := by
  obtain ⟨h1, w1⟩ := ha
  obtain ⟨h2, w2⟩ := hb
  exact ⟨pe_op op_mulAll h1 h2, .op (opd_mul k) w1 w2⟩
def negD (te : dE) : dE := fun env m Q => te env m fun d m1 => ∃ i, d = .int i ∧ Q (.int (-i)) m1
theorem d_neg (ha : DE K X a ta da) : DE K X (.UnaryOp .USub a pos) (tUn (rU fun i => .int (-i)) ta) (negD da) := by
  obtain ⟨h1, w1⟩ := ha
  refine ⟨pe_un un_neg h1, fun F env m Q σ H R q o p => w1 F env m _ σ H _ q o fun v H1 d m1 e1 s1 r1 q1 => ?_⟩
  obtain ⟨i, rfl, q⟩ := q1
  cases r1
  exact ⟨i, rfl, p _ _ _ m1 e1 s1 (.int _) q⟩

/-! ### comparisons by an operator's rule -/
theorem d_cmp {op : CmpOp} {r : R2} {rd : D → D → Mu → (D → Mu → Prop) → Prop} (ho : OpR X (compareOp op) r) (hr : OpD K r rd) (ha : DE K X a ta da) (hb : DE K X b tb db) (hm : behindInMarks op b = false) : DE K X (.Compare a [op] [b] pos) (tOp r ta tb) (dOp rd da db) := by
  obtain ⟨h1, w1⟩ := ha
  obtain ⟨h2, w2⟩ := hb
  exact ⟨pe_cmpR ho h1 h2 hm, .op hr w1 w2⟩
def dTest (t : dE) : dT := fun env m Q => t env m fun d m1 => ∃ k, d = .bl k ∧ Q k m1
theorem WT.test {K : PySem.W.Frag} {te : TE} {de : dE} (w : WE K te de) : WT K (tTest te) (dTest de) := fun F env m Q σ H R q o p => w F env m _ σ H _ q o fun v H1 d m1 e1 s1 r1 q1 => by
  obtain ⟨k, rfl, q⟩ := q1
  cases r1
  exact ⟨k, rfl, p _ _ m1 e1 s1 q⟩
theorem t_cmp {op : CmpOp} {r : R2} {rd : D → D → Mu → (D → Mu → Prop) → Prop} (ho : OpR X (compareOp op) r) (hr : OpD K r rd) (ha : DE K X a ta da) (hb : DE K X b tb db) (hm : behindInMarks op b = false) : DT K X (.Compare a [op] [b] pos) (tTest (tOp r ta tb)) (dTest (dOp rd da db)) := by
  obtain ⟨h1, w1⟩ := ha
  obtain ⟨h2, w2⟩ := hb
  exact ⟨pt_cmpR ho h1 h2 hm, .test (.op hr w1 w2)⟩
/-- < <= > >= of whole numbers -/
def cmpD (f : Int → Int → Bool) (x y : D) (m : Mu) (Q : D → Mu → Prop) : Prop := ∃ i j, x = .int i ∧ y = .int j ∧ Q (.bl (f i j)) m
theorem opd_cmp {K : PySem.W.Frag} {f : Int → Int → Bool} : OpD K (rI0 fun i j => .bl (f i j)) (cmpD f) := fun F H m x y v u Q R q s rx ry p => by
  obtain ⟨i, j, rfl, rfl, q⟩ := q
  cases rx; cases ry
  exact ⟨i, j, rfl, rfl, p.here s (.bl _) q⟩
abbrev ltD := cmpD fun i j => decide (i < j)
abbrev leD := cmpD fun i j => decide (i ≤ j)
abbrev gtD := cmpD fun i j => decide (j < i)
abbrev geD := cmpD fun i j => decide (j ≤ i)
theorem o_lt : OpR X (compareOp .Lt) (rI0 fun i j => .bl (decide (i < j))) := op_lt
theorem o_le : OpR X (compareOp .LtE) (rI0 fun i j => .bl (decide (i ≤ j))) := op_le
theorem o_gt : OpR X (compareOp .Gt) (rI0 fun i j => .bl (decide (j < i))) := op_gt
theorem o_ge : OpR X (compareOp .GtE) (rI0 fun i j => .bl (decide (j ≤ i))) := op_ge
def isN : D → Bool
  | .non => true
  | _ => false
theorem rep_non {K : PySem.W.Frag} {H : Hp} {v : V} {d : D} (r : Rep K H v d) : decide (v = .non) = isN d := by
  cases r <;> rfl
/-- is None -/
def isNoneD (t : Bool) (x y : D) (m : Mu) (Q : D → Mu → Prop) : Prop := y = .non ∧ Q (.bl (t == isN x)) m
theorem opd_isN {K : PySem.W.Frag} : OpD K (fun x y H Q => y = .non ∧ Q (.bl (decide (x = .non))) H) (isNoneD true) := fun F H m x y v u Q R q s rx ry p => by
  obtain ⟨rfl, q⟩ := q
  cases ry
  refine ⟨rfl, ?_⟩
  rw [rep_non rx]
  exact p.here s (.bl _) (by simpa using q)
theorem opd_notN {K : PySem.W.Frag} : OpD K (fun x y H Q => y = .non ∧ Q (.bl (!decide (x = .non))) H) (isNoneD false) := fun F H m x y v u Q R q s rx ry p => by
  obtain ⟨rfl, q⟩ := q
  cases ry
  refine ⟨rfl, ?_⟩
  rw [rep_non rx]
  exact p.here s (.bl _) (by simpa using q)
end

/-! ### == and != of data -/
mutual
inductive IsP (m : Mu) : D → PyData → Prop
  | non : IsP m .non .none
  | bl (b : Bool) : IsP m (.bl b) (.bool b)
  | int (i : Int) : IsP m (.int i) (.int i)
  | str (x : Str) : IsP m (.str x) (.str x)
  | list {xs : List D} {ds : List PyData} : IsPs m xs ds → IsP m (.list xs) (.list ds)
  | tuple {xs : List D} {ds : List PyData} : IsPs m xs ds → IsP m (.tuple xs) (.tuple ds)
  | adr {p : Addr} {xs : List D} {ds : List PyData} : m p = some (.lst xs) → IsPs m xs ds → IsP m (.adr p) (.list ds)
inductive IsPs (m : Mu) : List D → List PyData → Prop
  | nil : IsPs m [] []
  | cons {v : D} {vs : List D} {d : PyData} {ds : List PyData} : IsP m v d → IsPs m vs ds → IsPs m (v :: vs) (d :: ds)
end
section
variable {K : PySem.W.Frag} {F H : Hp} {m : Mu}
mutual
theorem IsP.dp (s : Stt K F H m) : ∀ {d : D} {e : PyData} {v : V}, IsP m d e → Rep K (hide F H m) v d → Dp K H v e
  | _, _, _, .non, r => by cases r; exact .non
  | _, _, _, .bl b, r => by cases r; exact .bl b
  | _, _, _, .int b, r => by cases r; exact .int b
  | _, _, _, .str b, r => by cases r; exact .str b
  | _, _, _, .list h, r => by
    cases r with
    | list e r => exact .lst (.of (hide_le e)) (IsPs.dp s h r)
  | _, _, _, .tuple h, r => by
    cases r with
    | tuple e r => exact .tup (.of (hide_le e)) (IsPs.dp s h r)
  | _, _, _, .adr e h, r => by
    cases r
    obtain ⟨vs, e, r⟩ := s.ok _ _ e
    exact .lst (.of e) (IsPs.dp s h r)
theorem IsPs.dp (s : Stt K F H m) : ∀ {d : List D} {e : List PyData} {v : List V}, IsPs m d e → Reps K (hide F H m) v d → DpAll K H v e
  | _, _, _, .nil, r => by cases r; exact .nil
  | _, _, _, .cons h t, r => by
    cases r with
    | cons r1 r2 => exact .cons (IsP.dp s h r1) (IsPs.dp s t r2)
end
end
def eqP (t : Bool) (x y : D) (m : Mu) (Q : D → Mu → Prop) : Prop := ∃ a b, IsP m x a ∧ IsP m y b ∧ SeqAt.shaped a = true ∧ SeqAt.shaped b = true ∧ Q (.bl (t == PyData.eqv a b)) m
def eqD (t : Bool) (x y : D) (m : Mu) (Q : D → Mu → Prop) : Prop := match x, y with
  | .int i, .int j => Q (.bl (t == decide (i = j))) m
  | .str i, .str j => Q (.bl (t == decide (i = j))) m
  | .bl i, .bl j => Q (.bl (t == decide (i = j))) m
  | x, y => eqP t x y m Q
def rEqAll (K : PySem.W.Frag) : R2 := fun x y H Q => rEq x y H Q ∨ rEqD K x y H Q
def rNeAll (K : PySem.W.Frag) : R2 := fun x y H Q => rNe x y H Q ∨ rNeD K x y H Q
theorem op_eqAll {K : PySem.W.Frag} {X : Cx} (hu : X.A.units + 64 < cLine) (hK : X.K = K := by rfl) : OpR X (compareOp .Eq) (rEqAll K) := by
  subst hK
  exact op_eq.or (op_eqD hu)
theorem op_neAll {K : PySem.W.Frag} {X : Cx} (hu : X.A.units + 64 < cLine) (hK : X.K = K := by rfl) : OpR X (compareOp .NotEq) (rNeAll K) := by
  subst hK
  exact op_ne.or (op_neD hu)
theorem opd_eq {K : PySem.W.Frag} : OpD K (rEqAll K) (eqD true) := fun F H m x y v u Q R q s rx ry p => by
  unfold eqD at q
  split at q
  · cases rx; cases ry
    exact .inl ⟨rfl, p.here s (.bl _) (by simpa using q)⟩
  · cases rx; cases ry
    exact .inl ⟨rfl, p.here s (.bl _) (by simpa using q)⟩
  · cases rx; cases ry
    exact .inl ⟨rfl, p.here s (.bl _) (by simpa using q)⟩
  · obtain ⟨a, b, ha, hb, sa, sb, q⟩ := q
    exact .inr ⟨a, b, ha.dp s rx, hb.dp s ry, sa, sb, p.here s (.bl _) (by simpa using q)⟩
theorem opd_ne {K : PySem.W.Frag} : OpD K (rNeAll K) (eqD false) := fun F H m x y v u Q R q s rx ry p => by
  unfold eqD at q
  split at q
  · cases rx; cases ry
    exact .inl ⟨rfl, p.here s (.bl _) (by simpa using q)⟩
  · cases rx; cases ry
    exact .inl ⟨rfl, p.here s (.bl _) (by simpa using q)⟩
  · cases rx; cases ry
    exact .inl ⟨rfl, p.here s (.bl _) (by simpa using q)⟩
  · obtain ⟨a, b, ha, hb, sa, sb, q⟩ := q
    exact .inr ⟨a, b, ha.dp s rx, hb.dp s ry, sa, sb, p.here s (.bl _) (by simpa using q)⟩
end Dq

namespace Dq
open PySem L2 PyProof.Rows

/-! ### chains -/
def tChain3 (r r' r'' : R2) (ta tb tc td : TE) : TE := fun σ H Q => ta σ H fun x H1 => tb σ H1 fun y H2 => r x y H2 fun z H3 => ∃ k, z = .bl k ∧
  (if k = true then tc σ H3 fun w' H4 => r' y w' H4 fun z2 H5 => ∃ k2, z2 = .bl k2 ∧ (if k2 = true then td σ H5 fun w2 H6 => r'' w' w2 H6 Q else Q (.bl false) H5) else Q (.bl false) H3)
section
variable {K : PySem.W.Frag} {X : Cx} {a b c d : Expr} {ta tb tc td : TE} {pos : Pos}
theorem pe_chain3 {op op' op'' : CmpOp} {r r' r'' : R2} (ho : OpR X (compareOp op) r) (ho' : OpR X (compareOp op') r') (ho'' : OpR X (compareOp op'') r'') (ha : PE X a ta) (hb : PE X b tb) (hc : PE X c tc) (hd : PE X d td)
    (hm : lastMarks [op, op', op''] [b, c, d] = false := by with_unfolding_all rfl) : PE X (.Compare a [op, op', op''] [b, c, d] pos) (tChain3 r r' r'' ta tb tc td) := by
  refine ⟨fun pins s σ H Q I h => ?_⟩
  refine Compare_chain (thn (ha.run pins s σ H _ I h) fun v s1 ⟨x, H1, I1, r1, q1⟩ => chain_link (thn (hb.run pins s1 σ H1 _ I1 q1) fun u s2 ⟨y, H2, I2, r2, q2⟩ =>
    thn (ho pins s2 σ H2 x y v u _ I2 r1 r2 q2) fun d s3 ⟨z, H3, I3, r3, k, e, q3⟩ => ?_)) hm
  subst e
  cases r3
  refine wpAny_truthy_bool ?_
  cases k with
  | false => exact ite_ff ⟨.bl false, H3, I3, rfl, q3⟩
  | true =>
    refine ite_tt (chain_link (thn (hc.run pins s3 σ H3 _ I3 q3) fun w' s4 ⟨z', H4, I4, r4, q4⟩ => thn (ho' pins s4 σ H4 y z' u w' _ I4 r2 r4 q4) fun d' s5 ⟨z5, H5, I5, r5, k5, e5, q5⟩ => ?_))
    subst e5
    cases r5
    refine wpAny_truthy_bool ?_
    cases k5 with
    | false => exact ite_ff ⟨.bl false, H5, I5, rfl, q5⟩
    | true => exact ite_tt (chain_last (thn (hd.run pins s5 σ H5 _ I5 q5) fun w6 s6 ⟨z6, H6, I6, r6, q6⟩ => ho'' pins s6 σ H6 z' z6 w' w6 Q I6 r4 r6 q6))
theorem pt_chain3 {op op' op'' : CmpOp} {r r' r'' : R2} (ho : OpR X (compareOp op) r) (ho' : OpR X (compareOp op') r') (ho'' : OpR X (compareOp op'') r'') (ha : PE X a ta) (hb : PE X b tb) (hc : PE X c tc) (hd : PE X d td)
    (hm : lastMarks [op, op', op''] [b, c, d] = false := by with_unfolding_all rfl) : PT X (.Compare a [op, op', op''] [b, c, d] pos) (tTest (tChain3 r r' r'' ta tb tc td)) := by
  refine ⟨fun pins s σ H Q I h => ?_⟩
  refine isTrue_chain (thn (ha.run pins s σ H _ I h) fun v s1 ⟨x, H1, I1, r1, q1⟩ => test_link (thn (hb.run pins s1 σ H1 _ I1 q1) fun u s2 ⟨y, H2, I2, r2, q2⟩ =>
    thn (ho pins s2 σ H2 x y v u _ I2 r1 r2 q2) fun d s3 ⟨z, H3, I3, r3, k, e, q3⟩ => ?_)) hm
  subst e
  cases r3
  refine wpAny_truthy_bool ?_
  cases k with
  | false =>
    obtain ⟨k', e', q'⟩ := q3
    cases e'
    exact ite_ff ⟨H3, I3, q'⟩
  | true =>
    refine ite_tt (test_link (thn (hc.run pins s3 σ H3 _ I3 q3) fun w' s4 ⟨z', H4, I4, r4, q4⟩ => thn (ho' pins s4 σ H4 y z' u w' _ I4 r2 r4 q4) fun d' s5 ⟨z5, H5, I5, r5, k5, e5, q5⟩ => ?_))
    subst e5
    cases r5
    refine wpAny_truthy_bool ?_
    cases k5 with
    | false =>
      obtain ⟨k', e', q'⟩ := q5
      cases e'
      exact ite_ff ⟨H5, I5, q'⟩
    | true =>
      refine ite_tt (test_last (thn (hd.run pins s5 σ H5 _ I5 q5) fun w6 s6 ⟨z6, H6, I6, r6, q6⟩ => thn (ho'' pins s6 σ H6 z' z6 w' w6 _ I6 r4 r6 q6) fun d7 s7 ⟨z7, H7, I7, r7, k7, e7, q7⟩ => ?_))
      subst e7
      cases r7
      exact wpAny_truthy_bool ⟨H7, I7, q7⟩
end
def dChain (rd rd' : D → D → Mu → (D → Mu → Prop) → Prop) (ta tb tc : dE) : dE := fun env m Q => ta env m fun x m1 => tb env m1 fun y m2 => rd x y m2 fun z m3 => ∃ k, z = .bl k ∧
  (if k = true then tc env m3 fun w m4 => rd' y w m4 Q else Q (.bl false) m3)
def dChain3 (rd rd' rd'' : D → D → Mu → (D → Mu → Prop) → Prop) (ta tb tc td : dE) : dE := fun env m Q => ta env m fun x m1 => tb env m1 fun y m2 => rd x y m2 fun z m3 => ∃ k, z = .bl k ∧
  (if k = true then tc env m3 fun w m4 => rd' y w m4 fun z2 m5 => ∃ k2, z2 = .bl k2 ∧ (if k2 = true then td env m5 fun w2 m6 => rd'' w w2 m6 Q else Q (.bl false) m5) else Q (.bl false) m3)
section
variable {K : PySem.W.Frag} {ta tb tc td : TE} {da db dc dd : dE}
theorem WE.chain {r r' : R2} {rd rd' : D → D → Mu → (D → Mu → Prop) → Prop} (h : OpD K r rd) (h' : OpD K r' rd') (ha : WE K ta da) (hb : WE K tb db) (hc : WE K tc dc) : WE K (tChain r r' ta tb tc) (dChain rd rd' da db dc) :=
  fun F env m Q σ H R q o p => ha F env m _ σ H _ q o fun v H1 x m1 e1 s1 r1 q1 => hb F env m1 _ σ H1 _ q1 (o.at s1 e1) fun u H2 y m2 e2 s2 r2 q2 => by
    refine h F H2 m2 x y v u _ _ q2 s2 (r1.mono e2) r2 fun z H3 dz m3 e3 s3 r3 q3 => ?_
    obtain ⟨k, rfl, q3⟩ := q3
    cases r3
    refine ⟨k, rfl, ?_⟩
    cases k with
    | false => exact p _ _ _ m3 ((e1.trans e2).trans e3) s3 (.bl _) q3
    | true => exact hc F env m3 _ σ H3 _ q3 (o.at s3 ((e1.trans e2).trans e3)) fun w H4 dw m4 e4 s4 r4 q4 => h' F H4 m4 y dw u w Q R q4 s4 ((r2.mono e3).mono e4) r4 (p.at (((e1.trans e2).trans e3).trans e4))
theorem WE.chain3 {r r' r'' : R2} {rd rd' rd'' : D → D → Mu → (D → Mu → Prop) → Prop} (h : OpD K r rd) (h' : OpD K r' rd') (h'' : OpD K r'' rd'') (ha : WE K ta da) (hb : WE K tb db) (hc : WE K tc dc) (hd : WE K td dd) : WE K (tChain3 r r' r'' ta tb tc td) (dChain3 rd rd' rd'' da db dc dd) :=
  fun F env m Q σ H R q o p => ha F env m _ σ H _ q o fun v H1 x m1 e1 s1 r1 q1 => hb F env m1 _ σ H1 _ q1 (o.at s1 e1) fun u H2 y m2 e2 s2 r2 q2 => by
    refine h F H2 m2 x y v u _ _ q2 s2 (r1.mono e2) r2 fun z H3 dz m3 e3 s3 r3 q3 => ?_
    obtain ⟨k, rfl, q3⟩ := q3
    cases r3
    refine ⟨k, rfl, ?_⟩
    have e13 := (e1.trans e2).trans e3
    cases k with
    | false => exact p _ _ _ m3 e13 s3 (.bl _) q3
    | true =>
      refine hc F env m3 _ σ H3 _ q3 (o.at s3 e13) fun w H4 dw m4 e4 s4 r4 q4 => h' F H4 m4 y dw u w _ _ q4 s4 ((r2.mono e3).mono e4) r4 fun z5 H5 dz5 m5 e5 s5 r5 q5 => ?_
      obtain ⟨k5, rfl, q5⟩ := q5
      cases r5
      refine ⟨k5, rfl, ?_⟩
      have e15 := (e13.trans e4).trans e5
      cases k5 with
      | false => exact p _ _ _ m5 e15 s5 (.bl _) q5
      | true => exact hd F env m5 _ σ H5 _ q5 (o.at s5 e15) fun w6 H6 dw6 m6 e6 s6 r6 q6 => h'' F H6 m6 dw dw6 w w6 Q R q6 s6 ((r4.mono e5).mono e6) r6 (p.at (e15.trans e6))
end
section
variable {K : PySem.W.Frag} {X : Cx} {a b c d : Expr} {ta tb tc td : TE} {da db dc dd : dE} {pos : Pos} {op op' op'' : CmpOp} {r r' r'' : R2} {rd rd' rd'' : D → D → Mu → (D → Mu → Prop) → Prop}
theorem d_chain (ho : OpR X (compareOp op) r) (ho' : OpR X (compareOp op') r') (h : OpD K r rd) (h' : OpD K r' rd') (ha : DE K X a ta da) (hb : DE K X b tb db) (hc : DE K X c tc dc)
    (hm : lastMarks [op, op'] [b, c] = false := by with_unfolding_all rfl) : DE K X (.Compare a [op, op'] [b, c] pos) (tChain r r' ta tb tc) (dChain rd rd' da db dc) := by
  obtain ⟨h1, w1⟩ := ha
  obtain ⟨h2, w2⟩ := hb
  obtain ⟨h3, w3⟩ := hc
  exact ⟨pe_chain ho ho' h1 h2 h3 hm, .chain h h' w1 w2 w3⟩
theorem t_chain (ho : OpR X (compareOp op) r) (ho' : OpR X (compareOp op') r') (h : OpD K r rd) (h' : OpD K r' rd') (ha : DE K X a ta da) (hb : DE K X b tb db) (hc : DE K X c tc dc)
    (hm : lastMarks [op, op'] [b, c] = false := by with_unfolding_all rfl) : DT K X (.Compare a [op, op'] [b, c] pos) (tTest (tChain r r' ta tb tc)) (dTest (dChain rd rd' da db dc)) := by
  obtain ⟨h1, w1⟩ := ha
  obtain ⟨h2, w2⟩ := hb
  obtain ⟨h3, w3⟩ := hc
  exact ⟨pt_chain ho ho' h1 h2 h3 hm, .test (.chain h h' w1 w2 w3)⟩
theorem d_chain3 (ho : OpR X (compareOp op) r) (ho' : OpR X (compareOp op') r') (ho'' : OpR X (compareOp op'') r'') (h : OpD K r rd) (h' : OpD K r' rd') (h'' : OpD K r'' rd'') (ha : DE K X a ta da) (hb : DE K X b tb db) (hc : DE K X c tc dc) (hd : DE K X d td dd)
    (hm : lastMarks [op, op', op''] [b, c, d] = false := by with_unfolding_all rfl) : DE K X (.Compare a [op, op', op''] [b, c, d] pos) (tChain3 r r' r'' ta tb tc td) (dChain3 rd rd' rd'' da db dc dd) := by
  obtain ⟨h1, w1⟩ := ha
  obtain ⟨h2, w2⟩ := hb
  obtain ⟨h3, w3⟩ := hc
  obtain ⟨h4, w4⟩ := hd
  exact ⟨pe_chain3 ho ho' ho'' h1 h2 h3 h4 hm, .chain3 h h' h'' w1 w2 w3 w4⟩
theorem t_chain3 (ho : OpR X (compareOp op) r) (ho' : OpR X (compareOp op') r') (ho'' : OpR X (compareOp op'') r'') (h : OpD K r rd) (h' : OpD K r' rd') (h'' : OpD K r'' rd'') (ha : DE K X a ta da) (hb : DE K X b tb db) (hc : DE K X c tc dc) (hd : DE K X d td dd)
    (hm : lastMarks [op, op', op''] [b, c, d] = false := by with_unfolding_all rfl) : DT K X (.Compare a [op, op', op''] [b, c, d] pos) (tTest (tChain3 r r' r'' ta tb tc td)) (dTest (dChain3 rd rd' rd'' da db dc dd)) := by
  obtain ⟨h1, w1⟩ := ha
  obtain ⟨h2, w2⟩ := hb
  obtain ⟨h3, w3⟩ := hc
  obtain ⟨h4, w4⟩ := hd
  exact ⟨pt_chain3 ho ho' ho'' h1 h2 h3 h4 hm, .test (.chain3 h h' h'' w1 w2 w3 w4)⟩
end

/-! ### tests: and, or, not, values, truth; a if t else b -/
def dAnd (t u : dT) : dT := fun env m Q => t env m fun c m1 => if c = true then u env m1 Q else Q false m1
def dOr (t u : dT) : dT := fun env m Q => t env m fun c m1 => if c = true then Q true m1 else u env m1 Q
def dNot (t : dT) : dT := fun env m Q => t env m fun c m1 => Q (!c) m1
def dVal (t : dE) : dT := fun env m Q => t env m fun d m1 => ∃ k, d = .bl k ∧ Q k m1
def dAndV (ta tb : dE) : dE := fun env m Q => ta env m fun x m1 => ∃ c, x = .bl c ∧ if c = true then tb env m1 Q else Q (.bl false) m1
def dOrV (ta tb : dE) : dE := fun env m Q => ta env m fun x m1 => ∃ c, x = .bl c ∧ if c = true then Q (.bl true) m1 else tb env m1 Q
def dNotV (ta : dE) : dE := fun env m Q => ta env m fun x m1 => ∃ c, x = .bl c ∧ Q (.bl (!c)) m1
def dIf (t : dT) (ta tb : dE) : dE := fun env m Q => t env m fun c m1 => if c = true then ta env m1 Q else tb env m1 Q
section
variable {K : PySem.W.Frag} {X : Cx} {a b c : Expr} {ta tb tc : TE} {da db dc : dE} {tt tu : TT} {dt du : dT} {pos : Pos} {rest : List Expr}
theorem WT.and {K : PySem.W.Frag} {t u : TT} (h1 : WT K t dt) (h2 : WT K u du) : WT K (tAnd t u) (dAnd dt du) := fun F env m Q σ H R q o p => h1 F env m _ σ H _ q o fun k H1 m1 e1 s1 q1 => by
  cases k with
  | true => exact h2 F env m1 Q σ H1 R q1 (o.at s1 e1) (p.at e1)
  | false => exact p false H1 m1 e1 s1 q1
theorem WT.or {K : PySem.W.Frag} {t u : TT} (h1 : WT K t dt) (h2 : WT K u du) : WT K (tOr t u) (dOr dt du) := fun F env m Q σ H R q o p => h1 F env m _ σ H _ q o fun k H1 m1 e1 s1 q1 => by
  cases k with
  | false => exact h2 F env m1 Q σ H1 R q1 (o.at s1 e1) (p.at e1)
  | true => exact p true H1 m1 e1 s1 q1
theorem t_not (h : DT K X a tt dt) : DT K X (.UnaryOp .Not a pos) (tNot tt) (dNot dt) := by
  obtain ⟨h1, w1⟩ := h
  exact ⟨pt_not h1, fun F env m Q σ H R q o p => w1 F env m _ σ H _ q o fun k H1 m1 e1 s1 q1 => p _ H1 m1 e1 s1 q1⟩
theorem w_and1 (h : DT K X a tt dt) : DW K X (.BoolOp .And [a] pos) tt dt := let ⟨h1, w1⟩ := h; ⟨pw_and1 h1, w1⟩
theorem w_or1 (h : DT K X a tt dt) : DW K X (.BoolOp .Or [a] pos) tt dt := let ⟨h1, w1⟩ := h; ⟨pw_or1 h1, w1⟩
theorem w_and (h : DT K X a tt dt) (k : DW K X (.BoolOp .And (b :: rest) pos) tu du) : DW K X (.BoolOp .And (a :: b :: rest) pos) (tAnd tt tu) (dAnd dt du) := let ⟨h1, w1⟩ := h; let ⟨h2, w2⟩ := k; ⟨pw_and h1 h2, w1.and w2⟩
theorem w_or (h : DT K X a tt dt) (k : DW K X (.BoolOp .Or (b :: rest) pos) tu du) : DW K X (.BoolOp .Or (a :: b :: rest) pos) (tOr tt tu) (dOr dt du) := let ⟨h1, w1⟩ := h; let ⟨h2, w2⟩ := k; ⟨pw_or h1 h2, w1.or w2⟩
theorem DW.t (h : DW K X a tt dt) : DT K X a tt dt := let ⟨h1, w1⟩ := h; ⟨h1.pt, w1⟩
/-- a value that is True or False -/
theorem t_val (h : DE K X a ta da) (he : ∀ whole, isTrue a X.env whole = (do let v ← whole; standAt a.pos; holding [v] (truthy v)) := by intro _; rfl) : DT K X a (tB ta) (dVal da) := by
  obtain ⟨h1, w1⟩ := h
  refine ⟨pt_val h1 he, fun F env m Q σ H R q o p => w1 F env m _ σ H _ q o fun v H1 d m1 e1 s1 r1 q1 => ?_⟩
  obtain ⟨k, rfl, q⟩ := q1
  cases r1
  exact ⟨k, rfl, p _ _ m1 e1 s1 q⟩
theorem d_one {op : BoolOp} (h : DE K X a ta da) : DE K X (.BoolOp op [a] pos) ta da := let ⟨h1, w1⟩ := h; ⟨pe_one h1, w1⟩
theorem d_and (h : DE K X a ta da) (k : DE K X (.BoolOp .And (b :: rest) pos) tb db) : DE K X (.BoolOp .And (a :: b :: rest) pos) (tAndV ta tb) (dAndV da db) := by
  obtain ⟨h1, w1⟩ := h
  obtain ⟨h2, w2⟩ := k
  refine ⟨pe_and h1 h2, fun F env m Q σ H R q o p => w1 F env m _ σ H _ q o fun v H1 d m1 e1 s1 r1 q1 => ?_⟩
  obtain ⟨k, rfl, q⟩ := q1
  cases r1
  refine ⟨k, rfl, ?_⟩
  cases k with
  | true => exact w2 F env m1 Q σ H1 R q (o.at s1 e1) (p.at e1)
  | false => exact p _ _ _ m1 e1 s1 (.bl _) q
theorem d_or (h : DE K X a ta da) (k : DE K X (.BoolOp .Or (b :: rest) pos) tb db) : DE K X (.BoolOp .Or (a :: b :: rest) pos) (tOrV ta tb) (dOrV da db) := by
  obtain ⟨h1, w1⟩ := h
  obtain ⟨h2, w2⟩ := k
  refine ⟨pe_or h1 h2, fun F env m Q σ H R q o p => w1 F env m _ σ H _ q o fun v H1 d m1 e1 s1 r1 q1 => ?_⟩
  obtain ⟨k, rfl, q⟩ := q1
  cases r1
  refine ⟨k, rfl, ?_⟩
  cases k with
  | false => exact w2 F env m1 Q σ H1 R q (o.at s1 e1) (p.at e1)
  | true => exact p _ _ _ m1 e1 s1 (.bl _) q
theorem d_not (h : DE K X a ta da) : DE K X (.UnaryOp .Not a pos) (tNotV ta) (dNotV da) := by
  obtain ⟨h1, w1⟩ := h
  refine ⟨pe_not h1, fun F env m Q σ H R q o p => w1 F env m _ σ H _ q o fun v H1 d m1 e1 s1 r1 q1 => ?_⟩
  obtain ⟨k, rfl, q⟩ := q1
  cases r1
  exact ⟨k, rfl, p _ _ _ m1 e1 s1 (.bl _) q⟩
theorem d_ifx (h : DT K X c tt dt) (ha : DE K X a ta da) (hb : DE K X b tb db) : DE K X (.IfExp c a b pos) (tIf tt ta tb) (dIf dt da db) := by
  obtain ⟨h1, w1⟩ := h
  obtain ⟨h2, w2⟩ := ha
  obtain ⟨h3, w3⟩ := hb
  refine ⟨pe_ifExp h1 h2 h3, fun F env m Q σ H R q o p => w1 F env m _ σ H _ q o fun k H1 m1 e1 s1 q1 => ?_⟩
  cases k with
  | true => exact w2 F env m1 Q σ H1 R q1 (o.at s1 e1) (p.at e1)
  | false => exact w3 F env m1 Q σ H1 R q1 (o.at s1 e1) (p.at e1)
end

/-! ### arguments, displays -/
def dNil : dA := fun _ m Q => Q [] m
def dCons (te : dE) (tr : dA) : dA := fun env m Q => te env m fun x m1 => tr env m1 fun xs m2 => Q (x :: xs) m2
def dTup (t : dA) : dE := fun env m Q => t env m fun xs m1 => xs.length ≤ sizeLine ∧ Q (.tuple xs) m1
def dLst (b : Bool) (t : dA) : dE := fun env m Q => t env m fun xs m1 => xs.length ≤ sizeLine ∧ mkL b xs m1 Q
section
variable {K : PySem.W.Frag} {X : Cx} {e : Expr} {es : List Expr} {te : TE} {ta : TA} {de : dE} {da : dA} {pos : Pos}
theorem a_nil : DA K X [] tNil dNil := ⟨pa_nil, fun F env m Q σ H R q o p => p [] H [] m Ext.refl o.st .nil q⟩
theorem a_cons (h : DE K X e te de) (k : DA K X es ta da) (hs : starEach (e :: es) X.env = (false, eval e X.env) :: starEach es X.env := by rfl) : DA K X (e :: es) (tCons te ta) (dCons de da) := by
  obtain ⟨h1, w1⟩ := h
  obtain ⟨h2, w2⟩ := k
  exact ⟨pa_cons h1 h2 hs, fun F env m Q σ H R q o p => w1 F env m _ σ H _ q o fun v H1 d m1 e1 s1 r1 q1 => w2 F env m1 _ σ H1 _ q1 (o.at s1 e1) fun vs H2 ds m2 e2 s2 r2 q2 => p _ _ _ m2 (e1.trans e2) s2 (.cons (r1.mono e2) r2) q2⟩
theorem d_tup {k : Nat} (h : DA K X es ta da) : DE K X (.Tuple es k pos) (tTup ta) (dTup da) := by
  obtain ⟨h1, w1⟩ := h
  refine ⟨pe_tup h1, fun F env m Q σ H R q o p => w1 F env m _ σ H _ q o fun vs H1 ds m1 e1 s1 r1 q1 => ⟨by rw [r1.length]; exact q1.1, fun a ha => (p.at e1).newT s1 r1 q1.2 a ha⟩⟩
theorem d_lst (b : Bool) (h : DA K X es ta da) : DE K X (.List es pos) (tLst ta) (dLst b da) := by
  obtain ⟨h1, w1⟩ := h
  refine ⟨pe_lst h1, fun F env m Q σ H R q o p => w1 F env m _ σ H _ q o fun vs H1 ds m1 e1 s1 r1 q1 => ⟨by rw [r1.length]; exact q1.1, fun a ha => (p.at e1).newB b s1 r1 q1.2 a ha⟩⟩
end

/-! ### subscripts -/
/-- x[i] of a list, a tuple, a text; d[k] of a dict -/
def strIx (s : Str) (i : Int) (m : Mu) (Q : D → Mu → Prop) : Prop := s.length ≤ sizeLine ∧ ∃ c, atI s.cps.toList i = some c ∧ Q (.str ⟨#[c]⟩) m
def ixD (x y : D) (m : Mu) (Q : D → Mu → Prop) : Prop := ∃ i, y = .int i ∧ match x with
  | .str s => strIx s i m Q
  | x => ∃ xs d, vwS m x = some xs ∧ atI xs i = some d ∧ Q d m
theorem reps_at {K : PySem.W.Frag} {H : Hp} {vs : List V} {ds : List D} {i : Int} {d : D} (r : Reps K H vs ds) (h : atI ds i = some d) : ∃ v, atI vs i = some v ∧ Rep K H v d := by
  obtain ⟨j, h1, h2, h3, h4, h5⟩ := atI_get h
  obtain ⟨v, hv, rv⟩ := r.get h2
  refine ⟨v, ?_, rv⟩
  unfold atI
  unfold atI at h
  rw [r.length]
  cases e : ixN ds.length i with
  | none => rw [e] at h; cases h
  | some k =>
    have := (ixN_seq e).1
    rw [h1] at this
    cases this
    exact hv
theorem ixD_list {K : PySem.W.Frag} {F H : Hp} {m : Mu} {x : D} {v : V} {i : Int} {Q : D → Mu → Prop} {R : VK} (h : ∃ xs d, vwS m x = some xs ∧ atI xs i = some d ∧ Q d m)
    (s : Stt K F H m) (rx : Rep K (hide F H m) v x) (p : Pst K F H m Q R) : rIx K v (.int i) H R := by
  obtain ⟨xs, d, hx, hi, q⟩ := h
  obtain ⟨a, vs, rfl, ha, ra⟩ := sq_of s rx hx
  obtain ⟨w, hw, rw'⟩ := reps_at ra hi
  rcases ha with ha | ha
  · exact .inl ⟨a, vs, i, w, rfl, rfl, ha, hw, p.here s rw' q⟩
  · exact .inr (.inl ⟨a, vs, i, w, rfl, rfl, ha, hw, p.here s rw' q⟩)
theorem opd_ix {K : PySem.W.Frag} : OpD K (rIx K) ixD := fun F H m x y v u Q R q s rx ry p => by
  obtain ⟨i, rfl, q⟩ := q
  cases ry
  cases x with
  | str z =>
    cases rx
    obtain ⟨hl, c, hc, q⟩ := q
    exact .inr (.inr ⟨z, i, c, rfl, rfl, hl, hc, p.here s (.str _) q⟩)
  | int _ => exact ixD_list q s rx p
  | non => exact ixD_list q s rx p
  | bl _ => exact ixD_list q s rx p
  | ty _ => exact ixD_list q s rx p
  | adr _ => exact ixD_list q s rx p
  | list _ => exact ixD_list q s rx p
  | tuple _ => exact ixD_list q s rx p
  | seq _ => exact ixD_list q s rx p
  | tseq _ => exact ixD_list q s rx p
  | dict _ => exact ixD_list q s rx p
  | dicT _ => exact ixD_list q s rx p
section
variable {K : PySem.W.Frag} {X : Cx} {a b : Expr} {ta tb : TE} {da db : dE} {pos : Pos}
theorem d_ix (ha : DE K X a ta da) (hb : DE K X b tb db) (hs : PlainIx b := by exact fun _ _ => rfl) (hK : X.K = K := by rfl) : DE K X (.Subscript a b pos) (tOp (rIx K) ta tb) (dOp ixD da db) := by
  subst hK
  obtain ⟨h1, w1⟩ := ha
  obtain ⟨h2, w2⟩ := hb
  exact ⟨pe_ix ix_seq h1 h2 hs, .op opd_ix w1 w2⟩
end
/-! ### slices of lists, texts -/
abbrev dO := Env → Mu → (Option Int → Mu → Prop) → Prop
def dNoPart : dO := fun _ m Q => Q none m
def dPart (t : dE) : dO := fun env m Q => t env m fun d m1 => ∃ i, d = .int i ∧ Q (some i) m1
structure DO (K : PySem.W.Frag) (X : Cx) (e : Option Expr) (te : TO) (t : dO) : Prop where
  p : PO X e te
  w : ∀ F env m Q σ H R, t env m Q → Ok K F H σ env m → (∀ o H' m', Ext (hide F H m) (hide F H' m') → Stt K F H' m' → Q o m' → R o H') → te σ H R
/-- [lo:hi] of a list -/
def cutD (xs : List D) (lo hi : Option Int) : List D := (xs.drop (HT.sIx xs.length 0 lo)).take (HT.sIx xs.length xs.length hi - HT.sIx xs.length 0 lo)
theorem reps_cut {K : PySem.W.Frag} {H : Hp} {vs : List V} {ds : List D} (r : Reps K H vs ds) (lo hi : Option Int) : Reps K H (cutV vs lo hi) (cutD ds lo hi) := by
  unfold cutV cutD
  rw [r.length]
  exact (r.drop _).take _
end Dq

namespace Dq
open PySem L2 PyProof.Rows

/-! ### statements -/
def dNext : dS := fun DD env m => DD.nx env m
def dSeq (t u : dS) : dS := fun DD env m => t { DD with nx := u DD } env m
def dAsg (te : dE) (i : Nat) : dS := fun DD env m => te env m fun d m1 => DD.nx (env.set i (some d)) m1
def dDrop (te : dE) : dS := fun DD env m => te env m fun _ m1 => DD.nx env m1
def dRet (te : dE) : dS := fun DD env m => te env m DD.rt
def dRetN : dS := fun DD _ m => DD.rt .non m
def dIfS (c : dT) (t u : dS) : dS := fun DD env m => c env m fun b m1 => if b = true then t DD env m1 else u DD env m1
def dNever : dS := fun _ _ _ => False
def dBrk : dS := fun DD env m => DD.bk env m
def dCont : dS := fun DD env m => DD.ct env m
section
variable {K : PySem.W.Frag} {X : Cx} {st : Stmt} {rest : List Stmt} {st1 st2 : TS} {dt du : dS} {e c : Expr} {te : TE} {tc : TT} {de : dE} {dc : dT} {pos : Pos} {p q : List Stmt}
theorem ss_nil : DSs K X [] tNext dNext := ⟨pss_nil, fun F DD env m σ H RR t o p => p.nx σ H env m Ext.refl o t⟩
theorem ss_cons (h : DS K X st st1 dt) (k : DSs K X rest st2 du) : DSs K X (st :: rest) (tSeq st1 st2) (dSeq dt du) := by
  obtain ⟨h1, w1⟩ := h
  obtain ⟨h2, w2⟩ := k
  refine ⟨pss_cons h1 h2, fun F DD env m σ H RR q o p => w1 F { DD with nx := du DD } env m σ H { RR with nx := st2 RR } q o ⟨fun σ' H' env' m' e' o' q' => w2 F DD env' m' σ' H' RR q' o' (p.at e'), p.rt, p.bk, p.ct⟩⟩
theorem ss_one (h : DS K X st st1 dt) : DSs K X [st] st1 dt := let ⟨h1, w1⟩ := h; ⟨pss_one h1, w1⟩
theorem s_pass : DS K X (.Pass pos) tNext dNext := ⟨ps_pass, fun F DD env m σ H RR t o p => p.nx σ H env m Ext.refl o t⟩
theorem s_brk : DS K X (.Break pos) tBreak dBrk := ⟨ps_break, fun F DD env m σ H RR t o p => p.bk σ H env m Ext.refl o t⟩
theorem s_cont : DS K X (.Continue pos) L2.tCont dCont := ⟨ps_continue, fun F DD env m σ H RR t o p => p.ct σ H env m Ext.refl o t⟩
theorem s_expr (h : DE K X e te de) (hs : swapsWith e none pos.line X.env = pure false := by rfl) : DS K X (.Expr e pos) (tDrop te) (dDrop de) := by
  obtain ⟨h1, w1⟩ := h
  exact ⟨ps_expr h1 hs, fun F DD env m σ H RR q o p => w1 F env m _ σ H _ q o fun v H1 d m1 e1 s1 r1 q1 => p.nx σ H1 env m1 e1 (o.at s1 e1) q1⟩
theorem s_ret (h : DE K X e te de) : DS K X (.Return (some e) pos) (tRet te) (dRet de) := by
  obtain ⟨h1, w1⟩ := h
  exact ⟨ps_ret h1, fun F DD env m σ H RR q o p => w1 F env m _ σ H _ q o p.rt⟩
theorem s_retN : DS K X (.Return none pos) tRetN dRetN := ⟨ps_retN, fun F DD env m σ H RR q o p => p.rt _ H _ m Ext.refl o.st .non q⟩
theorem s_if (h : DT K X c tc dc) (h1 : DSs K X p st1 dt) (h2 : DSs K X q st2 du) : DS K X (.If c p q pos) (tIfS tc st1 st2) (dIfS dc dt du) := by
  obtain ⟨hc, wc⟩ := h
  obtain ⟨h1, w1⟩ := h1
  obtain ⟨h2, w2⟩ := h2
  refine ⟨ps_if hc h1 h2, fun F DD env m σ H RR q o p => wc F env m _ σ H _ q o fun k H1 m1 e1 s1 q1 => ?_⟩
  cases k with
  | true => exact w1 F DD env m1 σ H1 RR q1 (o.at s1 e1) (p.at e1)
  | false => exact w2 F DD env m1 σ H1 RR q1 (o.at s1 e1) (p.at e1)
theorem s_never : DS K X st tNever dNever := ⟨ps_never, fun _ _ _ _ _ _ _ q => q.elim⟩
theorem ss_never {sts : List Stmt} : DSs K X sts tNever dNever := ⟨pss_never, fun _ _ _ _ _ _ _ q => q.elim⟩
theorem s_set {i : Nat} {x : Str} {pos' : Pos} (hN : X.N.Nodup) (he : DE K X e te de) (hi : X.N[i]? = some x := by rfl) (hx : Loc X.env.scope x := by first | exact Or.inl rfl | exact Or.inr rfl) (hs : swapsWith e (some (.Name x pos')) pos.line X.env = pure false := by rfl)
    (hf : X.fn x = true ∨ X.env.scope.names.lookup x = some .local := by first | exact .inl rfl | exact .inr rfl) : DS K X (.Assign [.Name x pos'] e pos) (tAsg te (gName i)) (dAsg de i) := by
  obtain ⟨h1, w1⟩ := he
  exact ⟨ps_set hN hi hx h1 hs hf, fun F DD env m σ H RR q o p => w1 F env m _ σ H _ q o fun v H1 d m1 e1 s1 r1 q1 => p.nx _ H1 _ m1 e1 ⟨s1, (o.fr.mono e1).set r1⟩ q1⟩
end

/-! ### a mutable object comes to rest: slot i of the frame is told as data from here on -/
def dFz (i : Nat) (t : dS) : dS := fun DD env m => ∃ p, env[i]? = some (some (.adr p)) ∧ match m p with
  | some (.lst ds) => t DD (env.set i (some (.list ds))) (del m p)
  | some (.dK ds) => t DD (env.set i (some (.dict ds))) (del m p)
  | some (.dT ds) => t DD (env.set i (some (.dicT ds))) (del m p)
  | _ => False
theorem Stt.apart {K : PySem.W.Frag} {F H : Hp} {m : Mu} {p : Addr} {w : MO} (s : Stt K F H m) (h : m p = some w) : F p = none := by
  cases e : F p with
  | none => rfl
  | some u =>
    have q := (s.fr p u e).2
    rw [h] at q
    cases q
theorem WS.fz {K : PySem.W.Frag} {ts : TS} {t : dS} {i : Nat} (w : WS K ts t) : WS K ts (dFz i t) := fun F DD env m σ H RR q o p => by
  obtain ⟨a, h, q⟩ := q
  split at q
  · rename_i ds hm
    refine w F DD _ _ σ H RR q ⟨o.st.del, (o.fr.mono Ext.del).put h fun v r => ?_⟩ (p.at Ext.del)
    cases r
    obtain ⟨vs, e, r⟩ := o.st.ok _ _ hm
    exact .list (by rw [hide_at (by unfold del; rw [if_pos rfl]) (o.st.apart hm)]; exact e) (r.mono Ext.del)
  · rename_i ds hm
    refine w F DD _ _ σ H RR q ⟨o.st.del, (o.fr.mono Ext.del).put h fun v r => ?_⟩ (p.at Ext.del)
    cases r
    obtain ⟨vs, e, r⟩ := o.st.ok _ _ hm
    exact .dict (.inl (by rw [hide_at (by unfold del; rw [if_pos rfl]) (o.st.apart hm)]; exact e)) (r.mono Ext.del)
  · rename_i ds hm
    refine w F DD _ _ σ H RR q ⟨o.st.del, (o.fr.mono Ext.del).put h fun v r => ?_⟩ (p.at Ext.del)
    cases r
    obtain ⟨vs, e, r⟩ := o.st.ok _ _ hm
    exact .dicT (.inl (by rw [hide_at (by unfold del; rw [if_pos rfl]) (o.st.apart hm)]; exact e)) (r.mono Ext.del)
  · exact q.elim
theorem ss_fz {K : PySem.W.Frag} {X : Cx} (i : Nat) {sts : List Stmt} {ts : TS} {t : dS} (h : DSs K X sts ts t) : DSs K X sts ts (dFz i t) := let ⟨h1, w1⟩ := h; ⟨h1, w1.fz⟩

/-! ### targets -/
abbrev dG := D → Env → Mu → (Env → Mu → Prop) → Prop
abbrev dGs := List D → Env → Mu → (Env → Mu → Prop) → Prop
def WG (K : PySem.W.Frag) (g : TG) (t : dG) : Prop := ∀ F d env m Q v σ H R, t d env m Q → Ok K F H σ env m → Rep K (hide F H m) v d → PstX K F H m Q R → g v σ H R
def WGs (K : PySem.W.Frag) (g : TGs) (t : dGs) : Prop := ∀ F d env m Q v σ H R, t d env m Q → Ok K F H σ env m → Reps K (hide F H m) v d → PstX K F H m Q R → g v σ H R
structure DG (K : PySem.W.Frag) (X : Cx) (tg : Expr) (g : TG) (t : dG) : Prop where
  p : PG X tg g
  w : WG K g t
structure DGs (K : PySem.W.Frag) (X : Cx) (tg : List Expr) (g : TGs) (t : dGs) : Prop where
  p : PGs X tg g
  w : WGs K g t
def hName (i : Nat) : dG := fun d env m Q => Q (env.set i (some d)) m
def hNil : dGs := fun ds env m Q => ds = [] ∧ Q env m
def hCons (t : dG) (u : dGs) : dGs := fun ds env m Q => ∃ d r, ds = d :: r ∧ t d env m fun e1 m1 => u r e1 m1 Q
def hTup (n : Nat) (t : dGs) : dG := fun d env m Q => ∃ xs, (d = .tuple xs) ∧ xs.length = n ∧ t xs env m Q
section
variable {K : PySem.W.Frag} {X : Cx} {pos : Pos}
theorem g_name {i : Nat} {x : Str} (hN : X.N.Nodup) (hi : X.N[i]? = some x := by rfl) (hx : Loc X.env.scope x := by first | exact Or.inl rfl | exact Or.inr rfl) (hf : X.fn x = true ∨ X.env.scope.names.lookup x = some .local := by first | exact .inl rfl | exact .inr rfl) : DG K X (.Name x pos) (gName i) (hName i) :=
  ⟨pg_name hN hi hx hf, fun F d env m Q v σ H R q o r p => p _ H _ m Ext.refl ⟨o.st, o.fr.set r⟩ q⟩
theorem gs_nil : DGs K X [] gNil hNil := ⟨pgs_nil, fun F d env m Q v σ H R q o r p => by
  obtain ⟨rfl, q⟩ := q
  cases r
  exact ⟨rfl, p _ H _ m Ext.refl o q⟩⟩
theorem gs_cons {e : Expr} {es : List Expr} {g : TG} {g2 : TGs} {t : dG} {u : dGs} (h : DG K X e g t) (k : DGs K X es g2 u) (hs : (assignEach (e :: es) X.env).map (·.2) = assign e X.env :: (assignEach es X.env).map (·.2) := by rfl) : DGs K X (e :: es) (gCons g g2) (hCons t u) := by
  obtain ⟨h1, w1⟩ := h
  obtain ⟨h2, w2⟩ := k
  refine ⟨pgs_cons h1 h2 hs, fun F d env m Q v σ H R q o r p => ?_⟩
  obtain ⟨x, xs, rfl, q⟩ := q
  cases r with
  | cons r rr => exact ⟨_, _, rfl, w1 F x env m _ _ σ H _ q o r fun σ' H' env' m' e' o' q' => w2 F xs env' m' Q _ σ' H' R q' o' (rr.mono e') (p.at e')⟩
theorem g_tup {es : List Expr} {k : Nat} {g : TGs} {t : dGs} {n : Nat} (h : DGs K X es g t) (hc : X.calm = true := by rfl) (hn : (assignEach es X.env).length = n := by rfl) (hst : (assignEach es X.env).findIdx? (·.1) = none := by rfl) (hK : X.K = K := by rfl) : DG K X (.Tuple es k pos) (gTup K n g) (hTup n t) := by
  subst hK
  obtain ⟨h1, w1⟩ := h
  refine ⟨pg_tup hc h1 hn hst, fun F d env m Q v σ H R q o r p => ?_⟩
  obtain ⟨xs, rfl, hl, q⟩ := q
  cases r with
  | tuple e r => exact ⟨_, _, rfl, .of (hide_le e), r.length.trans hl, w1 F xs env m Q _ σ H R q o r p⟩
/-- target = value -/
def dAsgG (te : dE) (g : dG) : dS := fun DD env m => te env m fun d m1 => g d env m1 DD.nx
theorem s_asg {tg e : Expr} {ue : TE} {te : dE} {ug : TG} {g : dG} (he : DE K X e ue te) (hg : DG K X tg ug g) (hs : swapsWithSole [tg] e pos.line X.env = pure false := by rfl) (hw : swappedStores [tg] e X.env = pure none := by rfl)
    (h1 : (assignEach [tg] X.env).map (·.2) = [assign tg X.env] := by rfl) : DS K X (.Assign [tg] e pos) (tAsg ue ug) (dAsgG te g) := by
  obtain ⟨h2, w1⟩ := he
  obtain ⟨h3, w2⟩ := hg
  exact ⟨ps_asg h2 h3 hs hw h1, fun F DD env m σ H RR q o p => w1 F env m _ σ H _ q o fun v H1 d m1 e1 s1 r1 q1 => w2 F d env m1 DD.nx v σ H1 RR.nx q1 (o.at s1 e1) r1 (p.nx.at e1)⟩
/-- a, b = x, y -/
def dPar (i j : Nat) (ta : dA) : dS := fun DD env m => ta env m fun ds m1 => ∃ v w, ds = [v, w] ∧ DD.nx ((env.set i (some v)).set j (some w)) m1
theorem s_par {i j : Nat} {x y : Str} {a b : Expr} {ua : TA} {ta : dA} {px py pt : Pos} {kt k2 pt2} (hN : X.N.Nodup) (ha : DA K X [a, b] ua ta) (hi : X.N[i]? = some x := by rfl) (hj : X.N[j]? = some y := by rfl) (hij : i ≠ j := by decide)
    (hx : X.env.scope.names.lookup x = some .local := by rfl) (hy : X.env.scope.names.lookup y = some .local := by rfl) (hc : X.calm = true := by rfl)
    (hw : swappedStores [.Tuple [.Name x px, .Name y py] kt pt] (.Tuple [a, b] k2 pt2) X.env = pure (some [x, y]) := by rfl)
    (hs : swapsWithSole [.Tuple [.Name x px, .Name y py] kt pt] (.Tuple [a, b] k2 pt2) pos.line X.env = pure false := by rfl) :
    DS K X (.Assign [.Tuple [.Name x px, .Name y py] kt pt] (.Tuple [a, b] k2 pt2) pos) (tPar i j ua) (dPar i j ta) := by
  obtain ⟨h1, w1⟩ := ha
  refine ⟨ps_par hc hN hi hj hij hx hy h1 hw hs, fun F DD env m σ H RR q o p => w1 F env m _ σ H _ q o fun vs H1 ds m1 e1 s1 r1 q1 => ?_⟩
  obtain ⟨v, w, rfl, q⟩ := q1
  obtain ⟨v1, w1, rfl, r2, r3⟩ := r1.inv2
  exact ⟨_, _, rfl, p.nx _ H1 _ m1 e1 ⟨s1, ((o.fr.mono e1).set r2).set r3⟩ q⟩
end

/-! ### what is walked: its items, told ahead -/
/-- J walks just what stands for ds, as long as all that stands behind H, m does -/
structure Wlk (K : PySem.W.Frag) (F H : Hp) (m : Mu) (J : It) (ds : List D) : Prop where
  ex : ∃ (n : Nat) (G : Hp → Prop) (Y : Nat → Hp → V → Hp → Prop), n = ds.length ∧ Walk J n G Y ∧ (∀ F' H' m', Ext (hide F H m) (hide F' H' m') → Stt K F' H' m' → G H') ∧
    ∀ i F' Hc mc x H', Ext (hide F H m) (hide F' Hc mc) → Stt K F' Hc mc → Y i Hc x H' → i < ds.length → ∃ d, ds[i]? = some d ∧ Ext (hide F' Hc mc) (hide F' H' mc) ∧ Stt K F' H' mc ∧ Rep K (hide F' H' mc) x d
abbrev dI := Env → Mu → (List D → Mu → Prop) → Prop
def WI (K : PySem.W.Frag) (wi : TI) (t : dI) : Prop := ∀ F env m Q σ H R, t env m Q → Ok K F H σ env m → (∀ J H' ds m', Ext (hide F H m) (hide F H' m') → Stt K F H' m' → Wlk K F H' m' J ds → Q ds m' → R J H') → wi σ H R
structure DI (K : PySem.W.Frag) (X : Cx) (tg iter : Expr) (wi : TI) (t : dI) : Prop where
  p : PI X tg iter wi
  w : WI K wi t
section
variable {K : PySem.W.Frag} {X : Cx} {tg : Expr} {K : PySem.W.Frag} {F H : Hp} {m : Mu}
theorem wlk_list {a : Addr} {vs : List V} {ds : List D} (e : ∀ F' H' m', Ext (hide F H m) (hide F' H' m') → Stt K F' H' m' → SqL K H' a vs) (r : Reps K (hide F H m) vs ds) : Wlk K F H m (Itl K a) ds := by
  refine ⟨vs.length, fun H' => SqL K H' a vs, _, r.length, walk_list, e, fun i F' Hc mc x H' ex s y hi => ?_⟩
  obtain ⟨rfl, hx⟩ := y
  obtain ⟨d, hd, rd⟩ := r.get' hx
  exact ⟨d, hd, Ext.refl, s, rd.mono ex⟩
theorem wlk_tup {a : Addr} {vs : List V} {ds : List D} (e : ∀ F' H' m', Ext (hide F H m) (hide F' H' m') → Stt K F' H' m' → SqT K H' a vs) (r : Reps K (hide F H m) vs ds) : Wlk K F H m (Itt K a) ds := by
  refine ⟨vs.length, fun H' => SqT K H' a vs, _, r.length, walk_tup, e, fun i F' Hc mc x H' ex s y hi => ?_⟩
  obtain ⟨rfl, hx⟩ := y
  obtain ⟨d, hd, rd⟩ := r.get' hx
  exact ⟨d, hd, Ext.refl, s, rd.mono ex⟩
theorem wlk_range {lo : Int} {n : Nat} : Wlk K F H m (Itr lo n) ((List.range n).map fun i => .int (lo + (i : Nat))) := by
  refine ⟨n, fun _ => True, _, by simp, walk_range, fun _ _ _ _ _ => trivial, fun i F' Hc mc x H' ex s y hi => ?_⟩
  · obtain ⟨rfl, rfl⟩ := y
    refine ⟨.int (lo + i), ?_, Ext.refl, s, .int _⟩
    simp only [List.length_map, List.length_range] at hi
    simp [List.getElem?_map, hi]
theorem wlk_str {z : Str} : Wlk K F H m (Its z) (z.cps.toList.map fun c => .str ⟨#[c]⟩) := by
  refine ⟨z.cps.size, fun _ => True, _, by simp, walk_str, fun _ _ _ _ _ => trivial, fun i F' Hc mc x H' ex s y hi => ?_⟩
  · obtain ⟨rfl, c, hc, rfl⟩ := y
    refine ⟨.str ⟨#[c]⟩, ?_, Ext.refl, s, .str _⟩
    simp [List.getElem?_map, hc]
/-- a list as data, the script -/
def vwI : D → Option (List D)
  | .list xs => some xs
  | .seq xs => some xs
  | _ => none
def jList (te : dE) : dI := fun env m Q => te env m fun d m1 => ∃ ds, vwI d = some ds ∧ Q ds m1
theorem i_list {l : Expr} {ue : TE} {te : dE} (h : DE K X l ue te) (hK : X.K = K := by rfl) : DI K X tg l (iList K ue) (jList te) := by
  subst hK
  obtain ⟨h1, w1⟩ := h
  refine ⟨pi_list h1, fun F env m Q σ H R q o p => w1 F env m _ σ H _ q o fun v H1 d m1 e1 s1 r1 q1 => ?_⟩
  obtain ⟨ds, hd, q⟩ := q1
  cases d with
  | list xs =>
    cases hd
    cases r1 with
    | list e r => exact ⟨_, rfl, ⟨_, .of (hide_le e)⟩, p _ H1 ds m1 e1 s1 (wlk_list (fun F' H' m' ex _ => .of (hide_le (ex.lst _ _ e))) r) q⟩
  | seq xs =>
    cases hd
    cases r1 with
    | seq e r => exact ⟨_, rfl, ⟨_, Ext.unhide.sql e⟩, p _ H1 ds m1 e1 s1 (wlk_list (fun F' H' m' ex _ => Ext.unhide.sql (ex.sql e)) r) q⟩
  | _ => cases hd
def jTup (te : dE) : dI := fun env m Q => te env m fun d m1 => ∃ ds, (d = .tuple ds) ∧ Q ds m1
theorem i_tup {l : Expr} {ue : TE} {te : dE} (h : DE K X l ue te) (hK : X.K = K := by rfl) : DI K X tg l (iTup K ue) (jTup te) := by
  subst hK
  obtain ⟨h1, w1⟩ := h
  refine ⟨pi_tup h1, fun F env m Q σ H R q o p => w1 F env m _ σ H _ q o fun v H1 d m1 e1 s1 r1 q1 => ?_⟩
  obtain ⟨ds, rfl, q⟩ := q1
  cases r1 with
  | tuple e r => exact ⟨_, rfl, ⟨_, .of (hide_le e)⟩, p _ H1 ds m1 e1 s1 (wlk_tup (fun F' H' m' ex _ => .of (hide_le (ex.tup _ _ e))) r) q⟩
/-- range(n) -/
def jRange1 (ta : dA) : dI := fun env m Q => ta env m fun ds m1 => ∃ n : Int, ds = [.int n] ∧ -(2 ^ 62) ≤ n ∧ n < 2 ^ 62 ∧ Q ((List.range n.toNat).map fun i => .int (i : Nat)) m1
theorem i_range1 {a : Expr} {ua : TA} {ta : dA} {p pos : Pos} (hm : X.mg "range" = none) (ha : DA K X [a] ua ta) (hg : Gl X "range" := by rfl) (hs : starEach [a] X.env = [(false, eval a X.env)] := by rfl) : DI K X tg (.Call (.Name "range" p) [a] [] pos) (iRng1 ua) (jRange1 ta) := by
  obtain ⟨h1, w1⟩ := ha
  refine ⟨pi_range1 hg hm h1 hs, fun F env m Q σ H R q o p => w1 F env m _ σ H _ q o fun v H1 d m1 e1 s1 r1 q1 => ?_⟩
  obtain ⟨n, rfl, h2, h3, q⟩ := q1
  obtain ⟨v, rfl, r⟩ := r1.inv1
  cases r
  refine ⟨n, rfl, h2, h3, p _ H1 _ m1 e1 s1 wlk_range ?_⟩
  simpa using q
def jRange2 (ta : dA) : dI := fun env m Q => ta env m fun ds m1 => ∃ l n : Int, ds = [.int l, .int n] ∧ (-(2 ^ 62) ≤ l ∧ l < 2 ^ 62 ∧ -(2 ^ 62) ≤ n ∧ n < 2 ^ 62) ∧ Q ((List.range (n - l).toNat).map fun i => .int (l + (i : Nat))) m1
theorem i_range2 {a b : Expr} {ua : TA} {ta : dA} {p pos : Pos} (hm : X.mg "range" = none) (ha : DA K X [a, b] ua ta) (hg : Gl X "range" := by rfl) (hs : starEach [a, b] X.env = [(false, eval a X.env), (false, eval b X.env)] := by rfl) (hs2 : starEach [b] X.env = [(false, eval b X.env)] := by rfl) : DI K X tg (.Call (.Name "range" p) [a, b] [] pos) (iRng2 ua) (jRange2 ta) := by
  obtain ⟨h1, w1⟩ := ha
  refine ⟨pi_range2 hg hm h1 hs hs2, fun F env m Q σ H R q o p => w1 F env m _ σ H _ q o fun v H1 d m1 e1 s1 r1 q1 => ?_⟩
  obtain ⟨l, n, rfl, h3, q⟩ := q1
  obtain ⟨v, w, rfl, r, r2⟩ := r1.inv2
  cases r
  cases r2
  exact ⟨l, n, rfl, h3, p _ H1 _ m1 e1 s1 wlk_range q⟩
def jStr (te : dE) : dI := fun env m Q => te env m fun d m1 => ∃ z : Str, (d = .str z) ∧ Q (z.cps.toList.map fun c => .str ⟨#[c]⟩) m1
theorem i_str {l : Expr} {ue : TE} {te : dE} (h : DE K X l ue te) : DI K X tg l (iStr ue) (jStr te) := by
  obtain ⟨h1, w1⟩ := h
  refine ⟨pi_str h1, fun F env m Q σ H R q o p => w1 F env m _ σ H _ q o fun v H1 d m1 e1 s1 r1 q1 => ?_⟩
  obtain ⟨ds, rfl, q⟩ := q1
  cases r1
  exact ⟨_, rfl, p _ H1 _ m1 e1 s1 wlk_str q⟩
end

/-! ### for: the items one by one -/
def forD (g : dG) (tb : dS) (DD : dEnds) : List D → Env → Mu → Prop
  | [], env, m => DD.nx env m
  | x :: r, env, m => g x env m fun e1 m1 => tb { DD with nx := forD g tb DD r, ct := forD g tb DD r, bk := DD.nx } e1 m1
def dFor (wi : dI) (g : dG) (tb : dS) : dS := fun DD env m => wi env m fun ds m1 => forD g tb DD ds env m1
def WIat (K : PySem.W.Frag) (wi : TI) (t : dI) (F : Hp) (env : Env) (m : Mu) (σ : L2.St) (H : Hp) : Prop := ∀ Q R, t env m Q → (∀ J H' ds m', Ext (hide F H m) (hide F H' m') → Stt K F H' m' → Wlk K F H' m' J ds → Q ds m' → R J H') → wi σ H R
theorem for_at {K : PySem.W.Frag} {wi : TI} {di : dI} {g : TG} {dg : dG} {tb : TS} {db : dS} (F : Hp) (DD : dEnds) (env : Env) (m : Mu) (σ : L2.St) (H : Hp) (RR : Ends) (hi : WIat K wi di F env m σ H) (hg : WG K g dg) (hb : WS K tb db) (q : dFor di dg db DD env m) (o : Ok K F H σ env m) (p : PstS K F H m DD RR) : tFor wi g tb RR σ H := by
  refine hi _ _ q fun J H1 ds m1 e1 s1 wk q1 => ?_
  obtain ⟨n, G, Y, rfl, w, hG, hY⟩ := wk.ex
  refine for_it w (fun i σ' H' => ∃ env' m', Ext (hide F H1 m1) (hide F H' m') ∧ Ok K F H' σ' env' m' ∧ forD dg db DD (ds.drop i) env' m') ⟨env, m1, Ext.refl, o.at s1 e1, q1⟩ (fun i σ' H' _ ⟨env', m', ex, o', _⟩ => hG F H' m' ex o'.st) ?_ ?_
  · rintro i x σ' Hc H' hi' ⟨env', m', ex, o', q'⟩ y
    obtain ⟨d, hd, e2, s2, r2⟩ := hY i F Hc m' x H' ex o'.st y hi'
    have hdr : ds.drop i = d :: ds.drop (i + 1) := by
      obtain ⟨h1, h2⟩ := List.getElem?_eq_some_iff.mp hd
      rw [← h2, List.getElem_cons_drop]
    rw [hdr] at q'
    refine hg F d env' m' _ x σ' H' _ q' (o'.at s2 e2) r2 fun σ2 H2 env2 m2 e3 o2 q2 => ?_
    have e12 : Ext (hide F H1 m1) (hide F H2 m2) := (ex.trans e2).trans e3
    have again : PstX K F H2 m2 (forD dg db DD (ds.drop (i + 1))) (fun σ' H' => ∃ env' m', Ext (hide F H1 m1) (hide F H' m') ∧ Ok K F H' σ' env' m' ∧ forD dg db DD (ds.drop (i + 1)) env' m') :=
      fun σ3 H3 env3 m3 e4 o3 q3 => ⟨env3, m3, e12.trans e4, o3, q3⟩
    exact hb F _ env2 m2 σ2 H2 _ q2 o2 ⟨again, p.rt.at (e1.trans e12), p.nx.at (e1.trans e12), again⟩
  · rintro σ' H' ⟨env', m', ex, o', q'⟩
    rw [List.drop_length] at q'
    exact p.nx σ' H' env' m' (e1.trans ex) o' q'
theorem WS.for {K : PySem.W.Frag} {wi : TI} {di : dI} {g : TG} {dg : dG} {tb : TS} {db : dS} (hi : WI K wi di) (hg : WG K g dg) (hb : WS K tb db) : WS K (tFor wi g tb) (dFor di dg db) := fun F DD env m σ H RR q o p => for_at F DD env m σ H RR (fun Q R q p => hi F env m Q σ H R q o p) hg hb q o p
theorem s_for {K : PySem.W.Frag} {X : Cx} {tg iter : Expr} {body : List Stmt} {ui : TI} {ug : TG} {ub : TS} {wi : dI} {g : dG} {tb : dS} {pos : Pos} (hi : DI K X tg iter ui wi) (hg : DG K X tg ug g) (hb : DSs K X body ub tb) (hp : PassesOwn (model X.prog X.w) X.A X.env X.xe := by exact PassesOwn.never) (hc : X.calm = true := by rfl)
    (hs : ∀ x, foldedSetIterable iter X.env x = pure x := by intro _; rfl) : DS K X (.For tg iter body [] pos) (tFor ui ug ub) (dFor wi g tb) := by
  obtain ⟨h1, w1⟩ := hi
  obtain ⟨h2, w2⟩ := hg
  obtain ⟨h3, w3⟩ := hb
  exact ⟨ps_for hp hc h1 h2 h3 hs, .for w1 w2 w3⟩
/-- by a word -/
theorem forD_inv {g : dG} {tb : dS} {DD : dEnds} (P : Nat → Env → Mu → Prop) : ∀ (ds : List D) (i0 : Nat), (∀ i d, ds[i]? = some d → ∀ env m, P (i0 + i) env m → ∀ nx : Env → Mu → Prop, (∀ e m, P (i0 + i + 1) e m → nx e m) → g d env m fun e1 m1 => tb { DD with nx := nx, ct := nx, bk := DD.nx } e1 m1) →
    (∀ env m, P (i0 + ds.length) env m → DD.nx env m) → ∀ env m, P i0 env m → forD g tb DD ds env m
  | [], i0, _, hd, env, m, h => hd env m h
  | d :: r, i0, hs, hd, env, m, h => by
    refine hs 0 d rfl env m h _ fun e m' h' => ?_
    refine forD_inv P r (i0 + 1) (fun i d hd' env m q nx hn => ?_) (fun env m q => hd env m (by rw [List.length_cons]; rw [show i0 + (r.length + 1) = i0 + 1 + r.length by omega]; exact q)) e m' h'
    have e1 : i0 + 1 + i = i0 + (i + 1) := by omega
    rw [e1] at q hn
    exact hs (i + 1) d (by simpa using hd') env m q nx hn

/-! ### while: by a word and a measure -/
def dWhile (c : dT) (tb : dS) : dS := fun DD env m => ∃ W : Nat → Env → Mu → Prop, (∃ n, W n env m) ∧ ∀ n env m, W n env m → c env m fun b m1 => if b = true then tb { DD with nx := fun e m => ∃ n', n' < n ∧ W n' e m, ct := fun e m => ∃ n', n' < n ∧ W n' e m, bk := DD.nx } env m1 else DD.nx env m1
theorem WS.while {K : PySem.W.Frag} {c : TT} {dc : dT} {tb : TS} {db : dS} (hc : WT K c dc) (hb : WS K tb db) : WS K (tWhile c tb) (dWhile dc db) := fun F DD env m σ H RR q o p => by
  obtain ⟨W, ⟨n0, w0⟩, hs⟩ := q
  refine ⟨fun n σ' H' => ∃ env' m', Ext (hide F H m) (hide F H' m') ∧ Ok K F H' σ' env' m' ∧ W n env' m', ⟨n0, env, m, Ext.refl, o, w0⟩, ?_⟩
  rintro n σ' H' ⟨env', m', ex, o', w'⟩
  refine hc F env' m' _ σ' H' _ (hs n env' m' w') o' fun k H1 m1 e1 s1 q1 => ?_
  cases k with
  | false => exact p.nx σ' H1 env' m1 (ex.trans e1) (o'.at s1 e1) q1
  | true =>
    refine ⟨fun σ2 H2 => ∃ n' env2 m2, n' < n ∧ Ext (hide F H m) (hide F H2 m2) ∧ Ok K F H2 σ2 env2 m2 ∧ W n' env2 m2, fun σ2 H2 ⟨n', env2, m2, hl, ex2, o2, w2⟩ => ⟨n', hl, env2, m2, ex2, o2, w2⟩, ?_⟩
    have e12 := ex.trans e1
    have again : PstX K F H1 m1 (fun e m => ∃ n', n' < n ∧ W n' e m) (fun σ2 H2 => ∃ n' env2 m2, n' < n ∧ Ext (hide F H m) (hide F H2 m2) ∧ Ok K F H2 σ2 env2 m2 ∧ W n' env2 m2) :=
      fun σ3 H3 env3 m3 e4 o3 ⟨n', hl, w3⟩ => ⟨n', env3, m3, hl, e12.trans e4, o3, w3⟩
    exact hb F _ env' m1 σ' H1 _ q1 (o'.at s1 e1) ⟨again, p.rt.at e12, p.nx.at e12, again⟩
theorem s_while {K : PySem.W.Frag} {X : Cx} {c : Expr} {body : List Stmt} {uc : TT} {ub : TS} {tc : dT} {tb : dS} {pos : Pos} (hc : DT K X c uc tc) (hb : DSs K X body ub tb) (hp : PassesOwn (model X.prog X.w) X.A X.env X.xe := by exact PassesOwn.never) : DS K X (.While c body [] pos) (tWhile uc ub) (dWhile tc tb) := by
  obtain ⟨h1, w1⟩ := hc
  obtain ⟨h2, w2⟩ := hb
  exact ⟨ps_while hp h1 h2, .while w1 w2⟩

/-! ### comprehensions -/
def wipeD (env : Env) : List Nat → Env
  | [] => env
  | v :: vs => (wipeD env vs).set v none
def lcD (vs : List Nat) (env : Env) (g : dG) (tt : dT) (te : dE) (Q : List D → Mu → Prop) : List D → List D → Mu → Prop
  | [], acc, m => Q acc m
  | x :: r, acc, m => g x (wipeD env vs) m fun e1 m1 => tt e1 m1 fun b m2 => if b = true then te e1 m2 fun y m3 => acc.length < sizeLine ∧ lcD vs env g tt te Q r (acc ++ [y]) m3 else lcD vs env g tt te Q r acc m2
def dLc (b : Bool) (vs : List Nat) (wi : dI) (g : dG) (tt : dT) (te : dE) : dE := fun env m Q => wi env m fun ds m1 => lcD vs env g tt te (fun acc m2 => mkL b acc m2 Q) ds [] m1

/-- the target stores into the block's own slots alone -/
def Keeps (g : TG) (vs : List Nat) : Prop := ∀ x σ H Q, g x σ H Q → g x σ H fun σ2 H2 => wipe σ2 vs = wipe σ vs ∧ Q σ2 H2
theorem wipe_set {σ : L2.St} {j : Nat} {x : Option V} : ∀ {vs : List Nat}, j ∈ vs → wipe (σ.set j x) vs = wipe σ vs
  | v :: vs, h => by
    unfold wipe
    by_cases e : j ∈ vs
    · rw [wipe_set e]
    · have e2 : v = j := by
        rcases List.mem_cons.mp h with h | h
        · exact h.symm
        · exact absurd h e
      subst e2
      have key : ∀ vs : List Nat, v ∉ vs → wipe (σ.set v x) vs = (wipe σ vs).set v x := by
        intro vs
        induction vs with
        | nil => intro _; rfl
        | cons w ws ih =>
          intro hw
          unfold wipe
          rw [ih (fun z => hw (List.mem_cons_of_mem _ z)), List.set_comm _ _ (fun z => hw (by rw [z]; exact List.mem_cons_self))]
      rw [key vs e, List.set_set]
theorem keeps_name {j : Nat} {vs : List Nat} (h : j ∈ vs) : Keeps (gName j) vs := fun x σ H Q q => ⟨wipe_set h, q⟩
def KeepsS (g : TGs) (vs : List Nat) : Prop := ∀ x σ H Q, g x σ H Q → g x σ H fun σ2 H2 => wipe σ2 vs = wipe σ vs ∧ Q σ2 H2
theorem keeps_nil {vs : List Nat} : KeepsS gNil vs := fun x σ H Q q => ⟨q.1, rfl, q.2⟩
theorem keeps_cons {g : TG} {g2 : TGs} {vs : List Nat} (mono : ∀ x σ H Q Q', (∀ s h, Q s h → Q' s h) → g x σ H Q → g x σ H Q') (mono2 : ∀ x σ H Q Q', (∀ s h, Q s h → Q' s h) → g2 x σ H Q → g2 x σ H Q') (h : Keeps g vs) (k : KeepsS g2 vs) : KeepsS (gCons g g2) vs := fun x σ H Q q => by
  obtain ⟨v, r, e, q⟩ := q
  refine ⟨v, r, e, mono _ _ _ _ _ (fun s h' z => ?_) (h v σ H _ q)⟩
  exact mono2 _ _ _ _ _ (fun s2 h2 w => ⟨w.1.trans z.1, w.2⟩) (k r s h' Q z.2)
theorem keeps_tup {K : PySem.W.Frag} {n : Nat} {g2 : TGs} {vs : List Nat} (k : KeepsS g2 vs) : Keeps (gTup K n g2) vs := fun x σ H Q q => by
  obtain ⟨a, xs, e, h, l, q⟩ := q
  exact ⟨a, xs, e, h, l, k xs σ H Q q⟩
theorem wipe_env {K : PySem.W.Frag} {H : Hp} {σ : L2.St} {env : Env} (r : RepS K H σ env) : ∀ vs : List Nat, RepS K H (wipe σ vs) (wipeD env vs)
  | [] => r
  | v :: vs => by
    have ih := wipe_env r vs
    unfold wipe wipeD
    refine ⟨by rw [List.length_set, List.length_set]; exact ih.1, fun i d h => ?_⟩
    rw [List.getElem?_set] at h
    rw [List.getElem?_set]
    by_cases e : v = i
    · subst e
      rw [if_pos rfl] at h
      split at h <;> cases h
    · rw [if_neg e] at h
      rw [if_neg e]
      exact ih.2 i d h
theorem wipe_idem {σ : L2.St} : ∀ {us vs : List Nat}, (∀ i ∈ us, i ∈ vs) → wipe (wipe σ us) vs = wipe σ vs
  | [], _, _ => rfl
  | v :: us, vs, h => by
    show wipe ((wipe σ us).set v none) vs = wipe σ vs
    rw [wipe_set (h v List.mem_cons_self)]
    exact wipe_idem fun i hi => h i (List.mem_cons_of_mem _ hi)
section
variable {K : PySem.W.Frag} {F H : Hp} {m : Mu} {A : Addr} {vs us : List V}
theorem hide_turn : hide (upd F A (.lst us)) (upd H A (.lst us)) m = hide (upd F A (.lst vs)) H m := by
  funext a
  unfold hide
  by_cases e : a = A
  · subst e
    rw [upd_same, upd_same, upd_same]
    cases m a <;> rfl
  · rw [upd_ne e, upd_ne e, upd_ne e]
theorem Stt.turn (s : Stt K (upd F A (.lst vs)) H m) : Stt K (upd F A (.lst us)) (upd H A (.lst us)) m := by
  refine ⟨fun p o e => ?_, fun p o e => ?_, fun p vs e => ?_⟩
  · by_cases h : p = A
    · subst h
      rw [upd_same] at e ⊢
      exact ⟨e, (s.fr p _ upd_same).2⟩
    · rw [upd_ne h] at e
      rw [upd_ne h]
      exact s.fr p o (by rw [upd_ne h]; exact e)
  · have ne : p ≠ A := by
      rintro rfl
      rw [(s.fr p _ upd_same).2] at e
      cases e
    rw [hide_turn (vs := vs)]
    exact (s.ok p o e).mono (upd_ne ne) Ext.refl
  · by_cases h : p = A
    · subst h
      rw [upd_same] at e
      cases e
    · rw [upd_ne h] at e
      exact s.ft p vs (by rw [upd_ne h]; exact e)
theorem Ext.apart (h : H A = none) : Ext (hide F H m) (hide (upd F A (.lst vs)) (upd H A (.lst vs)) m) := Ext.same fun a u e => by
  have e1 := hide_le e
  have ne := ne_of_none e1 h
  rw [hide_at (hide_un e).1 (by rw [upd_ne ne]; exact (hide_un e).2), upd_ne ne]
  exact e1
theorem Stt.set_apart (s : Stt K F H m) (h : H A = none) : Stt K (upd F A (.lst vs)) (upd H A (.lst vs)) m := by
  refine ⟨fun p o e => ?_, fun p o e => ?_, ft_upd s.ft (fun _ z => nomatch z)⟩
  · by_cases hp : p = A
    · subst hp
      rw [upd_same] at e ⊢
      exact ⟨e, s.free h⟩
    · rw [upd_ne hp] at e
      rw [upd_ne hp]
      exact s.fr p o e
  · obtain ⟨w, z⟩ := (s.ok p o e).there
    exact (s.ok p o e).mono (upd_ne (ne_of_none z h)) (Ext.apart h)
theorem Ext.back (h : F A = none) : Ext (hide (upd F A (.lst vs)) H m) (hide F H m) := Ext.same fun a u e => by
  have ne : a ≠ A := by
    rintro rfl
    have := (hide_un e).2
    rw [upd_same] at this
    cases this
  have h2 := (hide_un e).2
  rw [upd_ne ne] at h2
  rw [hide_at (hide_un e).1 h2]
  exact hide_le e
theorem Stt.back (s : Stt K (upd F A (.lst vs)) H m) (h : F A = none) : Stt K F H m :=
  ⟨fun p o e => s.fr p o (by rw [upd_ne (ne_of_none e h)]; exact e), fun p o e => (s.ok p o e).mono rfl (Ext.back h), ft_back s.ft h⟩
theorem hide_know {w : MO} (h : F A = none) : hide F H (ups m A w) = hide (upd F A (.lst vs)) H m := by
  funext a
  unfold hide
  by_cases e : a = A
  · subst e
    rw [ups_same, upd_same]
    cases m a <;> rfl
  · rw [ups_ne e, upd_ne e]
theorem Stt.know {w : MO} (s : Stt K (upd F A (.lst vs)) H m) (h : F A = none) (k : MOk K H (hide (upd F A (.lst vs)) H m) A w) : Stt K F H (ups m A w) := by
  refine ⟨fun p o e => ?_, fun p o e => ?_, ft_back s.ft h⟩
  · have ne := ne_of_none e h
    rw [ups_ne ne]
    exact s.fr p o (by rw [upd_ne ne]; exact e)
  · rw [hide_know (vs := vs) h]
    by_cases hp : p = A
    · subst hp
      rw [ups_same] at e
      cases e
      exact k
    · rw [ups_ne hp] at e
      exact s.ok p o e
end
theorem lc_at {K : PySem.W.Frag} {wi : TI} {di : dI} {g : TG} {dg : dG} {tt : TT} {dt : dT} {te : TE} {de : dE} {vs : List Nat} (b : Bool) (F : Hp) (env : Env) (m : Mu) (Q : D → Mu → Prop) (σ : L2.St) (H : Hp) (R : VK) (hi : WIat K wi di F env m σ H) (hg : WG K g dg) (ht : WT K tt dt) (he : WE K te de) (hk : Keeps g vs) (q : dLc b vs di dg dt de env m Q) (o : Ok K F H σ env m) (p : Pst K F H m Q R) : tLc wi g tt te vs σ H R := by
  refine hi _ _ q fun J H1 ds m1 e1 s1 wk q1 => ?_
  intro A hA
  obtain ⟨n, G, Y, rfl, w, hG, hY⟩ := wk.ex
  have fA := s1.freeF hA
  refine lc_it w (fun i H' => ∃ m' av acc, Stt K (upd F A (.lst av)) H' m' ∧ Ext (hide F H1 m1) (hide (upd F A (.lst av)) H' m') ∧ Reps K (hide (upd F A (.lst av)) H' m') av acc ∧ lcD vs env dg dt de (fun acc m2 => mkL b acc m2 Q) (ds.drop i) acc m')
    ⟨m1, [], [], s1.set_apart hA, Ext.apart hA, .nil, q1⟩ (fun i H' _ ⟨m', av, acc, s', ex, _, _⟩ => hG _ H' m' ex s') ?_ ?_
  · rintro i x Hc H' hi' ⟨m', av, acc, s', ex, ra, q'⟩ y
    obtain ⟨d, hd, e2, s2, r2⟩ := hY i _ Hc m' x H' ex s' y hi'
    have hdr : ds.drop i = d :: ds.drop (i + 1) := by
      obtain ⟨h1, h2⟩ := List.getElem?_eq_some_iff.mp hd
      rw [← h2, List.getElem_cons_drop]
    rw [hdr] at q'
    have key := fun Q' q => hk x (wipe σ vs) H' Q' q
    rw [wipe_idem fun _ h => h] at key
    refine key _ (hg _ d (wipeD env vs) m' _ x (wipe σ vs) H' _ q' ⟨s2, wipe_env (o.fr.mono ((e1.trans ex).trans e2)) vs⟩ r2 fun σ2 H2 env2 m2 e3 o2 q2 => ?_)
    refine ht _ env2 m2 _ σ2 H2 _ q2 o2 fun k H3 m3 e4 s4 q4 => ?_
    have e34 := ((ex.trans e2).trans e3).trans e4
    cases k with
    | false => exact ⟨m3, av, acc, s4, e34, ra.mono ((e2.trans e3).trans e4), q4⟩
    | true =>
      refine he _ env2 m3 _ σ2 H3 _ q4 (o2.at s4 e4) fun z H4 dz m4 e5 s5 r5 q5 => ?_
      have ra' := ra.mono (((e2.trans e3).trans e4).trans e5)
      refine ⟨av, (s5.fr A _ upd_same).1, by rw [ra'.length]; exact q5.1, m4, av ++ [z], acc ++ [dz], s5.turn, ?_, ?_, q5.2⟩
      · rw [hide_turn (vs := av)]
        exact e34.trans e5
      · rw [hide_turn (vs := av)]
        exact ra'.append (.one r5)
  · rintro H' ⟨m', av, acc, s', ex, ra, q'⟩
    rw [List.drop_length] at q'
    have hAv := s'.fr A _ upd_same
    cases b with
    | false => exact p _ H' _ m' ((e1.trans ex).trans (Ext.back fA)) (s'.back fA) (.list (by rw [hide_at hAv.2 fA]; exact hAv.1) (ra.mono (Ext.back fA))) q'
    | true =>
      refine p _ H' _ _ ?_ (s'.know fA (show MOk K H' _ A (.lst acc) from ⟨av, hAv.1, ra⟩)) (.adr A) (q' A hAv.2)
      rw [hide_know (vs := av) fA]
      exact e1.trans ex
theorem WE.lc {K : PySem.W.Frag} {wi : TI} {di : dI} {g : TG} {dg : dG} {tt : TT} {dt : dT} {te : TE} {de : dE} {vs : List Nat} (b : Bool) (hi : WI K wi di) (hg : WG K g dg) (ht : WT K tt dt) (he : WE K te de) (hk : Keeps g vs) : WE K (tLc wi g tt te vs) (dLc b vs di dg dt de) := fun F env m Q σ H R q o p => lc_at b F env m Q σ H R (fun Q R q p => hi F env m Q σ H R q o p) hg ht he hk q o p
/-- a clause's tests -/
structure DTs (K : PySem.W.Frag) (X : Cx) (ifs : List Expr) (te : TT) (t : dT) : Prop where
  p : PTs X ifs te
  w : WT K te t
def dYes : dT := fun _ m Q => Q true m
theorem ts_nil {K : PySem.W.Frag} {X : Cx} : DTs K X [] tYes dYes := ⟨pts_nil, fun F env m Q σ H R q o p => p true H m Ext.refl o.st q⟩
theorem ts_one {K : PySem.W.Frag} {X : Cx} {c : Expr} {tc : TT} {dc : dT} (h : DT K X c tc dc) : DTs K X [c] tc dc := ⟨pts_one h.p, h.w⟩
theorem d_lc {K : PySem.W.Frag} {X : Cx} (b : Bool) {elt tg iter : Expr} {ifs : List Expr} {scope : Scope} {own : List (Str × Nat)} {pos : Pos} {wi : TI} {di : dI} {g : TG} {dg : dG} {tt : TT} {dt : dT} {te : TE} {de : dE} (hN : X.N.Nodup) (hi : DI K X tg iter wi di) (ok : BlkOk X.N X.env.scope scope own)
    (hg : ∀ (s : Shared) (H : Hp) (C : Addr) (cl : List (Str × Addr)) (fp : List Addr), DG K (X.blk s H scope (compEnvC scope cl C X.env) fp) tg g dg) (ht : ∀ (s : Shared) (H : Hp) (C : Addr) (cl : List (Str × Addr)) (fp : List Addr), DTs K (X.blk s H scope (compEnvC scope cl C X.env) fp) ifs tt dt)
    (he : ∀ (s : Shared) (H : Hp) (C : Addr) (cl : List (Str × Addr)) (fp : List Addr), DE K (X.blk s H scope (compEnvC scope cl C X.env) fp) elt te de) (hk : Keeps g (own.map (·.2))) (hs : ∀ x, foldedSetIterable iter X.env x = pure x := by intro _; rfl) (hc : X.calm = true := by rfl) :
    DE K X (.ListComp elt [⟨tg, iter, ifs, 0⟩] scope pos) (tLc wi g tt te (own.map (·.2))) (dLc b (own.map (·.2)) di dg dt de) := by
  refine ⟨pe_lc hc hN hi.p ok (fun s H C cl fp => (hg s H C cl fp).p) (fun s H C cl fp => (ht s H C cl fp).p) (fun s H C cl fp => (he s H C cl fp).p) hs, ?_⟩
  intro F env m Q σ H R q o p
  exact WE.lc b hi.w (hg X.s_0 X.H_0 0 [] []).w (ht X.s_0 X.H_0 0 [] []).w (he X.s_0 X.H_0 0 [] []).w hk F env m Q σ H R q o p
theorem s_setLc {K : PySem.W.Frag} {X : Cx} (b : Bool) {i : Nat} {y : Str} {py : Pos} {elt tg iter : Expr} {ifs : List Expr} {scope : Scope} {own : List (Str × Nat)} {pos spos : Pos} {wi : TI} {di : dI} {g : TG} {dg : dG} {tt : TT} {dt : dT} {te : TE} {de : dE} (hN : X.N.Nodup) (hi : DI K X tg iter wi di) (ok : BlkOk X.N X.env.scope scope own)
    (hg : ∀ (s : Shared) (H : Hp) (C : Addr) (cl : List (Str × Addr)) (fp : List Addr), DG K (X.blk s H scope (compEnvC scope cl C X.env) fp) tg g dg) (ht : ∀ (s : Shared) (H : Hp) (C : Addr) (cl : List (Str × Addr)) (fp : List Addr), DTs K (X.blk s H scope (compEnvC scope cl C X.env) fp) ifs tt dt)
    (he : ∀ (s : Shared) (H : Hp) (C : Addr) (cl : List (Str × Addr)) (fp : List Addr), DE K (X.blk s H scope (compEnvC scope cl C X.env) fp) elt te de) (hk : Keeps g (own.map (·.2))) (hsw : swapsWith (.ListComp elt [⟨tg, iter, ifs, 0⟩] scope pos) (some (.Name y py)) spos.line X.env = pure true)
    (hy : X.N[i]? = some y := by rfl) (hyl : X.env.scope.names.lookup y = some .local := by rfl) (hs : ∀ x, foldedSetIterable iter X.env x = pure x := by intro _; rfl) (hc : X.calm = true := by rfl) :
    DS K X (.Assign [.Name y py] (.ListComp elt [⟨tg, iter, ifs, 0⟩] scope pos) spos) (tAsg (tLc wi g tt te (own.map (·.2))) (gName i)) (dAsg (dLc b (own.map (·.2)) di dg dt de) i) := by
  refine ⟨ps_setLc hc hN hy hyl hsw hi.p ok (fun s H C cl fp => (hg s H C cl fp).p) (fun s H C cl fp => (ht s H C cl fp).p) (fun s H C cl fp => (he s H C cl fp).p) hs, ?_⟩
  intro F DD env m σ H RR q o p
  exact WE.lc b hi.w (hg X.s_0 X.H_0 0 [] []).w (ht X.s_0 X.H_0 0 [] []).w (he X.s_0 X.H_0 0 [] []).w hk F env m _ σ H _ q o fun v H1 d m1 e1 s1 r1 q1 => p.nx _ H1 _ m1 e1 ⟨s1, (o.fr.mono e1).set r1⟩ q1
end Dq

namespace Dq
open PySem L2 PyProof.Rows

/-! ### own defs: promises over deep data -/
abbrev Pre := List D → Mu → (D → Mu → Prop) → Prop
def spD (K : PySem.W.Frag) (pre : Pre) : Sp := fun vs H R _ => ∃ F ds m Q, Stt K F H m ∧ Reps K (hide F H m) vs ds ∧ pre ds m Q ∧ Pst K F H m Q R
/-- a def of the text that keeps a promise, ready to be called -/
structure Def (P : Program) (w : World) (K : PySem.W.Frag) (mg : Str → Option Value) (base : Heap) (x : Str) (k : Nat) (pre : Pre) : Prop where
  ex : ∃ f fd ps, FnOk P w K mg base CX0 k f fd ps (spD K pre) ∧ mg x = some (.ref f) ∧ PySem.W.keepIn K (.ref f) = true ∧ Binds K fd ps []
def dCall (pre : Pre) (ta : dA) : dE := fun env m Q => ta env m fun ds m1 => pre ds m1 Q
section
variable {K : PySem.W.Frag} {X : Cx} {x : Str} {k : Nat} {pre : Pre} {e : Expr} {es : List Expr} {ta : TA} {da : dA} {p pos : Pos}
theorem d_call (h : Def X.prog X.w K X.mg X.base x k pre) (hr : Room k X.A) (ha : DA K X (e :: es) ta da) (hg : Gl X x := by rfl) (hdb : (x == ("__debug__" : Str)) = false := by decide) (he : starEach (e :: es) X.env = (false, eval e X.env) :: starEach es X.env := by rfl)
    (hpl : (backTo pos (starEach es X.env)).any (·.1) = false := by rfl) (hK : X.K = K := by rfl) : DE K X (.Call (.Name x p) (e :: es) [] pos) (tCall (spD K pre) [] E0 ta) (dCall pre da) := by
  subst hK
  obtain ⟨f, fd, ps, F, hm, hk, hb⟩ := h.ex
  refine ⟨pe_call F hr hg hm hk hb .nil pass0 ha.p hdb he hpl, fun F env m Q σ H R q o p => ha.w F env m _ σ H _ q o fun vs H1 ds m1 e1 s1 r1 q1 => ?_⟩
  rw [List.append_nil]
  exact ⟨F, ds, m1, Q, s1, r1, q1, p.at e1⟩
end
def startD (n : Nat) (ds : List D) : Env := ds.map some ++ List.replicate (n - ds.length) none
theorem startD_ok {K : PySem.W.Frag} {H : Hp} {N : List Str} {vs : List V} {ds : List D} (r : Reps K H vs ds) : RepS K H (L2.start N vs) (startD N.length ds) := by
  unfold L2.start startD
  refine ⟨by simp [r.length], fun i d h => ?_⟩
  rw [List.getElem?_append] at h
  split at h
  · rename_i hl
    rw [List.getElem?_map] at h
    obtain ⟨d', e1, e2⟩ := Option.map_eq_some_iff.mp h
    cases e2
    obtain ⟨v, e3, rv⟩ := r.get e1
    refine ⟨v, ?_, rv⟩
    rw [List.getElem?_append_left (by simpa [r.length] using hl), List.getElem?_map, e3]
    rfl
  · rw [List.getElem?_replicate] at h
    split at h <;> cases h
section
variable {P : Program} {w : World} {K : PySem.W.Frag} {mg : Str → Option Value} {base : Heap}
/-- THE RULE for a def -/
theorem ok_def {x qual : Str} {st : Stmt} {f : Addr} {fd : FuncData} {N ps : List Str} {k : Nat} {pre : Pre} (F : Fun K x qual st f fd) (S : FnScope N ps (defScope st)) (len : ∀ ds m Q, pre ds m Q → ds.length = ps.length)
    (hb : ∀ (cdv : Value) (A : Around) (outer : List PySem.Env) (s : Shared) (H : Hp) (E : XK), Room k (A.deeper (envOfC qual (defScope st) s.heap.objs.size f cdv)) →
      ∃ ts t, DSs K (cxOf CX0 P w K mg base N qual (defScope st) f cdv A outer s H E).nox (defBody st) ts t ∧ ∀ ds m Q, pre ds m Q → t { nx := fun _ m' => Q .non m', rt := Q } (startD N.length ds) m) : FnOk P w K mg base CX0 (k + 1) f fd ps (spD K pre) := by
  refine F.ok S (fun vs H Q E h => ?_) (fun cdv A outer s H vs Q E hr h => ?_)
  · obtain ⟨F', ds, m, Q', s', r, p, _⟩ := h
    rw [r.length]
    exact len _ _ _ p
  · obtain ⟨F', ds, m, Q', s', r, p, k'⟩ := h
    obtain ⟨ts, t, b, q⟩ := hb cdv A outer s H E hr
    refine ⟨ts, b.p, b.w F' _ (startD N.length ds) m (L2.start N vs) H _ (q ds m Q' p) ⟨s', startD_ok r⟩ ⟨fun σ' H' env' m' ex o' q' => k' _ H' _ m' ex o'.st .non q', k', fun _ _ _ _ _ _ z => z.elim, fun _ _ _ _ _ _ z => z.elim⟩⟩
end

/-! ### built-ins by values -/
def CallD (K : PySem.W.Frag) (r : List V → Hp → VK → Prop) (rd : List D → Mu → (D → Mu → Prop) → Prop) : Prop :=
  ∀ F H m vs ds Q R, rd ds m Q → Stt K F H m → Reps K (hide F H m) vs ds → Pst K F H m Q R → r vs H R
def dCB (rd : List D → Mu → (D → Mu → Prop) → Prop) (ta : dA) : dE := fun env m Q => ta env m fun ds m1 => rd ds m1 Q
theorem WE.cb {K : PySem.W.Frag} {r : List V → Hp → VK → Prop} {rd : List D → Mu → (D → Mu → Prop) → Prop} {ta : TA} {da : dA} (h : CallD K r rd) (ha : WA K ta da) : WE K (tCB r ta) (dCB rd da) := fun F env m Q σ H R q o p =>
  ha F env m _ σ H _ q o fun vs H1 ds m1 e1 s1 r1 q1 => h F H1 m1 vs ds Q R q1 s1 r1 (p.at e1)
section
variable {K : PySem.W.Frag} {X : Cx} {id T : String} {x : Str} {r : List V → Hp → VK → Prop} {rd : List D → Mu → (D → Mu → Prop) → Prop} {e : Expr} {es : List Expr} {ta : TA} {da : dA} {p pos : Pos}
theorem d_callB (hc : CallR X (.builtin id) r) (h : CallD K r rd) (hm : X.mg x = none) (hv : bootBuiltins x = some (.builtin id)) (ha : DA K X (e :: es) ta da) (hg : Gl X x := by rfl) (hn : x ≠ "__name__" := by decide) (hdb : (x == ("__debug__" : Str)) = false := by decide)
    (hs : starEach (e :: es) X.env = (false, eval e X.env) :: starEach es X.env := by rfl) (hpl : (backTo pos (starEach es X.env)).any (·.1) = false := by rfl) :
    DE K X (.Call (.Name x p) (e :: es) [] pos) (tCB r ta) (dCB rd da) := ⟨pe_callB hc hg hm hv ha.p hn hdb hs hpl, .cb h ha.w⟩
theorem d_callTy (hc : CallR X (.type T) r) (h : CallD K r rd) (hm : X.mg x = none) (hv : bootBuiltins x = some (.type T)) (ha : DA K X (e :: es) ta da) (hg : Gl X x := by rfl) (hn : x ≠ "__name__" := by decide) (hdb : (x == ("__debug__" : Str)) = false := by decide)
    (hs : starEach (e :: es) X.env = (false, eval e X.env) :: starEach es X.env := by rfl) (hpl : (backTo pos (starEach es X.env)).any (·.1) = false := by rfl) :
    DE K X (.Call (.Name x p) (e :: es) [] pos) (tCB r ta) (dCB rd da) := ⟨pe_callTy hc hg hm hv ha.p hn hdb hs hpl, .cb h ha.w⟩
end
theorem CallR.or {X : Cx} {f : Value} {r r' : List V → Hp → VK → Prop} (h : CallR X f r) (h' : CallR X f r') : CallR X f (fun vs H Q => r vs H Q ∨ r' vs H Q) := by
  intro pins s σ H xs us Q I rx q
  rcases q with q | q
  · exact h pins s σ H xs us Q I rx q
  · exact h' pins s σ H xs us Q I rx q
section
variable {K : PySem.W.Frag} {F H : Hp} {m : Mu}
theorem reps_ints : ∀ {vs : List V} {ns : List Int}, Reps K H vs (ns.map D.int) → vs = ns.map V.int
  | _, [], .nil => rfl
  | _, n :: ns, .cons r t => by
    cases r
    rw [reps_ints t, List.map_cons]
theorem reps_bools : ∀ {vs : List V} {ns : List Bool}, Reps K H vs (ns.map D.bl) → vs = ns.map V.bl
  | _, [], .nil => rfl
  | _, n :: ns, .cons r t => by
    cases r
    rw [reps_bools t, List.map_cons]
theorem reps_strs : ∀ {vs : List V} {ns : List Str}, Reps K H vs (ns.map D.str) → vs = ns.map V.str
  | _, [], .nil => rfl
  | _, n :: ns, .cons r t => by
    cases r
    rw [reps_strs t, List.map_cons]
theorem of_ints : ∀ {ns : List Int}, Reps K H (ns.map V.int) (ns.map D.int)
  | [] => .nil
  | _ :: _ => .cons (.int _) of_ints
theorem of_strs : ∀ {ns : List Str}, Reps K H (ns.map V.str) (ns.map D.str)
  | [] => .nil
  | _ :: _ => .cons (.str _) of_strs
/-- len -/
def lenOf (m : Mu) (d : D) (k : Nat → Prop) : Prop := match d with
  | .str s => s.length ≤ sizeLine ∧ k s.length
  | .dict ks => k ks.length
  | d => ∃ xs, vwS m d = some xs ∧ k xs.length
def lenD (ds : List D) (m : Mu) (Q : D → Mu → Prop) : Prop := ∃ d, ds = [d] ∧ lenOf m d fun n => Q (.int n) m
def rLenAll (K : PySem.W.Frag) : List V → Hp → VK → Prop := fun xs H Q => (∃ x n, xs = [x] ∧ LenV K x H n ∧ Q (.int n) H) ∨ ∃ d kvs, xs = [.ref d] ∧ Rd H d (.dK kvs) ∧ Q (.int (kvs.length : Nat)) H
theorem repK_length : ∀ {kvs : List (Key × V)} {ks : List (Key × D)}, RepK K H kvs ks → kvs.length = ks.length
  | _, _, .nil => rfl
  | _, _, .cons _ t => by rw [List.length_cons, List.length_cons, repK_length t]
theorem lenD_sq {d : D} {v : V} {Q : D → Mu → Prop} {R : VK} (h : ∃ xs, vwS m d = some xs ∧ Q (.int xs.length) m) (s : Stt K F H m) (r : Rep K (hide F H m) v d) (p : Pst K F H m Q R) : rLenAll K [v] H R := by
  obtain ⟨xs, hx, q⟩ := h
  obtain ⟨a, vs, rfl, ha, ra⟩ := sq_of s r hx
  refine .inl ⟨_, xs.length, rfl, ?_, p.here s (.int _) q⟩
  rcases ha with ha | ha
  · exact .inl ⟨vs, ha, ra.length.symm⟩
  · exact .inr ⟨vs, ha, ra.length.symm⟩
end
theorem cd_len {K : PySem.W.Frag} : CallD K (rLenAll K) lenD := fun F H m vs ds Q R q s rs p => by
  obtain ⟨d, rfl, q⟩ := q
  obtain ⟨v, rfl, r⟩ := rs.inv1
  cases d with
  | str z =>
    cases r
    exact .inl ⟨.str z, z.length, rfl, ⟨q.1, rfl⟩, p.here s (.int _) q.2⟩
  | dict ks =>
    cases r with
    | dict e r => exact .inr ⟨_, _, rfl, rd_same (fun _ _ h => hide_le h) e, by rw [repK_length r]; exact p.here s (.int _) q⟩
  | int _ => exact lenD_sq q s r p
  | non => exact lenD_sq q s r p
  | bl _ => exact lenD_sq q s r p
  | ty _ => exact lenD_sq q s r p
  | adr _ => exact lenD_sq q s r p
  | list _ => exact lenD_sq q s r p
  | tuple _ => exact lenD_sq q s r p
  | seq _ => exact lenD_sq q s r p
  | dicT _ => exact lenD_sq q s r p
  | tseq _ => exact lenD_sq q s r p
theorem cr_lenAll {K : PySem.W.Frag} {X : Cx} (hK : X.K = K := by rfl) : CallR X (.builtin "len") (rLenAll K) := by
  subst hK
  refine CallR.or call_len fun pins s σ H xs us Q I r h => ?_
  obtain ⟨d, kvs, rfl, hd, q⟩ := h
  cases r with
  | cons r t =>
    cases t
    cases r
    exact d_len I hd fun t s' I' => ⟨.int _, H, I', ⟨_, rfl⟩, q⟩
/-- abs, of a whole number -/
def absD (ds : List D) (m : Mu) (Q : D → Mu → Prop) : Prop := ∃ i, ds = [.int i] ∧ Q (.int (if i < 0 then -i else i)) m
theorem cd_abs {K : PySem.W.Frag} : CallD K (fun xs H Q => ∃ i, xs = [.int i] ∧ Q (.int (if i < 0 then -i else i)) H) absD := fun F H m vs ds Q R q s rs p => by
  obtain ⟨i, rfl, q⟩ := q
  obtain ⟨v, rfl, r⟩ := rs.inv1
  cases r
  exact ⟨i, rfl, p.here s (.int _) q⟩
/-- max, min of two -/
def max2D (ds : List D) (m : Mu) (Q : D → Mu → Prop) : Prop := ∃ i j, ds = [.int i, .int j] ∧ Q (.int (if j > i then j else i)) m
def min2D (ds : List D) (m : Mu) (Q : D → Mu → Prop) : Prop := ∃ i j, ds = [.int i, .int j] ∧ Q (.int (if j < i then j else i)) m
theorem cd_max2 {K : PySem.W.Frag} : CallD K (fun xs H Q => ∃ i j, xs = [.int i, .int j] ∧ Q (.int (if j > i then j else i)) H) max2D := fun F H m vs ds Q R q s rs p => by
  obtain ⟨i, j, rfl, q⟩ := q
  obtain ⟨v, u, rfl, r, r2⟩ := rs.inv2
  cases r; cases r2
  exact ⟨i, j, rfl, p.here s (.int _) q⟩
theorem cd_min2 {K : PySem.W.Frag} : CallD K (fun xs H Q => ∃ i j, xs = [.int i, .int j] ∧ Q (.int (if j < i then j else i)) H) min2D := fun F H m vs ds Q R q s rs p => by
  obtain ⟨i, j, rfl, q⟩ := q
  obtain ⟨v, u, rfl, r, r2⟩ := rs.inv2
  cases r; cases r2
  exact ⟨i, j, rfl, p.here s (.int _) q⟩
/-- int of a whole number, of True and False -/
def intD (ds : List D) (m : Mu) (Q : D → Mu → Prop) : Prop := (∃ i, ds = [.int i] ∧ Q (.int i) m) ∨ ∃ k, ds = [.bl k] ∧ Q (.int (if k then 1 else 0)) m
theorem cd_int {K : PySem.W.Frag} : CallD K (fun xs H Q => (∃ i, xs = [.int i] ∧ Q (.int i) H) ∨ ∃ k, xs = [.bl k] ∧ Q (.int (if k then 1 else 0)) H) intD := fun F H m vs ds Q R q s rs p => by
  rcases q with ⟨i, rfl, q⟩ | ⟨k, rfl, q⟩
  · obtain ⟨v, rfl, r⟩ := rs.inv1
    cases r
    exact .inl ⟨i, rfl, p.here s (.int _) q⟩
  · obtain ⟨v, rfl, r⟩ := rs.inv1
    cases r
    exact .inr ⟨k, rfl, p.here s (.int _) q⟩
/-- all of a list of truth values -/
def allD (ds : List D) (m : Mu) (Q : D → Mu → Prop) : Prop := ∃ d, ds = [d] ∧ ∃ bs : List Bool, vwL m d = some (bs.map D.bl) ∧ Q (.bl (bs.all id)) m
theorem cd_all {K : PySem.W.Frag} : CallD K (rAll K) allD := fun F H m vs ds Q R q s rs p => by
  obtain ⟨d, rfl, bs, hx, q⟩ := q
  obtain ⟨v, rfl, r⟩ := rs.inv1
  obtain ⟨a, us, rfl, ha, ra⟩ := lst_of s r hx
  rw [reps_bools ra] at ha
  exact ⟨a, bs, rfl, .of ha, p.here s (.bl _) q⟩
def sumD (ds : List D) (m : Mu) (Q : D → Mu → Prop) : Prop := ∃ d, ds = [d] ∧ ∃ ns : List Int, vwL m d = some (ns.map D.int) ∧ Q (.int ns.sum) m
theorem cd_sum {K : PySem.W.Frag} : CallD K (rSum K) sumD := fun F H m vs ds Q R q s rs p => by
  obtain ⟨d, rfl, bs, hx, q⟩ := q
  obtain ⟨v, rfl, r⟩ := rs.inv1
  obtain ⟨a, us, rfl, ha, ra⟩ := lst_of s r hx
  rw [reps_ints ra] at ha
  exact ⟨a, bs, rfl, .of ha, p.here s (.int _) q⟩
def maxD (ds : List D) (m : Mu) (Q : D → Mu → Prop) : Prop := ∃ d, ds = [d] ∧ ∃ ns : List Int, vwL m d = some (ns.map D.int) ∧ 0 < ns.length ∧ ∀ k, k ∈ ns → (∀ y, y ∈ ns → y ≤ k) → Q (.int k) m
theorem cd_max {K : PySem.W.Frag} : CallD K (rMax K) maxD := fun F H m vs ds Q R q s rs p => by
  obtain ⟨d, rfl, bs, hx, hl, q⟩ := q
  obtain ⟨v, rfl, r⟩ := rs.inv1
  obtain ⟨a, us, rfl, ha, ra⟩ := lst_of s r hx
  rw [reps_ints ra] at ha
  exact ⟨a, bs, rfl, .of ha, hl, fun k h1 h2 => p.here s (.int _) (q k h1 h2)⟩
def minD (ds : List D) (m : Mu) (Q : D → Mu → Prop) : Prop := ∃ d, ds = [d] ∧ ∃ ns : List Int, vwL m d = some (ns.map D.int) ∧ 0 < ns.length ∧ ∀ k, k ∈ ns → (∀ y, y ∈ ns → k ≤ y) → Q (.int k) m
theorem cd_min {K : PySem.W.Frag} : CallD K (rMin K) minD := fun F H m vs ds Q R q s rs p => by
  obtain ⟨d, rfl, bs, hx, hl, q⟩ := q
  obtain ⟨v, rfl, r⟩ := rs.inv1
  obtain ⟨a, us, rfl, ha, ra⟩ := lst_of s r hx
  rw [reps_ints ra] at ha
  exact ⟨a, bs, rfl, .of ha, hl, fun k h1 h2 => p.here s (.int _) (q k h1 h2)⟩
/-- sorted of whole numbers, fewer than 64 -/
def ins (x : Int) : List Int → List Int
  | [] => [x]
  | y :: r => if x ≤ y then x :: y :: r else y :: ins x r
def isort : List Int → List Int
  | [] => []
  | x :: r => ins x (isort r)
theorem ins_perm (x : Int) : ∀ l : List Int, (ins x l).Perm (x :: l)
  | [] => .refl _
  | y :: r => by
    unfold ins
    split
    · exact .refl _
    · exact ((ins_perm x r).cons y).trans (.swap x y r)
theorem isort_perm : ∀ l : List Int, (isort l).Perm l
  | [] => .refl _
  | x :: r => (ins_perm x _).trans ((isort_perm r).cons x)
theorem ins_sorted (x : Int) : ∀ l : List Int, l.Pairwise (· ≤ ·) → (ins x l).Pairwise (· ≤ ·)
  | [], _ => by simp [ins]
  | y :: r, h => by
    unfold ins
    have h' := List.pairwise_cons.mp h
    split
    · rename_i hxy
      refine List.pairwise_cons.mpr ⟨fun z hz => ?_, h⟩
      rcases List.mem_cons.mp hz with rfl | hz
      · exact hxy
      · exact Int.le_trans hxy (h'.1 z hz)
    · rename_i hxy
      refine List.pairwise_cons.mpr ⟨fun z hz => ?_, ins_sorted x r h'.2⟩
      rcases List.mem_cons.mp ((ins_perm x r).mem_iff.mp hz) with rfl | hz
      · omega
      · exact h'.1 z hz
theorem isort_sorted : ∀ l : List Int, (isort l).Pairwise (· ≤ ·)
  | [] => .nil
  | x :: r => ins_sorted x _ (isort_sorted r)
theorem sorted_one : ∀ {a b : List Int}, a.Perm b → a.Pairwise (· ≤ ·) → b.Pairwise (· ≤ ·) → a = b
  | [], b, p, _, _ => (List.nil_perm.mp p).symm
  | x :: a, [], p, _, _ => absurd (List.perm_nil.mp p) (by simp)
  | x :: a, y :: b, p, ha, hb => by
    have ha' := List.pairwise_cons.mp ha
    have hb' := List.pairwise_cons.mp hb
    have e : x = y := by
      have h1 : x ∈ y :: b := p.mem_iff.mp List.mem_cons_self
      have h2 : y ∈ x :: a := p.mem_iff.mpr List.mem_cons_self
      rcases List.mem_cons.mp h1 with h1 | h1
      · exact h1
      · rcases List.mem_cons.mp h2 with h2 | h2
        · exact h2.symm
        · have := ha'.1 y h2
          have := hb'.1 x h1
          omega
    subst e
    rw [sorted_one ((List.perm_cons x).mp p) ha'.2 hb'.2]
def sortedD (b : Bool) (ds : List D) (m : Mu) (Q : D → Mu → Prop) : Prop := ∃ d, ds = [d] ∧ ∃ ns : List Int, vwL m d = some (ns.map D.int) ∧ ns.length < 64 ∧ mkL b ((isort ns).map D.int) m Q
theorem cd_sorted {K : PySem.W.Frag} (b : Bool) : CallD K (rSorted K) (sortedD b) := fun F H m vs ds Q R q s rs p => by
  obtain ⟨d, rfl, bs, hx, hl, q⟩ := q
  obtain ⟨v, rfl, r⟩ := rs.inv1
  obtain ⟨a, us, rfl, ha, ra⟩ := lst_of s r hx
  rw [reps_ints ra] at ha
  refine ⟨a, bs, rfl, .of ha, hl, fun ns' A hp hs hA => ?_⟩
  rw [sorted_one (hp.trans (isort_perm bs).symm) hs (isort_sorted bs)]
  exact p.newB b s of_ints q A hA
/-- list(xs): a new list -/
def listD (b : Bool) (ds : List D) (m : Mu) (Q : D → Mu → Prop) : Prop := ∃ d, ds = [d] ∧ ∃ xs, vwS m d = some xs ∧ mkL b xs m Q
theorem cd_list {K : PySem.W.Frag} (b : Bool) : CallD K (fun xs H Q => ∃ p ys, xs = [.ref p] ∧ (SqL K H p ys ∨ SqT K H p ys) ∧ ∀ l, H l = none → Q (.ref l) (upd H l (.lst ys))) (listD b) := fun F H m vs ds Q R q s rs p => by
  obtain ⟨d, rfl, xs, hx, q⟩ := q
  obtain ⟨v, rfl, r⟩ := rs.inv1
  obtain ⟨a, us, rfl, ha, ra⟩ := sq_of s r hx
  exact ⟨a, us, rfl, ha, fun A hA => p.newB b s ra q A hA⟩
/-- isinstance(x, T) -/
def tyOf (m : Mu) : D → Option String
  | .non => some "NoneType"
  | .bl _ => some "bool"
  | .int _ => some "int"
  | .str _ => some "str"
  | .list _ => some "list"
  | .tuple _ => some "tuple"
  | .dict _ => none
  | .adr p => match m p with
    | some (.lst _) => some "list"
    | _ => none
  | _ => none
def isiD (ds : List D) (m : Mu) (Q : D → Mu → Prop) : Prop := ∃ d T t b, ds = [d, .ty T] ∧ tyOf m d = some t ∧ kitB t T = some b ∧ Q (.bl b) m
theorem cd_isi {K : PySem.W.Frag} : CallD K (rIsi K) isiD := fun F H m vs ds Q R q s rs p => by
  obtain ⟨d, T, t, b, rfl, ht, hb, q⟩ := q
  obtain ⟨v, u, rfl, r, r2⟩ := rs.inv2
  cases r2
  refine ⟨v, .ty T, .type t, .type T, b, rfl, .ty T, ?_, kit_ty hb, p.here s (.bl _) q⟩
  cases d with
  | non => cases ht; cases r; exact .base .non
  | bl x => cases ht; cases r; exact .base (.bl x)
  | int x => cases ht; cases r; exact .base (.int x)
  | str x => cases ht; cases r; exact .base (.str x)
  | list xs => cases ht; cases r with | list e r => exact .base (.lst (hide_le e))
  | tuple xs => cases ht; cases r with | tuple e r => exact .base (.tup (hide_le e))
  | adr a =>
    cases r
    have ht : (match m a with | some (.lst _) => some "list" | _ => none) = some t := ht
    split at ht
    · rename_i z hz
      cases ht
      obtain ⟨us, e, _⟩ := s.ok _ _ hz
      exact .base (.lst e)
    · cases ht
  | _ => cases ht
theorem d_type {K : PySem.W.Frag} {X : Cx} {x : Str} {T : String} {pos : Pos} (hm : X.mg x = none) (hv : bootBuiltins x = some (.type T)) (hg : Gl X x := by rfl) (hn : x ≠ "__name__" := by decide) (hd : (x == ("__debug__" : Str)) = false := by decide) : DE K X (.Name x pos) (tC (.ty T)) (dC (.ty T)) :=
  ⟨pe_bltn hg hm hv rfl hn hd, .c fun _ => .ty T⟩

/-! ### in, not in -/
def toV : D → V
  | .bl b => .bl b
  | .int i => .int i
  | .str x => .str x
  | _ => .non
def flat : D → Bool
  | .non => true
  | .bl _ => true
  | .int _ => true
  | .str _ => true
  | _ => false
section
variable {K : PySem.W.Frag} {F H : Hp} {m : Mu}
theorem rep_flat {v : V} {d : D} (r : Rep K H v d) (h : flat d = true) : v = toV d ∧ flatV v = true := by
  cases r with
  | non => exact ⟨rfl, rfl⟩
  | bl _ => exact ⟨rfl, rfl⟩
  | int _ => exact ⟨rfl, rfl⟩
  | str _ => exact ⟨rfl, rfl⟩
  | _ => exact absurd (show false = true from h) Bool.false_ne_true
theorem reps_flat : ∀ {vs : List V} {ds : List D}, Reps K H vs ds → ds.all flat = true → vs = ds.map toV ∧ vs.all flatV = true
  | _, _, .nil, _ => ⟨rfl, rfl⟩
  | _, _, .cons r t, h => by
    rw [List.all_cons, Bool.and_eq_true] at h
    obtain ⟨e1, e2⟩ := rep_flat r h.1
    obtain ⟨e3, e4⟩ := reps_flat t h.2
    exact ⟨by rw [List.map_cons, ← e1, ← e3], by rw [List.all_cons, e2, e4]; rfl⟩
end
/-- x in y: y a text (x one sign), a list or tuple of plain things -/
def inD (t : Bool) (x y : D) (m : Mu) (Q : D → Mu → Prop) : Prop := match y with
  | .str z => ∃ c, x = .str ⟨#[c]⟩ ∧ Q (.bl (t == decide (c ∈ z.cps.toList))) m
  | y => ∃ xs, vwS m y = some xs ∧ flat x = true ∧ xs.all flat = true ∧ Q (.bl (t == inV (toV x) (xs.map toV))) m
def rInAll (K : PySem.W.Frag) (neg : Bool) : R2 := fun x y H Q => rIn K neg x y H Q ∨ ∃ (c : Nat) (z : Str), x = .str ⟨#[c]⟩ ∧ y = .str z ∧ Q (.bl (if neg then !decide (c ∈ z.cps.toList) else decide (c ∈ z.cps.toList))) H
theorem op_inAll {K : PySem.W.Frag} {X : Cx} (hK : X.K = K := by rfl) : OpR X (compareOp .In) (rInAll K false) := by
  subst hK
  exact op_in_seq.or op_in_sign
theorem op_notInAll {K : PySem.W.Frag} {X : Cx} (hK : X.K = K := by rfl) : OpR X (compareOp .NotIn) (rInAll K true) := by
  subst hK
  exact op_notIn_seq.or op_notIn_sign
theorem inD_sq {K : PySem.W.Frag} {F H : Hp} {m : Mu} {x y : D} {v u : V} {Q : D → Mu → Prop} {R : VK} {n : Bool} (h : ∃ xs, vwS m y = some xs ∧ flat x = true ∧ xs.all flat = true ∧ Q (.bl ((!n) == inV (toV x) (xs.map toV))) m)
    (s : Stt K F H m) (rx : Rep K (hide F H m) v x) (ry : Rep K (hide F H m) u y) (p : Pst K F H m Q R) : rInAll K n v u H R := by
  obtain ⟨xs, hx, f1, f2, q⟩ := h
  obtain ⟨a, vs, rfl, ha, ra⟩ := sq_of s ry hx
  obtain ⟨e1, e2⟩ := rep_flat rx f1
  obtain ⟨e3, e4⟩ := reps_flat ra f2
  refine .inl ⟨a, vs, rfl, ha, e2, e4, ?_⟩
  rw [e1, e3]
  cases n
  · exact p.here s (.bl _) (by simpa using q)
  · exact p.here s (.bl _) (by simpa using q)
theorem opd_in {K : PySem.W.Frag} (n : Bool) : OpD K (rInAll K n) (inD !n) := fun F H m x y v u Q R q s rx ry p => by
  cases y with
  | str z =>
    obtain ⟨c, rfl, q⟩ := q
    cases rx; cases ry
    refine .inr ⟨c, z, rfl, rfl, ?_⟩
    cases n
    · exact p.here s (.bl _) (by simpa using q)
    · exact p.here s (.bl _) (by simpa using q)
  | int _ => exact inD_sq q s rx ry p
  | non => exact inD_sq q s rx ry p
  | bl _ => exact inD_sq q s rx ry p
  | ty _ => exact inD_sq q s rx ry p
  | adr _ => exact inD_sq q s rx ry p
  | list _ => exact inD_sq q s rx ry p
  | tuple _ => exact inD_sq q s rx ry p
  | seq _ => exact inD_sq q s rx ry p
  | tseq _ => exact inD_sq q s rx ry p
  | dict _ => exact inD_sq q s rx ry p
  | dicT _ => exact inD_sq q s rx ry p
/-- x in a list of data of any depth -/
def inDeep (t : Bool) (x y : D) (m : Mu) (Q : D → Mu → Prop) : Prop := ∃ d ds, IsP m x d ∧ IsP m y (.list ds) ∧ SeqAt.shaped d = true ∧ SeqAt.shaped (.list ds) = true ∧ Q (.bl (t == ds.any fun z => PyData.eqv z d)) m
theorem opd_inDeep {K : PySem.W.Frag} : OpD K (rInD K) (inDeep true) := fun F H m x y v u Q R q s rx ry p => by
  obtain ⟨a, b, ha, hb, sa, sb, q⟩ := q
  exact ⟨a, b, ha.dp s rx, hb.dp s ry, sa, sb, p.here s (.bl _) (by simpa using q)⟩
theorem opd_notInDeep {K : PySem.W.Frag} : OpD K (rNotInD K) (inDeep false) := fun F H m x y v u Q R q s rx ry p => by
  obtain ⟨a, b, ha, hb, sa, sb, q⟩ := q
  exact ⟨a, b, ha.dp s rx, hb.dp s ry, sa, sb, p.here s (.bl _) (by simpa using q)⟩

/-! ### methods of built-in values -/
def MtD (K : PySem.W.Frag) (T : String) (r : V → List V → Hp → VK → Prop) (rd : D → List D → Mu → (D → Mu → Prop) → Prop) : Prop :=
  ∀ F H m v x vs ds Q R, rd x ds m Q → Stt K F H m → Rep K (hide F H m) v x → Reps K (hide F H m) vs ds → Pst K F H m Q R → r v vs H R
def dBM (ty : D → Mu → Prop) (rd : D → List D → Mu → (D → Mu → Prop) → Prop) (to : dE) (ta : dA) : dE := fun env m Q => to env m fun x m1 => ty x m1 ∧ ta env m1 fun ds m2 => rd x ds m2 Q
def isL (d : D) (m : Mu) : Prop := (vwL m d).isSome = true
def isS (d : D) (m : Mu) : Prop := ∃ z, d = .str z
theorem tyL {K : PySem.W.Frag} {F H : Hp} {m : Mu} {d : D} {v : V} (h : isL d m) (s : Stt K F H m) (r : Rep K (hide F H m) v d) : tyV K "list" v H := by
  obtain ⟨xs, hx⟩ := Option.isSome_iff_exists.mp h
  obtain ⟨a, vs, rfl, ha, ra⟩ := lst_of s r hx
  exact .inl ⟨rfl, vs, .of ha⟩
theorem tyS {K : PySem.W.Frag} {F H : Hp} {m : Mu} {d : D} {v : V} (h : isS d m) (s : Stt K F H m) (r : Rep K (hide F H m) v d) : tyV K "str" v H := by
  obtain ⟨z, rfl⟩ := h
  cases r
  rfl
section
variable {K : PySem.W.Frag} {X : Cx} {o e : Expr} {es : List Expr} {to : TE} {do' : dE} {t : TA} {da : dA} {name : Str} {apos cpos : Pos} {T id : String} {r : V → List V → Hp → VK → Prop} {rd : D → List D → Mu → (D → Mu → Prop) → Prop} {ty : D → Mu → Prop}
theorem d_bm (pa : PlainAttrs T) (slot : Slot T name id) (hty : typeOf (.builtin id) = pure (.type "method_descriptor")) (hm : MtR X id r) (hd : MtD K T r rd) (htd : ∀ F H m d v, ty d m → Stt K F H m → Rep K (hide F H m) v d → tyV K T v H) (ho : DE K X o to do') (ha : DA K X (e :: es) t da)
    (hbase : attributeBase o name X.env (eval o X.env) = eval o X.env := by rfl)
    (hfew : ((backTo cpos (starEach (e :: es) X.env)).all (fun x => !x.1) && (backToKw cpos (keywordEach [] X.env)).all (fun x => x.1.isSome) && decide ((e :: es).length + ([] : List Keyword).length + (if ([] : List Keyword).isEmpty then 0 else 1) < 30)) = true := by rfl)
    (hline : (apos.endLine == cpos.line) = true := by rfl) (hs : starEach (e :: es) X.env = (false, eval e X.env) :: starEach es X.env := by rfl) (hplain : (backTo cpos (starEach es X.env)).any (·.1) = false := by rfl) (hK : X.K = K := by rfl) :
    DE K X (.Call (.Attribute o name apos) (e :: es) [] cpos) (tBM K T r to t) (dBM ty rd do' da) := by
  subst hK
  refine ⟨pe_bm pa slot hty hm ho.p ha.p hbase hfew hline hs hplain, fun F env m Q σ H R q ok p => ho.w F env m _ σ H _ q ok fun v H1 x m1 e1 s1 r1 q1 => ⟨htd _ _ _ _ _ q1.1 s1 r1, ?_⟩⟩
  exact ha.w F env m1 _ σ H1 _ q1.2 (ok.at s1 e1) fun vs H2 ds m2 e2 s2 r2 q2 => hd F H2 m2 v x vs ds Q R q2 s2 (r1.mono e2) r2 (p.at (e1.trans e2))
def dBM0 (ty : D → Mu → Prop) (rd : D → List D → Mu → (D → Mu → Prop) → Prop) (to : dE) : dE := fun env m Q => to env m fun x m1 => ty x m1 ∧ rd x [] m1 Q
theorem d_bm0 (pa : PlainAttrs T) (slot : Slot T name id) (hty : typeOf (.builtin id) = pure (.type "method_descriptor")) (hm : MtR X id r) (hd : MtD K T r rd) (htd : ∀ F H m d v, ty d m → Stt K F H m → Rep K (hide F H m) v d → tyV K T v H) (ho : DE K X o to do')
    (hbase : attributeBase o name X.env (eval o X.env) = eval o X.env := by rfl) (hline : (apos.endLine == cpos.line) = true := by rfl) (hK : X.K = K := by rfl) : DE K X (.Call (.Attribute o name apos) [] [] cpos) (tBM0 K T r to) (dBM0 ty rd do') := by
  subst hK
  refine ⟨pe_bm0 pa slot hty hm ho.p hbase hline, fun F env m Q σ H R q ok p => ho.w F env m _ σ H _ q ok fun v H1 x m1 e1 s1 r1 q1 => ⟨htd _ _ _ _ _ q1.1 s1 r1, hd F H1 m1 v x [] [] Q R q1.2 s1 r1 .nil (p.at e1)⟩⟩
end
/-- a mutable list is changed -/
theorem Pst.chgL {K : PySem.W.Frag} {F H : Hp} {m : Mu} {a : Addr} {xs ys : List D} {us : List V} {Q : D → Mu → Prop} {R : VK} {v : V} {d : D} (p : Pst K F H m Q R) (s : Stt K F H m) (h : m a = some (.lst xs)) (r : Reps K (hide F H m) us ys)
    (rv : Rep K (hide F H m) v d) (q : Q d (ups m a (.lst ys))) : R v (upd H a (.lst us)) := by
  refine p v _ d _ ?_ (s.chg h (show MOk K _ _ a (.lst ys) from ⟨us, upd_same, r⟩)) ?_ q
  · rw [hide_chg h]
    exact Ext.refl
  · rw [hide_chg h]
    exact rv
def appD (x : D) (ds : List D) (m : Mu) (Q : D → Mu → Prop) : Prop := ∃ a xs y, x = .adr a ∧ ds = [y] ∧ m a = some (.lst xs) ∧ xs.length < sizeLine ∧ Q .non (ups m a (.lst (xs ++ [y])))
theorem md_append {K : PySem.W.Frag} : MtD K "list" rAppend appD := fun F H m v x vs ds Q R q s rx rs p => by
  obtain ⟨a, xs, y, rfl, rfl, ha, hl, q⟩ := q
  cases rx
  obtain ⟨u, rfl, ru⟩ := rs.inv1
  obtain ⟨us, hu, rus⟩ := s.ok _ _ ha
  exact ⟨a, us, u, rfl, rfl, hu, by rw [rus.length]; exact hl, p.chgL s ha (rus.append (.one ru)) .non q⟩
def popD (x : D) (ds : List D) (m : Mu) (Q : D → Mu → Prop) : Prop := ∃ a xs y, x = .adr a ∧ ds = [] ∧ m a = some (.lst xs) ∧ xs[xs.length - 1]? = some y ∧ Q y (ups m a (.lst xs.dropLast))
theorem md_pop {K : PySem.W.Frag} : MtD K "list" rPop popD := fun F H m v x vs ds Q R q s rx rs p => by
  obtain ⟨a, xs, y, rfl, rfl, ha, hl, q⟩ := q
  cases rx
  cases rs
  obtain ⟨us, hu, rus⟩ := s.ok _ _ ha
  rw [← rus.length] at hl
  obtain ⟨u, h1, h2⟩ := rus.get hl
  refine ⟨a, us, u, rfl, rfl, hu, h1, p.chgL s ha ?_ h2 q⟩
  rw [List.dropLast_eq_take, List.dropLast_eq_take, rus.length]
  exact rus.take _
def popAtD (x : D) (ds : List D) (m : Mu) (Q : D → Mu → Prop) : Prop := ∃ a xs i k y, x = .adr a ∧ ds = [.int i] ∧ m a = some (.lst xs) ∧ -(2 ^ 63) ≤ i ∧ i < 2 ^ 63 ∧ seqIndex? i xs.length = some k ∧ xs[k]? = some y ∧ Q y (ups m a (.lst (xs.eraseIdx k)))
theorem md_popAt {K : PySem.W.Frag} : MtD K "list" rPopAt popAtD := fun F H m v x vs ds Q R q s rx rs p => by
  obtain ⟨a, xs, i, k, y, rfl, rfl, ha, h1, h2, h3, h4, q⟩ := q
  cases rx
  obtain ⟨w, rfl, rw'⟩ := rs.inv1
  cases rw'
  obtain ⟨us, hu, rus⟩ := s.ok _ _ ha
  obtain ⟨u, h5, h6⟩ := rus.get h4
  exact ⟨a, us, i, k, u, rfl, rfl, hu, h1, h2, by rw [rus.length]; exact h3, h5, p.chgL s ha (rus.erase k) h6 q⟩
def insD (x : D) (ds : List D) (m : Mu) (Q : D → Mu → Prop) : Prop := ∃ a xs i y, x = .adr a ∧ ds = [.int i, y] ∧ m a = some (.lst xs) ∧ xs.length < sizeLine ∧ 0 ≤ i ∧ i < 2 ^ 63 ∧ Q .non (ups m a (.lst (xs.take i.toNat ++ [y] ++ xs.drop i.toNat)))
theorem md_insert {K : PySem.W.Frag} : MtD K "list" (fun x vs H Q => ∃ (l : Addr) (xs : List V) (i : Int) (y : V), x = .ref l ∧ vs = [.int i, y] ∧ H l = some (.lst xs) ∧ xs.length < sizeLine ∧ 0 ≤ i ∧ i < 2 ^ 63 ∧ Q .non (upd H l (.lst (xs.take i.toNat ++ [y] ++ xs.drop i.toNat)))) insD := fun F H m v x vs ds Q R q s rx rs p => by
  obtain ⟨a, xs, i, y, rfl, rfl, ha, h1, h2, h3, q⟩ := q
  cases rx
  obtain ⟨w, u, rfl, rw', ru⟩ := rs.inv2
  cases rw'
  obtain ⟨us, hu, rus⟩ := s.ok _ _ ha
  exact ⟨a, us, i, u, rfl, rfl, hu, by rw [rus.length]; exact h1, h2, h3, p.chgL s ha (((rus.take _).append (.one ru)).append (rus.drop _)) .non q⟩
/-- xs.index(y), plain things -/
def indexD (x : D) (ds : List D) (m : Mu) (Q : D → Mu → Prop) : Prop := ∃ xs y j z, vwL m x = some xs ∧ ds = [y] ∧ flat y = true ∧ xs.all flat = true ∧ xs[j]? = some z ∧ eqV (toV z) (toV y) = true ∧ (∀ (k : Nat) (z' : D), k < j → xs[k]? = some z' → eqV (toV z') (toV y) = false) ∧ Q (.int (j : Nat)) m
theorem md_index {K : PySem.W.Frag} : MtD K "list" (rIndex K) indexD := fun F H m v x vs ds Q R q s rx rs p => by
  obtain ⟨xs, y, j, z, hx, rfl, f1, f2, hj, he, hno, q⟩ := q
  obtain ⟨w, rfl, rw'⟩ := rs.inv1
  obtain ⟨a, us, rfl, ha, ra⟩ := lst_of s rx hx
  obtain ⟨e1, e2⟩ := rep_flat rw' f1
  obtain ⟨e3, e4⟩ := reps_flat ra f2
  obtain ⟨u, h5, h6⟩ := ra.get hj
  have fz : flat z = true := List.all_eq_true.mp f2 z (List.mem_of_getElem? hj)
  refine ⟨a, us, w, j, u, rfl, rfl, .of ha, e2, e4, h5, ?_, fun k z' hk hz => ?_, p.here s (.int _) q⟩
  · rw [(rep_flat h6 fz).1, e1]
    exact he
  · obtain ⟨d, h7, h8⟩ := ra.get' hz
    have fd : flat d = true := List.all_eq_true.mp f2 d (List.mem_of_getElem? h7)
    rw [(rep_flat h8 fd).1, e1]
    exact hno k d hk h7
/-- sep.join(texts) -/
def joinD (x : D) (ds : List D) (m : Mu) (Q : D → Mu → Prop) : Prop := ∃ a d, ∃ ys : List Str, x = .str a ∧ ds = [d] ∧ vwL m d = some (ys.map D.str) ∧ (ys.map (·.length)).sum + ys.length * a.length ≤ 16777216 ∧ Q (.str (Txt.join a ys)) m
theorem md_join {K : PySem.W.Frag} : MtD K "str" (fun x xs H Q => ∃ a p, ∃ ys : List Str, x = .str a ∧ xs = [.ref p] ∧ (SqL K H p (ys.map V.str) ∨ SqT K H p (ys.map V.str)) ∧ (ys.map (·.length)).sum + ys.length * a.length ≤ 16777216 ∧ Q (.str (Txt.join a ys)) H) joinD := fun F H m v x vs ds Q R q s rx rs p => by
  obtain ⟨a, d, ys, rfl, rfl, hd, hl, q⟩ := q
  cases rx
  obtain ⟨w, rfl, rw'⟩ := rs.inv1
  obtain ⟨b, us, rfl, ha, ra⟩ := lst_of s rw' hd
  rw [reps_strs ra] at ha
  exact ⟨a, b, ys, rfl, rfl, .inl (.of ha), hl, p.here s (.str _) q⟩
def countD (x : D) (ds : List D) (m : Mu) (Q : D → Mu → Prop) : Prop := ∃ a b, x = .str a ∧ ds = [.str b] ∧ Q (.int (Txt.count a b)) m
theorem md_count {K : PySem.W.Frag} : MtD K "str" (fun x xs H Q => ∃ a b, x = .str a ∧ xs = [.str b] ∧ Q (.int (Txt.count a b)) H) countD := fun F H m v x vs ds Q R q s rx rs p => by
  obtain ⟨a, b, rfl, rfl, q⟩ := q
  cases rx
  obtain ⟨w, rfl, rw'⟩ := rs.inv1
  cases rw'
  exact ⟨a, b, rfl, rfl, p.here s (.int _) q⟩

/-! ### xs[i] = v -/
def dSetS (tv to ti : dE) : dS := fun DD env m => tv env m fun d m1 => to env m1 fun x m2 => ti env m2 fun y m3 => ∃ a xs k j, x = .adr a ∧ y = .int k ∧ m3 a = some (.lst xs) ∧ ixN xs.length k = some j ∧ DD.nx env (ups m3 a (.lst (xs.set j d)))
theorem s_setL {K : PySem.W.Frag} {X : Cx} {value o i : Expr} {tv to ti : TE} {dv do' di : dE} {pos pos' : Pos} (hv : DE K X value tv dv) (ho : DE K X o to do') (hi : DE K X i ti di) (hs : swapsWithSole [.Subscript o i pos'] value pos.line X.env = pure false := by rfl) (hw : swappedStores [.Subscript o i pos'] value X.env = pure none := by rfl)
    (h1 : (assignEach [.Subscript o i pos'] X.env).map (·.2) = [assign (.Subscript o i pos') X.env] := by rfl)
    (ha : ∀ v, assign (.Subscript o i pos') X.env v = (do
      let ov ← holding [v] (eval o X.env)
      let iv ← holding [v, ov] (eval i X.env)
      standAt pos'
      holding [v, ov, iv] (setItem ov iv v)
      release [v, ov, iv] []) := by intro _; rfl) : DS K X (.Assign [.Subscript o i pos'] value pos) (tAsg tv (gSub to ti rSetL)) (dSetS dv do' di) := by
  refine ⟨ps_asg hv.p (pg_sub ho.p hi.p set_list ha) hs hw h1, fun F DD env m σ H RR q ok p => ?_⟩
  refine hv.w F env m _ σ H _ q ok fun v H1 d m1 e1 s1 r1 q1 => ho.w F env m1 _ σ H1 _ q1 (ok.at s1 e1) fun ov H2 x m2 e2 s2 r2 q2 => ?_
  refine hi.w F env m2 _ σ H2 _ q2 (ok.at s2 (e1.trans e2)) fun iv H3 y m3 e3 s3 r3 q3 => ?_
  obtain ⟨a, xs, k, j, rfl, rfl, hm, hj, q⟩ := q3
  cases r2; cases r3
  obtain ⟨us, hu, rus⟩ := s3.ok _ _ hm
  have e13 := (e1.trans e2).trans e3
  refine ⟨a, us, k, j, rfl, rfl, hu, by rw [rus.length]; exact hj, p.nx _ _ env _ ?_ ⟨s3.chg hm (show MOk K _ _ a (.lst (xs.set j d)) from ⟨_, upd_same, rus.set ((r1.mono e2).mono e3) j⟩), ?_⟩ q⟩
  · rw [hide_chg hm]
    exact e13
  · rw [hide_chg hm]
    exact ok.fr.mono e13

/-! ### the kit's rules, by the K of the text -/
section
variable {K : PySem.W.Frag} {X : Cx}
theorem c_all (hK : X.K = K := by rfl) (hc : X.calm = true := by rfl) : CallR X (.builtin "all") (rAll K) := by
  subst hK
  exact cr_all hc
theorem c_sum (hK : X.K = K := by rfl) (hc : X.calm = true := by rfl) : CallR X (.builtin "sum") (rSum K) := by
  subst hK
  exact cr_sum hc
theorem c_max (hK : X.K = K := by rfl) (hc : X.calm = true := by rfl) : CallR X (.builtin "max") (rMax K) := by
  subst hK
  exact cr_max hc
theorem c_min (hK : X.K = K := by rfl) (hc : X.calm = true := by rfl) : CallR X (.builtin "min") (rMin K) := by
  subst hK
  exact cr_min hc
theorem c_isi (hK : X.K = K := by rfl) : CallR X (.builtin "isinstance") (rIsi K) := by
  subst hK
  exact call_isi
theorem c_sorted (hK : X.K = K := by rfl) : CallR X (.builtin "sorted") (rSorted K) := by
  subst hK
  exact cr_sorted
theorem c_list (hK : X.K = K := by rfl) : CallR X (.type "list") (fun xs H Q => ∃ p ys, xs = [.ref p] ∧ (SqL K H p ys ∨ SqT K H p ys) ∧ ∀ l, H l = none → Q (.ref l) (upd H l (.lst ys))) := by
  subst hK
  exact call_list_of
theorem m_index (hK : X.K = K := by rfl) : MtR X "list.index" (rIndex K) := by
  subst hK
  exact mt_index
theorem m_join (hK : X.K = K := by rfl) : MtR X "str.join" (fun x xs H Q => ∃ a p, ∃ ys : List Str, x = .str a ∧ xs = [.ref p] ∧ (SqL K H p (ys.map V.str) ∨ SqT K H p (ys.map V.str)) ∧ (ys.map (·.length)).sum + ys.length * a.length ≤ 16777216 ∧ Q (.str (Txt.join a ys)) H) := by
  subst hK
  exact mt_join
theorem o_inD (hu : X.A.units + 65 < cLine) (hK : X.K = K := by rfl) : OpR X (compareOp .In) (rInD K) := by
  subst hK
  exact op_inD hu
theorem o_notInD (hu : X.A.units + 65 < cLine) (hK : X.K = K := by rfl) : OpR X (compareOp .NotIn) (rNotInD K) := by
  subst hK
  exact op_notInD hu
end
end Dq

namespace Dq
open PySem L2 PyProof.Rows

theorem u65 {A : Around} {k : Nat} (hr : Room k A) : A.units + 65 < cLine := by have := hr.un; omega
theorem u64 {A : Around} {k : Nat} (hr : Room k A) : A.units + 64 < cLine := hr.units
theorem tyL' {K : PySem.W.Frag} : ∀ F H m d v, isL d m → Stt K F H m → Rep K (hide F H m) v d → tyV K "list" v H := fun _ _ _ _ _ h s r => tyL h s r
theorem tyS' {K : PySem.W.Frag} : ∀ F H m d v, isS d m → Stt K F H m → Rep K (hide F H m) v d → tyV K "str" v H := fun _ _ _ _ _ h s r => tyS h s r

/-! ### slices -/
section
variable {K : PySem.W.Frag} {X : Cx} {e : Expr} {te : TE} {de : dE} {lo hi : Option Expr} {tl th : TO} {dl dh : dO} {pos p2 : Pos}
theorem o_none : DO K X none tNoPart dNoPart := ⟨po_none, fun F env m Q σ H R q o p => p _ H m Ext.refl o.st q⟩
theorem o_some (h : DE K X e te de) : DO K X (some e) (tPart te) (dPart de) := ⟨po_some h.p, fun F env m Q σ H R q o p => h.w F env m _ σ H _ q o fun v H1 d m1 e1 s1 r1 q1 => by
  obtain ⟨i, rfl, q⟩ := q1
  cases r1
  exact ⟨i, rfl, p _ H1 m1 e1 s1 q⟩⟩
def sliceD (b : Bool) (x : D) (lo hi : Option Int) (m : Mu) (Q : D → Mu → Prop) : Prop := match x with
  | .str z => z.length ≤ sizeLine ∧ Q (.str (cutS z lo hi)) m
  | .tuple xs => ¬(HT.sIx xs.length 0 lo = 0 ∧ HT.sIx xs.length xs.length hi = xs.length) ∧ Q (.tuple (cutD xs lo hi)) m
  | x => ∃ xs, vwL m x = some xs ∧ mkL b (cutD xs lo hi) m Q
def rSlAll (K : PySem.W.Frag) : V → Option Int → Option Int → Hp → VK → Prop := fun x lo hi H Q => rSlL K x lo hi H Q ∨ rSlS x lo hi H Q ∨ rSlT K x lo hi H Q
theorem SlR.or {r r' : V → Option Int → Option Int → Hp → VK → Prop} (h : SlR X r) (h' : SlR X r') : SlR X (fun x lo hi H Q => r x lo hi H Q ∨ r' x lo hi H Q) := by
  intro pins s σ H x v vl vu lo hi sl Q I rx hs pl pu q
  rcases q with q | q
  · exact h pins s σ H x v vl vu lo hi sl Q I rx hs pl pu q
  · exact h' pins s σ H x v vl vu lo hi sl Q I rx hs pl pu q
theorem sl_all (hK : X.K = K := by rfl) : SlR X (rSlAll K) := by
  subst hK
  exact SlR.or sl_list (SlR.or sl_str sl_tup)
def dSl (b : Bool) (te : dE) (tl th : dO) : dE := fun env m Q => te env m fun x m1 => tl env m1 fun l m2 => th env m2 fun u m3 => sliceD b x l u m3 Q
theorem sliceD_list {K : PySem.W.Frag} {F H : Hp} {m : Mu} {x : D} {v : V} {l u : Option Int} {Q : D → Mu → Prop} {R : VK} {b : Bool} (h : ∃ xs, vwL m x = some xs ∧ mkL b (cutD xs l u) m Q)
    (s : Stt K F H m) (rx : Rep K (hide F H m) v x) (p : Pst K F H m Q R) : rSlAll K v l u H R := by
  obtain ⟨xs, hx, q⟩ := h
  obtain ⟨a, vs, rfl, ha, ra⟩ := lst_of s rx hx
  exact .inl ⟨a, vs, rfl, .of ha, fun A hA => p.newB b s (reps_cut ra l u) q A hA⟩
theorem d_slice (b : Bool) (h : DE K X e te de) (hl : DO K X lo tl dl) (hh : DO K X hi th dh) (hK : X.K = K := by rfl) : DE K X (.Subscript e (.Slice lo hi none p2) pos) (tSl (rSlAll K) te tl th) (dSl b de dl dh) := by
  refine ⟨pe_slice (sl_all hK) h.p hl.p hh.p, fun F env m Q σ H R q o p => h.w F env m _ σ H _ q o fun v H1 x m1 e1 s1 r1 q1 => ?_⟩
  refine hl.w F env m1 _ σ H1 _ q1 (o.at s1 e1) fun l H2 m2 e2 s2 q2 => hh.w F env m2 _ σ H2 _ q2 (o.at s2 (e1.trans e2)) fun u H3 m3 e3 s3 q3 => ?_
  have r3 := (r1.mono e2).mono e3
  have p3 := p.at ((e1.trans e2).trans e3)
  cases x with
  | str z =>
    cases r3
    exact .inr (.inl ⟨_, rfl, q3.1, p3.here s3 (.str _) q3.2⟩)
  | tuple xs =>
    cases r3 with
    | tuple e r =>
      refine .inr (.inr ⟨_, _, rfl, .of (hide_le e), by rw [r.length]; exact q3.1, fun A hA => p3.newT s3 (reps_cut r l u) q3.2 A hA⟩)
  | int _ => exact sliceD_list q3 s3 r3 p3
  | non => exact sliceD_list q3 s3 r3 p3
  | bl _ => exact sliceD_list q3 s3 r3 p3
  | ty _ => exact sliceD_list q3 s3 r3 p3
  | adr _ => exact sliceD_list q3 s3 r3 p3
  | list _ => exact sliceD_list q3 s3 r3 p3
  | seq _ => exact sliceD_list q3 s3 r3 p3
  | tseq _ => exact sliceD_list q3 s3 r3 p3
  | dict _ => exact sliceD_list q3 s3 r3 p3
  | dicT _ => exact sliceD_list q3 s3 r3 p3
end

/-! ### enumerate, zip of lists -/
/-- (i, x) each -/
def enumD : Nat → List D → List D
  | _, [] => []
  | i, x :: r => .tuple [.int (i : Nat), x] :: enumD (i + 1) r
theorem enumD_length : ∀ (i : Nat) (l : List D), (enumD i l).length = l.length
  | _, [] => rfl
  | i, x :: r => by rw [enumD, List.length_cons, List.length_cons, enumD_length]
theorem enumD_get : ∀ (i j : Nat) (l : List D), (enumD i l)[j]? = l[j]?.map fun x => .tuple [.int ((i + j : Nat) : Int), x]
  | _, _, [] => by simp [enumD]
  | i, 0, x :: r => by simp [enumD]
  | i, j + 1, x :: r => by
    rw [enumD, List.getElem?_cons_succ, List.getElem?_cons_succ, enumD_get (i + 1) j r, show i + 1 + j = i + (j + 1) by omega]
def jEnum (ta : dA) : dI := fun env m Q => ta env m fun ds m1 => ∃ d xs, ds = [d] ∧ vwI d = some xs ∧ Q (enumD 0 xs) m1
section
variable {K : PySem.W.Frag} {F H : Hp} {m : Mu}
/-- a list that stays -/
theorem stays (s : Stt K F H m) {d : D} {v : V} {xs : List D} (r : Rep K (hide F H m) v d) (h : vwI d = some xs) : ∃ a vs, v = .ref a ∧ SqL K H a vs ∧ Reps K (hide F H m) vs xs ∧ ∀ F' H' m', Ext (hide F H m) (hide F' H' m') → Stt K F' H' m' → SqL K H' a vs := by
  cases d with
  | list xs =>
    cases h
    cases r with
    | list e r => exact ⟨_, _, rfl, .of (hide_le e), r, fun F' H' m' ex _ => .of (hide_le (ex.lst _ _ e))⟩
  | seq xs =>
    cases h
    cases r with
    | seq e r => exact ⟨_, _, rfl, Ext.unhide.sql e, r, fun F' H' m' ex _ => Ext.unhide.sql (ex.sql e)⟩
  | _ => cases h
theorem pair_new {F' Hc : Hp} {mc : Mu} {T : Addr} {x y : V} {dx dy : D} (s : Stt K F' Hc mc) (hT : Hc T = none) (rx : Rep K (hide F' Hc mc) x dx) (ry : Rep K (hide F' Hc mc) y dy) :
    Ext (hide F' Hc mc) (hide F' (upd Hc T (.tup [x, y])) mc) ∧ Stt K F' (upd Hc T (.tup [x, y])) mc ∧ Rep K (hide F' (upd Hc T (.tup [x, y])) mc) (.ref T) (.tuple [dx, dy]) :=
  ⟨Ext.new s hT, s.new hT, .tuple (by rw [hide_at (s.free hT) (s.freeF hT), upd_same]) (.cons (rx.mono (Ext.new s hT)) (.one (ry.mono (Ext.new s hT))))⟩
theorem wlk_enum {a : Addr} {vs : List V} {ds : List D} (e : ∀ F' H' m', Ext (hide F H m) (hide F' H' m') → Stt K F' H' m' → SqL K H' a vs) (r : Reps K (hide F H m) vs ds) : Wlk K F H m (Ite K a) (enumD 0 ds) := by
  refine ⟨vs.length, fun H' => SqL K H' a vs, _, by rw [enumD_length, r.length], walk_enum, e, fun i F' Hc mc x H' ex s y hi => ?_⟩
  obtain ⟨T, x, z, rfl, hT, rfl, h1, h2⟩ := y
  cases h1
  obtain ⟨d, hd, rd⟩ := r.get' h2
  obtain ⟨g1, g2, g3⟩ := pair_new s hT (.int (i : Nat)) (rd.mono ex)
  refine ⟨_, ?_, g1, g2, g3⟩
  rw [enumD_get, hd]
  simp
theorem i_enum {K : PySem.W.Frag} {X : Cx} {e : Expr} {ta : TA} {da : dA} {elts : List Expr} {kk : Nat} {p pos tpos : Pos} (hm : X.mg "enumerate" = none) (ha : DA K X [e] ta da) (hg : Gl X "enumerate" := by rfl) (hs : starEach [e] X.env = [(false, eval e X.env)] := by rfl) (hK : X.K = K := by rfl) :
    DI K X (.Tuple elts kk tpos) (.Call (.Name "enumerate" p) [e] [] pos) (iEnum K ta) (jEnum da) := by
  subst hK
  refine ⟨pi_enum hg hm ha.p hs, fun F env m Q σ H R q o p => ha.w F env m _ σ H _ q o fun v H1 ds m1 e1 s1 r1 q1 => ?_⟩
  obtain ⟨d, xs, rfl, hx, q⟩ := q1
  obtain ⟨v, rfl, r⟩ := r1.inv1
  obtain ⟨a, vs, rfl, h1, h2, h3⟩ := stays s1 r hx
  exact ⟨a, vs, rfl, h1, p _ H1 _ m1 e1 s1 (wlk_enum h3 h2) q⟩
def zipD : List D → List D → List D
  | x :: xs, y :: ys => .tuple [x, y] :: zipD xs ys
  | _, _ => []
theorem zipD_length : ∀ (a b : List D), (zipD a b).length = min a.length b.length
  | [], _ => by simp [zipD]
  | _ :: _, [] => by simp [zipD]
  | x :: xs, y :: ys => by rw [zipD, List.length_cons, List.length_cons, List.length_cons, zipD_length]; omega
theorem zipD_get : ∀ (j : Nat) (a b : List D) (x y : D), a[j]? = some x → b[j]? = some y → (zipD a b)[j]? = some (.tuple [x, y])
  | _, [], _, _, _, h, _ => by simp at h
  | _, _ :: _, [], _, _, _, h => by simp at h
  | 0, x :: xs, y :: ys, _, _, h1, h2 => by simp [zipD] at *; simp [h1, h2]
  | j + 1, x :: xs, y :: ys, u, v, h1, h2 => by
    rw [zipD, List.getElem?_cons_succ]
    exact zipD_get j xs ys u v (by simpa using h1) (by simpa using h2)
def jZip (ta : dA) : dI := fun env m Q => ta env m fun ds m1 => ∃ d e xs ys, ds = [d, e] ∧ vwI d = some xs ∧ vwI e = some ys ∧ Q (zipD xs ys) m1
theorem wlk_zip {a b : Addr} {vs us : List V} {ds es : List D} (e : ∀ F' H' m', Ext (hide F H m) (hide F' H' m') → Stt K F' H' m' → SqL K H' a vs) (e2 : ∀ F' H' m', Ext (hide F H m) (hide F' H' m') → Stt K F' H' m' → SqL K H' b us)
    (r : Reps K (hide F H m) vs ds) (r2 : Reps K (hide F H m) us es) : Wlk K F H m (Itz K a b) (zipD ds es) := by
  refine ⟨min vs.length us.length, fun H' => SqL K H' a vs ∧ SqL K H' b us, _, by rw [zipD_length, r.length, r2.length], walk_zip rfl, fun F' H' m' x y => ⟨e F' H' m' x y, e2 F' H' m' x y⟩, fun i F' Hc mc x H' ex s y hi => ?_⟩
  obtain ⟨T, x, z, rfl, hT, rfl, h1, h2⟩ := y
  obtain ⟨d, hd, rd⟩ := r.get' h1
  obtain ⟨d2, hd2, rd2⟩ := r2.get' h2
  obtain ⟨g1, g2, g3⟩ := pair_new s hT (rd.mono ex) (rd2.mono ex)
  exact ⟨_, zipD_get i ds es d d2 hd hd2, g1, g2, g3⟩
end
theorem mono_g {g : TG} : True := trivial
/-- hand over -/
theorem o_isB {X : Cx} : OpR X (compareOp .Is) rIsB := op_isBl
theorem opd_isB {K : PySem.W.Frag} : OpD K rIsB (fun x y m Q => ∃ a b : Bool, x = .bl a ∧ y = .bl b ∧ Q (.bl (decide (a = b))) m) := fun F H m x y v u Q R q s rx ry p => by
  obtain ⟨a, b, rfl, rfl, q⟩ := q
  cases rx; cases ry
  exact ⟨a, b, rfl, rfl, p.here s (.bl _) q⟩
theorem opd_notB {K : PySem.W.Frag} : OpD K rNotB (fun x y m Q => ∃ a b : Bool, x = .bl a ∧ y = .bl b ∧ Q (.bl (!decide (a = b))) m) := fun F H m x y v u Q R q s rx ry p => by
  obtain ⟨a, b, rfl, rfl, q⟩ := q
  cases rx; cases ry
  exact ⟨a, b, rfl, rfl, p.here s (.bl _) q⟩

/-! ### a def of the text by its name -/
structure Has (K : PySem.W.Frag) (mg : Str → Option Value) (x : Str) (st : Stmt) : Prop where
  ex : ∃ f fd, Fun K x x st f fd ∧ mg x = some (.ref f)
theorem Def.of {P : Program} {w : World} {K : PySem.W.Frag} {mg : Str → Option Value} {base : Heap} {x : Str} {st : Stmt} {k : Nat} {pre : Pre} {ps : List Str} (h : Has K mg x st)
    (hb : ∀ (kV doc pm : Value) (an : Option Addr) (cdv ct : Value) (us : List Value), us.length = ps.length → bindArgs (PySem.W.fnOf x x (defArgs st) (defBody st) (defScope st) .none kV doc pm an cdv ct) ⟨us, []⟩ = pure (ps.zip us))
    (ok : ∀ f fd, Fun K x x st f fd → FnOk P w K mg base CX0 k f fd ps (spD K pre)) : Def P w K mg base x k pre := by
  obtain ⟨f, fd, F, hm⟩ := h.ex
  exact ⟨f, fd, ps, ok f fd F, hm, F.kp, F.binds hb⟩
end Dq

namespace Dq
open PySem L2 PyProof.Rows

/-! ### comprehensions whose turns leave the store as it is -/
theorem lc_pureA {vs : List Nat} {env : Env} {g : dG} {tt : dT} {te : dE} {Q : List D → Mu → Prop} {m : Mu} {c : D → Bool} {f : D → D} : ∀ (ds acc : List D),
    (∀ x ∈ ds, ∀ Q' : List D → Mu → Prop, ∀ a : List D, a.length < sizeLine → (if c x = true then Q' (a ++ [f x]) m else Q' a m) → g x (wipeD env vs) m fun e1 m1 => tt e1 m1 fun b m2 => if b = true then te e1 m2 fun y m3 => a.length < sizeLine ∧ Q' (a ++ [y]) m3 else Q' a m2) →
    acc.length + ds.length < sizeLine → Q (acc ++ (ds.filter c).map f) m → lcD vs env g tt te Q ds acc m
  | [], acc, _, _, q => by
    have q' : Q (acc ++ []) m := q
    rw [List.append_nil] at q'
    exact q'
  | x :: r, acc, h, hl, q => by
    rw [List.length_cons] at hl
    refine h x List.mem_cons_self (fun a m' => lcD vs env g tt te Q r a m') acc (by omega) ?_
    rw [List.filter_cons] at q
    split
    · rename_i hc
      rw [if_pos hc] at q
      refine lc_pureA (c := c) (f := f) r _ (fun y hy => h y (List.mem_cons_of_mem _ hy)) ?_ ?_
      · rw [List.length_append, List.length_cons, List.length_nil]
        omega
      · rw [List.append_assoc]
        exact q
    · rename_i hc
      rw [if_neg hc] at q
      exact lc_pureA (c := c) (f := f) r _ (fun y hy => h y (List.mem_cons_of_mem _ hy)) (by omega) q
/-- one name as the target -/
theorem lc_pure {vs : List Nat} {env : Env} {j : Nat} {tt : dT} {te : dE} {Q : List D → Mu → Prop} {m : Mu} {ds : List D} (c : D → Bool) (f : D → D)
    (ht : ∀ x ∈ ds, ∀ Q' : Bool → Mu → Prop, Q' (c x) m → tt ((wipeD env vs).set j (some x)) m Q') (he : ∀ x ∈ ds, c x = true → ∀ Q' : D → Mu → Prop, Q' (f x) m → te ((wipeD env vs).set j (some x)) m Q')
    (hl : ds.length < sizeLine) (q : Q ((ds.filter c).map f) m) : lcD vs env (hName j) tt te Q ds [] m := by
  refine lc_pureA (c := c) (f := f) ds [] (fun x hx Q' a ha q' => ?_) (by simpa using hl) q
  refine ht x hx _ ?_
  split
  · rename_i hc
    rw [if_pos hc] at q'
    exact he x hx hc _ ⟨ha, q'⟩
  · rename_i hc
    rw [if_neg hc] at q'
    exact q'
/-- over 0 .. n - 1 -/
theorem lc_range {vs : List Nat} {env : Env} {j : Nat} {tt : dT} {te : dE} {Q : List D → Mu → Prop} {m : Mu} {n : Nat} (c : Nat → Bool) (f : Nat → D)
    (ht : ∀ i, i < n → ∀ Q' : Bool → Mu → Prop, Q' (c i) m → tt ((wipeD env vs).set j (some (.int (i : Nat)))) m Q') (he : ∀ i, i < n → c i = true → ∀ Q' : D → Mu → Prop, Q' (f i) m → te ((wipeD env vs).set j (some (.int (i : Nat)))) m Q')
    (hl : n < sizeLine) (q : Q (((List.range n).filter c).map f) m) : lcD vs env (hName j) tt te Q ((List.range n).map fun i => .int (i : Nat)) [] m := by
  have key : ∀ (l : List Nat), ((l.map fun i : Nat => D.int i).filter (fun d => match d with | .int i => c i.toNat | _ => false)).map (fun d => match d with | .int i => f i.toNat | _ => .non) = (l.filter c).map f := by
    intro l
    induction l with
    | nil => rfl
    | cons a l ih =>
      rw [List.map_cons, List.filter_cons, List.filter_cons]
      simp only [Int.toNat_natCast]
      split
      · rw [List.map_cons, List.map_cons, ih]
        simp only [Int.toNat_natCast]
      · exact ih
  refine lc_pure (fun d => match d with | .int i => c i.toNat | _ => false) (fun d => match d with | .int i => f i.toNat | _ => .non) ?_ ?_ (by simpa using hl) (by rw [key]; exact q)
  · intro x hx Q' q'
    obtain ⟨i, hi, rfl⟩ := List.mem_map.mp hx
    simp only [Int.toNat_natCast] at q'
    exact ht i (List.mem_range.mp hi) Q' q'
  · intro x hx hc Q' q'
    obtain ⟨i, hi, rfl⟩ := List.mem_map.mp hx
    simp only [Int.toNat_natCast] at q' hc
    exact he i (List.mem_range.mp hi) hc Q' q'
/-- a test that is always taken -/
theorem lc_all {vs : List Nat} {env : Env} {j : Nat} {te : dE} {Q : List D → Mu → Prop} {m : Mu} {ds : List D} (f : D → D)
    (he : ∀ x ∈ ds, ∀ Q' : D → Mu → Prop, Q' (f x) m → te ((wipeD env vs).set j (some x)) m Q') (hl : ds.length < sizeLine) (q : Q (ds.map f) m) : lcD vs env (hName j) dYes te Q ds [] m :=
  lc_pure (fun _ => true) f (fun _ _ _ q' => q') (fun x hx _ => he x hx) hl (by rw [List.filter_eq_self.mpr (fun _ _ => rfl)]; exact q)
theorem lc_rangeAll {vs : List Nat} {env : Env} {j : Nat} {te : dE} {Q : List D → Mu → Prop} {m : Mu} {n : Nat} (f : Nat → D)
    (he : ∀ i, i < n → ∀ Q' : D → Mu → Prop, Q' (f i) m → te ((wipeD env vs).set j (some (.int (i : Nat)))) m Q') (hl : n < sizeLine) (q : Q ((List.range n).map f) m) : lcD vs env (hName j) dYes te Q ((List.range n).map fun i => .int (i : Nat)) [] m :=
  lc_range (fun _ => true) f (fun _ _ _ q' => q') (fun x hx _ => he x hx) hl (by rw [List.filter_eq_self.mpr (fun _ _ => rfl)]; exact q)
theorem small_line {n : Nat} (h : n ≤ 100000) : n < sizeLine := Nat.lt_of_le_of_lt h (by decide)
theorem atI_nat' {xs : List D} {j : Nat} {v : D} (h : xs[j]? = some v) : atI xs ((j : Nat) : Int) = some v := atI_nat h

/-! ### statement by statement -/
/-- what an expression is worth where it leaves the store alone -/
def Ev (te : dE) (env : Env) (m : Mu) (d : D) : Prop := ∀ Q : D → Mu → Prop, Q d m → te env m Q
def EvT (te : dT) (env : Env) (m : Mu) (b : Bool) : Prop := ∀ Q : Bool → Mu → Prop, Q b m → te env m Q
section
variable {DD : dEnds} {env : Env} {m : Mu} {te : dE} {c : dT} {t u v : dS} {i : Nat}
theorem q_asg (d : D) (h : ∀ Q : D → Mu → Prop, Q d m → te env m Q) (k : u DD (env.set i (some d)) m) : dSeq (dAsg te i) u DD env m := h _ k
theorem q_asg' {P : D → Mu → Prop} (h : ∀ Q : D → Mu → Prop, (∀ d m1, P d m1 → Q d m1) → te env m Q) (k : ∀ d m1, P d m1 → u DD (env.set i (some d)) m1) : dSeq (dAsg te i) u DD env m := h _ k
theorem q_if (b : Bool) (h : ∀ Q : Bool → Mu → Prop, Q b m → c env m Q) (h1 : b = true → t { DD with nx := v DD } env m) (h2 : b = false → u { DD with nx := v DD } env m) : dSeq (dIfS c t u) v DD env m := by
  refine h _ ?_
  cases b with
  | true => exact h1 rfl
  | false => exact h2 rfl
theorem s_if' (b : Bool) (h : ∀ Q : Bool → Mu → Prop, Q b m → c env m Q) (h1 : b = true → t DD env m) (h2 : b = false → u DD env m) : dIfS c t u DD env m := by
  refine h _ ?_
  cases b with
  | true => exact h1 rfl
  | false => exact h2 rfl
/-- an if without else that returns -/
theorem q_when (b : Bool) (h : ∀ Q : Bool → Mu → Prop, Q b m → c env m Q) (h1 : b = true → t { DD with nx := v DD } env m) (h2 : b = false → v DD env m) : dSeq (dIfS c t dNext) v DD env m := q_if b h h1 h2
/-- an if that assigns one name either way -/
theorem q_ret (d : D) (h : ∀ Q : D → Mu → Prop, Q d m → te env m Q) (k : DD.rt d m) : dRet te DD env m := h _ k
theorem q_drop (h : ∀ Q : D → Mu → Prop, (∀ d, Q d m) → te env m Q) (k : u DD env m) : dSeq (dDrop te) u DD env m := h _ fun _ => k
theorem q_seq {M : Env → Mu → Prop} (h : t { DD with nx := M } env m) (k : ∀ e m', M e m' → u DD e m') (mono : ∀ (N N' : Env → Mu → Prop), (∀ e m', N e m' → N' e m') → t { DD with nx := N } env m → t { DD with nx := N' } env m) : dSeq t u DD env m := mono _ _ k h
/-- an if that assigns one name, told by what the name has behind it -/
theorem q_ifAsg (b : Bool) (d : D) (h : ∀ Q : Bool → Mu → Prop, Q b m → c env m Q) (h1 : b = true → ∀ Q : D → Mu → Prop, Q d m → te env m Q) (h2 : b = false → env[i]? = some (some d)) (k : v DD (env.set i (some d)) m) : dSeq (dIfS c (dAsg te i) dNext) v DD env m := by
  refine q_if b h (fun hb => h1 hb _ k) fun hb => ?_
  have e : env.set i (some d) = env := by
    obtain ⟨hl, e⟩ := List.getElem?_eq_some_iff.mp (h2 hb)
    rw [← e]
    exact List.set_getElem_self hl
  rw [e] at k
  exact k
theorem q_asgG {g : dG} {e1 : Dq.Env} (h : ∀ Q : Dq.Env → Mu → Prop, Q e1 m → te env m fun d m1 => g d env m1 Q) (k : u DD e1 m) : dSeq (dAsgG te g) u DD env m := h _ k
theorem q_for {wi : dI} {g : dG} (items : List D) (hi : ∀ Q : List D → Mu → Prop, Q items m → wi env m Q) (W : Nat → Dq.Env → Mu → Prop) (h0 : W 0 env m)
    (hs : ∀ i d, items[i]? = some d → ∀ e m', W i e m' → ∀ nx : Dq.Env → Mu → Prop, (∀ e m, W (i + 1) e m → nx e m) → g d e m' fun e1 m1 => t { DD with nx := nx, ct := nx, bk := u DD } e1 m1)
    (hd : ∀ e m', W items.length e m' → u DD e m') : dSeq (dFor wi g t) u DD env m := by
  refine hi _ (forD_inv W items 0 (fun i d hd e m' h nx hn => ?_) (fun e m' h => ?_) env m h0)
  · rw [Nat.zero_add] at h hn
    exact hs i d hd e m' h nx hn
  · rw [Nat.zero_add] at h
    exact hd e m' h
theorem q_forL {wi : dI} {g : dG} (items : List D) (hi : ∀ Q : List D → Mu → Prop, Q items m → wi env m Q) (W : Nat → Dq.Env → Mu → Prop) (h0 : W 0 env m)
    (hs : ∀ i d, items[i]? = some d → ∀ e m', W i e m' → ∀ nx : Dq.Env → Mu → Prop, (∀ e m, W (i + 1) e m → nx e m) → g d e m' fun e1 m1 => t { DD with nx := nx, ct := nx, bk := DD.nx } e1 m1)
    (hd : ∀ e m', W items.length e m' → DD.nx e m') : dFor wi g t DD env m := by
  refine hi _ (forD_inv W items 0 (fun i d hd e m' h nx hn => ?_) (fun e m' h => ?_) env m h0)
  · rw [Nat.zero_add] at h hn
    exact hs i d hd e m' h nx hn
  · rw [Nat.zero_add] at h
    exact hd e m' h
/-- a new list that will change -/
theorem q_new {ds : List D} (h : ∀ Q : D → Mu → Prop, (∀ a, m a = none → Q (.adr a) (ups m a (.lst ds))) → te env m Q) (k : ∀ a, m a = none → u DD (env.set i (some (.adr a))) (ups m a (.lst ds))) : dSeq (dAsg te i) u DD env m := h _ k
/-- a store changed by the way -/
theorem q_dropM {m1 : Mu} (h : ∀ Q : D → Mu → Prop, (∀ d, Q d m1) → te env m Q) (k : u DD env m1) : dSeq (dDrop te) u DD env m := h _ fun _ => k
/-- the last statement of a loop's body -/
theorem s_asg' (d : D) (h : ∀ Q : D → Mu → Prop, Q d m → te env m Q) (k : DD.nx (env.set i (some d)) m) : dAsg te i DD env m := h _ k
theorem s_drop' (h : ∀ Q : D → Mu → Prop, (∀ d, Q d m) → te env m Q) (k : DD.nx env m) : dDrop te DD env m := h _ fun _ => k
theorem s_dropM {m1 : Mu} (h : ∀ Q : D → Mu → Prop, (∀ d, Q d m1) → te env m Q) (k : DD.nx env m1) : dDrop te DD env m := h _ fun _ => k
/-- an if, with a word that holds behind both ways -/
theorem q_ifM (M : Dq.Env → Mu → Prop) (b : Bool) (h : ∀ Q : Bool → Mu → Prop, Q b m → c env m Q) (h1 : b = true → ∀ N : Dq.Env → Mu → Prop, (∀ e m', M e m' → N e m') → t { DD with nx := N } env m)
    (h2 : b = false → ∀ N : Dq.Env → Mu → Prop, (∀ e m', M e m' → N e m') → u { DD with nx := N } env m) (k : ∀ e m', M e m' → v DD e m') : dSeq (dIfS c t u) v DD env m := by
  refine h _ ?_
  cases b with
  | true => exact h1 rfl _ k
  | false => exact h2 rfl _ k
end
theorem ixN_nat {n j : Nat} (h : j < n) : ixN n ((j : Nat) : Int) = some j := by
  unfold ixN
  rw [if_pos (by omega), if_pos (by omega), Int.toNat_natCast]
theorem seqIx_nat {n j : Nat} (h : j < n) : seqIndex? ((j : Nat) : Int) n = some j := by
  rw [PySem.seqIndex_of (by omega) (by omega), Int.toNat_natCast]
theorem at0 {α : Type} {a : α} {l : List α} : atI (a :: l) (0 : Int) = some a := atI_nat (j := 0) rfl
theorem at1 {α : Type} {a b : α} {l : List α} : atI (a :: b :: l) (1 : Int) = some b := atI_nat (j := 1) rfl
theorem at2 {α : Type} {a b c : α} {l : List α} : atI (a :: b :: c :: l) (2 : Int) = some c := atI_nat (j := 2) rfl
theorem at3 {α : Type} {a b c d : α} {l : List α} : atI (a :: b :: c :: d :: l) (3 : Int) = some d := atI_nat (j := 3) rfl
theorem ix0 {n : Nat} : ixN (n + 1) (0 : Int) = some 0 := ixN_nat (j := 0) (by omega)
theorem ix1 {n : Nat} : ixN (n + 1 + 1) (1 : Int) = some 1 := ixN_nat (j := 1) (by omega)
end Dq

/-! == of coded data -/
namespace Dq
open PySem L2
class Cod (α : Type) [DecidableEq α] where
  enc : α → D
  py : α → PyData
  isP : ∀ (m : Mu) (a : α), IsP m (enc a) (py a)
  lay : ∀ a, (py a).canLay0 = true
  dep : Nat
  depth : ∀ a, (py a).depth ≤ dep
  eqv : ∀ a b, PyData.eqv (py a) (py b) = decide (a = b)
instance : Cod Int where
  enc := .int
  py := .int
  isP := fun _ a => .int a
  lay := fun _ => by simp [PyData.canLay0]
  dep := 0
  depth := fun _ => by simp [PyData.depth]
  eqv := fun a b => by simp [PyData.eqv, Bool.beq_eq_decide_eq]
instance : Cod Nat where
  enc := fun n => .int (n : Nat)
  py := fun n => .int (n : Nat)
  isP := fun _ a => .int a
  lay := fun _ => by simp [PyData.canLay0]
  dep := 0
  depth := fun _ => by simp [PyData.depth]
  eqv := fun a b => by
    simp only [PyData.eqv, Bool.beq_eq_decide_eq]
    by_cases h : a = b
    · subst h; simp
    · rw [decide_eq_false h, decide_eq_false (by omega)]
/-- a row's item: None or a whole number -/
instance : Cod (Option Int) where
  enc := fun | none => .non | some i => .int i
  py := fun | none => .none | some i => .int i
  isP := fun m a => by cases a; exact .non; exact .int _
  lay := fun a => by cases a <;> simp [PyData.canLay0]
  dep := 0
  depth := fun a => by cases a <;> simp [PyData.depth]
  eqv := fun a b => by cases a <;> cases b <;> simp [PyData.eqv, Bool.beq_eq_decide_eq]
section
variable {α β : Type} [DecidableEq α] [DecidableEq β] [Cod α] [Cod β]
theorem cod_isPs (m : Mu) : ∀ l : List α, IsPs m (l.map Cod.enc) (l.map Cod.py)
  | [] => .nil
  | a :: l => .cons (Cod.isP m a) (cod_isPs m l)
theorem cod_lays : ∀ l : List α, PyData.canLayAll0 (l.map Cod.py) = true
  | [] => by simp [PyData.canLayAll0]
  | a :: l => by simp [PyData.canLayAll0, Cod.lay a, cod_lays l]
theorem cod_depths : ∀ l : List α, PyData.depthAll (l.map Cod.py) ≤ Cod.dep α
  | [] => by simp [PyData.depthAll]
  | a :: l => by
    have h1 := Cod.depth a
    have h2 := cod_depths l
    simp only [List.map_cons, PyData.depthAll]
    omega
theorem cod_eqvs : ∀ a b : List α, PyData.eqvAll (a.map Cod.py) (b.map Cod.py) = decide (a = b)
  | [], [] => by simp [PyData.eqvAll]
  | [], _ :: _ => by simp [PyData.eqvAll]
  | _ :: _, [] => by simp [PyData.eqvAll]
  | a :: l, b :: k => by
    rw [List.map_cons, List.map_cons, PyData.eqvAll, Cod.eqv, cod_eqvs l k]
    by_cases h1 : a = b <;> by_cases h2 : l = k <;> simp [h1, h2]
instance : Cod (List α) where
  enc := fun l => .list (l.map Cod.enc)
  py := fun l => .list (l.map Cod.py)
  isP := fun m l => .list (cod_isPs m l)
  lay := fun l => by simp only [PyData.canLay0]; exact cod_lays l
  dep := Cod.dep α + 1
  depth := fun l => by
    have := cod_depths l
    simp only [PyData.depth]
    omega
  eqv := fun a b => by simp only [PyData.eqv]; exact cod_eqvs a b
instance : Cod (α × β) where
  enc := fun p => .tuple [Cod.enc p.1, Cod.enc p.2]
  py := fun p => .tuple [Cod.py p.1, Cod.py p.2]
  isP := fun m p => .tuple (.cons (Cod.isP m p.1) (.cons (Cod.isP m p.2) .nil))
  lay := fun p => by simp [PyData.canLay0, PyData.canLayAll0, Cod.lay]
  dep := max (Cod.dep α) (Cod.dep β) + 1
  depth := fun p => by
    have h1 := Cod.depth p.1
    have h2 := Cod.depth p.2
    simp only [PyData.depth, PyData.depthAll]
    omega
  eqv := fun a b => by
    simp only [PyData.eqv, PyData.eqvAll, Cod.eqv]
    obtain ⟨a1, a2⟩ := a
    obtain ⟨b1, b2⟩ := b
    by_cases h1 : a1 = b1 <;> by_cases h2 : a2 = b2 <;> simp [h1, h2]
theorem cod_shaped (a : α) (h : Cod.dep α ≤ 64) : SeqAt.shaped (Cod.py a) = true := by
  unfold SeqAt.shaped
  rw [Cod.lay]
  have := Cod.depth a
  simp only [Bool.true_and, decide_eq_true_eq]
  omega
theorem eq_cod {t : Bool} {m : Mu} {Q : D → Mu → Prop} (a b : α) (h : Cod.dep α ≤ 64) (q : Q (.bl (t == decide (a = b))) m) : eqP t (Cod.enc a) (Cod.enc b) m Q :=
  ⟨_, _, Cod.isP m a, Cod.isP m b, cod_shaped a h, cod_shaped b h, by rw [Cod.eqv]; exact q⟩
end
theorem eq_nats {t : Bool} {m : Mu} {Q : D → Mu → Prop} (a b : List Nat) (q : Q (.bl (t == decide (a = b))) m) : eqP t (.list (a.map fun n => .int (n : Nat))) (.list (b.map fun n => .int (n : Nat))) m Q :=
  eq_cod a b (by decide) q
end Dq

/-! enumerate of a text -/
namespace Dq
open PySem L2
def Itex (x : Str) : It := ⟨fun i _ => i < x.cps.size, fun i H v H' => ∃ T c, v = .ref T ∧ H T = none ∧ x.cps[i]? = some c ∧ H' = upd H T (.tup [.int (i : Nat), .str ⟨#[c]⟩]), fun i _ => i = x.cps.size⟩
theorem turn_etext {P : Program} {w : World} {K : PySem.W.Frag} {elts : List Expr} {kk : Nat} {tpos : Pos} (x : Str) (t : Tok) (e it : Addr) :
    Turn P w K (.Tuple elts kk tpos) (Itex x) [e, it] e (fun i h => (∃ old, IsEnum h e it ((i : Nat) : Int) old) ∧ h.IsStrIter it (strIterType x) x t i ∧ e ≠ it) where
  mem := by simp
  obj := fun i h st b hb => by
    obtain ⟨⟨old, he⟩, ⟨o, ho, _, hd⟩, _⟩ := st
    rcases (show b = e ∨ b = it by simpa using hb) with z | z
    · rw [z]; exact ⟨_, he, fun v q => nomatch q⟩
    · rw [z]; exact ⟨o, ho, fun v q => by rw [hd] at q; cases q⟩
  keep := fun i h h' st k => by
    obtain ⟨⟨old, he⟩, ⟨o, ho, hr⟩, hne⟩ := st
    exact ⟨⟨old, k e (by simp) _ he⟩, ⟨o, k it (by simp) o ho, hr⟩, hne⟩
  item := by
    intro X hP hw hK hc i pins s σ H E I hf st hg
    subst hP hw hK
    obtain ⟨⟨old, he⟩, hit, hne⟩ := st
    have hel : e < s.heap.objs.size := Heap.lt_size he
    have hil : it < s.heap.objs.size := by obtain ⟨_, q, _⟩ := hit; exact Heap.lt_size q
    have hd : X.A.in1.handled = none := I.ok.hd hc
    refine wpAny_pyNext_enum_itemD (Draws.text hd it x t) he hit hg hne (by simpa using hne) fun v h' tk hv ho hit' hT hsz hk => ?_
    obtain ⟨c, u, hcx, rfl⟩ := hv
    refine ⟨_, rfl, wpAny_letOwnedTupleGo_enum (s := { s with heap := h', toks := tk + 1 }) ho fun h'' he' sb => ?_⟩
    have hT2 := (sb.2 s.heap.objs.size (Nat.ne_of_gt hel)).trans hT
    have new : ObjOk X.prog X.w (upd H s.heap.objs.size (.tup [.int (i : Nat), .str ⟨#[c]⟩])) h'' s.heap.objs.size (.tup [.int (i : Nat), .str ⟨#[c]⟩]) :=
      ⟨by show 2 ≤ sizeLine; decide, [.int i tk, .str ⟨#[c]⟩ u], .cons ⟨_, rfl⟩ (.cons ⟨_, rfl⟩ .nil), ⟨_, hT2, rfl, _, rfl⟩⟩
    have I1 : Inv X pins σ (upd H s.heap.objs.size (.tup [.int (i : Nat), .str ⟨#[c]⟩])) { s with heap := h'', toks := tk + 1 } :=
      I.turnedNew (ch := [e, it]) (fun b o hb q => (sb.2 b (fun z => hb (by simp [z]))).trans (hk b o (fun z => hb (by simp [z])) (fun z => hb (by simp [z])) q)) hf (Nat.le_refl _) new
    refine ⟨.ref s.heap.objs.size, _, I1, rfl, ⟨_, c, rfl, I.hok.fresh (Nat.le_refl _), hcx, rfl⟩, ⟨⟨.str ⟨#[c]⟩ u, ?_⟩, ?_, hne⟩, fun b hb => ?_⟩
    · rw [show ((i + 1 : Nat) : Int) = (i : Int) + 1 by omega]
      exact he'
    · obtain ⟨o, q, r⟩ := hit'
      exact ⟨o, (sb.2 it (Ne.symm hne)).trans q, r⟩
    · have hb' : b < s.heap.objs.size := by
        rcases (show b = e ∨ b = it by simpa using hb) with z | z
        · rw [z]; exact hel
        · rw [z]; exact hil
      rw [upd_ne (Nat.ne_of_lt hb')]
      exact (hf b hb).1
  done := by
    intro X hP hw hK hc i pins s σ H E I hf st hg
    subst hP hw hK
    obtain ⟨⟨old, he⟩, hit, hne⟩ := st
    have hd : X.A.in1.handled = none := I.ok.hd hc
    have hg : i = x.cps.size := hg
    rw [hg] at hit
    obtain ⟨f0, f1, f2, f3, f4, f5⟩ := hf it (by simp)
    exact wpAny_pyNext_enum_endD (Draws.text hd it x t) he hit fun h' eb => ⟨rfl, I.turned (t' := s.toks) (fun b o hb q => eb b o hb q) f0 f1 f3 f4 f5⟩
  self := fun A i s Q E st h => by
    obtain ⟨⟨old, he⟩, _⟩ := st
    exact wpAny_pyIter_enum he h
def iEnumS (ta : TA) : TI := fun σ H R => ta σ H fun vs H1 => ∃ x, vs = [.str x] ∧ R (Itex x) H1
theorem pi_enumS {X : Cx} {e : Expr} {ta : TA} {p pos tpos : Pos} {elts : List Expr} {kk : Nat} (hg : Gl X "enumerate") (hm : X.mg "enumerate" = none) (ha : PA X [e] ta) (hs : starEach [e] X.env = [(false, eval e X.env)]) :
    PI X (.Tuple elts kk tpos) (.Call (.Name "enumerate" p) [e] [] pos) (iEnumS ta) := by
  refine ⟨fun pins s σ H R I h => PyProof.Rows.Call_ ?_⟩
  refine ld_blt I hg hm PyProof.Rows.boot_enumerate (PyProof.Rows.callWith_type1 (thn (ha.run pos pins s σ H _ I h) fun us s1 ⟨vs, H1, I1, r1, q1⟩ => ?_) hs rfl)
  obtain ⟨x, rfl, q⟩ := q1
  cases r1 with
  | cons r rr =>
    cases rr
    obtain ⟨t, rfl⟩ := r
    refine call_enumerate_str fun h' he hit hsz hk => wpAny_pyIter_enum he ?_
    have I2 : Inv X pins σ H1 { s1 with heap := h' } := I1.kept (t' := s1.toks) hk
    refine ⟨s1.heap.objs.size + 1, [s1.heap.objs.size + 1, s1.heap.objs.size], _, _, H1, rfl, I2, turn_etext x t (s1.heap.objs.size + 1) s1.heap.objs.size, ⟨⟨.none, he⟩, hit, Nat.succ_ne_self _⟩, fun b hb => ?_, q⟩
    have hle : s1.heap.objs.size ≤ b := by
      rcases (show b = s1.heap.objs.size + 1 ∨ b = s1.heap.objs.size by simpa using hb) with z | z
      · rw [z]; exact Nat.le_add_right _ _
      · rw [z]; exact Nat.le_refl _
    exact I1.fpOk hle (I1.hok.fresh hle)
def jEnumS (ta : dA) : dI := fun env m Q => ta env m fun ds m1 => ∃ z : Str, ds = [.str z] ∧ Q (enumD 0 (z.cps.toList.map fun c => .str ⟨#[c]⟩)) m1
theorem i_enumS {K : PySem.W.Frag} {X : Cx} {e : Expr} {ta : TA} {da : dA} {elts : List Expr} {kk : Nat} {p pos tpos : Pos} (hm : X.mg "enumerate" = none) (ha : DA K X [e] ta da) (hg : Gl X "enumerate" := by rfl) (hs : starEach [e] X.env = [(false, eval e X.env)] := by rfl) :
    DI K X (.Tuple elts kk tpos) (.Call (.Name "enumerate" p) [e] [] pos) (iEnumS ta) (jEnumS da) := by
  refine ⟨pi_enumS hg hm ha.p hs, fun F env m Q σ H R q o p => ha.w F env m _ σ H _ q o fun v H1 ds m1 e1 s1 r1 q1 => ?_⟩
  obtain ⟨z, rfl, q⟩ := q1
  obtain ⟨v, rfl, r⟩ := r1.inv1
  cases r
  refine ⟨z, rfl, p _ H1 _ m1 e1 s1 ⟨z.cps.size, fun _ => True, _, by simp [enumD_length], (⟨fun _ _ hi _ => hi, fun _ _ => rfl, fun _ _ _ _ _ _ y => y⟩ : Walk (Itex z) z.cps.size (fun _ => True) (fun i H v H' => ∃ T c, v = .ref T ∧ H T = none ∧ z.cps[i]? = some c ∧ H' = upd H T (.tup [.int (i : Nat), .str ⟨#[c]⟩]))), fun _ _ _ _ _ => trivial, fun i F' Hc mc x H' ex s y hi => ?_⟩ q⟩
  obtain ⟨T, c, rfl, hT, hc, rfl⟩ := y
  obtain ⟨g1, g2, g3⟩ := pair_new s hT (.int (i : Nat)) (.str ⟨#[c]⟩)
  refine ⟨_, ?_, g1, g2, g3⟩
  rw [enumD_get]
  simp [hc]
end Dq

/-! weaker promises; lists known by a property alone -/
namespace Dq
open PySem L2
section
variable {P : Program} {w : World} {K : PySem.W.Frag} {mg : Str → Option Value} {base : Heap} {x : Str} {k : Nat}
theorem Def.weak {pre pre' : Pre} (h : Def P w K mg base x k pre') (hw : ∀ vs H R E, spD K pre vs H R E → spD K pre' vs H R E) : Def P w K mg base x k pre := by
  obtain ⟨f, fd, ps, F, h1, h2, h3⟩ := h.ex
  exact ⟨f, fd, ps, ⟨fun vs H Q E s => F.len vs H Q E (hw _ _ _ _ s), fun A outer s H args us vs Q E hr e0 hb r hs => F.run A outer s H args us vs Q E hr e0 hb r (hw _ _ _ _ hs)⟩, h1, h2, h3⟩
end
section
variable {K : PySem.W.Frag} {F H : Hp} {m : Mu} {p : Addr}
theorem hide_re {w w' : MO} (h : m p = some w) : hide F H (ups m p w') = hide F H m := by
  funext a
  unfold hide
  by_cases e : a = p
  · subst e
    rw [ups_same, h]
  · rw [ups_ne e]
theorem Stt.re {w w' : MO} (s : Stt K F H m) (h : m p = some w) (k : MOk K H (hide F H m) p w → MOk K H (hide F H m) p w') : Stt K F H (ups m p w') := by
  refine ⟨fun q o e => ?_, fun q o e => ?_, s.ft⟩
  · have ne : q ≠ p := by
      rintro rfl
      have := (s.fr q o e).2
      rw [h] at this
      cases this
    exact ⟨(s.fr q o e).1, by rw [ups_ne ne]; exact (s.fr q o e).2⟩
  · rw [hide_re h]
    by_cases hq : q = p
    · subst hq
      rw [ups_same] at e
      cases e
      exact k (s.ok q w h)
    · rw [ups_ne hq] at e
      exact s.ok q o e
/-- what is known of a list -/
theorem Stt.open {A : List D → Prop} (s : Stt K F H m) (h : m p = some (.any A)) : ∃ xs, A xs ∧ Stt K F H (ups m p (.lst xs)) := by
  obtain ⟨vs, ds, h1, h2, h3⟩ := s.ok _ _ h
  exact ⟨ds, h3, s.re h fun _ => ⟨vs, h1, h2⟩⟩
theorem Stt.close {A : List D → Prop} {xs : List D} (s : Stt K F H m) (h : m p = some (.lst xs)) (hA : A xs) : Stt K F H (ups m p (.any A)) := s.re h fun ⟨vs, h1, h2⟩ => ⟨vs, xs, h1, h2, hA⟩
/-- a def that changes a list it knows by A alone -/
theorem spD_any {A : List D → Prop} {pre pre' : Pre} (h : ∀ ds m Q, pre ds m Q → ∃ p, m p = some (.any A) ∧ ∀ xs, A xs → pre' ds (ups m p (.lst xs)) fun d m' => ∃ xs', A xs' ∧ m' = ups m p (.lst xs') ∧ Q d m) :
    ∀ vs H R E, spD K pre vs H R E → spD K pre' vs H R E := by
  rintro vs H R E ⟨F, ds, m, Q, s, r, q, k⟩
  obtain ⟨p, hp, hx⟩ := h ds m Q q
  obtain ⟨xs, hA, s'⟩ := s.open hp
  refine ⟨F, ds, ups m p (.lst xs), _, s', by rw [hide_re hp]; exact r, hx xs hA, ?_⟩
  rintro v H' d m' ex st rv ⟨xs', hA', rfl, q'⟩
  have e1 : ups m p (.any A) = m := by
    funext a
    by_cases e : a = p
    · subst e
      rw [ups_same, hp]
    · rw [ups_ne e]
  have s2 := st.close ups_same hA'
  rw [ups_ups, e1] at s2
  have e2 : hide F H' m = hide F H' (ups m p (.lst xs')) := (hide_re hp).symm
  refine k v H' d m ?_ s2 (by rw [e2]; exact rv) q'
  rw [e2, ← hide_re (F := F) (H := H) (w' := .lst xs) hp]
  exact ex
/-- a def that hands back a new list, known by A alone -/
theorem spD_newAny {A : List D → Prop} {pre pre' : Pre} (h : ∀ ds m Q, pre ds m Q → pre' ds m fun d m' => ∃ a xs, m a = none ∧ d = .adr a ∧ A xs ∧ m' = ups m a (.lst xs) ∧ Q (.adr a) (ups m a (.any A))) :
    ∀ vs H R E, spD K pre vs H R E → spD K pre' vs H R E := by
  rintro vs H R E ⟨F, ds, m, Q, s, r, q, k⟩
  refine ⟨F, ds, m, _, s, r, h ds m Q q, ?_⟩
  rintro v H' d m' ex st rv ⟨a, xs, ha, rfl, hA, rfl, q'⟩
  have s2 := st.close ups_same hA
  rw [ups_ups] at s2
  have e2 : hide F H' (ups m a (.any A)) = hide F H' (ups m a (.lst xs)) := by
    rw [← ups_ups (m := m) (p := a) (o := .lst xs)]
    exact hide_re ups_same
  exact k v H' _ _ (by rw [e2]; exact ex) s2 (by rw [e2]; exact rv) q'
theorem ups_eq {m : Mu} {p : Addr} {w : MO} (h : m p = some w) : ups m p w = m := by
  funext a
  by_cases e : a = p
  · subst e
    rw [ups_same, h]
  · rw [ups_ne e]
end

/-! ### what the store need not know any more -/
def Sub (m' m : Mu) : Prop := ∀ a, m' a = m a ∨ m' a = none
section
variable {K : PySem.W.Frag} {F H : Hp} {m m' : Mu}
theorem Ext.sub (h : Sub m' m) : Ext (hide F H m) (hide F H m') := Ext.same fun a u e => by
  have e1 := hide_le e
  rw [hide_at _ (hide_un e).2]
  · exact e1
  · rcases h a with z | z
    · rw [z]
      exact (hide_un e).1
    · exact z
theorem Stt.sub (s : Stt K F H m) (h : Sub m' m) : Stt K F H m' := by
  refine ⟨fun q u e => ⟨(s.fr q u e).1, ?_⟩, fun q u e => ?_, s.ft⟩
  · rcases h q with z | z
    · rw [z]
      exact (s.fr q u e).2
    · exact z
  · rcases h q with z | z
    · exact (s.ok q u (z ▸ e)).mono rfl (Ext.sub h)
    · rw [z] at e
      cases e
end
def dGc (t : dS) : dS := fun DD env m => ∃ m', Sub m' m ∧ t DD env m'
theorem ss_gc {K : PySem.W.Frag} {X : Cx} {sts : List Stmt} {ts : TS} {t : dS} (h : DSs K X sts ts t) : DSs K X sts ts (dGc t) := ⟨h.p, fun F DD env m σ H RR q o p => by
  obtain ⟨m', hs, q⟩ := q
  exact h.w F DD env m' σ H RR q ⟨o.st.sub hs, o.fr.mono (Ext.sub hs)⟩ (p.at (Ext.sub hs))⟩
theorem fz_list {i : Nat} {p : Addr} {ds : List D} {t : dS} {DD : dEnds} {env : Dq.Env} {m : Mu} (h : env[i]? = some (some (.adr p))) (hm : m p = some (.lst ds)) (k : t DD (env.set i (some (.list ds))) (del m p)) : dFz i t DD env m := by
  refine ⟨p, h, ?_⟩
  rw [hm]
  exact k
theorem fz_dict {i : Nat} {p : Addr} {ds : List (Key × D)} {t : dS} {DD : dEnds} {env : Dq.Env} {m : Mu} (h : env[i]? = some (some (.adr p))) (hm : m p = some (.dK ds)) (k : t DD (env.set i (some (.dict ds))) (del m p)) : dFz i t DD env m := by
  refine ⟨p, h, ?_⟩
  rw [hm]
  exact k
theorem sub_del {m : Mu} {p : Addr} : Sub (del m p) m := fun a => by
  unfold del
  split
  · exact .inr rfl
  · exact .inl rfl
theorem sub_ups {m m' : Mu} {p : Addr} {o : MO} (h : m p = none) (s : Sub m m') (h' : m' p = none) : Sub m (ups m' p o) := fun a => by
  by_cases e : a = p
  · subst e
    exact .inr h
  · rw [ups_ne e]
    exact s a
/-- all but what stands at p -/
theorem sub_one {m : Mu} {p : Addr} {o : MO} (h : m p = none) : Sub m (ups m p o) := fun a => by
  by_cases e : a = p
  · subst e
    exact .inr h
  · rw [ups_ne e]
    exact .inl rfl
theorem Sub.refl {m : Mu} : Sub m m := fun _ => .inl rfl
theorem Sub.trans {a b c : Mu} (h : Sub a b) (k : Sub b c) : Sub a c := fun p => by
  rcases h p with z | z
  · rcases k p with y | y
    · exact .inl (z.trans y)
    · exact .inr (z.trans y)
  · exact .inr z
end Dq

/-! the two ends of a row -/
namespace Dq
open PySem L2
theorem reps_intsL {K : PySem.W.Frag} {H : Hp} : ∀ ns : List Int, Reps K H (ns.map V.int) (ns.map D.int)
  | [] => .nil
  | _ :: ns => .cons (.int _) (reps_intsL ns)
theorem hide_none {H : Hp} : hide (fun _ => none) H (fun _ => none) = H := rfl
theorem law_in {K : PySem.W.Frag} {pre : Pre} {H : Hp} {a : Addr} {ns : List Int} {n : Nat} (hp : ∀ Q : D → Mu → Prop, (∀ m', Q (.bl true) m') → pre [.seq (ns.map D.int)] (fun _ => none) Q) (hS : SqL K H a (ns.map V.int)) (E : XK) :
    spD K pre [.ref a] H (fun v _ => v = .bl true) E := by
  refine ⟨fun _ => none, [.seq (ns.map D.int)], fun _ => none, fun d _ => d = .bl true, ⟨nofun, nofun, nofun⟩, .cons (.seq hS (reps_intsL ns)) .nil, hp _ fun _ => rfl, ?_⟩
  rintro v H' d m' _ _ r rfl
  cases r
  rfl
theorem globI {K : PySem.W.Frag} {mg : Str → Option Value} {x : Str} {i : Int} {t : Tok} (h : mg x = some (.int i t)) : GlobC K mg x (.int i) (.int i) := ⟨⟨_, h, ⟨t, rfl⟩, fun _ => .int i⟩⟩
theorem globS {K : PySem.W.Frag} {mg : Str → Option Value} {x s : Str} {t : Tok} (h : mg x = some (.str s t)) : GlobC K mg x (.str s) (.str s) := ⟨⟨_, h, ⟨t, rfl⟩, fun _ => .str s⟩⟩
/-- a tuple of texts at the top -/
def allStr : List Value → List Str → Prop
  | [], [] => True
  | u :: us, s :: ss => (∃ t, u = Value.str s t) ∧ allStr us ss
  | _, _ => False
theorem allStr_vals : ∀ {us : List Value} {ss : List Str}, allStr us ss → Vals (ss.map V.str) us
  | [], [], _ => .nil
  | _ :: _, _ :: _, h => .cons h.1 (allStr_vals h.2)
theorem reps_strsL {K : PySem.W.Frag} {H : Hp} : ∀ ss : List Str, Reps K H (ss.map V.str) (ss.map D.str)
  | [] => .nil
  | _ :: ss => .cons (.str _) (reps_strsL ss)
theorem globT {K : PySem.W.Frag} {mg : Str → Option Value} {x : Str} {a : Addr} {us : List Value} {ss : List Str} {od : Option Addr} {n : Nat} {sl : Array (Option Value)} (h : mg x = some (.ref a)) (l : K.lookup a = some ⟨.type "tuple", od, .seq us.toArray n, sl⟩) (hs : us.length ≤ sizeLine) (hu : allStr us ss) :
    ∃ a, GlobC K mg x (.ref a) (.tseq (ss.map D.str)) :=
  ⟨a, ⟨_, h, rfl, fun _ => .tseq (.inr ⟨_, us.toArray, n, l, rfl, rfl, by simpa using hs, by simpa using allStr_vals hu⟩) (reps_strsL ss)⟩⟩
end Dq

/-! instances of the text's own classes -/
namespace Dq
open PySem L2
def putD (f : Str) (v : D) : List (Str × D) → List (Str × D)
  | [] => [(f, v)]
  | (g, x) :: r => if g = f then (g, v) :: r else (g, x) :: putD f v r
section
variable {K : PySem.W.Frag} {H : Hp}
abbrev FP (K : PySem.W.Frag) (H : Hp) (a : Str × V) (b : Str × D) : Prop := a.1 = b.1 ∧ Rep K H a.2 b.2
theorem fp_lookup {f : Str} {v : D} : ∀ {fvs : List (Str × V)} {fs : List (Str × D)}, Paired (FP K H) fvs fs → fs.lookup f = some v → ∃ u, fvs.lookup f = some u ∧ Rep K H u v
  | _, _, .nil, h => by cases h
  | (g, x) :: r, (g', x') :: r', .cons e t, h => by
    obtain ⟨e1, e2⟩ := e
    simp only at e1 e2
    subst e1
    rw [List.lookup_cons] at h
    rw [List.lookup_cons]
    split at h
    · rename_i hb
      cases h
      exact ⟨x, rfl, e2⟩
    · rename_i hb
      exact fp_lookup t h
theorem fp_none {f : Str} : ∀ {fvs : List (Str × V)} {fs : List (Str × D)}, Paired (FP K H) fvs fs → fs.lookup f = none → fvs.lookup f = none
  | _, _, .nil, h => rfl
  | (g, x) :: r, (g', x') :: r', .cons e t, h => by
    obtain ⟨e1, e2⟩ := e
    simp only at e1 e2
    subst e1
    rw [List.lookup_cons] at h
    rw [List.lookup_cons]
    split at h
    · cases h
    · rename_i hb
      exact fp_none t h
theorem fp_length : ∀ {fvs : List (Str × V)} {fs : List (Str × D)}, Paired (FP K H) fvs fs → fvs.length = fs.length
  | _, _, .nil => rfl
  | _, _, .cons _ t => by rw [List.length_cons, List.length_cons, fp_length t]
theorem fp_put {f : Str} {y : V} {d : D} (r : Rep K H y d) : ∀ {fvs : List (Str × V)} {fs : List (Str × D)}, Paired (FP K H) fvs fs → Paired (FP K H) (putF f y fvs) (putD f d fs)
  | _, _, .nil => .cons ⟨rfl, r⟩ .nil
  | (g, x) :: l, (g', x') :: l', .cons e t => by
    obtain ⟨e1, e2⟩ := e
    simp only at e1 e2
    subst e1
    unfold putF putD
    split
    · exact .cons ⟨rfl, r⟩ t
    · exact .cons ⟨rfl, e2⟩ (fp_put r t)
end
/-- e.f -/
def dFld (C : Addr) (f : Str) (te : dE) : dE := fun env m Q => te env m fun d m1 => ∃ a fs v, d = .adr a ∧ m1 a = some (.ins C fs) ∧ fs.lookup f = some v ∧ Q v m1
/-- e.f = value -/
def dSFld (C : Addr) (f : Str) (tv te : dE) : dS := fun DD env m => tv env m fun y m1 => te env m1 fun d m2 => ∃ a fs, d = .adr a ∧ m2 a = some (.ins C fs) ∧ fs.length < 1000 ∧ DD.nx env (ups m2 a (.ins C (putD f y fs)))
section
variable {K : PySem.W.Frag} {X : Cx} {C : Addr} {e o value : Expr} {f : Str} {pos pos' : Pos} {ue uv : TE} {te tv : dE}
theorem WE.fld {ue : TE} {te : dE} (c : Cls K C) (n : NoAttr K C f) (h : WE K ue te) : WE K (tFld K ue f) (dFld C f te) := fun F env m Q σ H R q o p =>
  h F env m _ σ H _ q o fun v H1 d m1 e1 s1 r1 ⟨a, fs, w, hd, ha, hl, q1⟩ => by
    subst hd
    cases r1
    obtain ⟨dx, fvs, h1, h2⟩ := s1.ok a _ ha
    obtain ⟨u, hu, ru⟩ := fp_lookup h2 hl
    exact ⟨a, C, dx, fvs, u, rfl, h1, c, n, hu, p u H1 w m1 e1 s1 ru q1⟩
theorem d_fld (c : Cls K C) (n : NoAttr K C f) (h : DE K X e ue te) (hb : attributeBase e f X.env (eval e X.env) = eval e X.env := by rfl) (hK : X.K = K := by rfl) : DE K X (.Attribute e f pos) (tFld K ue f) (dFld C f te) := by
  subst hK
  exact ⟨pe_fld h.p hb, .fld c n h.w⟩
theorem s_fld (c : Cls K C) (n : NoAttr K C f) (hv : DE K X value uv tv) (h : DE K X o ue te) (hs : swapsWith value (some (.Attribute o f pos')) pos.line X.env = pure false := by rfl) (hK : X.K = K := by rfl) : DS K X (.Assign [.Attribute o f pos'] value pos) (sFld K ue uv f) (dSFld C f tv te) := by
  subst hK
  refine ⟨ps_fld h.p hv.p hs, fun F DD env m σ H RR q o p => hv.w F env m _ σ H _ q o fun y H1 d1 m1 e1 s1 r1 q1 => h.w F env m1 _ σ H1 _ q1 (o.at s1 e1) fun v H2 d m2 e2 s2 r2 ⟨a, fs, hd, ha, hl, q2⟩ => ?_⟩
  subst hd
  cases r2
  obtain ⟨dx, fvs, h1, h2⟩ := s2.ok a _ ha
  refine ⟨a, C, dx, fvs, rfl, h1, c, n, by rw [fp_length h2]; exact hl, ?_⟩
  have e12 := e1.trans e2
  have s3 : Stt X.K F (upd H2 a (.ins C dx (putF f y fvs))) (ups m2 a (.ins C (putD f d1 fs))) := s2.chg ha ⟨dx, _, upd_same, fp_put (r1.mono e2) h2⟩
  have e3 : hide F (upd H2 a (.ins C dx (putF f y fvs))) (ups m2 a (.ins C (putD f d1 fs))) = hide F H2 m2 := hide_chg ha
  refine p.nx σ _ env _ ?_ ⟨s3, ?_⟩ q2
  · rw [e3]; exact e12
  · rw [e3]; exact o.fr.mono e12
end

/-! ### methods, and making an instance -/
structure MDef (P : Program) (w : World) (K : PySem.W.Frag) (mg : Str → Option Value) (base : Heap) (C : Addr) (x : Str) (k : Nat) (pre : Pre) : Prop where
  ex : ∃ f fd ps, FnOk P w K mg base CX0 k f fd ps (spD K pre) ∧ Meth K C x f ∧ Binds K fd ps []
structure IDef (P : Program) (w : World) (K : PySem.W.Frag) (mg : Str → Option Value) (base : Heap) (C : Addr) (k : Nat) (pre : Pre) : Prop where
  ex : ∃ f fd ps, FnOk P w K mg base CX0 k f fd ps (spD K pre) ∧ Mk K C f ∧ Binds K fd ps []
def dMeth (C : Addr) (x : Str) (pre : Pre) (te : dE) (ta : dA) : dE := fun env m Q => te env m fun d m1 => ∃ a fs, d = .adr a ∧ m1 a = some (.ins C fs) ∧ fs.lookup x = none ∧ ta env m1 fun ds m2 => pre (d :: ds) m2 Q
def dMake (C : Addr) (pre : Pre) (ta : dA) : dE := fun env m Q => ta env m fun ds m1 => ∀ a, m1 a = none → pre (.adr a :: ds) (ups m1 a (.ins C [])) fun d m2 => d = .non ∧ Q (.adr a) m2
section
variable {K : PySem.W.Frag} {X : Cx} {C : Addr} {x : Str} {k : Nat} {pre : Pre} {o e : Expr} {es : List Expr} {ue : TE} {te : dE} {ta : TA} {da : dA} {p pos apos : Pos} {pl : Sem Bool}
theorem WE.meth {ue : TE} {te : dE} {ta : TA} {da : dA} (h : WE K ue te) (ha : WA K ta da) : WE K (tMeth C x (spD K pre) [] E0 ue ta) (dMeth C x pre te da) := fun F env m Q σ H R q o p =>
  h F env m _ σ H _ q o fun v H1 d m1 e1 s1 r1 ⟨a, fs, hd, hm, hl, q1⟩ => by
    subst hd
    cases r1
    obtain ⟨dx, fvs, h1, h2⟩ := s1.ok a _ hm
    refine ⟨a, dx, fvs, rfl, h1, fp_none h2 hl, ha F env m1 _ σ H1 _ q1 (o.at s1 e1) fun vs H2 ds m2 e2 s2 r2 q2 => ?_⟩
    rw [List.append_nil]
    exact ⟨F, _, m2, Q, s2, .cons (.adr _) r2, q2, p.at (e1.trans e2)⟩
theorem d_meth (h : MDef X.prog X.w K X.mg X.base C x k pre) (c : Cls K C) (hr : Room k X.A) (he : DE K X o ue te) (ha : DA K X (e :: es) ta da) (hst : starEach (e :: es) X.env = (false, eval e X.env) :: starEach es X.env := by rfl) (hpl : (backTo pos (starEach es X.env)).any (·.1) = false := by rfl)
    (ht : eval (.Call (.Attribute o x apos) (e :: es) [] pos) X.env = (do
      let ov ← eval o X.env
      standAt apos.atName
      let (f, first) ← holding [ov] (getMethod ov x pl)
      callWith pos f first (backTo pos (starEach (e :: es) X.env)) (backToKw pos (keywordEach [] X.env))) := by rfl) (hK : X.K = K := by rfl) : DE K X (.Call (.Attribute o x apos) (e :: es) [] pos) (tMeth C x (spD K pre) [] E0 ue ta) (dMeth C x pre te da) := by
  subst hK
  obtain ⟨f, fd, ps, F, hm, hb⟩ := h.ex
  exact ⟨pe_meth he.p c hm F hr hb .nil pass0 ha.p hst hpl ht, .meth he.w ha.w⟩
theorem d_meth0 (h : MDef X.prog X.w K X.mg X.base C x k pre) (c : Cls K C) (hr : Room k X.A) (he : DE K X o ue te)
    (ht : eval (.Call (.Attribute o x apos) [] [] pos) X.env = (do
      let ov ← eval o X.env
      standAt apos.atName
      let (f, first) ← holding [ov] (getMethod ov x pl)
      callWith pos f first (backTo pos (starEach [] X.env)) (backToKw pos (keywordEach [] X.env))) := by rfl) (hK : X.K = K := by rfl) : DE K X (.Call (.Attribute o x apos) [] [] pos) (tMeth C x (spD K pre) [] E0 ue tNil) (dMeth C x pre te dNil) := by
  subst hK
  obtain ⟨f, fd, ps, F, hm, hb⟩ := h.ex
  exact ⟨pe_meth0 he.p c hm F hr hb .nil pass0 ht, .meth he.w fun F env m Q σ H R q o p => p [] H [] m Ext.refl o.st .nil q⟩
theorem WE.make {ta : TA} {da : dA} (ha : WA K ta da) : WE K (tMake C (spD K pre) [] E0 ta) (dMake C pre da) := fun F env m Q σ H R q o p =>
  ha F env m _ σ H _ q o fun vs H1 ds m1 e1 s1 r1 q1 x dx hx hdx hne => by
    rw [List.append_nil]
    have s2 := s1.new (o := .own x) hdx
    have e2 := Ext.new (o := .own x) s1 hdx
    have hx2 : (upd H1 dx (.own x)) x = none := by rw [upd_ne hne.symm]; exact hx
    have s3 : Stt K F (upd (upd H1 dx (.own x)) x (.ins C dx [])) (ups m1 x (.ins C [])) := s2.newM hx2 ⟨dx, [], upd_same, .nil⟩
    have e3 : Ext (hide F (upd H1 dx (.own x)) m1) (hide F (upd (upd H1 dx (.own x)) x (.ins C dx [])) (ups m1 x (.ins C []))) := Ext.newM s2 hx2
    have e23 := e2.trans e3
    refine ⟨F, _, _, _, s3, .cons (.adr _) (r1.mono e23), q1 x (s1.free hx), fun v H' d m' e4 s4 r4 ⟨hd, q4⟩ => ?_⟩
    subst hd
    cases r4
    exact ⟨rfl, p _ H' _ m' ((e1.trans e23).trans e4) s4 (.adr _) q4⟩
theorem d_make (h : IDef X.prog X.w K X.mg X.base C k pre) (hr : Room (k + 1) X.A) (hm : X.mg x = some (.ref C)) (ha : DA K X (e :: es) ta da) (hg : Gl X x := by rfl) (hdb : (x == ("__debug__" : Str)) = false := by decide)
    (he : starEach (e :: es) X.env = (false, eval e X.env) :: starEach es X.env := by rfl) (hpl : (backTo pos (starEach es X.env)).any (·.1) = false := by rfl) (hK : X.K = K := by rfl) : DE K X (.Call (.Name x p) (e :: es) [] pos) (tMake C (spD K pre) [] E0 ta) (dMake C pre da) := by
  subst hK
  obtain ⟨f, fd, ps, F, M, hb⟩ := h.ex
  exact ⟨pe_make M F hr hg hm hb .nil pass0 ha.p hdb he hpl, .make ha.w⟩
end
/-- a method as the top has it -/
structure HasM (K : PySem.W.Frag) (C : Addr) (x qual : Str) (st : Stmt) : Prop where
  ex : ∃ f fd, Fun K x qual st f fd ∧ Meth K C x f
structure HasI (K : PySem.W.Frag) (C : Addr) (qual : Str) (st : Stmt) : Prop where
  ex : ∃ f fd, Fun K "__init__" qual st f fd ∧ Mk K C f
section
variable {P : Program} {w : World} {K : PySem.W.Frag} {mg : Str → Option Value} {base : Heap} {C : Addr} {x qual : Str} {st : Stmt} {k : Nat} {pre : Pre} {ps : List Str}
theorem MDef.of (h : HasM K C x qual st) (hb : ∀ (kV doc pm : Value) (an : Option Addr) (cdv ct : Value) (us : List Value), us.length = ps.length → bindArgs (PySem.W.fnOf x qual (defArgs st) (defBody st) (defScope st) .none kV doc pm an cdv ct) ⟨us, []⟩ = pure (ps.zip us))
    (ok : ∀ f fd, Fun K x qual st f fd → FnOk P w K mg base CX0 k f fd ps (spD K pre)) : MDef P w K mg base C x k pre := by
  obtain ⟨f, fd, F, hm⟩ := h.ex
  exact ⟨f, fd, ps, ok f fd F, hm, F.binds hb⟩
theorem IDef.of (h : HasI K C qual st) (hb : ∀ (kV doc pm : Value) (an : Option Addr) (cdv ct : Value) (us : List Value), us.length = ps.length → bindArgs (PySem.W.fnOf "__init__" qual (defArgs st) (defBody st) (defScope st) .none kV doc pm an cdv ct) ⟨us, []⟩ = pure (ps.zip us))
    (ok : ∀ f fd, Fun K "__init__" qual st f fd → FnOk P w K mg base CX0 k f fd ps (spD K pre)) : IDef P w K mg base C k pre := by
  obtain ⟨f, fd, F, hm⟩ := h.ex
  exact ⟨f, fd, ps, ok f fd F, hm, F.binds hb⟩
end
theorem i_zip {K : PySem.W.Frag} {X : Cx} {e e2 : Expr} {ta : TA} {da : dA} {elts : List Expr} {kk : Nat} {p pos tpos : Pos} (hm : X.mg "zip" = none) (ha : DA K X [e, e2] ta da) (hg : Gl X "zip" := by rfl)
    (hs : starEach [e, e2] X.env = (false, eval e X.env) :: starEach [e2] X.env := by rfl) (hpl : (backTo pos (starEach [e2] X.env)).any (·.1) = false := by rfl) (hK : X.K = K := by rfl) :
    DI K X (.Tuple elts kk tpos) (.Call (.Name "zip" p) [e, e2] [] pos) (iZip K ta) (jZip da) := by
  subst hK
  refine ⟨pi_zip hg hm ha.p hs hpl, fun F env m Q σ H R q o p => ha.w F env m _ σ H _ q o fun v H1 ds m1 e1 s1 r1 q1 => ?_⟩
  obtain ⟨d, e', xs, ys, rfl, hx, hy, q⟩ := q1
  obtain ⟨v, u, rfl, r, r'⟩ := r1.inv2
  obtain ⟨a, vs, rfl, h1, h2, h3⟩ := stays s1 r hx
  obtain ⟨b, us, rfl, g1, g2, g3⟩ := stays s1 r' hy
  exact ⟨a, b, vs, us, rfl, h1, g1, p _ H1 _ m1 e1 s1 (wlk_zip h3 g3 h2 g2) q⟩
/-! ### a list that an attribute holds comes to rest -/
theorem fp_alt {K : PySem.W.Frag} {H : Hp} {f : Str} {d d' : D} (q : ∀ v, Rep K H v d → Rep K H v d') : ∀ {fvs : List (Str × V)} {fs : List (Str × D)}, Paired (FP K H) fvs fs → fs.lookup f = some d → Paired (FP K H) fvs (putD f d' fs)
  | _, _, .nil, h => by cases h
  | (g, x) :: l, (g', x') :: l', .cons e t, h => by
    obtain ⟨e1, e2⟩ := e
    simp only at e1 e2
    subst e1
    unfold putD
    rw [List.lookup_cons] at h
    by_cases hg : g = f
    · rw [if_pos hg]
      subst hg
      simp only [BEq.rfl] at h
      cases h
      exact .cons ⟨rfl, q _ e2⟩ t
    · rw [if_neg hg]
      have : (f == g) = false := by simpa using fun z => hg z.symm
      rw [this] at h
      exact .cons ⟨rfl, e2⟩ (fp_alt q t h)
def dFzF (f : Str) (t : dS) : dS := fun DD env m => ∃ a b C fs ds, m a = some (.ins C fs) ∧ fs.lookup f = some (.adr b) ∧ m b = some (.lst ds) ∧ a ≠ b ∧ t DD env (ups (del m b) a (.ins C (putD f (.list ds) fs)))
theorem ss_fzF {K : PySem.W.Frag} {X : Cx} (f : Str) {sts : List Stmt} {ts : TS} {t : dS} (h : DSs K X sts ts t) : DSs K X sts ts (dFzF f t) := ⟨h.p, fun F DD env m σ H RR q o p => by
  obtain ⟨a, b, C, fs, ds, h1, h2, h3, ne, q⟩ := q
  have h1' : del m b a = some (.ins C fs) := by unfold del; rw [if_neg ne]; exact h1
  have hF := o.st.apart h3
  obtain ⟨vs, e, r⟩ := o.st.ok _ _ h3
  have s2 : Stt K F H (ups (del m b) a (.ins C (putD f (.list ds) fs))) := o.st.del.re h1' fun ⟨dx, fvs, g1, g2⟩ => ⟨dx, fvs, g1, fp_alt (fun v rv => by
    cases rv
    exact .list (by rw [hide_at (by unfold del; rw [if_pos rfl]) hF]; exact e) (r.mono Ext.del)) g2 h2⟩
  have e2 : hide F H (ups (del m b) a (.ins C (putD f (.list ds) fs))) = hide F H (del m b) := hide_re h1'
  refine h.w F DD env _ σ H RR q ⟨s2, ?_⟩ ?_
  · rw [e2]; exact o.fr.mono Ext.del
  · exact p.at (by rw [e2]; exact Ext.del)⟩
section
variable {DD : dEnds} {env : Dq.Env} {m : Mu} {te to : dE} {u : dS} {C a : Addr} {f : Str} {fs : List (Str × D)}
theorem q_sfld (d : D) (hv : ∀ Q : D → Mu → Prop, Q d m → te env m Q) (ho : ∀ Q : D → Mu → Prop, Q (.adr a) m → to env m Q) (ha : m a = some (.ins C fs)) (hl : fs.length < 1000) (k : u DD env (ups m a (.ins C (putD f d fs)))) : dSeq (dSFld C f te to) u DD env m :=
  hv _ (ho _ ⟨a, fs, rfl, ha, hl, k⟩)
theorem q_sfldNew {ds : List D} (hv : ∀ Q : D → Mu → Prop, (∀ c, m c = none → Q (.adr c) (ups m c (.lst ds))) → te env m Q) (ho : ∀ (m1 : Mu) (Q : D → Mu → Prop), Q (.adr a) m1 → to env m1 Q) (ha : m a = some (.ins C fs)) (hl : fs.length < 1000)
    (k : ∀ c, m c = none → a ≠ c → u DD env (ups (ups m c (.lst ds)) a (.ins C (putD f (.adr c) fs)))) : dSeq (dSFld C f te to) u DD env m :=
  hv _ fun c hc => ho _ _ (by
    have ne : a ≠ c := by
      rintro rfl
      rw [ha] at hc
      cases hc
    exact ⟨a, fs, rfl, by rw [ups_ne ne]; exact ha, hl, k c hc ne⟩)
/-- the same as the last statement -/
theorem s_sfldNew {ds : List D} (hv : ∀ Q : D → Mu → Prop, (∀ c, m c = none → Q (.adr c) (ups m c (.lst ds))) → te env m Q) (ho : ∀ (m1 : Mu) (Q : D → Mu → Prop), Q (.adr a) m1 → to env m1 Q) (ha : m a = some (.ins C fs)) (hl : fs.length < 1000)
    (k : ∀ c, m c = none → a ≠ c → DD.nx env (ups (ups m c (.lst ds)) a (.ins C (putD f (.adr c) fs)))) : dSFld C f te to DD env m :=
  hv _ fun c hc => ho _ _ (by
    have ne : a ≠ c := by
      rintro rfl
      rw [ha] at hc
      cases hc
    exact ⟨a, fs, rfl, by rw [ups_ne ne]; exact ha, hl, k c hc ne⟩)
end
theorem zipD_map {α β : Type} (f : α → D) (g : β → D) : ∀ (a : List α) (b : List β), zipD (a.map f) (b.map g) = (a.zip b).map fun x => .tuple [f x.1, g x.2]
  | [], _ => rfl
  | _ :: _, [] => rfl
  | x :: a, y :: b => by
    rw [List.map_cons, List.map_cons, zipD, zipD_map f g a b]
    rfl
/-- xs.remove(k), whole numbers -/
def remD (x : D) (ds : List D) (m : Mu) (Q : D → Mu → Prop) : Prop := ∃ (a : Addr) (ns : List Int) (k : Int), x = .adr a ∧ ds = [.int k] ∧ m a = some (.lst (ns.map D.int)) ∧ k ∈ ns ∧ Q .non (ups m a (.lst ((ns.erase k).map D.int)))
theorem first_of {k : Int} : ∀ {ns : List Int}, k ∈ ns → ∃ j, ns[j]? = some k ∧ (∀ i : Nat, i < j → ns[i]? ≠ some k) ∧ ns.erase k = ns.eraseIdx j
  | x :: ns, h => by
    by_cases hx : x = k
    · subst hx
      exact ⟨0, rfl, nofun, by simp⟩
    · have hm : k ∈ ns := by
        rcases List.mem_cons.mp h with e | e
        · exact absurd e.symm hx
        · exact e
      obtain ⟨j, h1, h2, h3⟩ := first_of hm
      refine ⟨j + 1, by simpa using h1, fun i hi => ?_, ?_⟩
      · cases i with
        | zero => simpa using hx
        | succ i => simpa using h2 i (by omega)
      · rw [List.erase_cons, if_neg (by simpa using hx), h3, List.eraseIdx_cons_succ]
theorem md_remove {K : PySem.W.Frag} : MtD K "list" rRemI remD := fun F H m v x vs ds Q R q s rx rs p => by
  obtain ⟨a, ns, k, rfl, rfl, ha, hk, q⟩ := q
  cases rx
  obtain ⟨w, rfl, rw'⟩ := rs.inv1
  cases rw'
  obtain ⟨us, hu, rus⟩ := s.ok _ _ ha
  have e := reps_ints rus
  subst e
  obtain ⟨j, h1, h2, h3⟩ := first_of hk
  rw [h3] at q
  exact ⟨a, ns, k, j, rfl, rfl, hu, h1, h2, p.chgL s ha of_ints .non q⟩
section
variable {DD : dEnds} {env : Dq.Env} {m : Mu} {te : dE} {c : dT} {t u v : dS}
/-- an if whose test is drawn -/
theorem q_ifP (M : Dq.Env → Mu → Prop) (P : Bool → Prop) (h : ∀ Q : Bool → Mu → Prop, (∀ b, P b → Q b m) → c env m Q) (h1 : P true → ∀ N : Dq.Env → Mu → Prop, (∀ e m', M e m' → N e m') → t { DD with nx := N } env m)
    (h2 : P false → ∀ N : Dq.Env → Mu → Prop, (∀ e m', M e m' → N e m') → u { DD with nx := N } env m) (k : ∀ e m', M e m' → v DD e m') : dSeq (dIfS c t u) v DD env m := by
  refine h _ fun b hb => ?_
  cases b with
  | true => exact h1 hb _ k
  | false => exact h2 hb _ k
/-- a call whose store is known by a property -/
theorem q_dropP (P : Mu → Prop) (h : ∀ Q : D → Mu → Prop, (∀ d m1, P m1 → Q d m1) → te env m Q) (k : ∀ m1, P m1 → u DD env m1) : dSeq (dDrop te) u DD env m := h _ fun _ m1 p => k m1 p
end
/-- a, b, .. = a list of that length -/
def hUnl (n : Nat) (t : dGs) : dG := fun d env m Q => ∃ xs, vwL m d = some xs ∧ xs.length = n ∧ t xs env m Q
theorem g_unl {K : PySem.W.Frag} {X : Cx} {pos : Pos} {es : List Expr} {k : Nat} {g : TGs} {t : dGs} {n : Nat} (h : DGs K X es g t) (hc : X.calm = true := by rfl) (hn : (assignEach es X.env).length = n := by rfl) (hst : (assignEach es X.env).findIdx? (·.1) = none := by rfl) (hK : X.K = K := by rfl) : DG K X (.Tuple es k pos) (gUnl K n g) (hUnl n t) := by
  subst hK
  obtain ⟨h1, w1⟩ := h
  refine ⟨pg_unl hc h1 hn hst, fun F d env m Q v σ H R q o r p => ?_⟩
  obtain ⟨xs, hx, hl, q⟩ := q
  obtain ⟨a, vs, rfl, ha, ra⟩ := lst_of o.st r hx
  exact ⟨a, vs, rfl, .of ha, ra.length.trans hl, w1 F xs env m Q _ σ H R q o ra p⟩
/-- a loop of two turns -/
theorem q_for2 {DD : dEnds} {env : Dq.Env} {m : Mu} {wi : dI} {g : dG} {t u : dS} (P1 P2 : Dq.Env → Mu → Prop) (hi : ∀ Q : List D → Mu → Prop, Q ((List.range 2).map fun i : Nat => .int (i : Nat)) m → wi env m Q)
    (h1 : ∀ nx : Dq.Env → Mu → Prop, (∀ e m, P1 e m → nx e m) → g (.int 0) env m fun e1 m1 => t { DD with nx := nx, ct := nx, bk := u DD } e1 m1)
    (h2 : ∀ e m', P1 e m' → ∀ nx : Dq.Env → Mu → Prop, (∀ e m, P2 e m → nx e m) → g (.int 1) e m' fun e1 m1 => t { DD with nx := nx, ct := nx, bk := u DD } e1 m1)
    (hd : ∀ e m', P2 e m' → u DD e m') : dSeq (dFor wi g t) u DD env m := by
  refine q_for ((List.range 2).map fun i : Nat => .int (i : Nat)) hi (fun i e m' => match i with | 0 => e = env ∧ m' = m | 1 => P1 e m' | _ => P2 e m') ⟨rfl, rfl⟩ (fun i d hd' e m' hW nx hnx => ?_) fun e m' hW => hd e m' hW
  match i, hd' with
  | 0, hd' =>
    cases hd'
    obtain ⟨rfl, rfl⟩ := hW
    exact h1 nx hnx
  | 1, hd' =>
    cases hd'
    exact h2 e m' hW nx hnx
  | i + 2, hd' => cases hd'
/-- a test that changes the store, and is false -/
theorem q_whenP {DD : dEnds} {env : Dq.Env} {m : Mu} {c : dT} {t v : dS} (P : Mu → Prop) (h : ∀ Q : Bool → Mu → Prop, (∀ m1, P m1 → Q false m1) → c env m Q) (k : ∀ m1, P m1 → v DD env m1) : dSeq (dIfS c t dNext) v DD env m := by
  refine h _ fun m1 p => ?_
  show if false = true then _ else _
  rw [if_neg (by decide)]
  exact k m1 p
/-- xs[i] = v of a list of the store -/
theorem q_setS {DD : dEnds} {env : Dq.Env} {m m1 : Mu} {tv to ti : dE} {u : dS} (h : ∀ Q : Dq.Env → Mu → Prop, Q env m1 → dSetS tv to ti { DD with nx := Q } env m) (k : u DD env m1) : dSeq (dSetS tv to ti) u DD env m := h _ k
theorem s_dropP {DD : dEnds} {env : Dq.Env} {m : Mu} {te : dE} (P : Mu → Prop) (h : ∀ Q : D → Mu → Prop, (∀ d m1, P m1 → Q d m1) → te env m Q) (k : ∀ m1, P m1 → DD.nx env m1) : dDrop te DD env m := h _ fun _ m1 p => k m1 p
/-- the greatest of three whole numbers -/
def max3D (ds : List D) (m : Mu) (Q : D → Mu → Prop) : Prop := ∃ i j k : Int, ds = [.int i, .int j, .int k] ∧ Q (.int (max (max i j) k)) m
theorem nu_max (i j : Int) : nuMax2 (.int i) (.int j) = some (.int (max i j)) := by
  unfold nuMax2 nuLt nuCB
  simp only [Option.map_some, decide_eq_true_eq, Option.some.injEq]
  by_cases h : i < j
  · rw [if_pos h, Int.max_eq_right (by omega)]
  · rw [if_neg h, Int.max_eq_left (by omega)]
theorem cd_max3 {K : PySem.W.Frag} : CallD K (rNuC3 nuMax3) max3D := fun F H m vs ds Q R q s rs p => by
  obtain ⟨i, j, k, rfl, q⟩ := q
  cases rs with
  | cons r1 rs =>
    obtain ⟨v, u, rfl, r2, r3⟩ := rs.inv2
    cases r1; cases r2; cases r3
    refine ⟨_, _, _, _, rfl, ?_, p.here s (.int _) q⟩
    unfold nuMax3
    rw [nu_max]
    exact nu_max _ _
end Dq

/-! dicts with whole numbers and texts as keys, or tuples of these -/
namespace Dq
open PySem L2 PyProof.Rows
/-! ### tables of deep data -/
section
variable {κ : Type} [DecidableEq κ]
def valD (kvs : List (κ × D)) (k : κ) : Option D := (kvs.find? fun kv => decide (kv.1 = k)).map (·.2)
def hasD (kvs : List (κ × D)) (k : κ) : Bool := kvs.any fun kv => decide (kv.1 = k)
def putT (kvs : List (κ × D)) (k : κ) (v : D) : List (κ × D) := if hasD kvs k = true then kvs.map (fun kv => if kv.1 = k then (kv.1, v) else kv) else kvs ++ [(k, v)]
def dropT (kvs : List (κ × D)) (k : κ) : List (κ × D) := kvs.filter fun kv => decide (kv.1 ≠ k)
def mergeT (kvs more : List (κ × D)) : List (κ × D) := more.foldl (fun acc kv => putT acc kv.1 kv.2) kvs
/-- a table of values, a table of deep data -/
abbrev PR (K : PySem.W.Frag) (H : Hp) : List (κ × V) → List (κ × D) → Prop := Paired fun a b => a.1 = b.1 ∧ Rep K H a.2 b.2
variable {K : PySem.W.Frag} {H : Hp}
theorem pr_len : ∀ {a : List (κ × V)} {b : List (κ × D)}, PR K H a b → a.length = b.length
  | _, _, .nil => rfl
  | _, _, .cons _ t => by rw [List.length_cons, List.length_cons, pr_len t]
theorem valV_cons (p : κ × V) (r : List (κ × V)) (k : κ) : valV (p :: r) k = if p.1 = k then some p.2 else valV r k := by
  by_cases h : p.1 = k
  · rw [if_pos h, valV_pos h]
  · rw [if_neg h, valV_neg h]
theorem valD_cons (p : κ × D) (r : List (κ × D)) (k : κ) : valD (p :: r) k = if p.1 = k then some p.2 else valD r k := by
  unfold valD
  rw [List.find?_cons]
  by_cases h : p.1 = k
  · rw [if_pos h, decide_eq_true h] <;> rfl
  · rw [if_neg h, decide_eq_false h] <;> rfl
theorem pr_val {k : κ} : ∀ {a : List (κ × V)} {b : List (κ × D)}, PR K H a b → (valD b k = none → valV a k = none) ∧ ∀ d, valD b k = some d → ∃ v, valV a k = some v ∧ Rep K H v d
  | _, _, .nil => ⟨fun _ => rfl, nofun⟩
  | _, _, .cons (a := p) (b := q) ⟨h1, h2⟩ t => by
    rw [valV_cons, valD_cons, h1]
    by_cases e : q.1 = k
    · rw [if_pos e, if_pos e]
      exact ⟨nofun, fun d hd => by cases hd; exact ⟨_, rfl, h2⟩⟩
    · rw [if_neg e, if_neg e]
      exact pr_val t
theorem hasD_val (b : List (κ × D)) (k : κ) : hasD b k = (valD b k).isSome := by
  induction b with
  | nil => rfl
  | cons p r ih =>
    rw [valD_cons]
    unfold hasD at ih ⊢
    rw [List.any_cons, ih]
    by_cases e : p.1 = k
    · rw [if_pos e, decide_eq_true e]; rfl
    · rw [if_neg e, decide_eq_false e]; rfl
theorem pr_some {k : κ} {a : List (κ × V)} {b : List (κ × D)} (h : PR K H a b) : (valV a k).isSome = (valD b k).isSome := by
  cases e : valD b k with
  | none => rw [(pr_val h).1 e]; rfl
  | some d =>
    obtain ⟨v, hv, _⟩ := (pr_val h).2 d e
    rw [hv]; rfl
theorem pr_append : ∀ {a : List (κ × V)} {b : List (κ × D)} {a2 : List (κ × V)} {b2 : List (κ × D)}, PR K H a b → PR K H a2 b2 → PR K H (a ++ a2) (b ++ b2)
  | _, _, _, _, .nil, h => h
  | _, _, _, _, .cons h t, h2 => .cons h (pr_append t h2)
theorem pr_map {k : κ} {v : V} {d : D} (r : Rep K H v d) : ∀ {a : List (κ × V)} {b : List (κ × D)}, PR K H a b → PR K H (a.map fun kv => if kv.1 = k then (kv.1, v) else kv) (b.map fun kv => if kv.1 = k then (kv.1, d) else kv)
  | _, _, .nil => .nil
  | _, _, .cons (a := p) (b := q) ⟨h1, h2⟩ t => by
    rw [List.map_cons, List.map_cons]
    refine .cons ?_ (pr_map r t)
    simp only [h1]
    split
    · exact ⟨rfl, r⟩
    · exact ⟨h1, h2⟩
theorem pr_put {k : κ} {v : V} {d : D} (r : Rep K H v d) {a : List (κ × V)} {b : List (κ × D)} (h : PR K H a b) : PR K H (putK a k v) (putT b k d) := by
  unfold putK putT
  rw [valV_any, hasD_val, pr_some h]
  split
  · exact pr_map r h
  · exact pr_append h (.cons ⟨rfl, r⟩ .nil)
theorem pr_drop {k : κ} : ∀ {a : List (κ × V)} {b : List (κ × D)}, PR K H a b → PR K H (dropK a k) (dropT b k)
  | _, _, .nil => .nil
  | _, _, .cons (a := p) (b := q) ⟨h1, h2⟩ t => by
    have ih := pr_drop (k := k) t
    unfold dropK dropT at ih ⊢
    rw [List.filter_cons, List.filter_cons, h1]
    split
    · exact .cons ⟨h1, h2⟩ ih
    · exact ih
theorem pr_mono {H' : Hp} (e : Ext H H') {a : List (κ × V)} {b : List (κ × D)} (h : PR K H a b) : PR K H' a b := Paired.monoR h fun _ _ z => ⟨z.1, z.2.mono e⟩
end
section
variable {K : PySem.W.Frag} {H : Hp}
theorem pr_merge {a2 : List (Key × V)} {b2 : List (Key × D)} (t : PR K H a2 b2) : ∀ {a : List (Key × V)} {b : List (Key × D)}, PR K H a b → PR K H (mergeK a a2) (mergeT b b2) := by
  induction t with
  | nil => exact fun h => h
  | @cons p q ps qs h1 t ih =>
    intro a b h
    have e : mergeK a (p :: ps) = mergeK (putK a p.1 p.2) ps := rfl
    rw [e, h1.1]
    exact ih (pr_put (k := q.1) h1.2 h)
theorem RepK.pr : ∀ {a : List (Key × V)} {b : List (Key × D)}, RepK K H a b → PR K H a b
  | _, _, .nil => .nil
  | _, _, .cons r t => .cons ⟨rfl, r⟩ t.pr
theorem RepT.pr : ∀ {a : List (List Key × V)} {b : List (List Key × D)}, RepT K H a b → PR K H a b
  | _, _, .nil => .nil
  | _, _, .cons r t => .cons ⟨rfl, r⟩ t.pr
theorem repK_of : ∀ {a : List (Key × V)} {b : List (Key × D)}, PR K H a b → RepK K H a b
  | _, _, .nil => .nil
  | (_, _) :: _, (_, _) :: _, .cons ⟨h1, h2⟩ t => by
    cases h1
    exact .cons h2 (repK_of t)
theorem repT_of : ∀ {a : List (List Key × V)} {b : List (List Key × D)}, PR K H a b → RepT K H a b
  | _, _, .nil => .nil
  | (_, _) :: _, (_, _) :: _, .cons ⟨h1, h2⟩ t => by
    cases h1
    exact .cons h2 (repT_of t)
end
/-! ### keys -/
def kD : Key → D
  | .inl i => .int i
  | .inr x => .str x
def keyOf : D → Option Key
  | .int i => some (.inl i)
  | .str s => some (.inr s)
  | _ => none
theorem keyOf_int {i : Int} : keyOf (.int i) = some (.inl i) := rfl
theorem keyOf_str {i : Str} : keyOf (.str i) = some (.inr i) := rfl
section
variable {K : PySem.W.Frag} {F H : Hp} {m : Mu} {v : V} {d : D}
theorem keyOf_rep {k : Key} (r : Rep K H v d) (h : keyOf d = some k) : v = kV k := by
  cases r <;> cases h <;> rfl
theorem kD_rep {k : Key} : Rep K H (kV k) (kD k) := by
  cases k with
  | inl i => exact .int i
  | inr x => exact .str x
theorem rep_kD {k : Key} (r : Rep K H v (kD k)) : v = kV k := by
  cases k with
  | inl i => cases r; rfl
  | inr x => cases r; rfl
theorem reps_kD : ∀ {ks : List Key} {vs : List V}, Reps K H vs (ks.map kD) → vs = ks.map kV
  | [], _, .nil => rfl
  | k :: ks, _, .cons r t => by rw [rep_kD r, reps_kD t, List.map_cons]
theorem kDs_rep : ∀ {ks : List Key}, Reps K H (ks.map kV) (ks.map kD)
  | [] => .nil
  | k :: ks => .cons kD_rep kDs_rep
/-- what a value is as a dict -/
def vwK (m : Mu) : D → Option (List (Key × D))
  | .dict ks => some ks
  | .adr p => match m p with
    | some (.dK ks) => some ks
    | _ => none
  | _ => none
def vwT (m : Mu) : D → Option (List (List Key × D))
  | .dicT ks => some ks
  | .adr p => match m p with
    | some (.dT ks) => some ks
    | _ => none
  | _ => none
theorem dk_view {ks : List (Key × D)} (s : Stt K F H m) (r : Rep K (hide F H m) v d) (h : vwK m d = some ks) : ∃ a kvs, v = .ref a ∧ Rd H a (.dK kvs) ∧ PR K (hide F H m) kvs ks := by
  cases d with
  | dict ys =>
    cases h
    cases r with
    | dict e r => exact ⟨_, _, rfl, rd_same (fun _ _ h => hide_le h) e, r.pr⟩
  | adr p =>
    cases r
    unfold vwK at h
    simp only at h
    split at h
    · rename_i z hz
      cases h
      obtain ⟨vs, e, r⟩ := s.ok _ _ hz
      exact ⟨_, _, rfl, .inl e, r.pr⟩
    · cases h
  | _ => cases h
theorem dt_view {ks : List (List Key × D)} (s : Stt K F H m) (r : Rep K (hide F H m) v d) (h : vwT m d = some ks) : ∃ a kvs, v = .ref a ∧ Rd H a (.dT kvs) ∧ PR K (hide F H m) kvs ks := by
  cases d with
  | dicT ys =>
    cases h
    cases r with
    | dicT e r => exact ⟨_, _, rfl, rd_same (fun _ _ h => hide_le h) e, r.pr⟩
  | adr p =>
    cases r
    unfold vwT at h
    simp only at h
    split at h
    · rename_i z hz
      cases h
      obtain ⟨vs, e, r⟩ := s.ok _ _ hz
      exact ⟨_, _, rfl, .inl e, r.pr⟩
    · cases h
  | _ => cases h
/-- a new dict: data (false), or one that may change (true) -/
def mkD (b : Bool) (ks : List (Key × D)) (m : Mu) (Q : D → Mu → Prop) : Prop := match b with
  | false => Q (.dict ks) m
  | true => ∀ a, m a = none → Q (.adr a) (ups m a (.dK ks))
def mkDT (b : Bool) (ks : List (List Key × D)) (m : Mu) (Q : D → Mu → Prop) : Prop := match b with
  | false => Q (.dicT ks) m
  | true => ∀ a, m a = none → Q (.adr a) (ups m a (.dT ks))
theorem Pst.newD {Q : D → Mu → Prop} {R : VK} (b : Bool) (p : Pst K F H m Q R) (s : Stt K F H m) {kvs : List (Key × V)} {ks : List (Key × D)} (r : PR K (hide F H m) kvs ks) (q : mkD b ks m Q) (a : Addr) (h : H a = none) : R (.ref a) (upd H a (.dK kvs)) := by
  cases b with
  | false => exact p _ _ _ m (Ext.new s h) (s.new h) (.dict (.inl (by rw [hide_at (s.free h) (s.freeF h), upd_same])) (repK_of (pr_mono (Ext.new s h) r))) q
  | true => exact p _ _ _ _ (Ext.newM s h) (s.newM h (show MOk K _ _ a (.dK ks) from ⟨kvs, upd_same, repK_of (pr_mono (Ext.newM s h) r)⟩)) (.adr a) (q a (s.free h))
theorem Pst.newDT {Q : D → Mu → Prop} {R : VK} (b : Bool) (p : Pst K F H m Q R) (s : Stt K F H m) {kvs : List (List Key × V)} {ks : List (List Key × D)} (r : PR K (hide F H m) kvs ks) (q : mkDT b ks m Q) (a : Addr) (h : H a = none) : R (.ref a) (upd H a (.dT kvs)) := by
  cases b with
  | false => exact p _ _ _ m (Ext.new s h) (s.new h) (.dicT (.inl (by rw [hide_at (s.free h) (s.freeF h), upd_same])) (repT_of (pr_mono (Ext.new s h) r))) q
  | true => exact p _ _ _ _ (Ext.newM s h) (s.newM h (show MOk K _ _ a (.dT ks) from ⟨kvs, upd_same, repT_of (pr_mono (Ext.newM s h) r)⟩)) (.adr a) (q a (s.free h))
end
/-! ### reading -/
def dgetD (x y : D) (m : Mu) (Q : D → Mu → Prop) : Prop := ∃ ks, vwK m x = some ks ∧ ∃ k, keyOf y = some k ∧ ∃ v, valD ks k = some v ∧ Q v m
def dgetT (x y : D) (m : Mu) (Q : D → Mu → Prop) : Prop := ∃ ks, vwT m x = some ks ∧ ∃ k, y = .tuple (k.map kD) ∧ ∃ v, valD ks k = some v ∧ Q v m
def rDI (n : Bool) : R2 := fun y x H Q => ∃ a o, x = .ref a ∧ DGet H a y o ∧ Q (.bl (cond n (!o.isSome) o.isSome)) H
def dinD (n : Bool) (y x : D) (m : Mu) (Q : D → Mu → Prop) : Prop := ∃ ks, vwK m x = some ks ∧ ∃ k, keyOf y = some k ∧ Q (.bl (cond n (!(valD ks k).isSome) (valD ks k).isSome)) m
def dinT (n : Bool) (y x : D) (m : Mu) (Q : D → Mu → Prop) : Prop := ∃ ks, vwT m x = some ks ∧ ∃ k, y = .tuple (k.map kD) ∧ Q (.bl (cond n (!(valD ks k).isSome) (valD ks k).isSome)) m
section
variable {K : PySem.W.Frag} {X : Cx} {o i e f value : Expr} {td ty tv tx : TE} {dd dy dv dx : dE} {pos pos' apos cpos : Pos}
theorem op_dIn (hu : X.A.units + 1 < cLine) : OpR X (compareOp .In) (rDI false) := fun pins s σ H y x v u Q I ry rx ⟨a, o, ex, g, q⟩ => by
  subst ex
  cases rx
  exact d_in hu I g ry fun s3 I3 => ⟨.bl _, H, I3, rfl, q⟩
theorem op_dNotIn (hu : X.A.units + 1 < cLine) : OpR X (compareOp .NotIn) (rDI true) := fun pins s σ H y x v u Q I ry rx ⟨a, o, ex, g, q⟩ => by
  subst ex
  cases rx
  exact d_notIn hu I g ry fun s3 I3 => ⟨.bl _, H, I3, rfl, q⟩
theorem opd_dIn (n : Bool) : OpD K (rDI n) (dinD n) := fun F H m x y v u Q R q s rx ry p => by
  obtain ⟨ks, hx, k, hk, q⟩ := q
  obtain ⟨a, kvs, rfl, ha, ra⟩ := dk_view s ry hx
  rw [keyOf_rep rx hk]
  refine ⟨a, _, rfl, .inl ⟨kvs, k, ha, rfl, rfl⟩, ?_⟩
  rw [pr_some ra]
  exact p.here s (.bl _) q
theorem opd_dInT (n : Bool) : OpD K (rDI n) (dinT n) := fun F H m x y v u Q R q s rx ry p => by
  obtain ⟨ks, hx, k, rfl, q⟩ := q
  obtain ⟨a, kvs, rfl, ha, ra⟩ := dt_view s ry hx
  cases rx with
  | tuple e r =>
    rw [reps_kD r] at e
    refine ⟨a, _, rfl, .inr ⟨kvs, k, _, ha, rfl, hide_le e, rfl⟩, ?_⟩
    rw [pr_some ra]
    exact p.here s (.bl _) q
theorem d_dget (hu : X.A.units + 1 < cLine) (ho : DE K X o td dd) (hi : DE K X i ty dy) (hs : NoSl i := by exact fun _ _ => rfl) : DE K X (.Subscript o i pos) (tDGet td ty) (dOp dgetD dd dy) := by
  refine ⟨pe_dget hu ho.p hi.p hs, fun F env m Q σ H R q o p => ho.w F env m _ σ H _ q o fun v H1 x m1 e1 s1 r1 q1 => hi.w F env m1 _ σ H1 _ q1 (o.at s1 e1) fun u H2 y m2 e2 s2 r2 q2 => ?_⟩
  obtain ⟨ks, hx, k, hk, d, hd, q⟩ := q2
  obtain ⟨a, kvs, rfl, ha, ra⟩ := dk_view s2 (r1.mono e2) hx
  obtain ⟨w, hw, rw'⟩ := (pr_val ra).2 d hd
  rw [keyOf_rep r2 hk]
  exact ⟨a, w, rfl, .inl ⟨kvs, k, ha, rfl, hw.symm⟩, (p.at (e1.trans e2)).here s2 rw' q⟩
theorem d_dgetT (hu : X.A.units + 1 < cLine) (ho : DE K X o td dd) (hi : DE K X i ty dy) (hs : NoSl i := by exact fun _ _ => rfl) : DE K X (.Subscript o i pos) (tDGet td ty) (dOp dgetT dd dy) := by
  refine ⟨pe_dget hu ho.p hi.p hs, fun F env m Q σ H R q o p => ho.w F env m _ σ H _ q o fun v H1 x m1 e1 s1 r1 q1 => hi.w F env m1 _ σ H1 _ q1 (o.at s1 e1) fun u H2 y m2 e2 s2 r2 q2 => ?_⟩
  obtain ⟨ks, hx, k, rfl, d, hd, q⟩ := q2
  obtain ⟨a, kvs, rfl, ha, ra⟩ := dt_view s2 (r1.mono e2) hx
  obtain ⟨w, hw, rw'⟩ := (pr_val ra).2 d hd
  cases r2 with
  | tuple e r =>
    rw [reps_kD r] at e
    exact ⟨a, w, rfl, .inr ⟨kvs, k, _, ha, rfl, hide_le e, hw.symm⟩, (p.at (e1.trans e2)).here s2 rw' q⟩
/-- d[k] = v -/
def dPutS (dd dy dv : dE) : dS := fun DD env m => dv env m fun v m1 => dd env m1 fun x m2 => dy env m2 fun y m3 => ∃ p, x = .adr p ∧ ∃ ks, m3 p = some (.dK ks) ∧ ∃ k, keyOf y = some k ∧ ks.length < sizeLine ∧ DD.nx env (ups m3 p (.dK (putT ks k v)))
def dPutST (dd dy dv : dE) : dS := fun DD env m => dv env m fun v m1 => dd env m1 fun x m2 => dy env m2 fun y m3 => ∃ p, x = .adr p ∧ ∃ ks, m3 p = some (.dT ks) ∧ ∃ k, y = .tuple (k.map kD) ∧ ks.length < sizeLine ∧ DD.nx env (ups m3 p (.dT (putT ks k v)))
theorem s_dput (hu : X.A.units + 1 < cLine) (hv : DE K X value tv dv) (ho : DE K X o td dd) (hi : DE K X i ty dy) (hs : swapsWith value (some (.Subscript o i pos')) pos.line X.env = pure false := by rfl) :
    DS K X (.Assign [.Subscript o i pos'] value pos) (sDPut td ty tv) (dPutS dd dy dv) := by
  refine ⟨ps_dput hu ho.p hi.p hv.p hs, fun F DD env m σ H RR q o p => hv.w F env m _ σ H _ q o fun v H1 d m1 e1 s1 r1 q1 => ho.w F env m1 _ σ H1 _ q1 (o.at s1 e1) fun u H2 x m2 e2 s2 r2 q2 =>
    hi.w F env m2 _ σ H2 _ q2 (o.at s2 (e1.trans e2)) fun z H3 y m3 e3 s3 r3 q3 => ?_⟩
  obtain ⟨a, rfl, ks, hm, k, hk, hl, q⟩ := q3
  cases r2
  obtain ⟨kvs, he, rk⟩ := s3.ok _ _ hm
  have e13 := (e1.trans e2).trans e3
  have hc : hide F (upd H3 a (.dK (putK kvs k v))) (ups m3 a (.dK (putT ks k d))) = hide F H3 m3 := hide_chg hm
  have s4 := s3.chg (o := .dK (putK kvs k v)) (w' := .dK (putT ks k d)) hm ⟨_, upd_same, repK_of (pr_put ((r1.mono e2).mono e3) rk.pr)⟩
  refine ⟨a, _, rfl, .inl ⟨kvs, k, he, keyOf_rep r3 hk, by rw [pr_len rk.pr]; exact hl, rfl⟩, p.nx σ _ env _ (by rw [hc]; exact e13) ⟨s4, by rw [hc]; exact o.fr.mono e13⟩ q⟩
theorem s_dputT (hu : X.A.units + 1 < cLine) (hv : DE K X value tv dv) (ho : DE K X o td dd) (hi : DE K X i ty dy) (hs : swapsWith value (some (.Subscript o i pos')) pos.line X.env = pure false := by rfl) :
    DS K X (.Assign [.Subscript o i pos'] value pos) (sDPut td ty tv) (dPutST dd dy dv) := by
  refine ⟨ps_dput hu ho.p hi.p hv.p hs, fun F DD env m σ H RR q o p => hv.w F env m _ σ H _ q o fun v H1 d m1 e1 s1 r1 q1 => ho.w F env m1 _ σ H1 _ q1 (o.at s1 e1) fun u H2 x m2 e2 s2 r2 q2 =>
    hi.w F env m2 _ σ H2 _ q2 (o.at s2 (e1.trans e2)) fun z H3 y m3 e3 s3 r3 q3 => ?_⟩
  obtain ⟨a, rfl, ks, hm, k, rfl, hl, q⟩ := q3
  cases r2
  obtain ⟨kvs, he, rk⟩ := s3.ok _ _ hm
  have e13 := (e1.trans e2).trans e3
  have hc : hide F (upd H3 a (.dT (putK kvs k v))) (ups m3 a (.dT (putT ks k d))) = hide F H3 m3 := hide_chg hm
  have s4 := s3.chg (o := .dT (putK kvs k v)) (w' := .dT (putT ks k d)) hm ⟨_, upd_same, repT_of (pr_put ((r1.mono e2).mono e3) rk.pr)⟩
  cases r3 with
  | tuple e r =>
    rw [reps_kD r] at e
    refine ⟨a, _, rfl, .inr ⟨kvs, k, _, he, rfl, hide_le e, by rw [pr_len rk.pr]; exact hl, rfl⟩, p.nx σ _ env _ (by rw [hc]; exact e13) ⟨s4, by rw [hc]; exact o.fr.mono e13⟩ q⟩
theorem isD_view {F H : Hp} {m : Mu} {v : V} {d : D} {ks : List (Key × D)} (s : Stt K F H m) (r : Rep K (hide F H m) v d) (h : vwK m d = some ks) : ∃ a, v = .ref a ∧ IsD H a := by
  obtain ⟨a, kvs, rfl, ha, _⟩ := dk_view s r h
  exact ⟨a, rfl, .inl ⟨kvs, ha⟩⟩
/-- d.get(k, z) -/
def dGet2 (dd dy dx : dE) : dE := fun env m Q => dd env m fun x m1 => (∃ ks, vwK m1 x = some ks) ∧ dy env m1 fun y m2 => dx env m2 fun z m3 => ∃ ks, vwK m3 x = some ks ∧ ∃ k, keyOf y = some k ∧ Q ((valD ks k).getD z) m3
theorem d_dget2 (hu : X.A.units + 1 < cLine) (ho : DE K X o td dd) (he : DE K X e ty dy) (hf : DE K X f tx dx) (m : M2 X o "get" apos e f cpos := by exact ⟨rfl, rfl, rfl, rfl⟩) : DE K X (.Call (.Attribute o "get" apos) [e, f] [] cpos) (tDGet2 td ty tx) (dGet2 dd dy dx) := by
  refine ⟨pe_dget2 hu ho.p he.p hf.p m, fun F env m Q σ H R q o p => ho.w F env m _ σ H _ q o fun v H1 x m1 e1 s1 r1 q1 => ?_⟩
  obtain ⟨⟨ks0, hx0⟩, q1⟩ := q1
  obtain ⟨a, rfl, hd⟩ := isD_view s1 r1 hx0
  refine ⟨a, rfl, hd, he.w F env m1 _ σ H1 _ q1 (o.at s1 e1) fun u H2 y m2 e2 s2 r2 q2 => hf.w F env m2 _ σ H2 _ q2 (o.at s2 (e1.trans e2)) fun z H3 dz m3 e3 s3 r3 q3 => ?_⟩
  obtain ⟨ks, hx, k, hk, q⟩ := q3
  obtain ⟨a', kvs, ea, ha, ra⟩ := dk_view s3 ((r1.mono e2).mono e3) hx
  cases ea
  rw [keyOf_rep (r2.mono e3) hk]
  refine ⟨_, .inl ⟨kvs, k, ha, rfl, rfl⟩, ?_⟩
  cases hv : valD ks k with
  | none =>
    rw [hv] at q
    rw [(pr_val ra).1 hv]
    exact (p.at ((e1.trans e2).trans e3)).here s3 r3 q
  | some d =>
    rw [hv] at q
    obtain ⟨w, hw, rw'⟩ := (pr_val ra).2 d hv
    rw [hw]
    exact (p.at ((e1.trans e2).trans e3)).here s3 rw' q
/-- d.pop(k), there -/
def dPop1 (dd dy : dE) : dE := fun env m Q => dd env m fun x m1 => (∃ ks, vwK m1 x = some ks) ∧ dy env m1 fun y m2 => ∃ p, x = .adr p ∧ ∃ ks, m2 p = some (.dK ks) ∧ ∃ k, keyOf y = some k ∧ ∃ v, valD ks k = some v ∧ Q v (ups m2 p (.dK (dropT ks k)))
theorem d_dpop (ho : DE K X o td dd) (he : DE K X e ty dy) (m : M1 X o "pop" apos e cpos := by exact ⟨rfl, rfl, rfl, rfl⟩) : DE K X (.Call (.Attribute o "pop" apos) [e] [] cpos) (tDPop1 td ty) (dPop1 dd dy) := by
  refine ⟨pe_dpop1 ho.p he.p m, fun F env m Q σ H R q o p => ho.w F env m _ σ H _ q o fun v H1 x m1 e1 s1 r1 q1 => ?_⟩
  obtain ⟨⟨ks0, hx0⟩, q1⟩ := q1
  obtain ⟨a, rfl, hd⟩ := isD_view s1 r1 hx0
  refine ⟨a, rfl, hd, he.w F env m1 _ σ H1 _ q1 (o.at s1 e1) fun u H2 y m2 e2 s2 r2 q2 => ?_⟩
  obtain ⟨a', rfl, ks, hm, k, hk, d, hv, q⟩ := q2
  cases r1
  obtain ⟨kvs, hH, rk⟩ := s2.ok _ _ hm
  obtain ⟨w, hw, rw'⟩ := (pr_val rk.pr).2 d hv
  have hc : hide F (upd H2 a (.dK (dropK kvs k))) (ups m2 a (.dK (dropT ks k))) = hide F H2 m2 := hide_chg hm
  refine ⟨kvs, k, w, hH, keyOf_rep r2 hk, hw, p _ _ d _ (by rw [hc]; exact e1.trans e2) (s2.chg hm (show MOk K _ _ a (.dK (dropT ks k)) from ⟨_, upd_same, repK_of (pr_drop rk.pr)⟩)) (by rw [hc]; exact rw') q⟩
/-- {}, {k: v} -/
def dDNew (b : Bool) : dE := fun _ m Q => mkD b [] m Q
def dDNewT (b : Bool) : dE := fun _ m Q => mkDT b [] m Q
theorem d_dnew (b : Bool) : DE K X (.Dict [] [] pos) tDNewK (dDNew b) := ⟨pe_dnewK, fun F env m Q σ H R q o p a h => p.newD b o.st .nil q a h⟩
theorem d_dnewT (b : Bool) : DE K X (.Dict [] [] pos) tDNewT (dDNewT b) := ⟨pe_dnewT, fun F env m Q σ H R q o p a h => p.newDT b o.st .nil q a h⟩
end
/-! an object of any kind is set apart -/
section
variable {K : PySem.W.Frag} {F H : Hp} {m : Mu} {A : Addr} {u u' : HO}
theorem Ext.apartG (h : H A = none) : Ext (hide F H m) (hide (upd F A u) (upd H A u) m) := Ext.same fun a w e => by
  have ne := ne_of_none (hide_le e) h
  rw [hide_at (hide_un e).1 (by rw [upd_ne ne]; exact (hide_un e).2), upd_ne ne]
  exact hide_le e
theorem Stt.set_apartG (s : Stt K F H m) (h : H A = none) (hu : ∀ vs, u ≠ .tup vs := by nofun) : Stt K (upd F A u) (upd H A u) m := by
  refine ⟨fun p o e => ?_, fun p o e => (s.ok p o e).mono (upd_ne (ne_of_none (s.ok p o e).there.choose_spec h)) (Ext.apartG h), ft_upd s.ft hu⟩
  by_cases hp : p = A
  · subst hp
    rw [upd_same] at e ⊢
    exact ⟨e, s.free h⟩
  · rw [upd_ne hp] at e ⊢
    exact s.fr p o e
theorem Ext.backG (h : F A = none) : Ext (hide (upd F A u) H m) (hide F H m) := Ext.same fun a w e => by
  have ne : a ≠ A := by
    rintro rfl
    have z := (hide_un e).2
    rw [upd_same] at z
    cases z
  have h2 := (hide_un e).2
  rw [upd_ne ne] at h2
  rw [hide_at (hide_un e).1 h2]
  exact hide_le e
theorem Stt.backG (s : Stt K (upd F A u) H m) (h : F A = none) : Stt K F H m :=
  ⟨fun p o e => s.fr p o (by rw [upd_ne (ne_of_none e h)]; exact e), fun p o e => (s.ok p o e).mono rfl (Ext.backG h), ft_back s.ft h⟩
/-- what was apart is laid anew, and known as data -/
theorem Ext.layG (s : Stt K (upd F A u) H m) (h : F A = none) : Ext (hide (upd F A u) H m) (hide F (upd H A u') m) := Ext.same fun a w e => by
  have ne : a ≠ A := by
    rintro rfl
    have z := (hide_un e).2
    rw [upd_same] at z
    cases z
  have h2 := (hide_un e).2
  rw [upd_ne ne] at h2
  rw [hide_at (hide_un e).1 h2, upd_ne ne]
  exact hide_le e
theorem Stt.layG (s : Stt K (upd F A u) H m) (h : F A = none) : Stt K F (upd H A u') m := by
  refine ⟨fun p o e => ?_, fun p o e => ?_, ft_back s.ft h⟩
  · have ne := ne_of_none e h
    have z := s.fr p o (by rw [upd_ne ne]; exact e)
    exact ⟨by rw [upd_ne ne]; exact z.1, z.2⟩
  · have ne : p ≠ A := by
      rintro rfl
      rw [(s.fr p u upd_same).2] at e
      cases e
    exact (s.ok p o e).mono (upd_ne ne) (Ext.layG s h)
theorem hide_layM {w : MO} (h : F A = none) : hide F (upd H A u') (ups m A w) = hide (upd F A u) H m := by
  funext a
  unfold hide
  by_cases e : a = A
  · subst e
    rw [ups_same, upd_same, upd_same]
    cases m a <;> rfl
  · rw [ups_ne e, upd_ne e, upd_ne e]
theorem Stt.layM {w : MO} (s : Stt K (upd F A u) H m) (h : F A = none) (k : MOk K (upd H A u') (hide (upd F A u) H m) A w) : Stt K F (upd H A u') (ups m A w) := by
  refine ⟨fun p o e => ?_, fun p o e => ?_, ft_back s.ft h⟩
  · have ne := ne_of_none e h
    have z := s.fr p o (by rw [upd_ne ne]; exact e)
    exact ⟨by rw [upd_ne ne]; exact z.1, by rw [ups_ne ne]; exact z.2⟩
  · rw [hide_layM (u := u) h]
    by_cases hp : p = A
    · subst hp
      rw [ups_same] at e
      cases e
      exact k
    · rw [ups_ne hp] at e
      exact (s.ok p o e).mono (upd_ne hp) Ext.refl
end
def dDisp1 (b : Bool) (dk dv : dE) : dE := fun env m Q => dk env m fun y m1 => dv env m1 fun v m2 => ∃ k, keyOf y = some k ∧ mkD b [(k, v)] m2 Q
section
variable {K : PySem.W.Frag} {X : Cx} {k v : Expr} {tk tv : TE} {dk dv : dE} {pos : Pos}
theorem d_disp1 (b : Bool) (hk : DE K X k tk dk) (hv : DE K X v tv dv) : DE K X (.Dict [some k] [v] pos) (tDisp [(tk, tv)]) (dDisp1 b dk dv) := by
  refine ⟨pe_disp (pps_cons hk.p hv.p pps_nil) rfl rfl (fun z => by cases z) (show 1 ≤ 15 by omega), fun F env m Q σ H R q o p A hA => ?_⟩
  have fA := o.st.freeF hA
  have s0 : Stt K (upd F A (.dK [])) (upd H A (.dK [])) m := o.st.set_apartG hA
  have e0 : Ext (hide F H m) (hide (upd F A (.dK [])) (upd H A (.dK [])) m) := Ext.apartG hA
  refine hk.w _ env m _ σ _ _ q ⟨s0, o.fr.mono e0⟩ fun y H1 dy m1 e1 s1 r1 q1 => hv.w _ env m1 _ σ H1 _ q1 ⟨s1, o.fr.mono (e0.trans e1)⟩ fun w H2 dw m2 e2 s2 r2 q2 => ?_
  obtain ⟨kk, hkk, q2⟩ := q2
  have hA2 := s2.fr A _ upd_same
  refine ⟨hA2.1, [(kk, w)], by rw [keyOf_rep r1 hkk]; rfl, (show 1 ≤ 15 by omega), ?_⟩
  have e3 := (e0.trans e1).trans e2
  cases b with
  | false =>
    have e4 : Ext (hide (upd F A (.dK [])) H2 m2) (hide F (upd H2 A (.dK [(kk, w)])) m2) := Ext.layG s2 fA
    refine p _ _ _ m2 (e3.trans e4) (s2.layG fA) (.dict (.inl ?_) (.cons (r2.mono e4) .nil)) q2
    rw [hide_at hA2.2 fA, upd_same]
    rfl
  | true =>
    have e4 : hide F (upd H2 A (.dK [(kk, w)])) (ups m2 A (.dK [(kk, dw)])) = hide (upd F A (.dK [])) H2 m2 := hide_layM fA
    refine p _ _ _ _ (by rw [show mergeK [] [(kk, w)] = [(kk, w)] from rfl, e4]; exact e3) (s2.layM fA (show MOk K _ _ A (.dK [(kk, dw)]) from ⟨_, upd_same, .cons r2 .nil⟩)) (.adr A) (q2 A hA2.2)
end
end Dq

/-! dicts walked, sorted, copied; tuples set together -/
namespace Dq
open PySem PySem.Spec L2 PyProof.Rows
theorem pr_get {κ : Type} {K : PySem.W.Frag} {H : Hp} : ∀ {a : List (κ × V)} {b : List (κ × D)} {i : Nat} {k : κ} {v : V}, PR K H a b → a[i]? = some (k, v) → ∃ d, b[i]? = some (k, d) ∧ Rep K H v d
  | _, _, _, _, _, .nil, e => by simp at e
  | _, _, 0, _, _, .cons (a := p) (b := q) ⟨h1, h2⟩ _, e => by
    simp at e
    subst e
    exact ⟨q.2, by simp; exact Prod.ext h1.symm rfl, h2⟩
  | _, _, i + 1, _, _, .cons _ t, e => by
    obtain ⟨d, h1, h2⟩ := pr_get (i := i) t (by simpa using e)
    exact ⟨d, by simpa using h1, h2⟩
/-! ### a dict is locked while it is walked -/
section
variable {K : PySem.W.Frag} {F H : Hp} {m : Mu} {a : Addr} {u : HO} {od : Obj}
theorem lock_ext (hu : hide F H m a = some u) (hd : (∃ kvs, u = .dK kvs) ∨ ∃ kvs, u = .dT kvs) : Ext (hide F H m) (hide F (upd H a (.frz od u)) m) := by
  have hm := hide_un hu
  have ne : ∀ b w, hide F H m b = some w → w ≠ u → hide F (upd H a (.frz od u)) m b = some w := fun b w e h => by
    have hb : b ≠ a := by
      rintro rfl
      rw [hu] at e
      cases e
      exact h rfl
    rw [hide_at (hide_un e).1 (hide_un e).2, upd_ne hb]
    exact hide_le e
  have here : hide F (upd H a (.frz od u)) m a = some (.frz od u) := by rw [hide_at hm.1 hm.2, upd_same]
  have rd : ∀ b w, Rd (hide F H m) b w → Rd (hide F (upd H a (.frz od u)) m) b w := fun b w e => by
    by_cases hb : b = a
    · subst hb
      rcases e with e | ⟨o, e⟩
      · rw [hu] at e
        cases e
        exact .inr ⟨od, here⟩
      · rw [hu] at e
        cases e
        rcases hd with ⟨_, z⟩ | ⟨_, z⟩ <;> cases z
    · have same : hide F (upd H a (.frz od u)) m b = hide F H m b := by
        unfold hide
        rw [upd_ne hb]
      rcases e with e | ⟨o, e⟩
      · exact .inl (same.trans e)
      · exact .inr ⟨o, same.trans e⟩
  refine ⟨fun b vs e => ne b _ e ?_, fun b vs e => ne b _ e ?_, fun b vs e => ne b _ e ?_, fun b vs => rd b _, fun b vs => rd b _, fun b vs => rd b _, fun b vs => rd b _, fun b o w e => ne b _ e ?_⟩ <;>
    (rintro rfl; rcases hd with ⟨_, z⟩ | ⟨_, z⟩ <;> cases z)
theorem lock_stt (s : Stt K F H m) (hu : hide F H m a = some u) (hd : (∃ kvs, u = .dK kvs) ∨ ∃ kvs, u = .dT kvs) : Stt K F (upd H a (.frz od u)) m := by
  have hm := hide_un hu
  refine ⟨fun p o e => ?_, fun p o e => ?_, s.ft⟩
  · have hp : p ≠ a := by
      rintro rfl
      rw [hm.2] at e
      cases e
    rw [upd_ne hp]
    exact s.fr p o e
  · have hp : p ≠ a := by
      rintro rfl
      rw [hm.1] at e
      cases e
    exact (s.ok p o e).mono (upd_ne hp) (lock_ext hu hd)
theorem unlock_w (hu : hide F H m a = some (.frz od u)) : ExtW (hide F H m) (hide F (upd H a u) m) := by
  have hm := hide_un hu
  have same : ∀ b, b ≠ a → hide F (upd H a u) m b = hide F H m b := fun b hb => by
    unfold hide
    rw [upd_ne hb]
  have here : hide F (upd H a u) m a = some u := by rw [hide_at hm.1 hm.2, upd_same]
  have rd : ∀ b w, (∀ o x, w ≠ .frz o x) → Rd (hide F H m) b w → Rd (hide F (upd H a u) m) b w := fun b w hw e => by
    by_cases hb : b = a
    · subst hb
      rcases e with e | ⟨o, e⟩
      · exact absurd (Option.some.inj (e.symm.trans hu)) (hw od u)
      · have z := Option.some.inj (hu.symm.trans e)
        injection z with z1 z2
        rw [← z2]
        exact .inl here
    · rcases e with e | ⟨o, e⟩
      · exact .inl ((same b hb).trans e)
      · exact .inr ⟨o, (same b hb).trans e⟩
  refine ⟨fun b vs e => ?_, fun b vs e => ?_, fun b vs e => ?_, fun b vs => rd b _ (fun _ _ z => nomatch z), fun b vs => rd b _ (fun _ _ z => nomatch z), fun b vs => rd b _ (fun _ _ z => nomatch z), fun b vs => rd b _ (fun _ _ z => nomatch z)⟩
  · rw [same b (by rintro rfl; rw [hu] at e; cases e)]
    exact e
  · rw [same b (by rintro rfl; rw [hu] at e; cases e)]
    exact e
  · rw [same b (by rintro rfl; rw [hu] at e; cases e)]
    exact e
end

section
variable {K : PySem.W.Frag} {F H H' : Hp} {m m' : Mu} {a : Addr} {u : HO} {od : Obj}
/-- behind the lock: all that stood stands -/
theorem unlock_ext (hu : hide F H m a = some u) (hd : (∃ kvs, u = .dK kvs) ∨ ∃ kvs, u = .dT kvs) (e : Ext (hide F (upd H a (.frz od u)) m) (hide F H' m')) : hide F H' m' a = some (.frz od u) ∧ Ext (hide F H m) (hide F (upd H' a u) m') := by
  have hm := hide_un hu
  have here : hide F (upd H a (.frz od u)) m a = some (.frz od u) := by rw [hide_at hm.1 hm.2, upd_same]
  have there := e.fz a od u here
  refine ⟨there, ?_⟩
  have e1 := (lock_ext (od := od) hu hd).wk
  have e3 := unlock_w there
  refine ⟨fun b v h => e3.ext b v (e.ext b v (e1.ext b v h)), fun b v h => e3.lst b v (e.lst b v (e1.lst b v h)), fun b v h => e3.tup b v (e.tup b v (e1.tup b v h)), fun b v h => e3.rl b v (e.rl b v (e1.rl b v h)), fun b v h => e3.rt b v (e.rt b v (e1.rt b v h)),
    fun b v h => e3.dk b v (e.dk b v (e1.dk b v h)), fun b v h => e3.dt b v (e.dt b v (e1.dt b v h)), fun b o w h => ?_⟩
  have hb : b ≠ a := by
    rintro rfl
    rw [hu] at h
    cases h
    rcases hd with ⟨_, z⟩ | ⟨_, z⟩ <;> cases z
  have h2 := e.fz b o w ((lock_ext (od := od) hu hd).fz b o w h)
  unfold hide at h2 ⊢
  rw [upd_ne hb]
  exact h2
theorem unlock_stt (s : Stt K F H m) (hu : hide F H m a = some (.frz od u)) : Stt K F (upd H a u) m := by
  have hm := hide_un hu
  refine ⟨fun p o e => ?_, fun p o e => ?_, s.ft⟩
  · have hp : p ≠ a := by
      rintro rfl
      rw [hm.2] at e
      cases e
    rw [upd_ne hp]
    exact s.fr p o e
  · have hp : p ≠ a := by
      rintro rfl
      rw [hm.1] at e
      cases e
    exact (s.ok p o e).monoW (upd_ne hp) (unlock_w hu)
end
theorem wlk_keys {K : PySem.W.Frag} {F H : Hp} {m : Mu} {a : Addr} {od : Obj} {kvs : List (Key × V)} {ks : List (Key × D)} (h : hide F H m a = some (.frz od (.dK kvs))) (r : PR K (hide F H m) kvs ks) : Wlk K F H m (Itk a od kvs) (ks.map fun kv => kD kv.1) := by
  refine ⟨kvs.length, fun H' => H' a = some (.frz od (.dK kvs)), fun i H x H' => H' = H ∧ ∃ k v, kvs[i]? = some (k, v) ∧ x = kV k, by rw [List.length_map, pr_len r], ⟨fun i _ hi g => ⟨g, hi⟩, fun _ g => ⟨g, Nat.le_refl _⟩, fun _ _ _ _ _ _ y => y⟩,
    fun F' H' m' ex _ => hide_le (ex.fz _ _ _ h), fun i F' Hc mc x H' ex s y hi => ?_⟩
  obtain ⟨rfl, k, v, hk, rfl⟩ := y
  obtain ⟨d, hd, _⟩ := pr_get r hk
  exact ⟨kD k, by rw [List.getElem?_map, hd]; rfl, Ext.refl, s, kD_rep⟩
theorem wlk_keysT {K : PySem.W.Frag} {F H : Hp} {m : Mu} {a : Addr} {od : Obj} {kvs : List (List Key × V)} {ks : List (List Key × D)} (h : hide F H m a = some (.frz od (.dT kvs))) (r : PR K (hide F H m) kvs ks)
    (ht : ∀ F' H' m', Ext (hide F H m) (hide F' H' m') → Stt K F' H' m' → ∀ q k, H' q = some (.tup (k.map kV)) → k ∈ kvs.map (·.1) → hide F' H' m' q = some (.tup (k.map kV))) : Wlk K F H m (Itkt a od kvs) (ks.map fun kv => .tuple (kv.1.map kD)) := by
  refine ⟨kvs.length, fun H' => H' a = some (.frz od (.dT kvs)), fun i H x H' => H' = H ∧ ∃ (k : List Key) (v : V) (q : Addr), kvs[i]? = some (k, v) ∧ x = .ref q ∧ H q = some (.tup (k.map kV)), by rw [List.length_map, pr_len r], ⟨fun i _ hi g => ⟨g, hi⟩, fun _ g => ⟨g, Nat.le_refl _⟩, fun _ _ _ _ _ _ y => y⟩,
    fun F' H' m' ex _ => hide_le (ex.fz _ _ _ h), fun i F' Hc mc x H' ex s y hi => ?_⟩
  obtain ⟨rfl, k, v, q, hk, rfl, hq⟩ := y
  obtain ⟨d, hd, _⟩ := pr_get r hk
  exact ⟨.tuple (k.map kD), by rw [List.getElem?_map, hd]; rfl, Ext.refl, s, .tuple (ht _ _ _ ex s q k hq (List.mem_map.mpr ⟨_, List.mem_of_getElem? hk, rfl⟩)) kDs_rep⟩
/-- for k in d, d a name -/
def jKeys (i : Nat) : dI := fun env m Q => ∃ ks, env[i]? = some (some (.dict ks)) ∧ Q (ks.map fun kv => kD kv.1) m
section
variable {K : PySem.W.Frag} {F H : Hp} {m : Mu}
theorem at_keys {i : Nat} {env : Env} {σ : L2.St} {a : Addr} {od : Obj} {kvs : List (Key × V)} {ks : List (Key × D)} (o : Ok K F H σ env m) (he : env[i]? = some (some (.dict ks))) (hs : σ[i]? = some (some (.ref a))) (h : hide F H m a = some (.frz od (.dK kvs))) (r : PR K (hide F H m) kvs ks) :
    WIat K (iKeys (tVar i)) (jKeys i) F env m σ H := fun Q R q p => by
  obtain ⟨ks', he', q⟩ := q
  rw [he] at he'
  cases he'
  exact ⟨_, hs, a, od, rfl, .inl ⟨kvs, hide_le h, p _ H _ m Ext.refl o.st (wlk_keys h r) q⟩⟩
theorem dict_inv {i : Nat} {env : Env} {σ : L2.St} {ks : List (Key × D)} (o : Ok K F H σ env m) (he : env[i]? = some (some (.dict ks))) :
    ∃ a kvs, σ[i]? = some (some (.ref a)) ∧ PR K (hide F H m) kvs ks ∧ (hide F H m a = some (.dK kvs) ∨ ∃ od, hide F H m a = some (.frz od (.dK kvs))) := by
  obtain ⟨v, hv, r⟩ := o.fr.2 i _ he
  cases r with
  | dict e r => exact ⟨_, _, hv, r.pr, e⟩
end
theorem PS.or {X : Cx} {st : Stmt} {t u : TS} (h : PS X st t) (k : PS X st u) : PS X st (fun D σ H => t D σ H ∨ u D σ H) := ⟨fun pins s σ H D I q => q.elim (h.run pins s σ H D I) (k.run pins s σ H D I)⟩
theorem PE.or {X : Cx} {e : Expr} {t u : TE} (h : PE X e t) (k : PE X e u) : PE X e (fun σ H Q => t σ H Q ∨ u σ H Q) := ⟨fun pins s σ H Q I q => q.elim (h.run pins s σ H Q I) (k.run pins s σ H Q I)⟩
section
variable {K : PySem.W.Frag} {F H H1 : Hp} {m : Mu}
/-- the ends behind the lock -/
theorem lock_ends {DD : dEnds} {RR : Ends} {a : Addr} {u : HO} {od : Obj} (hu : hide F H m a = some u) (hd : (∃ kvs, u = .dK kvs) ∨ ∃ kvs, u = .dT kvs) (p : PstS K F H m DD RR) :
    PstS K F (upd H a (.frz od u)) m DD ⟨fun σ' H' => H' a = some (.frz od u) ∧ RR.nx σ' (upd H' a u), fun v H' => H' a = some (.frz od u) ∧ RR.rt v (upd H' a u), fun σ' H' => H' a = some (.frz od u) ∧ RR.bk σ' (upd H' a u), fun σ' H' => H' a = some (.frz od u) ∧ RR.ct σ' (upd H' a u)⟩ := by
  have px : ∀ {Q : Env → Mu → Prop} {R : L2.St → Hp → Prop}, PstX K F H m Q R → PstX K F (upd H a (.frz od u)) m Q (fun σ' H' => H' a = some (.frz od u) ∧ R σ' (upd H' a u)) := fun p σ' H' env' m' e o q => by
    obtain ⟨h1, h2⟩ := unlock_ext hu hd e
    exact ⟨hide_le h1, p σ' _ env' m' h2 ⟨unlock_stt o.st h1, o.fr.monoW (unlock_w h1)⟩ q⟩
  refine ⟨px p.nx, fun v H' d m' e s r q => ?_, px p.bk, px p.ct⟩
  obtain ⟨h1, h2⟩ := unlock_ext hu hd e
  exact ⟨hide_le h1, p.rt v _ d m' h2 (unlock_stt s h1) (r.monoW (unlock_w h1)) q⟩
theorem WS.forK {i : Nat} {ug : TG} {g : dG} {ub : TS} {tb : dS} (hg : WG K ug g) (hb : WS K ub tb) : WS K (fun D σ H => tLock (tFor (iKeys (tVar i)) ug ub) D σ H ∨ tFor (iKeys (tVar i)) ug ub D σ H) (dFor (jKeys i) g tb) := fun F DD env m σ H RR q o p => by
  obtain ⟨ks, he, q⟩ := q
  obtain ⟨a, kvs, hs, r, hh⟩ := dict_inv o he
  rcases hh with hh | ⟨od, hh⟩
  · refine .inl ⟨a, _, hide_le hh, trivial, fun od => ?_⟩
    have hd : (∃ kvs', HO.dK kvs = .dK kvs') ∨ ∃ kvs', HO.dK kvs = .dT kvs' := .inl ⟨kvs, rfl⟩
    have ex := lock_ext (od := od) hh hd
    have hm := hide_un hh
    have o1 : Ok K F (upd H a (.frz od (.dK kvs))) σ env m := o.at (lock_stt o.st hh hd) ex
    exact for_at F DD env m σ _ _ (at_keys o1 he hs (by rw [hide_at hm.1 hm.2, upd_same]) (pr_mono ex r)) hg hb ⟨ks, he, q⟩ o1 (lock_ends hh hd p)
  · exact .inr (for_at F DD env m σ _ _ (at_keys o he hs hh r) hg hb ⟨ks, he, q⟩ o p)
theorem lock_val {Q : D → Mu → Prop} {R : VK} {a : Addr} {u : HO} {od : Obj} (hu : hide F H m a = some u) (hd : (∃ kvs, u = .dK kvs) ∨ ∃ kvs, u = .dT kvs) (p : Pst K F H m Q R) : Pst K F (upd H a (.frz od u)) m Q (fun v H' => H' a = some (.frz od u) ∧ R v (upd H' a u)) := fun v H' d m' e s r q => by
  obtain ⟨h1, h2⟩ := unlock_ext hu hd e
  exact ⟨hide_le h1, p v _ d m' h2 (unlock_stt s h1) (r.monoW (unlock_w h1)) q⟩
theorem WE.lcK {i : Nat} {g : TG} {dg : dG} {tt : TT} {dt : dT} {te : TE} {de : dE} {vs : List Nat} (b : Bool) (hg : WG K g dg) (ht : WT K tt dt) (he : WE K te de) (hk : Keeps g vs) :
    WE K (fun σ H Q => tLockE (tLc (iKeys (tVar i)) g tt te vs) σ H Q ∨ tLc (iKeys (tVar i)) g tt te vs σ H Q) (dLc b vs (jKeys i) dg dt de) := fun F env m Q σ H R q o p => by
  obtain ⟨ks, hi, q⟩ := q
  obtain ⟨a, kvs, hs, r, hh⟩ := dict_inv o hi
  rcases hh with hh | ⟨od, hh⟩
  · refine .inl ⟨a, _, hide_le hh, trivial, fun od => ?_⟩
    have hd : (∃ kvs', HO.dK kvs = .dK kvs') ∨ ∃ kvs', HO.dK kvs = .dT kvs' := .inl ⟨kvs, rfl⟩
    have ex := lock_ext (od := od) hh hd
    have hm := hide_un hh
    have o1 : Ok K F (upd H a (.frz od (.dK kvs))) σ env m := o.at (lock_stt o.st hh hd) ex
    exact lc_at b F env m Q σ _ _ (at_keys o1 hi hs (by rw [hide_at hm.1 hm.2, upd_same]) (pr_mono ex r)) hg ht he hk ⟨ks, hi, q⟩ o1 (lock_val hh hd p)
  · exact .inr (lc_at b F env m Q σ _ _ (at_keys o hi hs hh r) hg ht he hk ⟨ks, hi, q⟩ o p)
end
section
variable {K : PySem.W.Frag} {X : Cx}
theorem s_forK (i : Nat) {x : Str} {px pos : Pos} {tg : Expr} {body : List Stmt} {ug : TG} {ub : TS} {g : dG} {tb : dS} (hN : X.N[i]? = some x) (hg : DG K X tg ug g) (hb : DSs K X body ub tb) (hv : Vis X.env.scope x := by first | exact Or.inl rfl | exact Or.inr (Or.inl rfl) | exact Or.inr (Or.inr rfl)) (hdb : (x == ("__debug__" : Str)) = false := by decide)
    (hcd : (x == ("__classdict__" : Str)) = false := by decide) (hp : PassesOwn (model X.prog X.w) X.A X.env X.xe := by exact PassesOwn.never) (hc : X.calm = true := by rfl) (hs : ∀ z, foldedSetIterable (.Name x px) X.env z = pure z := by intro _; rfl) :
    DS K X (.For tg (.Name x px) body [] pos) (fun D σ H => tLock (tFor (iKeys (tVar i)) ug ub) D σ H ∨ tFor (iKeys (tVar i)) ug ub D σ H) (dFor (jKeys i) g tb) := by
  have h1 : PS X (.For tg (.Name x px) body [] pos) (tFor (iKeys (tVar i)) ug ub) := ps_for hp hc (pi_keys (pv i hN hv hdb hcd)) hg.p hb.p hs
  exact ⟨PS.or (ps_lock h1) h1, .forK hg.w hb.w⟩
theorem d_lcK (b : Bool) (i : Nat) {x : Str} {px pos : Pos} {elt tg : Expr} {ifs : List Expr} {scope : Scope} {own : List (Str × Nat)} {g : TG} {dg : dG} {tt : TT} {dt : dT} {te : TE} {de : dE} (hN : X.N.Nodup) (hi : X.N[i]? = some x) (ok : BlkOk X.N X.env.scope scope own)
    (hg : ∀ (s : Shared) (H : Hp) (C : Addr) (cl : List (Str × Addr)) (fp : List Addr), DG K (X.blk s H scope (compEnvC scope cl C X.env) fp) tg g dg) (ht : ∀ (s : Shared) (H : Hp) (C : Addr) (cl : List (Str × Addr)) (fp : List Addr), DTs K (X.blk s H scope (compEnvC scope cl C X.env) fp) ifs tt dt)
    (he : ∀ (s : Shared) (H : Hp) (C : Addr) (cl : List (Str × Addr)) (fp : List Addr), DE K (X.blk s H scope (compEnvC scope cl C X.env) fp) elt te de) (hk : Keeps g (own.map (·.2))) (hs : ∀ z, foldedSetIterable (.Name x px) X.env z = pure z := by intro _; rfl) (hc : X.calm = true := by rfl)
    (hv : Vis X.env.scope x := by first | exact Or.inl rfl | exact Or.inr (Or.inl rfl) | exact Or.inr (Or.inr rfl)) (hdb : (x == ("__debug__" : Str)) = false := by decide) (hcd : (x == ("__classdict__" : Str)) = false := by decide) :
    DE K X (.ListComp elt [⟨tg, .Name x px, ifs, 0⟩] scope pos) (fun σ H Q => tLockE (tLc (iKeys (tVar i)) g tt te (own.map (·.2))) σ H Q ∨ tLc (iKeys (tVar i)) g tt te (own.map (·.2)) σ H Q) (dLc b (own.map (·.2)) (jKeys i) dg dt de) := by
  have h1 : PE X (.ListComp elt [⟨tg, .Name x px, ifs, 0⟩] scope pos) (tLc (iKeys (tVar i)) g tt te (own.map (·.2))) := pe_lc hc hN (pi_keys (pv i hi hv hdb hcd)) ok (fun s H C cl fp => (hg s H C cl fp).p) (fun s H C cl fp => (ht s H C cl fp).p) (fun s H C cl fp => (he s H C cl fp).p) hs
  exact ⟨PE.or (pe_lock h1) h1, .lcK b (hg X.s_0 X.H_0 0 [] []).w (ht X.s_0 X.H_0 0 [] []).w (he X.s_0 X.H_0 0 [] []).w hk⟩
end
end Dq

/-! sorted(d), min(d), dict(d), dict(pairs), setdefault, t + u -/
namespace Dq
open PySem PySem.Spec L2 PyProof.Rows
/-- the keys of a walked dict, all texts -/
theorem keys_row {P : Program} {w : World} {ss : List Str} {vs : List (Key × Value)} {acc : List Value} (hk : vs.map (·.1) = ss.map Sum.inr) (hl : acc.length = vs.length)
    (h : ∀ (j : Nat) (v : Value), acc[j]? = some v → ∃ k x, vs[j]? = some (k, x) ∧ (mixKind P w).is k v = true) : StrsAre acc ss := by
  have hl2 : acc.length = ss.length := by
    have z := congrArg List.length hk
    rw [List.length_map, List.length_map] at z
    exact hl.trans z
  refine strs_at hl2 fun j v hj => ?_
  obtain ⟨k, x, h1, h2⟩ := h j v hj
  have z : (vs.map (·.1))[j]? = some k := by rw [List.getElem?_map, h1]; rfl
  rw [hk, List.getElem?_map] at z
  obtain ⟨y, hy, rfl⟩ := Option.map_eq_some_iff.mp z
  obtain ⟨t, ht⟩ := Value.isStrOf_shape (x := y) (v := v) h2
  exact ⟨y, t, hy, ht⟩
def rSortDS : List V → Hp → VK → Prop := fun xs H Q => ∃ (a : Addr) (kvs : List (Key × V)) (ss : List Str), xs = [.ref a] ∧ Rd H a (.dK kvs) ∧ kvs.map (·.1) = ss.map Sum.inr ∧
    ∀ ys p, ys.Perm ss → sortedS ys = true → H p = none → Q (.ref p) (upd H p (.lst (ys.map V.str)))
theorem c_sortedDS {X : Cx} (hc : X.calm = true := by rfl) : CallR X (.builtin "sorted") rSortDS := fun pins s σ H xs us Q I r q => by
  obtain ⟨dA, tbl, ss, rfl, hD, hN, post⟩ := q
  obtain ⟨u0, rfl, ru⟩ := vals1 r
  cases ru
  obtain ⟨hz, nm, prs, rl, dO⟩ := dk_rd I.hok hD
  obtain ⟨eps, dAt⟩ := dO.dictAt
  have hN2 : prs.map (·.1) = ss.map Sum.inr := rl.keys.symm.trans hN
  have hlen : prs.length = ss.length := by
    have z := congrArg List.length hN2
    rwa [List.length_map, List.length_map] at z
  have hline : prs.length ≤ sizeLine := by rw [← rl.length]; exact hz
  refine Calls.call_function_entry kind_sorted plain_sorted entry_sorted (args_sorted1 _) ?_
  unfold Builtin.«sorted»; refine wpAny_bind (m := checkCount "sorted" 1 1 _) (wpAny_pure ?_)
  refine wpAny_bind (PySem.W.kdu_collect (A := X.A.in1) (PySem.W.kdl_dict (knd := mixKind X.prog X.w) (kvs := prs) (ep := eps) nm) (I.ok.hd hc) dAt hline fun hp tk row kp hrow => ?_)
  have hS : StrsAre row.toList ss := keys_row (P := X.prog) (w := X.w) hN2 (by rw [Array.length_toList, hrow.1]) fun j v e => hrow.2 j v (by rw [← Array.getElem?_toList]; exact e)
  have hrl : row.toList.length ≤ sizeLine := by rw [Array.length_toList, hrow.1]; exact hline
  have I1 : Inv X pins σ H { s with heap := hp, toks := tk } := I.kept kp
  refine wpAny_bind (wpAny_newList ?_ hrl)
  have oL : (hp.push (seqObj "list" row.toList.toArray 0)).get? hp.objs.size = some (seqObj "list" row.toList.toArray 0) := Heap.get?_push_size _ rfl
  show wpAny _ _ _ _ _ { s with heap := hp.push (seqObj "list" row.toList.toArray 0), toks := tk }
  refine wpAny_bind (wpAny_holding (wpAny_call_entry slot_list_sort ⟨_, oL, rfl⟩ entry_list_sort (list_sort_treeKAny strKind_oneLt (s := { s with heap := hp.push (seqObj "list" row.toList.toArray 0), toks := tk }) oL hS.keysOf (fun a b rest e => keyKind_strs (by rw [← e]; exact hS)) hrl fun fin pm srt => ⟨_, rfl, ?_⟩) (args_list_sort _)))
  obtain ⟨ys, y1, y2, y3⟩ := sorted_out_str hS pm srt
  obtain ⟨e2, hat2⟩ := sortedHeap_at (vs := row.toList) (out := (arrOf fin).map (·.2)) oL
  have yl : (ys.map V.str).length ≤ sizeLine := by rw [List.length_map, y2.length_eq, ← hlen]; exact hline
  refine wpAny_pure ⟨_, rfl, .ref hp.objs.size, upd H hp.objs.size (.lst (ys.map V.str)), I1.laid (t' := tk) (fun b u e => ?_) (Nat.le_refl _) (show ObjOk X.prog X.w _ _ _ (.lst (ys.map V.str)) from ⟨yl, ((arrOf fin).map (·.2)).toList, e2, vals_of_strs y1, by rw [Array.toArray_toList]; exact hat2⟩), rfl, post ys _ y2 y3 (I1.hok.fresh (Nat.le_refl _))⟩
  have lt : b < hp.objs.size := Heap.lt_size e
  rw [sortedHeap_old (Nat.ne_of_lt lt) (by rw [size_push']; exact Nat.lt_succ_of_lt lt)]
  exact Heap.get?_push_of_some _ e
def sortedDSD (b : Bool) (ds : List D) (m : Mu) (Q : D → Mu → Prop) : Prop := ∃ d, ds = [d] ∧ ∃ ks, vwK m d = some ks ∧ ∃ ss : List Str, ks.map (·.1) = ss.map Sum.inr ∧ ∀ ys, ys.Perm ss → sortedS ys = true → mkL b (ys.map D.str) m Q
theorem pr_keys {κ : Type} {K : PySem.W.Frag} {H : Hp} : ∀ {a : List (κ × V)} {b : List (κ × D)}, PR K H a b → a.map (·.1) = b.map (·.1)
  | _, _, .nil => rfl
  | _, _, .cons h t => by rw [List.map_cons, List.map_cons, h.1, pr_keys t]
theorem cd_sortedDS {K : PySem.W.Frag} (b : Bool) : CallD K rSortDS (sortedDSD b) := fun F H m vs ds Q R q s rs p => by
  obtain ⟨d, rfl, ks, hx, ss, hs, q⟩ := q
  obtain ⟨v, rfl, r⟩ := rs.inv1
  obtain ⟨a, kvs, rfl, ha, ra⟩ := dk_view s r hx
  exact ⟨a, kvs, ss, rfl, ha, (pr_keys ra).trans hs, fun ys A h1 h2 h3 => p.newB b s (reps_strsL ys) (q ys h1 h2) A h3⟩
/-- min of texts: the first of the least -/
def ltS (a b : Str) : Bool := decide (a.cps.toList < b.cps.toList)
def minS (ss : List Str) : Str := ss.getD (argBest (fun i j => ltS (ss.getD i "") (ss.getD j "")) (ss.length - 1)) ""
theorem cmp_strs {prog : Program} {w : World} {A : Around} {P : Nat → Value → Prop} (f : Nat → Str) (hf : ∀ i v, P i v → ∃ t, v = .str (f i) t) : CmpOf prog w A .Lt P (fun i j => ltS (f i) (f j)) := fun i j u v s Q E hu hv q => by
  obtain ⟨t1, rfl⟩ := hf i u hu
  obtain ⟨t2, rfl⟩ := hf j v hv
  exact richCompare_gives (op := .Lt) (typeIs_str s _ t1) (typeIs_str s _ t2) PySem.F.slot_str_lt PySem.F.entry_str_lt (PySem.F.args_str_lt_2 _ _) (gives_str_lt _ _ t1 t2) (fun x => nomatch x) q
def rMinDS : List V → Hp → VK → Prop := fun xs H Q => ∃ (a : Addr) (kvs : List (Key × V)) (ss : List Str), xs = [.ref a] ∧ Rd H a (.dK kvs) ∧ kvs.map (·.1) = ss.map Sum.inr ∧ ss ≠ [] ∧ Q (.str (minS ss)) H
theorem best_le (bt : Nat → Nat → Bool) : ∀ n, argBest bt n ≤ n
  | 0 => Nat.le_refl _
  | n + 1 => by
    unfold argBest
    split
    · exact Nat.le_refl _
    · exact Nat.le_succ_of_le (best_le bt n)
theorem c_minDS {X : Cx} (hc : X.calm = true := by rfl) : CallR X (.builtin "min") rMinDS := fun pins s σ H xs us Q I r q => by
  obtain ⟨dA, tbl, ss, rfl, hD, hN, hne, post⟩ := q
  obtain ⟨u0, rfl, ru⟩ := vals1 r
  cases ru
  obtain ⟨hz, nm, prs, rl, dO⟩ := dk_rd I.hok hD
  obtain ⟨eps, dAt⟩ := dO.dictAt
  obtain ⟨ob, es, ho, _⟩ := id dAt
  have lt : dA < s.heap.objs.size := Heap.lt_size ho
  have hN2 : prs.map (·.1) = ss.map Sum.inr := rl.keys.symm.trans hN
  have hlen : prs.length = ss.length := by
    have z := congrArg List.length hN2
    rwa [List.length_map, List.length_map] at z
  have hpos : 0 < prs.length := by rw [hlen]; exact List.length_pos_iff.mpr hne
  have hval : ∀ (i : Nat) (v : Value), (∃ k x, prs[i]? = some (k, x) ∧ (mixKind X.prog X.w).is k v = true) → ∃ t, v = Value.str (ss.getD i "") t := fun i v ⟨k, x, hk, hkey⟩ => by
    have z : (prs.map (·.1))[i]? = some k := by rw [List.getElem?_map, hk]; rfl
    rw [hN2, List.getElem?_map] at z
    obtain ⟨y, hy, rfl⟩ := Option.map_eq_some_iff.mp z
    obtain ⟨t, ht⟩ := Value.isStrOf_shape (x := y) (v := v) hkey
    exact ⟨t, by rw [ht, List.getD_eq_getElem?_getD, hy]; rfl⟩
  refine call_min_walk (wpAny_pyIter_dict (knd := mixKind X.prog X.w) nm dAt ?_)
  refine ⟨_, _, _, _, _, _, _, rfl, Walks.dictKeys (knd := mixKind X.prog X.w) (A := X.A.in1) (I.ok.hd hc) s.heap.objs.size dA (Nat.ne_of_lt lt) prs eps, ⟨⟨_, Heap.get?_push_size _ rfl, rfl, rfl⟩, dAt.keep fun b u e => Heap.get?_push_of_some _ e⟩, fun b hb => ?_, hpos, cmp_strs (fun i => ss.getD i "") hval, fun v h' tk hP hk => ?_⟩
  · show b < (s.heap.push _).objs.size
    rw [Heap.size_push]
    rcases List.mem_cons.mp hb with rfl | hb
    · exact Nat.lt_succ_self _
    · rw [List.mem_singleton.mp hb]; exact Nat.lt_succ_of_lt lt
  · obtain ⟨t, rfl⟩ := hval _ v hP
    refine ⟨.str _, H, I.kept (t' := tk) fun b u e => hk b u (fun hmem => ?_) (Heap.get?_push_of_some _ e), ⟨t, rfl⟩, ?_⟩
    · have z := Heap.lt_size e
      rw [List.mem_singleton.mp hmem] at z
      exact absurd z (Nat.lt_irrefl _)
    · unfold minS at post
      rw [← hlen] at post
      exact post
def minDSD (ds : List D) (m : Mu) (Q : D → Mu → Prop) : Prop := ∃ d, ds = [d] ∧ ∃ ks, vwK m d = some ks ∧ ∃ ss : List Str, ks.map (·.1) = ss.map Sum.inr ∧ ss ≠ [] ∧ Q (.str (minS ss)) m
theorem cd_minDS {K : PySem.W.Frag} : CallD K rMinDS minDSD := fun F H m vs ds Q R q s rs p => by
  obtain ⟨d, rfl, ks, hx, ss, hs, hne, q⟩ := q
  obtain ⟨v, rfl, r⟩ := rs.inv1
  obtain ⟨a, kvs, rfl, ha, ra⟩ := dk_view s r hx
  exact ⟨a, kvs, ss, rfl, ha, (pr_keys ra).trans hs, hne, p.here s (.str _) q⟩
/-- dict(d) -/
def dictDD (b : Bool) (ds : List D) (m : Mu) (Q : D → Mu → Prop) : Prop := ∃ d, ds = [d] ∧ ∃ ks, vwK m d = some ks ∧ mkD b ks m Q
theorem cd_dictD {K : PySem.W.Frag} (b : Bool) : CallD K (fun xs H Q => ∃ (a : Addr) (kvs : List (Key × V)), xs = [.ref a] ∧ Rd H a (.dK kvs) ∧ ∀ p, H p = none → Q (.ref p) (upd H p (.dK kvs))) (dictDD b) := fun F H m vs ds Q R q s rs p => by
  obtain ⟨d, rfl, ks, hx, q⟩ := q
  obtain ⟨v, rfl, r⟩ := rs.inv1
  obtain ⟨a, kvs, rfl, ha, ra⟩ := dk_view s r hx
  exact ⟨a, kvs, rfl, ha, fun A hA => p.newD b s ra q A hA⟩
/-- dict(pairs) -/
def pairD (kv : Key × D) : D := .tuple [kD kv.1, kv.2]
def dictPD (b : Bool) (ds : List D) (m : Mu) (Q : D → Mu → Prop) : Prop := ∃ d, ds = [d] ∧ ∃ kvs : List (Key × D), vwL m d = some (kvs.map pairD) ∧ mkD b (mergeT [] kvs) m Q
theorem pairs_view {K : PySem.W.Frag} {F H : Hp} {m : Mu} : ∀ {kvs : List (Key × D)} {vs : List V}, Reps K (hide F H m) vs (kvs.map pairD) → ∃ (ps : List Addr) (tbl : List (Key × V)), vs = ps.map V.ref ∧ Paired (fun p kv => SqT K H p [kV kv.1, kv.2]) ps tbl ∧ PR K (hide F H m) tbl kvs
  | [], _, .nil => ⟨[], [], rfl, .nil, .nil⟩
  | kv :: kvs, _, .cons r t => by
    obtain ⟨ps, tbl, rfl, h2, h3⟩ := pairs_view t
    cases r with
    | tuple e r =>
      obtain ⟨v, u, rfl, r1, r2⟩ := r.inv2
      rw [rep_kD r1] at e
      exact ⟨_ :: ps, (kv.1, u) :: tbl, rfl, .cons (.of (hide_le e)) h2, .cons ⟨rfl, r2⟩ h3⟩
theorem cd_dictP {K : PySem.W.Frag} (b : Bool) : CallD K (fun xs H Q => ∃ (a : Addr) (ps : List Addr) (kvs : List (Key × V)), xs = [.ref a] ∧ SqL K H a (ps.map V.ref) ∧ Paired (fun p kv => SqT K H p [kV kv.1, kv.2]) ps kvs ∧
    ∀ p, H p = none → Q (.ref p) (upd H p (.dK (mergeK [] kvs)))) (dictPD b) := fun F H m vs ds Q R q s rs p => by
  obtain ⟨d, rfl, kvs, hx, q⟩ := q
  obtain ⟨v, rfl, r⟩ := rs.inv1
  obtain ⟨a, us, rfl, ha, ra⟩ := lst_of s r hx
  obtain ⟨ps, tbl, rfl, h2, h3⟩ := pairs_view ra
  exact ⟨a, ps, tbl, rfl, .of ha, h2, fun A hA => p.newD b s (pr_merge h3 .nil) q A hA⟩
/-- d.setdefault(k, z) -/
def dSetd (dd dy dx : dE) : dE := fun env m Q => dd env m fun x m1 => (∃ ks, vwK m1 x = some ks) ∧ dy env m1 fun y m2 => dx env m2 fun z m3 => ∃ p, x = .adr p ∧ ∃ ks, m3 p = some (.dK ks) ∧ ∃ k, keyOf y = some k ∧ ks.length < sizeLine ∧
  match valD ks k with
  | some v => Q v m3
  | none => Q z (ups m3 p (.dK (putT ks k z)))
section
variable {K : PySem.W.Frag} {X : Cx} {o e f : Expr} {td ty tx : TE} {dd dy dx : dE} {apos cpos pos : Pos}
theorem d_setd (ho : DE K X o td dd) (he : DE K X e ty dy) (hf : DE K X f tx dx) (m : M2 X o "setdefault" apos e f cpos := by exact ⟨rfl, rfl, rfl, rfl⟩) : DE K X (.Call (.Attribute o "setdefault" apos) [e, f] [] cpos) (tDSetd td ty tx) (dSetd dd dy dx) := by
  refine ⟨pe_dsetd ho.p he.p hf.p m, fun F env m Q σ H R q o p => ho.w F env m _ σ H _ q o fun v H1 x m1 e1 s1 r1 q1 => ?_⟩
  obtain ⟨⟨ks0, hx0⟩, q1⟩ := q1
  obtain ⟨a, rfl, hd⟩ := isD_view s1 r1 hx0
  refine ⟨a, rfl, hd, he.w F env m1 _ σ H1 _ q1 (o.at s1 e1) fun u H2 y m2 e2 s2 r2 q2 => hf.w F env m2 _ σ H2 _ q2 (o.at s2 (e1.trans e2)) fun z H3 dz m3 e3 s3 r3 q3 => ?_⟩
  obtain ⟨a', rfl, ks, hm, k, hk, hl, q⟩ := q3
  cases r1
  obtain ⟨kvs, hH, rk⟩ := s3.ok _ _ hm
  have e13 := (e1.trans e2).trans e3
  refine ⟨kvs, k, hH, keyOf_rep (r2.mono e3) hk, by rw [pr_len rk.pr]; exact hl, fun w hw => ?_, fun hw => ?_⟩
  · cases hv : valD ks k with
    | none =>
      rw [(pr_val rk.pr).1 hv] at hw
      cases hw
    | some d =>
      rw [hv] at q
      obtain ⟨w2, h1, h2⟩ := (pr_val rk.pr).2 d hv
      rw [hw] at h1
      cases h1
      exact (p.at e13).here s3 h2 q
  · cases hv : valD ks k with
    | some d =>
      obtain ⟨w2, h1, h2⟩ := (pr_val rk.pr).2 d hv
      rw [hw] at h1
      cases h1
    | none =>
      rw [hv] at q
      have hc : hide F (upd H3 a (.dK (putK kvs k z))) (ups m3 a (.dK (putT ks k dz))) = hide F H3 m3 := hide_chg hm
      exact p _ _ dz _ (by rw [hc]; exact e13) (s3.chg hm (show MOk K _ _ a (.dK (putT ks k dz)) from ⟨_, upd_same, repK_of (pr_put r3 rk.pr)⟩)) (by rw [hc]; exact r3) q
/-- t + u, neither empty -/
def addT (x y : D) (m : Mu) (Q : D → Mu → Prop) : Prop := ∃ xs ys, x = .tuple xs ∧ y = .tuple ys ∧ xs ≠ [] ∧ ys ≠ [] ∧ xs.length + ys.length ≤ sizeLine ∧ Q (.tuple (xs ++ ys)) m
theorem opd_addT : OpD K (rCatT K) addT := fun F H m x y v u Q R q s rx ry p => by
  obtain ⟨xs, ys, rfl, rfl, h1, h2, hl, q⟩ := q
  cases rx with
  | tuple e r =>
    cases ry with
    | tuple e2 r2 =>
      refine ⟨_, _, _, _, rfl, rfl, .of (hide_le e), .of (hide_le e2), fun z => h1 ?_, by rw [r.length, r2.length]; exact hl, fun z => absurd ?_ h2, fun _ A hA => p.newT s (r.append r2) q A hA⟩
      · subst z
        cases r
        rfl
      · subst z
        cases r2
        rfl
theorem d_addT {a b : Expr} {ta tb : TE} {da db : dE} (ha : DE K X a ta da) (hb : DE K X b tb db) (hK : X.K = K := by rfl) : DE K X (.BinOp a .Add b pos) (tOp (rCatT K) ta tb) (dOp addT da db) := by
  subst hK
  exact ⟨pe_op op_catT ha.p hb.p, .op opd_addT ha.w hb.w⟩
end
end Dq

/-! the last dict of a list walked; a comprehension over a dict that may change -/
namespace Dq
open PySem PySem.Spec L2 PyProof.Rows
/-- xs[-1] -/
def tLast (K : PySem.W.Frag) (i : Nat) : TE := tOp (rIx K) (tVar i) (tUn (rU fun i => .int (-i)) (tC (.int 1)))
def jKeysL (i : Nat) : dI := fun env m Q => ∃ d, env[i]? = some (some d) ∧ ∃ ds, vwL m d = some ds ∧ ∃ ks, atI ds (-1) = some (.dict ks) ∧ Q (ks.map fun kv => kD kv.1) m
theorem atI_reps {K : PySem.W.Frag} {H : Hp} {vs : List V} {ds : List D} {i : Int} {d : D} (r : Reps K H vs ds) (h : atI ds i = some d) : ∃ v, atI vs i = some v ∧ Rep K H v d := by
  unfold atI at h ⊢
  rw [r.length]
  cases e : ixN ds.length i with
  | none => rw [e] at h; cases h
  | some j =>
    rw [e] at h
    exact r.get h
section
variable {K : PySem.W.Frag}
theorem WS.forKL {i : Nat} {ug : TG} {g : dG} {ub : TS} {tb : dS} (hg : WG K ug g) (hb : WS K ub tb) : WS K (fun D σ H => tLock (tFor (iKeys (tLast K i)) ug ub) D σ H ∨ tFor (iKeys (tLast K i)) ug ub D σ H) (dFor (jKeysL i) g tb) := fun F DD env m σ H RR q o p => by
  obtain ⟨d, he, ds, hd, ks, hk, q⟩ := q
  obtain ⟨v, hv, rv⟩ := o.fr.2 i d he
  obtain ⟨b, vs, rfl, hb0, rb⟩ := lst_of o.st rv hd
  obtain ⟨w, hw, rw'⟩ := atI_reps rb hk
  have run : ∀ (a : Addr) (H' : Hp) (Q : VK), w = .ref a → H' b = some (.lst vs) → Q (.ref a) H' → tLast K i σ H' Q := fun a H' Q ea hH q => by
    subst ea
    exact ⟨_, hv, 1, rfl, .inl ⟨b, vs, -1, _, rfl, rfl, .of hH, hw, q⟩⟩
  have atk : ∀ (a : Addr) (H' : Hp) (od : Obj) (kvs : List (Key × V)), w = .ref a → H' b = some (.lst vs) → Stt K F H' m → hide F H' m a = some (.frz od (.dK kvs)) → PR K (hide F H' m) kvs ks → WIat K (iKeys (tLast K i)) (jKeysL i) F env m σ H' := fun a H' od kvs ea hH s h r Q R q p => by
    obtain ⟨d', he', ds', hd', ks', hk', q⟩ := q
    rw [he] at he'
    cases he'
    rw [hd] at hd'
    cases hd'
    rw [hk] at hk'
    cases hk'
    exact run a H' _ ea hH ⟨a, od, rfl, .inl ⟨kvs, hide_le h, p _ H' _ m Ext.refl s (wlk_keys h r) q⟩⟩
  cases rw' with
  | @dict a kvs ks e r =>
    rcases e with hh | ⟨od, hh⟩
    · refine .inl ⟨a, _, hide_le hh, trivial, fun od => ?_⟩
      have hd2 : (∃ kvs', HO.dK kvs = .dK kvs') ∨ ∃ kvs', HO.dK kvs = .dT kvs' := .inl ⟨kvs, rfl⟩
      have ex := lock_ext (od := od) hh hd2
      have hm := hide_un hh
      have o1 : Ok K F (upd H a (.frz od (.dK kvs))) σ env m := o.at (lock_stt o.st hh hd2) ex
      have ne : b ≠ a := by
        rintro rfl
        rw [hide_le hh] at hb0
        cases hb0
      exact for_at F DD env m σ _ _ (atk a _ od kvs rfl (by rw [upd_ne ne]; exact hb0) o1.st (by rw [hide_at hm.1 hm.2, upd_same]) (pr_mono ex r.pr)) hg hb ⟨d, he, ds, hd, ks, hk, q⟩ o1 (lock_ends hh hd2 p)
    · exact .inr (for_at F DD env m σ _ _ (atk a H od kvs rfl hb0 o.st hh r.pr) hg hb ⟨d, he, ds, hd, ks, hk, q⟩ o p)
end
section
variable {K : PySem.W.Frag} {X : Cx}
theorem s_forKL {iter tg : Expr} {pos : Pos} {body : List Stmt} {ug : TG} {ub : TS} {g : dG} {tb : dS} {te : dE} (i : Nat) (hi : DE K X iter (tLast K i) te) (hg : DG K X tg ug g) (hb : DSs K X body ub tb) (hp : PassesOwn (model X.prog X.w) X.A X.env X.xe := by exact PassesOwn.never) (hc : X.calm = true := by rfl) (hs : ∀ z, foldedSetIterable iter X.env z = pure z := by intro _; rfl) :
    DS K X (.For tg iter body [] pos) (fun D σ H => tLock (tFor (iKeys (tLast K i)) ug ub) D σ H ∨ tFor (iKeys (tLast K i)) ug ub D σ H) (dFor (jKeysL i) g tb) := by
  have h1 : PS X (.For tg iter body [] pos) (tFor (iKeys (tLast K i)) ug ub) := ps_for hp hc (pi_keys hi.p) hg.p hb.p hs
  exact ⟨PS.or (ps_lock h1) h1, .forKL hg.w hb.w⟩
end
/-! ### a comprehension over a dict that may change; all that may change stands apart meanwhile -/
def dLcM (vs : List Nat) (i : Nat) (g : dG) (tt : dT) (te : dE) : dE := fun env m Q => ∃ p, env[i]? = some (some (.adr p)) ∧ ∃ ks, m p = some (.dK ks) ∧ ∃ ss : List Str,
  dLc false vs (jKeys i) g tt te (env.set i (some (.dict ks))) (fun _ => none) (fun d _ => d = .list (ss.map D.str)) ∧ Q (.list (ss.map D.str)) m
def frm (F H : Hp) (m : Mu) (p : Addr) : Hp := fun a => if a = p then none else match m a with
  | some _ => H a
  | none => F a
section
variable {K : PySem.W.Frag} {F H : Hp} {m : Mu} {p : Addr} {ks : List (Key × D)} {kvs : List (Key × V)}
theorem frm_hide (s : Stt K F H m) (hp : m p = some (.dK ks)) (a : Addr) : hide (frm F H m p) H (fun _ => none) a = if a = p then H p else hide F H m a := by
  unfold hide frm
  by_cases e : a = p
  · subst e
    rw [if_pos rfl, if_pos rfl]
  · rw [if_neg e, if_neg e]
    cases hm : m a with
    | none => rfl
    | some o =>
      simp only
      obtain ⟨u, hu⟩ := (s.ok a o hm).there
      rw [hu]
theorem frm_ext (s : Stt K F H m) (hp : m p = some (.dK ks)) : Ext (hide F H m) (hide (frm F H m p) H (fun _ => none)) := Ext.same fun a u e => by
  rw [frm_hide s hp]
  have ne : a ≠ p := by
    rintro rfl
    have z := (hide_un e).1
    rw [hp] at z
    cases z
  rw [if_neg ne]
  exact e
theorem frm_stt (s : Stt K F H m) : Stt K (frm F H m p) H (fun _ => none) := by
  refine ⟨fun q o e => ⟨?_, rfl⟩, nofun, fun q vs e => ?_⟩
  case refine_2 =>
    unfold frm at e
    split at e
    · cases e
    · split at e
      · rename_i z
        exact (s.ok q _ z).noTup vs e
      · exact s.ft q vs e
  unfold frm at e
  split at e
  · cases e
  · split at e
    · exact e
    · exact (s.fr q o e).1
/-- back -/
theorem frm_back {H' : Hp} {m' : Mu} {od : Obj} (s : Stt K F H m) (hp : m p = some (.dK ks)) (hH : H p = some (.dK kvs)) (r : PR K (hide F H m) kvs ks) (s' : Stt K (frm F H m p) H' m') (hl : H' p = some (.frz od (.dK kvs)))
    (e : Ext (hide (frm F H m p) (upd H p (.frz od (.dK kvs))) (fun _ => none)) (hide (frm F H m p) H' m')) : Stt K F (upd H' p (.dK kvs)) m ∧ Ext (hide F H m) (hide F (upd H' p (.dK kvs)) m) := by
  have vis : ∀ a u, hide F H m a = some u → a ≠ p ∧ m a = none ∧ F a = none ∧ hide (frm F H m p) (upd H p (.frz od (.dK kvs))) (fun _ => none) a = some u := fun a u h => by
    have h1 := hide_un h
    have ne : a ≠ p := by
      rintro rfl
      rw [hp] at h1
      cases h1.1
    refine ⟨ne, h1.1, h1.2, ?_⟩
    unfold hide frm
    rw [if_neg ne, h1.1]
    simp only [h1.2]
    rw [upd_ne ne]
    exact hide_le h
  have bck : ∀ a u, m a = none → F a = none → a ≠ p → hide (frm F H m p) H' m' a = some u → hide F (upd H' p (.dK kvs)) m a = some u := fun a u h1 h2 h3 h => by
    rw [hide_at h1 h2, upd_ne h3]
    exact hide_le h
  have rdb : ∀ a u, Rd (hide F H m) a u → (Rd (hide (frm F H m p) (upd H p (.frz od (.dK kvs))) (fun _ => none)) a u → Rd (hide (frm F H m p) H' m') a u) → Rd (hide F (upd H' p (.dK kvs)) m) a u := fun a u h k => by
    rcases h with h | ⟨o, h⟩
    · obtain ⟨h1, h2, h3, h4⟩ := vis a _ h
      rcases k (.inl h4) with z | ⟨o, z⟩
      · exact .inl (bck a _ h2 h3 h1 z)
      · exact .inr ⟨o, bck a _ h2 h3 h1 z⟩
    · obtain ⟨h1, h2, h3, h4⟩ := vis a _ h
      rcases k (.inr ⟨o, h4⟩) with z | ⟨o, z⟩
      · exact .inl (bck a _ h2 h3 h1 z)
      · exact .inr ⟨o, bck a _ h2 h3 h1 z⟩
  have ex : Ext (hide F H m) (hide F (upd H' p (.dK kvs)) m) := by
    refine ⟨fun a v h => ?_, fun a v h => ?_, fun a v h => ?_, fun a v h => rdb a _ h (e.rl a v), fun a v h => rdb a _ h (e.rt a v), fun a v h => rdb a _ h (e.dk a v), fun a v h => rdb a _ h (e.dt a v), fun a o u h => ?_⟩
    · obtain ⟨h1, h2, h3, h4⟩ := vis a _ h
      exact bck a _ h2 h3 h1 (e.ext a v h4)
    · obtain ⟨h1, h2, h3, h4⟩ := vis a _ h
      exact bck a _ h2 h3 h1 (e.lst a v h4)
    · obtain ⟨h1, h2, h3, h4⟩ := vis a _ h
      exact bck a _ h2 h3 h1 (e.tup a v h4)
    · obtain ⟨h1, h2, h3, h4⟩ := vis a _ h
      exact bck a _ h2 h3 h1 (e.fz a o u h4)
  refine ⟨⟨fun q o h => ?_, fun q o h => ?_, s.ft⟩, ex⟩
  · have h1 := s.fr q o h
    have ne : q ≠ p := by
      rintro rfl
      rw [hp] at h1
      cases h1.2
    refine ⟨?_, h1.2⟩
    rw [upd_ne ne]
    refine (s'.fr q o ?_).1
    unfold frm
    rw [if_neg ne, h1.2]
    exact h
  · by_cases ne : q = p
    · subst ne
      rw [hp] at h
      cases h
      exact ⟨kvs, upd_same, (repK_of r).mono ex⟩
    · obtain ⟨u, hu⟩ := (s.ok q o h).there
      have h2 : H' q = H q := by
        rw [hu]
        refine (s'.fr q u ?_).1
        unfold frm
        rw [if_neg ne, h]
        exact hu
      exact (s.ok q o h).mono (by rw [upd_ne ne]; exact h2) ex
theorem strs_rep : ∀ {ss : List Str} {vs : List V}, Reps K H vs (ss.map D.str) → vs = ss.map V.str
  | [], _, .nil => rfl
  | _ :: _, _, .cons r t => by
    cases r
    rw [strs_rep t, List.map_cons]
theorem WE.lcM {i : Nat} {g : TG} {dg : dG} {tt : TT} {dt : dT} {te : TE} {de : dE} {vs : List Nat} (hg : WG K g dg) (ht : WT K tt dt) (he : WE K te de) (hk : Keeps g vs) :
    WE K (tLockE (tLc (iKeys (tVar i)) g tt te vs)) (dLcM vs i dg dt de) := fun F env m Q σ H R q o pp => by
  obtain ⟨p, hi, ks, hm, ss, q1, q⟩ := q
  obtain ⟨v, hv, rv⟩ := o.fr.2 i _ hi
  cases rv
  obtain ⟨kvs, hH, rk⟩ := o.st.ok _ _ hm
  refine ⟨p, _, hH, trivial, fun od => ?_⟩
  have s1 := frm_stt (p := p) o.st
  have e1 := frm_ext o.st hm
  have hp1 : hide (frm F H m p) H (fun _ => none) p = some (.dK kvs) := by rw [frm_hide o.st hm, if_pos rfl]; exact hH
  have hd : (∃ kvs', HO.dK kvs = .dK kvs') ∨ ∃ kvs', HO.dK kvs = .dT kvs' := .inl ⟨kvs, rfl⟩
  have ex := lock_ext (od := od) hp1 hd
  have fr1 : RepS K (hide (frm F H m p) H (fun _ => none)) σ (env.set i (some (.dict ks))) := (o.fr.mono e1).put hi fun w r => by
    cases r
    exact .dict (.inl hp1) (rk.mono e1)
  have o1 : Ok K (frm F H m p) (upd H p (.frz od (.dK kvs))) σ (env.set i (some (.dict ks))) (fun _ => none) := ⟨lock_stt s1 hp1 hd, fr1.mono ex⟩
  have hil := (List.getElem?_eq_some_iff.mp hi).1
  have hp2 : hide (frm F H m p) (upd H p (.frz od (.dK kvs))) (fun _ => none) p = some (.frz od (.dK kvs)) := by
    have z := hide_un hp1
    rw [hide_at z.1 z.2, upd_same]
  refine lc_at false _ _ _ _ σ _ _ (at_keys o1 (List.getElem?_set_self hil) hv hp2 (pr_mono (e1.trans ex) rk.pr)) hg ht he hk q1 o1 fun w H' d m' e s' r' hq => ?_
  subst hq
  have hfz := hide_le (e.fz p od _ hp2)
  obtain ⟨b1, b2⟩ := frm_back o.st hm hH rk.pr s' hfz e
  refine ⟨hfz, ?_⟩
  cases r' with
  | list h r =>
    rw [strs_rep r] at h
    refine pp _ _ _ m b2 b1 (.list ?_ (reps_strsL ss)) q
    have hl := hide_le h
    have hu := hide_un h
    rename_i b vs0
    have nb : b ≠ p := by
      rintro rfl
      rw [hfz] at hl
      cases hl
    have hmb : m b = none := by
      cases z : m b with
      | none => rfl
      | some o' =>
        have f := hu.2
        unfold frm at f
        rw [if_neg nb, z] at f
        obtain ⟨u, hu2⟩ := (o.st.ok b o' z).there
        rw [hu2] at f
        cases f
    have hFb : F b = none := by
      have f := hu.2
      unfold frm at f
      rw [if_neg nb, hmb] at f
      exact f
    rw [hide_at hmb hFb, upd_ne nb]
    exact hl
end
section
variable {K : PySem.W.Frag} {X : Cx}
theorem d_lcM (i : Nat) {x : Str} {px pos : Pos} {elt tg : Expr} {ifs : List Expr} {scope : Scope} {own : List (Str × Nat)} {g : TG} {dg : dG} {tt : TT} {dt : dT} {te : TE} {de : dE} (hN : X.N.Nodup) (hi : X.N[i]? = some x) (ok : BlkOk X.N X.env.scope scope own)
    (hg : ∀ (s : Shared) (H : Hp) (C : Addr) (cl : List (Str × Addr)) (fp : List Addr), DG K (X.blk s H scope (compEnvC scope cl C X.env) fp) tg g dg) (ht : ∀ (s : Shared) (H : Hp) (C : Addr) (cl : List (Str × Addr)) (fp : List Addr), DTs K (X.blk s H scope (compEnvC scope cl C X.env) fp) ifs tt dt)
    (he : ∀ (s : Shared) (H : Hp) (C : Addr) (cl : List (Str × Addr)) (fp : List Addr), DE K (X.blk s H scope (compEnvC scope cl C X.env) fp) elt te de) (hk : Keeps g (own.map (·.2))) (hs : ∀ z, foldedSetIterable (.Name x px) X.env z = pure z := by intro _; rfl) (hc : X.calm = true := by rfl)
    (hv : Vis X.env.scope x := by first | exact Or.inl rfl | exact Or.inr (Or.inl rfl) | exact Or.inr (Or.inr rfl)) (hdb : (x == ("__debug__" : Str)) = false := by decide) (hcd : (x == ("__classdict__" : Str)) = false := by decide) :
    DE K X (.ListComp elt [⟨tg, .Name x px, ifs, 0⟩] scope pos) (tLockE (tLc (iKeys (tVar i)) g tt te (own.map (·.2)))) (dLcM (own.map (·.2)) i dg dt de) := by
  have h1 : PE X (.ListComp elt [⟨tg, .Name x px, ifs, 0⟩] scope pos) (tLc (iKeys (tVar i)) g tt te (own.map (·.2))) := pe_lc hc hN (pi_keys (pv i hi hv hdb hcd)) ok (fun s H C cl fp => (hg s H C cl fp).p) (fun s H C cl fp => (ht s H C cl fp).p) (fun s H C cl fp => (he s H C cl fp).p) hs
  exact ⟨pe_lock h1, .lcM (hg X.s_0 X.H_0 0 [] []).w (ht X.s_0 X.H_0 0 [] []).w (he X.s_0 X.H_0 0 [] []).w hk⟩
theorem s_setLcM (i : Nat) {j : Nat} {x y : Str} {px py spos pos : Pos} {elt tg : Expr} {ifs : List Expr} {scope : Scope} {own : List (Str × Nat)} {g : TG} {dg : dG} {tt : TT} {dt : dT} {te : TE} {de : dE} (hN : X.N.Nodup) (hi : X.N[i]? = some x) (ok : BlkOk X.N X.env.scope scope own)
    (hg : ∀ (s : Shared) (H : Hp) (C : Addr) (cl : List (Str × Addr)) (fp : List Addr), DG K (X.blk s H scope (compEnvC scope cl C X.env) fp) tg g dg) (ht : ∀ (s : Shared) (H : Hp) (C : Addr) (cl : List (Str × Addr)) (fp : List Addr), DTs K (X.blk s H scope (compEnvC scope cl C X.env) fp) ifs tt dt)
    (he : ∀ (s : Shared) (H : Hp) (C : Addr) (cl : List (Str × Addr)) (fp : List Addr), DE K (X.blk s H scope (compEnvC scope cl C X.env) fp) elt te de) (hk : Keeps g (own.map (·.2)))
    (hsw : swapsWith (.ListComp elt [⟨tg, .Name x px, ifs, 0⟩] scope pos) (some (.Name y py)) spos.line X.env = pure true)
    (hy : X.N[j]? = some y := by rfl) (hyl : X.env.scope.names.lookup y = some .local := by rfl) (hs : ∀ z, foldedSetIterable (.Name x px) X.env z = pure z := by intro _; rfl) (hc : X.calm = true := by rfl)
    (hv : Vis X.env.scope x := by first | exact Or.inl rfl | exact Or.inr (Or.inl rfl) | exact Or.inr (Or.inr rfl)) (hdb : (x == ("__debug__" : Str)) = false := by decide) (hcd : (x == ("__classdict__" : Str)) = false := by decide) :
    DS K X (.Assign [.Name y py] (.ListComp elt [⟨tg, .Name x px, ifs, 0⟩] scope pos) spos) (tLock (tAsg (tLc (iKeys (tVar i)) g tt te (own.map (·.2))) (gName j))) (dAsg (dLcM (own.map (·.2)) i dg dt de) j) := by
  refine ⟨ps_lock (ps_setLc hc hN hy hyl hsw (pi_keys (pv i hi hv hdb hcd)) ok (fun s H C cl fp => (hg s H C cl fp).p) (fun s H C cl fp => (ht s H C cl fp).p) (fun s H C cl fp => (he s H C cl fp).p) hs), ?_⟩
  intro F DD env m σ H RR q o p
  exact WE.lcM (hg X.s_0 X.H_0 0 [] []).w (ht X.s_0 X.H_0 0 [] []).w (he X.s_0 X.H_0 0 [] []).w hk F env m _ σ H (fun v H1 => RR.nx (σ.set j (some v)) H1) q o fun v H1 d m1 e1 s1 r1 q1 => p.nx _ H1 _ m1 e1 ⟨s1, (o.fr.mono e1).set r1⟩ q1
end
end Dq

/-! a dict of lists comes to rest -/
namespace Dq
open PySem PySem.Spec L2 PyProof.Rows
/-- slot i: a dict whose values are lists that may change; all of these come to rest -/
def dFzN (i : Nat) (t : dS) : dS := fun DD env m => ∃ p, env[i]? = some (some (.adr p)) ∧ ∃ l : List (Key × Addr × List D), m p = some (.dK (l.map fun x => (x.1, .adr x.2.1))) ∧ (∀ x ∈ l, m x.2.1 = some (.lst x.2.2)) ∧
  ∃ m', Sub m' m ∧ m' p = none ∧ (∀ x ∈ l, m' x.2.1 = none) ∧ t DD (env.set i (some (.dict (l.map fun x => (x.1, .list x.2.2))))) m'
section
variable {K : PySem.W.Frag} {F H : Hp} {m m' : Mu}
theorem fzN_rep (s : Stt K F H m) (hs : Sub m' m) : ∀ {l : List (Key × Addr × List D)} {kvs : List (Key × V)}, RepK K (hide F H m) kvs (l.map fun x => (x.1, .adr x.2.1)) → (∀ x ∈ l, m x.2.1 = some (.lst x.2.2)) → (∀ x ∈ l, m' x.2.1 = none) →
    RepK K (hide F H m') kvs (l.map fun x => (x.1, .list x.2.2))
  | [], _, .nil, _, _ => .nil
  | x :: l, _, .cons r t, h, h' => by
    refine .cons ?_ (fzN_rep s hs t (fun y hy => h y (List.mem_cons_of_mem _ hy)) fun y hy => h' y (List.mem_cons_of_mem _ hy))
    have hx := h x List.mem_cons_self
    cases r
    obtain ⟨vs, e, rr⟩ := s.ok _ _ hx
    exact .list (by rw [hide_at (h' x List.mem_cons_self) (s.apart hx)]; exact e) (rr.mono (Ext.sub hs))
theorem WS.fzN {ts : TS} {t : dS} {i : Nat} (w : WS K ts t) : WS K ts (dFzN i t) := fun F DD env m σ H RR q o p => by
  obtain ⟨a, hi, l, hm, hl, m', hs, ha, hl', q⟩ := q
  refine w F DD _ m' σ H RR q ⟨o.st.sub hs, (o.fr.mono (Ext.sub hs)).put hi fun v r => ?_⟩ (p.at (Ext.sub hs))
  cases r
  obtain ⟨kvs, e, rk⟩ := o.st.ok _ _ hm
  exact .dict (.inl (by rw [hide_at ha (o.st.apart hm)]; exact e)) (fzN_rep o.st hs rk hl hl')
end
theorem ss_fzN {K : PySem.W.Frag} {X : Cx} (i : Nat) {sts : List Stmt} {ts : TS} {t : dS} (h : DSs K X sts ts t) : DSs K X sts ts (dFzN i t) := ⟨h.p, h.w.fzN⟩
/-! ### == and != of a list that may change -/
section
variable {α : Type} [DecidableEq α] [Cod α]
theorem eq_adr {t : Bool} {m : Mu} {Q : D → Mu → Prop} {a : Addr} (l k : List α) (hm : m a = some (.lst (l.map Cod.enc))) (h : Cod.dep α + 1 ≤ 64) (q : Q (.bl (t == decide (l = k))) m) : eqP t (.adr a) (.list (k.map Cod.enc)) m Q :=
  ⟨_, _, .adr hm (cod_isPs m l), Cod.isP m k, cod_shaped (α := List α) l h, cod_shaped (α := List α) k h, by rw [show PyData.list (l.map Cod.py) = Cod.py l from rfl, Cod.eqv (α := List α)]; exact q⟩
theorem eq_lst {t : Bool} {m : Mu} {Q : D → Mu → Prop} (l k : List α) (h : Cod.dep α + 1 ≤ 64) (q : Q (.bl (t == decide (l = k))) m) : eqP t (.list (l.map Cod.enc)) (.list (k.map Cod.enc)) m Q := eq_cod (α := List α) l k h q
end
end Dq
namespace Dq
open PySem L2
section
variable {DD : dEnds} {env : Dq.Env} {m : Mu} {te : dE} {u : dS} {i : Nat}
/-- a new dict that will change -/
theorem q_newK {ks : List (Key × D)} (h : ∀ Q : D → Mu → Prop, (∀ a, m a = none → Q (.adr a) (ups m a (.dK ks))) → te env m Q) (k : ∀ a, m a = none → u DD (env.set i (some (.adr a))) (ups m a (.dK ks))) : dSeq (dAsg te i) u DD env m := h _ k
end
end Dq
namespace Dq
open PySem L2
section
variable {DD : dEnds} {env : Dq.Env} {m : Mu} {te : dE} {u : dS} {i : Nat}
theorem q_asgM {m1 : Mu} (d : D) (h : ∀ Q : D → Mu → Prop, Q d m1 → te env m Q) (k : u DD (env.set i (some d)) m1) : dSeq (dAsg te i) u DD env m := h _ k
end
end Dq
namespace Dq
open PySem L2
theorem s_while' {DD : dEnds} {env : Dq.Env} {m : Mu} {c : dT} {tb : dS} (W : Nat → Dq.Env → Mu → Prop) (n0 : Nat) (h0 : W n0 env m)
    (hs : ∀ n e m', W n e m' → ∃ b : Bool, (∀ Q : Bool → Mu → Prop, Q b m' → c e m' Q) ∧ (b = true → ∀ nx : Dq.Env → Mu → Prop, (∀ n' e1 m1, n' < n → W n' e1 m1 → nx e1 m1) → tb { DD with nx := nx, ct := nx, bk := DD.nx } e m') ∧ (b = false → DD.nx e m')) :
    dWhile c tb DD env m := by
  refine ⟨W, ⟨n0, h0⟩, fun n e m' w => ?_⟩
  obtain ⟨b, h1, h2, h3⟩ := hs n e m' w
  refine h1 _ ?_
  cases b with
  | true => exact h2 rfl _ fun n' e1 m1 hl w1 => ⟨n', hl, w1⟩
  | false => exact h3 rfl
end Dq
namespace Dq
open PySem L2
def clrD (x : D) (ds : List D) (m : Mu) (Q : D → Mu → Prop) : Prop := ∃ a xs, x = .adr a ∧ ds = [] ∧ m a = some (.lst xs) ∧ Q .non (ups m a (.lst []))
theorem md_clear {K : PySem.W.Frag} : MtD K "list" rClear clrD := fun F H m v x vs ds Q R q s rx rs p => by
  obtain ⟨a, xs, rfl, rfl, hm, q⟩ := q
  cases rx; cases rs
  obtain ⟨us, e, r⟩ := s.ok _ _ hm
  exact ⟨a, us, rfl, rfl, e, p.chgL s hm .nil .non q⟩
end Dq

/-! a list that may change is walked, or lent to a def -/
namespace Dq
open PySem PySem.Spec L2 PyProof.Rows
def dForA (i : Nat) (g : dG) (tb : dS) : dS := fun DD env m => ∃ p, env[i]? = some (some (.adr p)) ∧ ∃ ds, m p = some (.lst ds) ∧ forD g tb { DD with nx := fun e m' => m' p = none → DD.nx e (ups m' p (.lst ds)) } ds env (del m p)
section
variable {K : PySem.W.Frag} {F H : Hp} {m : Mu} {a : Addr} {vs : List V} {ds : List D}
theorem hide_away (h : ∃ o, m a = some o) (u : HO) : hide (upd F a u) H (del m a) = hide F H m := by
  obtain ⟨o, h⟩ := h
  funext b
  unfold hide
  by_cases e : b = a
  · subst e
    rw [upd_same, h]
    cases del m b b <;> rfl
  · rw [upd_ne e, show del m a b = m b by unfold del; rw [if_neg e]]
theorem stt_away (s : Stt K F H m) (h : m a = some (.lst ds)) (hH : H a = some (.lst vs)) : Stt K (upd F a (.lst vs)) H (del m a) := by
  refine ⟨fun q o e => ?_, fun q o e => ?_, ft_upd s.ft (fun _ z => nomatch z)⟩
  · by_cases hq : q = a
    · subst hq
      rw [upd_same] at e
      exact ⟨hH.trans e, by unfold del; rw [if_pos rfl]⟩
    · rw [upd_ne hq] at e
      exact ⟨(s.fr q o e).1, by unfold del; rw [if_neg hq]; exact (s.fr q o e).2⟩
  · have hq : q ≠ a := by
      rintro rfl
      unfold del at e
      rw [if_pos rfl] at e
      cases e
    unfold del at e
    rw [if_neg hq] at e
    rw [hide_away ⟨_, h⟩]
    exact s.ok q o e
theorem WS.forA {i : Nat} {ug : TG} {g : dG} {ub : TS} {tb : dS} (hg : WG K ug g) (hb : WS K ub tb) : WS K (tFor (iList K (tVar i)) ug ub) (dForA i g tb) := fun F DD env m σ H RR q o p => by
  obtain ⟨a, he, ds, hm, q⟩ := q
  obtain ⟨v, hv, rv⟩ := o.fr.2 i _ he
  cases rv
  obtain ⟨vs, hH, r⟩ := o.st.ok _ _ hm
  have hF : F a = none := o.st.apart hm
  have heq : hide (upd F a (.lst vs)) H (del m a) = hide F H m := hide_away ⟨_, hm⟩ _
  have s1 := stt_away o.st hm hH
  have o1 : Ok K (upd F a (.lst vs)) H σ env (del m a) := ⟨s1, by rw [heq]; exact o.fr⟩
  have nx' : ∀ {H1 m1}, Ext (hide F H m) (hide (upd F a (.lst vs)) H1 m1) → PstX K (upd F a (.lst vs)) H1 m1 (fun e m' => m' a = none → DD.nx e (ups m' a (.lst ds))) RR.nx := fun e1 σ3 H3 env3 m3 e3 o3 q3 => by
    have fr := o3.st.fr a _ upd_same
    have hk : hide F H3 (ups m3 a (.lst ds)) = hide (upd F a (.lst vs)) H3 m3 := hide_know hF
    have s3 : Stt K F H3 (ups m3 a (.lst ds)) := o3.st.know hF (show MOk K H3 _ a (.lst ds) from ⟨vs, fr.1, r.mono (e1.trans e3)⟩)
    exact p.nx σ3 H3 env3 _ (by rw [hk]; exact e1.trans e3) ⟨s3, by rw [hk]; exact o3.fr⟩ (q3 fr.2)
  have rt' : ∀ {H1 m1}, Ext (hide F H m) (hide (upd F a (.lst vs)) H1 m1) → Pst K (upd F a (.lst vs)) H1 m1 DD.rt RR.rt := fun e1 v3 H3 d3 m3 e3 s3 r3 q3 =>
    p.rt v3 H3 d3 m3 ((e1.trans e3).trans (Ext.back hF)) (s3.back hF) (r3.mono (Ext.back hF)) q3
  refine ⟨_, hv, a, rfl, ⟨vs, .of hH⟩, ?_⟩
  refine for_it (walk_list (K := K) (a := a) (xs := vs)) (fun i σ' H' => ∃ env' m', Ext (hide F H m) (hide (upd F a (.lst vs)) H' m') ∧ Ok K (upd F a (.lst vs)) H' σ' env' m' ∧ forD g tb { DD with nx := fun e m' => m' a = none → DD.nx e (ups m' a (.lst ds)) } (ds.drop i) env' m') ⟨env, del m a, by rw [heq]; exact Ext.refl, o1, q⟩ (fun i σ' H' _ ⟨env', m', ex, o', _⟩ => .of (o'.st.fr a _ upd_same).1) ?_ ?_
  · rintro j x σ' Hc H' hj ⟨env', m', ex, o', q'⟩ ⟨rfl, hx⟩
    obtain ⟨d, hd, rd⟩ := r.get' hx
    have hdr : ds.drop j = d :: ds.drop (j + 1) := by
      obtain ⟨h1, h2⟩ := List.getElem?_eq_some_iff.mp hd
      rw [← h2, List.getElem_cons_drop]
    rw [hdr] at q'
    refine hg _ d env' m' _ x σ' H' _ q' o' (rd.mono ex) fun σ2 H2 env2 m2 e3 o2 q2 => ?_
    have e12 := ex.trans e3
    have again : PstX K (upd F a (.lst vs)) H2 m2 (forD g tb { DD with nx := fun e m' => m' a = none → DD.nx e (ups m' a (.lst ds)) } (ds.drop (j + 1))) (fun σ' H' => ∃ env' m', Ext (hide F H m) (hide (upd F a (.lst vs)) H' m') ∧ Ok K (upd F a (.lst vs)) H' σ' env' m' ∧ forD g tb { DD with nx := fun e m' => m' a = none → DD.nx e (ups m' a (.lst ds)) } (ds.drop (j + 1)) env' m') :=
      fun σ3 H3 env3 m3 e4 o3 q3 => ⟨env3, m3, e12.trans e4, o3, q3⟩
    exact hb _ _ env2 m2 σ2 H2 _ q2 o2 ⟨again, rt' e12, nx' e12, again⟩
  · rintro σ' H' ⟨env', m', ex, o', q'⟩
    rw [r.length, List.drop_length] at q'
    exact nx' ex σ' H' env' m' Ext.refl o' q'
theorem s_forA {X : Cx} (i : Nat) {x : Str} {px pos : Pos} {tg : Expr} {body : List Stmt} {ug : TG} {ub : TS} {g : dG} {tb : dS} (hN : X.N[i]? = some x) (hg : DG K X tg ug g) (hb : DSs K X body ub tb) (hv : Vis X.env.scope x := by first | exact Or.inl rfl | exact Or.inr (Or.inl rfl) | exact Or.inr (Or.inr rfl)) (hdb : (x == ("__debug__" : Str)) = false := by decide)
    (hcd : (x == ("__classdict__" : Str)) = false := by decide) (hp : PassesOwn (model X.prog X.w) X.A X.env X.xe := by exact PassesOwn.never) (hc : X.calm = true := by rfl) (hs : ∀ z, foldedSetIterable (.Name x px) X.env z = pure z := by intro _; rfl) (hK : X.K = K := by rfl) :
    DS K X (.For tg (.Name x px) body [] pos) (tFor (iList K (tVar i)) ug ub) (dForA i g tb) := by
  subst hK
  exact ⟨ps_for hp hc (pi_list (pv i hN hv hdb hcd)) hg.p hb.p hs, .forA hg.w hb.w⟩
end
/-! ### lent -/
section
variable {K : PySem.W.Frag} {F H : Hp} {m : Mu} {p : Addr} {o : MO}
theorem frm_hide2 (s : Stt K F H m) (hp : m p = some o) (a : Addr) : hide (frm F H m p) H (fun _ => none) a = if a = p then H p else hide F H m a := by
  unfold hide frm
  by_cases e : a = p
  · subst e
    rw [if_pos rfl, if_pos rfl]
  · rw [if_neg e, if_neg e]
    cases hm : m a with
    | none => rfl
    | some o' =>
      simp only
      obtain ⟨u, hu⟩ := (s.ok a o' hm).there
      rw [hu]
theorem frm_ext2 (s : Stt K F H m) (hp : m p = some o) : Ext (hide F H m) (hide (frm F H m p) H (fun _ => none)) := Ext.same fun a u e => by
  rw [frm_hide2 s hp]
  have ne : a ≠ p := by
    rintro rfl
    have z := (hide_un e).1
    rw [hp] at z
    cases z
  rw [if_neg ne]
  exact e
theorem frm_back2 {H' : Hp} {m' : Mu} {us : List V} {xs : List D} (s : Stt K F H m) (hp : m p = some (.lst xs)) (hl : H' p = some (.lst us)) (r : Reps K (hide F H m) us xs) (s' : Stt K (frm F H m p) H' m')
    (e : Ext (hide (frm F H m p) H (fun _ => none)) (hide (frm F H m p) H' m')) : Stt K F H' m ∧ Ext (hide F H m) (hide F H' m) := by
  have fe := frm_ext2 s hp
  have vis : ∀ a, (∃ u, hide F H m a = some u) → a ≠ p ∧ m a = none ∧ F a = none := fun a ⟨u, h⟩ => by
    have h1 := hide_un h
    refine ⟨?_, h1.1, h1.2⟩
    rintro rfl
    rw [hp] at h1
    cases h1.1
  have bck : ∀ a u, m a = none → F a = none → hide (frm F H m p) H' m' a = some u → hide F H' m a = some u := fun a u h1 h2 h => by
    rw [hide_at h1 h2]
    exact hide_le h
  have rdb : ∀ a u, Rd (hide F H m) a u → Rd (hide (frm F H m p) H' m') a u → Rd (hide F H' m) a u := fun a u h k => by
    have v : a ≠ p ∧ m a = none ∧ F a = none := by
      rcases h with h | ⟨o, h⟩
      · exact vis a ⟨_, h⟩
      · exact vis a ⟨_, h⟩
    rcases k with z | ⟨o, z⟩
    · exact .inl (bck a _ v.2.1 v.2.2 z)
    · exact .inr ⟨o, bck a _ v.2.1 v.2.2 z⟩
  have ex : Ext (hide F H m) (hide F H' m) := by
    refine ⟨fun a v h => ?_, fun a v h => ?_, fun a v h => ?_, fun a v h => rdb a _ h (e.rl a v (fe.rl a v h)), fun a v h => rdb a _ h (e.rt a v (fe.rt a v h)), fun a v h => rdb a _ h (e.dk a v (fe.dk a v h)), fun a v h => rdb a _ h (e.dt a v (fe.dt a v h)), fun a o u h => ?_⟩
    · have z := vis a ⟨_, h⟩
      exact bck a _ z.2.1 z.2.2 (e.ext a v (fe.ext a v h))
    · have z := vis a ⟨_, h⟩
      exact bck a _ z.2.1 z.2.2 (e.lst a v (fe.lst a v h))
    · have z := vis a ⟨_, h⟩
      exact bck a _ z.2.1 z.2.2 (e.tup a v (fe.tup a v h))
    · have z := vis a ⟨_, h⟩
      exact bck a _ z.2.1 z.2.2 (e.fz a o u (fe.fz a o u h))
  refine ⟨⟨fun q o h => ?_, fun q o h => ?_, s.ft⟩, ex⟩
  · have h1 := s.fr q o h
    have ne : q ≠ p := by
      rintro rfl
      rw [hp] at h1
      cases h1.2
    refine ⟨(s'.fr q o ?_).1, h1.2⟩
    unfold frm
    rw [if_neg ne, h1.2]
    exact h
  · by_cases ne : q = p
    · subst ne
      rw [hp] at h
      cases h
      exact ⟨us, hl, r.mono ex⟩
    · obtain ⟨u, hu⟩ := (s.ok q o h).there
      have h2 : H' q = H q := by
        rw [hu]
        refine (s'.fr q u ?_).1
        unfold frm
        rw [if_neg ne, h]
        exact hu
      exact (s.ok q o h).mono h2 ex
theorem Reps.set_at {vs : List V} {ds : List D} {i : Nat} {v : V} {d' : D} (h : Reps K H vs ds) (hv : vs[i]? = some v) (r : Rep K H v d') : Reps K H vs (ds.set i d') := by
  have := h.set (x := v) (u := d') r i
  have e : vs.set i v = vs := by
    obtain ⟨hl, e⟩ := List.getElem?_eq_some_iff.mp hv
    rw [← e]
    exact List.set_getElem_self hl
  rwa [e] at this
/-- a def that reads a list as data is lent one that may change -/
theorem spD_lend {pre pre' : Pre} (h : ∀ ds m Q, pre ds m Q → pre' ds m Q ∨ ∃ p xs i b, m p = some (.lst xs) ∧ ds[i]? = some (.adr p) ∧ pre' (ds.set i (.list xs)) (fun _ => none) (fun d _ => d = .bl b) ∧ Q (.bl b) m) :
    ∀ vs H R E, spD K pre vs H R E → spD K pre' vs H R E := by
  rintro vs H R E ⟨F, ds, m, Q, s, r, q, k⟩
  rcases h ds m Q q with q | ⟨p, xs, i, b, hm, hi, q1, q2⟩
  · exact ⟨F, ds, m, Q, s, r, q, k⟩
  obtain ⟨v, hv, rv⟩ := r.get hi
  cases rv
  obtain ⟨us, hH, ru⟩ := s.ok _ _ hm
  have fe := frm_ext2 s hm
  have hp1 : hide (frm F H m p) H (fun _ => none) p = some (.lst us) := by rw [frm_hide2 s hm, if_pos rfl]; exact hH
  refine ⟨frm F H m p, ds.set i (.list xs), fun _ => none, _, frm_stt s, (r.mono fe).set_at hv (.list hp1 (ru.mono fe)), q1, ?_⟩
  rintro v H' d m' e st rv rfl
  cases rv
  obtain ⟨b1, b2⟩ := frm_back2 s hm (hide_le (e.lst p us hp1)) ru st e
  exact k _ H' _ m b2 b1 (.bl b) q2
end
end Dq
namespace Dq
open PySem L2
section
variable {DD : dEnds} {env : Dq.Env} {m : Mu} {te : dE} {ta : dA} {u : dS} {i j : Nat}
theorem q_par (P : D → D → Mu → Prop) (h : ∀ Q : List D → Mu → Prop, (∀ v w m1, P v w m1 → Q [v, w] m1) → ta env m Q) (k : ∀ v w m1, P v w m1 → u DD ((env.set i (some v)).set j (some w)) m1) : dSeq (dPar i j ta) u DD env m := h _ fun v w m1 p => ⟨v, w, rfl, k v w m1 p⟩
theorem q_asgN {d : Addr → D} {ds : List D} (h : ∀ Q : D → Mu → Prop, (∀ a, m a = none → Q (d a) (ups m a (.lst ds))) → te env m Q) (k : ∀ a, m a = none → u DD (env.set i (some (d a))) (ups m a (.lst ds))) : dSeq (dAsg te i) u DD env m := h _ k
end
end Dq
namespace Dq
open PySem L2
section
variable {DD : dEnds} {env : Dq.Env} {m : Mu} {u tb : dS} {g : dG} {i : Nat}
/-- a walk of a list that may change, by what is left of it -/
theorem forA_inv {α : Type} {en : α → D} (W : List α → Dq.Env → Mu → Prop) {DD : dEnds} (hs : ∀ d l e m', W (d :: l) e m' → ∀ nx : Dq.Env → Mu → Prop, (∀ e m, W l e m → nx e m) → g (en d) e m' fun e1 m1 => tb { DD with nx := nx, ct := nx, bk := DD.nx } e1 m1)
    (hd : ∀ e m', W [] e m' → DD.nx e m') : ∀ (l : List α) (e : Dq.Env) (m : Mu), W l e m → forD g tb DD (l.map en) e m
  | [], e, m, h => hd e m h
  | d :: l, e, m, h => hs d l e m h _ fun e' m' h' => forA_inv W hs hd l e' m' h'
theorem q_forA {α : Type} (p : Addr) (ds : List D) (he : env[i]? = some (some (.adr p))) (hm : m p = some (.lst ds)) (W : List α → Dq.Env → Mu → Prop) (en : α → D) (l : List α) (h0 : W l env (del m p)) (hds : ds = l.map en := by rfl)
    (hs : ∀ d l e m', W (d :: l) e m' → ∀ nx : Dq.Env → Mu → Prop, (∀ e m, W l e m → nx e m) → g (en d) e m' fun e1 m1 => tb { DD with nx := nx, ct := nx, bk := fun e m' => m' p = none → u DD e (ups m' p (.lst ds)) } e1 m1)
    (hd : ∀ e m', W [] e m' → m' p = none → u DD e (ups m' p (.lst ds))) : dSeq (dForA i g tb) u DD env m := by
  subst hds
  exact ⟨p, he, _, hm, forA_inv W hs hd l env _ h0⟩
end
end Dq
namespace Dq
open PySem L2
theorem q_asgGN {DD : dEnds} {env : Dq.Env} {m : Mu} {te : dE} {u : dS} {g : dG} {e1 : Addr → Dq.Env} {ds : List D} (h : ∀ Q : Dq.Env → Mu → Prop, (∀ a, m a = none → Q (e1 a) (ups m a (.lst ds))) → te env m fun d m1 => g d env m1 Q) (k : ∀ a, m a = none → u DD (e1 a) (ups m a (.lst ds))) : dSeq (dAsgG te g) u DD env m := h _ k
theorem s_forA' {DD : dEnds} {env : Dq.Env} {m : Mu} {tb : dS} {g : dG} {i : Nat} {α : Type} (p : Addr) (ds : List D) (he : env[i]? = some (some (.adr p))) (hm : m p = some (.lst ds)) (W : List α → Dq.Env → Mu → Prop) (en : α → D) (l : List α) (h0 : W l env (del m p)) (hds : ds = l.map en)
    (hs : ∀ d l e m', W (d :: l) e m' → ∀ nx : Dq.Env → Mu → Prop, (∀ e m, W l e m → nx e m) → g (en d) e m' fun e1 m1 => tb { DD with nx := nx, ct := nx, bk := fun e m' => m' p = none → DD.nx e (ups m' p (.lst ds)) } e1 m1)
    (hd : ∀ e m', W [] e m' → m' p = none → DD.nx e (ups m' p (.lst ds))) : dForA i g tb DD env m := by
  subst hds
  exact ⟨p, he, _, hm, forA_inv W hs hd l env _ h0⟩
end Dq

/-! d < e, min and sorted of deep data; tuples of whole numbers as keys walked -/
namespace Dq
open PySem PySem.Spec L2 PyProof.Rows
/-! ### d < e -/
def rLtD (K : PySem.W.Frag) : R2 := fun x y H Q => ∃ d e, Dp K H x d ∧ Dp K H y e ∧ PySem.W.alike d e = true ∧ d ≠ .none ∧ d.depth ≤ 60 ∧ Q (.bl (PySem.W.dataLt d e)) H
theorem op_ltD {K : PySem.W.Frag} {X : Cx} (hu : X.A.units + 64 < cLine) (hK : X.K = K := by rfl) : OpR X (compareOp .Lt) (rLtD K) := by
  subst hK
  intro pins s σ H x y v u Q I rx ry h
  obtain ⟨d, e, hd, he, hal, hn, hdp, q⟩ := h
  obtain ⟨as, r1⟩ := Dp.reads I d x v hd rx
  obtain ⟨bs, r2⟩ := Dp.reads I e y u he ry
  exact PySem.W.lt_data r1 r2 hal hn (by omega) ⟨.bl _, H, I, rfl, q⟩
def ltP (x y : D) (m : Mu) (Q : D → Mu → Prop) : Prop := ∃ d e, IsP m x d ∧ IsP m y e ∧ PySem.W.alike d e = true ∧ d ≠ .none ∧ d.depth ≤ 60 ∧ Q (.bl (PySem.W.dataLt d e)) m
theorem opd_ltD {K : PySem.W.Frag} : OpD K (rLtD K) ltP := fun F H m x y v u Q R q s rx ry p => by
  obtain ⟨d, e, hd, he, hal, hn, hdp, q⟩ := q
  exact ⟨d, e, hd.dp s rx, he.dp s ry, hal, hn, hdp, p.here s (.bl _) q⟩
/-! ### min(l) -/
theorem minD_mem : ∀ (xs : List PyData) (x : PyData), PySem.W.minD x xs ∈ x :: xs := by
  intro xs
  induction xs with
  | nil => exact fun x => List.mem_cons_self
  | cons y xs ih =>
    intro x
    show PySem.W.minD (if PySem.W.dataLt y x then y else x) xs ∈ _
    have h := ih (if PySem.W.dataLt y x then y else x)
    rcases List.mem_cons.mp h with h | h
    · rw [h]
      split
      · exact List.mem_cons_of_mem _ List.mem_cons_self
      · exact List.mem_cons_self
    · exact List.mem_cons_of_mem _ (List.mem_cons_of_mem _ h)
def rMinDat (K : PySem.W.Frag) : List V → Hp → VK → Prop := fun xs H Q => ∃ a vs d ds, xs = [.ref a] ∧ SqL K H a vs ∧ DpAll K H vs (d :: ds) ∧ PySem.W.AlikeAll (d :: ds) ∧ PyData.depthAll (d :: ds) ≤ 60 ∧
  ∀ (i : Nat) (v : V), vs[i]? = some v → (d :: ds)[i]? = some (PySem.W.minD d ds) → Q v H
theorem c_minDat {K : PySem.W.Frag} {X : Cx} (hu : X.A.units + 64 < cLine) (hc : X.calm = true := by rfl) (hK : X.K = K := by rfl) : CallR X (.builtin "min") (rMinDat K) := by
  subst hK
  intro pins s σ H xs us Q I r q
  obtain ⟨a, vs, d, ds, rfl, hs, hd, hal, hdp, post⟩ := q
  obtain ⟨u0, rfl, ru⟩ := vals1 r
  cases ru
  obtain ⟨its, rv, hl, _⟩ := I.list hs
  obtain ⟨as, hr⟩ := Dp.readsAll I (d :: ds) vs its hd rv
  refine PySem.W.min_list_data (vs := its.toArray) (as := as) (I.ok.hd hc) hl.isList (by simpa using hr) hal (by omega) fun i v h' tk bs hv rd keep => ?_
  obtain ⟨cs, rd2, hi, hm, _⟩ := PySem.W.readsAll_at (vs := its) hr i v (by simpa using hv)
  have rd3 := PySem.W.reads_keeps keep rd2
  have e := PySem.W.alike_unique _ _ v _ _ (hal.1 _ hm _ (minD_mem ds d)) rd3 rd
  obtain ⟨x, hx, rx⟩ : ∃ x, vs[i]? = some x ∧ RelV x v := by
    cases hx : vs[i]? with
    | none =>
      have := rv.none_of hx
      rw [show its[i]? = some v by simpa using hv] at this
      cases this
    | some x =>
      obtain ⟨u, h1, h2⟩ := rv.get hx
      rw [show its[i]? = some v by simpa using hv] at h1
      cases h1
      exact ⟨x, rfl, h2⟩
  refine ⟨x, H, I.kept (t' := tk) keep, rx, post i x hx ?_⟩
  rw [← e, List.getD_eq_getElem?_getD, List.getElem?_eq_getElem hi]
  rfl
def minDatD (ds : List D) (m : Mu) (Q : D → Mu → Prop) : Prop := ∃ l e es, ds = [.list l] ∧ IsPs m l (e :: es) ∧ PySem.W.AlikeAll (e :: es) ∧ PyData.depthAll (e :: es) ≤ 60 ∧ ∀ (i : Nat) (d : D), l[i]? = some d → (e :: es)[i]? = some (PySem.W.minD e es) → Q d m
theorem Reps.at' {K : PySem.W.Frag} {H : Hp} : ∀ {vs : List V} {ds : List D} {i : Nat} {v : V}, Reps K H vs ds → vs[i]? = some v → ∃ d, ds[i]? = some d ∧ Rep K H v d
  | _, _, _, _, .nil, e => by simp at e
  | _, _, 0, _, .cons r _, e => by
    simp at e
    subst e
    exact ⟨_, rfl, r⟩
  | _, _, i + 1, _, .cons _ t, e => by
    obtain ⟨d, h1, h2⟩ := Reps.at' (i := i) t (by simpa using e)
    exact ⟨d, by simpa using h1, h2⟩
theorem cd_minDat {K : PySem.W.Frag} : CallD K (rMinDat K) minDatD := fun F H m vs ds Q R q s rs p => by
  obtain ⟨l, e, es, rfl, hp, hal, hdp, q⟩ := q
  obtain ⟨v, rfl, r⟩ := rs.inv1
  cases r with
  | list hh rr => exact ⟨_, _, e, es, rfl, .of (hide_le hh), hp.dp s rr, hal, hdp, fun i v hv hm => by
      obtain ⟨d, hd, rd⟩ := Reps.at' rr hv
      exact p.here s rd (q i d hd hm)⟩
/-! ### sorted(l) -/
section
variable {α : Type} [DecidableEq α] [Cod α]
def rSortC (K : PySem.W.Frag) (α : Type) [DecidableEq α] [Cod α] : List V → Hp → VK → Prop := fun xs H Q => ∃ (a : Addr) (ps : List (V × α)), xs = [.ref a] ∧ SqL K H a (ps.map (·.1)) ∧ (∀ p ∈ ps, Dp K H p.1 (Cod.py p.2)) ∧ PySem.W.AllAlike (ps.map fun p => Cod.py p.2) ∧ PySem.W.Sortable (ps.map fun p => Cod.py p.2) ∧ ps.length ≤ sizeLine ∧ Cod.dep α ≤ 60 ∧
  ∀ p, H p = none → Q (.ref p) (upd H p (.lst ((ps.mergeSort (PySem.W.dataLe false fun p => Cod.py p.2)).map (·.1))))
theorem each_vals {X : Cx} {pins : List (Addr × Obj)} {σ : L2.St} {H : Hp} {s : Shared} (I : Inv X pins σ H s) : ∀ {ps : List (V × α)} {its : List Value}, Vals (ps.map (·.1)) its → (∀ p ∈ ps, Dp X.K H p.1 (Cod.py p.2)) →
    PySem.W.EachIs (fun v (b : V × α) => RelV b.1 v) its ps ∧ PySem.W.EachIs (fun v (b : V × α) => ∃ as, Reads s.heap v (Cod.py b.2) as) its ps
  | [], [], _, _ => ⟨.nil, .nil⟩
  | p :: ps, _ :: _, .cons h t, hd => by
    obtain ⟨h1, h2⟩ := each_vals I t fun q hq => hd q (List.mem_cons_of_mem _ hq)
    obtain ⟨as, hr⟩ := Dp.reads I _ _ _ (hd p List.mem_cons_self) h
    exact ⟨.cons h h1, .cons ⟨as, hr⟩ h2⟩
theorem vals_each {α : Type} : ∀ {ps : List (V × α)} {its : List Value}, PySem.W.EachIs (fun v (b : V × α) => RelV b.1 v) its ps → Vals (ps.map (·.1)) its
  | _, _, .nil => .nil
  | _, _, .cons h t => .cons h (vals_each t)
theorem c_sortedC (α : Type) [DecidableEq α] [Cod α] {K : PySem.W.Frag} {X : Cx} (hu : X.A.units + 64 < cLine) (hc : X.calm = true := by rfl) (hK : X.K = K := by rfl) : CallR X (.builtin "sorted") (rSortC K α) := by
  subst hK
  intro pins s σ H xs us Q I r q
  obtain ⟨a, ps, rfl, hs, hd, hal, hk, hz, hdp, post⟩ := q
  obtain ⟨u0, rfl, ru⟩ := vals1 r
  cases ru
  obtain ⟨its, rv, hl, _⟩ := I.list hs
  obtain ⟨e1, e2⟩ := each_vals I rv hd
  refine PySem.W.sorted_data (enc := fun p : V × α => Cod.py p.2) hl.isList e1 e2 hal hk hz (fun b _ => by have := Cod.depth b.2; omega) fun out ho eo => ?_
  have hlen : ((ps.mergeSort (PySem.W.dataLe false fun p => Cod.py p.2)).map (·.1)).length ≤ sizeLine := by rw [List.length_map, List.length_mergeSort]; exact hz
  obtain ⟨e, hat⟩ := sortedAll_at s.heap its (List.toArray out)
  refine ⟨.ref (s.heap.objs.size + 1), _, I.laid (t' := s.toks) (fun b u e => sortedAll_old e) (Nat.le_succ _) (show ObjOk X.prog X.w _ _ _ (.lst ((ps.mergeSort (PySem.W.dataLe false fun p => Cod.py p.2)).map (·.1))) from ⟨hlen, out, e, vals_each eo, hat⟩), rfl, post _ (I.hok.fresh (Nat.le_succ _))⟩
def sortedCD (b : Bool) (α : Type) [DecidableEq α] [Cod α] (ds : List D) (m : Mu) (Q : D → Mu → Prop) : Prop := ∃ d, ds = [d] ∧ ∃ l : List α, vwL m d = some (l.map Cod.enc) ∧ PySem.W.AllAlike (l.map Cod.py) ∧ PySem.W.Sortable (l.map Cod.py) ∧ l.length ≤ sizeLine ∧ Cod.dep α ≤ 60 ∧ mkL b ((l.mergeSort (PySem.W.dataLe false Cod.py)).map Cod.enc) m Q
theorem reps_zip {K : PySem.W.Frag} {H : Hp} : ∀ {l : List α} {vs : List V}, Reps K H vs (l.map Cod.enc) → ∃ ps : List (V × α), vs = ps.map (·.1) ∧ l = ps.map (·.2) ∧ ∀ p ∈ ps, Rep K H p.1 (Cod.enc p.2)
  | [], _, .nil => ⟨[], rfl, rfl, nofun⟩
  | a :: l, _, .cons (v := v) r t => by
    obtain ⟨ps, h1, h2, h3⟩ := reps_zip t
    refine ⟨(v, a) :: ps, by rw [h1]; rfl, by rw [h2]; rfl, fun p hp => ?_⟩
    rcases List.mem_cons.mp hp with rfl | hp
    · exact r
    · exact h3 p hp
theorem zip_reps {K : PySem.W.Frag} {H : Hp} : ∀ {ps : List (V × α)}, (∀ p ∈ ps, Rep K H p.1 (Cod.enc p.2)) → Reps K H (ps.map (·.1)) ((ps.map (·.2)).map Cod.enc)
  | [], _ => .nil
  | p :: ps, h => .cons (h p List.mem_cons_self) (zip_reps fun q hq => h q (List.mem_cons_of_mem _ hq))
theorem cd_sortedC {K : PySem.W.Frag} (b : Bool) (α : Type) [DecidableEq α] [Cod α] : CallD K (rSortC K α) (sortedCD b α) := fun F H m vs ds Q R q s rs p => by
  obtain ⟨d, rfl, l, hx, hal, hk, hz, hdp, q⟩ := q
  obtain ⟨v, rfl, r⟩ := rs.inv1
  obtain ⟨a, us, rfl, ha, ra⟩ := lst_of s r hx
  obtain ⟨ps, rfl, rfl, hp⟩ := reps_zip ra
  rw [List.map_map] at hal hk
  refine ⟨a, ps, rfl, .of ha, fun z hz => (Cod.isP m z.2).dp s (hp z hz), hal, hk, by simpa using hz, hdp, fun A hA => ?_⟩
  have e : ((ps.mergeSort (PySem.W.dataLe false fun p => Cod.py p.2)).map (·.2)) = (ps.map (·.2)).mergeSort (PySem.W.dataLe false Cod.py) := PySem.W.sort_maps (r := PySem.W.dataLe false fun p : V × α => Cod.py p.2) (s := PySem.W.dataLe false Cod.py) (fun p : V × α => p.2) fun x _ y _ => rfl
  rw [← e] at q
  exact p.newB b s (zip_reps fun z hz => hp z ((List.mem_mergeSort).mp hz)) q A hA
end
/-! ### t + u, of any length -/
def addTA (x y : D) (m : Mu) (Q : D → Mu → Prop) : Prop := ∃ xs ys, x = .tuple xs ∧ y = .tuple ys ∧ xs.length + ys.length ≤ sizeLine ∧ Q (.tuple (xs ++ ys)) m
theorem opd_addTA {K : PySem.W.Frag} : OpD K (rCatA K) addTA := fun F H m x y v u Q R q s rx ry p => by
  obtain ⟨xs, ys, rfl, rfl, hl, q⟩ := q
  cases rx with
  | tuple e r =>
    cases ry with
    | tuple e2 r2 =>
      refine ⟨_, _, _, _, rfl, rfl, .of (hide_le e), .of (hide_le e2), by rw [r.length, r2.length]; exact hl, fun z => ?_, fun _ z => ?_, fun _ _ A hA => p.newT s (r.append r2) q A hA⟩
      · subst z
        cases r
        exact p.here s (.tuple e2 r2) q
      · subst z
        cases r2
        rw [List.append_nil] at q
        exact p.here s (.tuple e r) q
theorem d_addTA {K : PySem.W.Frag} {X : Cx} {pos : Pos} {a b : Expr} {ta tb : TE} {da db : dE} (ha : DE K X a ta da) (hb : DE K X b tb db) (hK : X.K = K := by rfl) : DE K X (.BinOp a .Add b pos) (tOp (rCatA K) ta tb) (dOp addTA da db) := by
  subst hK
  exact ⟨pe_op op_catA ha.p hb.p, .op opd_addTA ha.w hb.w⟩
end Dq
namespace Dq
open PySem PySem.Spec L2 PyProof.Rows
/-! ### {t: v}, t a tuple -/
def tDispT1 (tk tv : TE) : TE := fun σ H Q => ∀ p, H p = none → tk σ (upd H p (.dT [])) fun y H1 => tv σ H1 fun v H2 => H2 p = some (.dT []) ∧ ∃ (k : List Key) (b : Addr), y = .ref b ∧ H2 b = some (.tup (k.map kV)) ∧ Q (.ref p) (upd H2 p (.dT [(k, v)]))
theorem pe_dispT1 {X : Cx} {k v : Expr} {tk tv : TE} {pos : Pos} (hu : X.A.units + 1 < cLine) (hk : PE X k tk) (hv : PE X v tv) : PE X (.Dict [some k] [v] pos) (tDispT1 tk tv) := by
  refine ⟨fun pins s σ H Q I q => ?_⟩
  have hn := I.hok.fresh (Nat.le_refl s.heap.objs.size)
  have I1 := I.laid (a := s.heap.objs.size) (o := .dT []) (h' := s.heap.push { cls := .type "dict", data := .dict #[] }) (t' := s.toks) (fun _ _ q => Heap.get?_push_of_some _ q) (Nat.le_refl _) (dt_empty s.heap I.big)
  rw [arm_eval_Dict, zip_pairTrees [some k] [v] X.env pos rfl rfl, dictDisplay_pairs _ (by simp [pairTrees]) (by simp [pairTrees])]
  refine wpAny_bind (wpAny_standAt (wpAny_bind (wpAny_subDictH (knd := tupleKind (mixKind X.prog X.w)) (show X.A.units < cLine by omega) (by simp [pairTrees]) (pairTrees_cons_walk (thn (hk.run pins _ σ _ _ I1 (q _ hn)) fun u s1 ⟨y, H1, I1', ry, q1⟩ => thn (hv.run pins s1 σ H1 _ I1' q1) fun w2 s2 ⟨x, H2, I2, rx, e, kk, b, ey, eb, q2⟩ => pairTrees_nil_walk ?_)))))
  subst ey
  cases (show u = Value.ref b from ry)
  obtain ⟨z, hd, xs, rel, dd⟩ := dt_of I2.hok e
  have hx : xs = [] := by cases rel; rfl
  subst hx
  refine ⟨[(kk, b, w2)], ⟨rfl, rfl, key_of I2.hok eb, trivial⟩, dd, fun h' tk' dd' hs => wpAny_pure ⟨.ref s.heap.objs.size, _, ?_, rfl, q2⟩⟩
  obtain ⟨qo, es, ep, hq, h2, h3, h4, _, h5⟩ := dd'
  refine d_write I2 (t' := tk') (by rw [e]; exact True.intro) hs ⟨qo, hq⟩ ⟨by rw [List.length_singleton]; decide, hd, _, (rel.put kk eb rx).keeps fun c ys ec => ?_, qo, es, ep, hq, h2, h3, h4, h5⟩
  rw [upd_ne (ne_of ec e (fun z => nomatch z))]
  exact ec
end Dq
namespace Dq
open PySem PySem.Spec L2 PyProof.Rows
def dDispT1 (b : Bool) (dk dv : dE) : dE := fun env m Q => dk env m fun y m1 => dv env m1 fun v m2 => ∃ k : List Key, y = .tuple (k.map kD) ∧ mkDT b [(k, v)] m2 Q
section
variable {K : PySem.W.Frag} {X : Cx} {k v : Expr} {tk tv : TE} {dk dv : dE} {pos : Pos}
theorem d_dispT1 (b : Bool) (hu : X.A.units + 1 < cLine) (hk : DE K X k tk dk) (hv : DE K X v tv dv) : DE K X (.Dict [some k] [v] pos) (tDispT1 tk tv) (dDispT1 b dk dv) := by
  refine ⟨pe_dispT1 hu hk.p hv.p, fun F env m Q σ H R q o p A hA => ?_⟩
  have fA := o.st.freeF hA
  have s0 : Stt K (upd F A (.dT [])) (upd H A (.dT [])) m := o.st.set_apartG hA
  have e0 : Ext (hide F H m) (hide (upd F A (.dT [])) (upd H A (.dT [])) m) := Ext.apartG hA
  refine hk.w _ env m _ σ _ _ q ⟨s0, o.fr.mono e0⟩ fun y H1 dy m1 e1 s1 r1 q1 => hv.w _ env m1 _ σ H1 _ q1 ⟨s1, o.fr.mono (e0.trans e1)⟩ fun w H2 dw m2 e2 s2 r2 q2 => ?_
  obtain ⟨kk, rfl, q2⟩ := q2
  have hA2 := s2.fr A _ upd_same
  have e3 := (e0.trans e1).trans e2
  have r1' := r1.mono e2
  cases r1' with
  | tuple et rt =>
    rw [reps_kD rt] at et
    refine ⟨hA2.1, kk, _, rfl, hide_le et, ?_⟩
    cases b with
    | false =>
      have e4 : Ext (hide (upd F A (.dT [])) H2 m2) (hide F (upd H2 A (.dT [(kk, w)])) m2) := Ext.layG s2 fA
      refine p _ _ _ m2 (e3.trans e4) (s2.layG fA) (.dicT (.inl ?_) (.cons (r2.mono e4) .nil)) q2
      rw [hide_at hA2.2 fA, upd_same]
    | true =>
      have e4 : hide F (upd H2 A (.dT [(kk, w)])) (ups m2 A (.dT [(kk, dw)])) = hide (upd F A (.dT [])) H2 m2 := hide_layM fA
      exact p _ _ _ _ (by rw [e4]; exact e3) (s2.layM fA (show MOk K _ _ A (.dT [(kk, dw)]) from ⟨_, upd_same, .cons r2 .nil⟩)) (.adr A) (q2 A hA2.2)
end
/-! ### a dict of tuples walked -/
theorem see_tup {K : PySem.W.Frag} {F H : Hp} {m : Mu} {q : Addr} {vs : List V} (s : Stt K F H m) (h : H q = some (.tup vs)) : hide F H m q = some (.tup vs) := by
  rw [hide_at _ _, h]
  · cases e : m q with
    | none => rfl
    | some o => exact absurd h ((s.ok q o e).noTup vs)
  · cases e : F q with
    | none => rfl
    | some o =>
      have h1 := (s.fr q o e).1
      rw [h] at h1
      cases h1
      exact absurd e (s.ft q vs)
def jKeysT (i : Nat) : dI := fun env m Q => ∃ ks, env[i]? = some (some (.dicT ks)) ∧ Q (ks.map fun kv => .tuple (kv.1.map kD)) m
section
variable {K : PySem.W.Frag} {F H : Hp} {m : Mu}
theorem at_keysT {i : Nat} {env : Env} {σ : L2.St} {a : Addr} {od : Obj} {kvs : List (List Key × V)} {ks : List (List Key × D)} (o : Ok K F H σ env m) (he : env[i]? = some (some (.dicT ks))) (hs : σ[i]? = some (some (.ref a))) (h : hide F H m a = some (.frz od (.dT kvs))) (r : PR K (hide F H m) kvs ks) :
    WIat K (iKeys (tVar i)) (jKeysT i) F env m σ H := fun Q R q p => by
  obtain ⟨ks', he', q⟩ := q
  rw [he] at he'
  cases he'
  exact ⟨_, hs, a, od, rfl, .inr ⟨kvs, hide_le h, p _ H _ m Ext.refl o.st (wlk_keysT h r fun F' H' m' _ s' q k hq _ => see_tup s' hq) q⟩⟩
theorem dict_invT {i : Nat} {env : Env} {σ : L2.St} {ks : List (List Key × D)} (o : Ok K F H σ env m) (he : env[i]? = some (some (.dicT ks))) :
    ∃ a kvs, σ[i]? = some (some (.ref a)) ∧ PR K (hide F H m) kvs ks ∧ (hide F H m a = some (.dT kvs) ∨ ∃ od, hide F H m a = some (.frz od (.dT kvs))) := by
  obtain ⟨v, hv, r⟩ := o.fr.2 i _ he
  cases r with
  | dicT e r => exact ⟨_, _, hv, r.pr, e⟩
end
section
variable {K : PySem.W.Frag} {F H H1 : Hp} {m : Mu}
theorem WS.forKT {i : Nat} {ug : TG} {g : dG} {ub : TS} {tb : dS} (hg : WG K ug g) (hb : WS K ub tb) : WS K (fun D σ H => tLock (tFor (iKeys (tVar i)) ug ub) D σ H ∨ tFor (iKeys (tVar i)) ug ub D σ H) (dFor (jKeysT i) g tb) := fun F DD env m σ H RR q o p => by
  obtain ⟨ks, he, q⟩ := q
  obtain ⟨a, kvs, hs, r, hh⟩ := dict_invT o he
  rcases hh with hh | ⟨od, hh⟩
  · refine .inl ⟨a, _, hide_le hh, trivial, fun od => ?_⟩
    have hd : (∃ kvs', HO.dT kvs = .dK kvs') ∨ ∃ kvs', HO.dT kvs = .dT kvs' := .inr ⟨kvs, rfl⟩
    have ex := lock_ext (od := od) hh hd
    have hm := hide_un hh
    have o1 : Ok K F (upd H a (.frz od (.dT kvs))) σ env m := o.at (lock_stt o.st hh hd) ex
    exact for_at F DD env m σ _ _ (at_keysT o1 he hs (by rw [hide_at hm.1 hm.2, upd_same]) (pr_mono ex r)) hg hb ⟨ks, he, q⟩ o1 (lock_ends hh hd p)
  · exact .inr (for_at F DD env m σ _ _ (at_keysT o he hs hh r) hg hb ⟨ks, he, q⟩ o p)
theorem WE.lcKT {i : Nat} {g : TG} {dg : dG} {tt : TT} {dt : dT} {te : TE} {de : dE} {vs : List Nat} (b : Bool) (hg : WG K g dg) (ht : WT K tt dt) (he : WE K te de) (hk : Keeps g vs) :
    WE K (fun σ H Q => tLockE (tLc (iKeys (tVar i)) g tt te vs) σ H Q ∨ tLc (iKeys (tVar i)) g tt te vs σ H Q) (dLc b vs (jKeysT i) dg dt de) := fun F env m Q σ H R q o p => by
  obtain ⟨ks, hi, q⟩ := q
  obtain ⟨a, kvs, hs, r, hh⟩ := dict_invT o hi
  rcases hh with hh | ⟨od, hh⟩
  · refine .inl ⟨a, _, hide_le hh, trivial, fun od => ?_⟩
    have hd : (∃ kvs', HO.dT kvs = .dK kvs') ∨ ∃ kvs', HO.dT kvs = .dT kvs' := .inr ⟨kvs, rfl⟩
    have ex := lock_ext (od := od) hh hd
    have hm := hide_un hh
    have o1 : Ok K F (upd H a (.frz od (.dT kvs))) σ env m := o.at (lock_stt o.st hh hd) ex
    exact lc_at b F env m Q σ _ _ (at_keysT o1 hi hs (by rw [hide_at hm.1 hm.2, upd_same]) (pr_mono ex r)) hg ht he hk ⟨ks, hi, q⟩ o1 (lock_val hh hd p)
  · exact .inr (lc_at b F env m Q σ _ _ (at_keysT o hi hs hh r) hg ht he hk ⟨ks, hi, q⟩ o p)
end
section
variable {K : PySem.W.Frag} {X : Cx}
theorem s_forKT (i : Nat) {x : Str} {px pos : Pos} {tg : Expr} {body : List Stmt} {ug : TG} {ub : TS} {g : dG} {tb : dS} (hN : X.N[i]? = some x) (hg : DG K X tg ug g) (hb : DSs K X body ub tb) (hv : Vis X.env.scope x := by first | exact Or.inl rfl | exact Or.inr (Or.inl rfl) | exact Or.inr (Or.inr rfl)) (hdb : (x == ("__debug__" : Str)) = false := by decide)
    (hcd : (x == ("__classdict__" : Str)) = false := by decide) (hp : PassesOwn (model X.prog X.w) X.A X.env X.xe := by exact PassesOwn.never) (hc : X.calm = true := by rfl) (hs : ∀ z, foldedSetIterable (.Name x px) X.env z = pure z := by intro _; rfl) :
    DS K X (.For tg (.Name x px) body [] pos) (fun D σ H => tLock (tFor (iKeys (tVar i)) ug ub) D σ H ∨ tFor (iKeys (tVar i)) ug ub D σ H) (dFor (jKeysT i) g tb) := by
  have h1 : PS X (.For tg (.Name x px) body [] pos) (tFor (iKeys (tVar i)) ug ub) := ps_for hp hc (pi_keys (pv i hN hv hdb hcd)) hg.p hb.p hs
  exact ⟨PS.or (ps_lock h1) h1, .forKT hg.w hb.w⟩
theorem d_lcKT (b : Bool) (i : Nat) {x : Str} {px pos : Pos} {elt tg : Expr} {ifs : List Expr} {scope : Scope} {own : List (Str × Nat)} {g : TG} {dg : dG} {tt : TT} {dt : dT} {te : TE} {de : dE} (hN : X.N.Nodup) (hi : X.N[i]? = some x) (ok : BlkOk X.N X.env.scope scope own)
    (hg : ∀ (s : Shared) (H : Hp) (C : Addr) (cl : List (Str × Addr)) (fp : List Addr), DG K (X.blk s H scope (compEnvC scope cl C X.env) fp) tg g dg) (ht : ∀ (s : Shared) (H : Hp) (C : Addr) (cl : List (Str × Addr)) (fp : List Addr), DTs K (X.blk s H scope (compEnvC scope cl C X.env) fp) ifs tt dt)
    (he : ∀ (s : Shared) (H : Hp) (C : Addr) (cl : List (Str × Addr)) (fp : List Addr), DE K (X.blk s H scope (compEnvC scope cl C X.env) fp) elt te de) (hk : Keeps g (own.map (·.2))) (hs : ∀ z, foldedSetIterable (.Name x px) X.env z = pure z := by intro _; rfl) (hc : X.calm = true := by rfl)
    (hv : Vis X.env.scope x := by first | exact Or.inl rfl | exact Or.inr (Or.inl rfl) | exact Or.inr (Or.inr rfl)) (hdb : (x == ("__debug__" : Str)) = false := by decide) (hcd : (x == ("__classdict__" : Str)) = false := by decide) :
    DE K X (.ListComp elt [⟨tg, .Name x px, ifs, 0⟩] scope pos) (fun σ H Q => tLockE (tLc (iKeys (tVar i)) g tt te (own.map (·.2))) σ H Q ∨ tLc (iKeys (tVar i)) g tt te (own.map (·.2)) σ H Q) (dLc b (own.map (·.2)) (jKeysT i) dg dt de) := by
  have h1 : PE X (.ListComp elt [⟨tg, .Name x px, ifs, 0⟩] scope pos) (tLc (iKeys (tVar i)) g tt te (own.map (·.2))) := pe_lc hc hN (pi_keys (pv i hi hv hdb hcd)) ok (fun s H C cl fp => (hg s H C cl fp).p) (fun s H C cl fp => (ht s H C cl fp).p) (fun s H C cl fp => (he s H C cl fp).p) hs
  exact ⟨PE.or (pe_lock h1) h1, .lcKT b (hg X.s_0 X.H_0 0 [] []).w (ht X.s_0 X.H_0 0 [] []).w (he X.s_0 X.H_0 0 [] []).w hk⟩
end
end Dq
namespace Dq
open PySem PySem.Spec L2 PyProof.Rows
def tupleD (ds : List D) (m : Mu) (Q : D → Mu → Prop) : Prop := ∃ d, ds = [d] ∧ ∃ xs, vwL m d = some xs ∧ Q (.tuple xs) m
theorem cd_tuple {K : PySem.W.Frag} : CallD K (fun xs H Q => ∃ p ys, xs = [.ref p] ∧ ((SqL K H p ys ∧ ∀ l, H l = none → Q (.ref l) (upd H l (.tup ys))) ∨ (SqT K H p ys ∧ Q (.ref p) H))) tupleD := fun F H m vs ds Q R q s rs p => by
  obtain ⟨d, rfl, xs, hx, q⟩ := q
  obtain ⟨v, rfl, r⟩ := rs.inv1
  obtain ⟨a, us, rfl, ha, ra⟩ := lst_of s r hx
  exact ⟨a, us, rfl, .inl ⟨.of ha, fun l hl => p.newT s ra q l hl⟩⟩
end Dq
namespace Dq
open PySem PySem.Spec L2 PyProof.Rows
theorem c_tupleOf {K : PySem.W.Frag} {X : Cx} (hK : X.K = K := by rfl) : CallR X (.type "tuple") (fun xs H Q => ∃ p ys, xs = [.ref p] ∧ ((SqL K H p ys ∧ ∀ l, H l = none → Q (.ref l) (upd H l (.tup ys))) ∨ (SqT K H p ys ∧ Q (.ref p) H))) := by
  subst hK
  exact call_tuple_of
end Dq
namespace Dq
open PySem PySem.Spec L2 PyProof.Rows
/-- what a def has left behind is let go -/
theorem spD_gc {K : PySem.W.Frag} {pre pre' : Pre} (h : ∀ ds m Q, pre ds m Q → pre' ds m fun d M => ∃ M', Sub M' M ∧ Q d M') :
    ∀ vs H R E, spD K pre vs H R E → spD K pre' vs H R E := by
  rintro vs H R E ⟨F, ds, m, Q, s, r, q, k⟩
  refine ⟨F, ds, m, fun d M => ∃ M', Sub M' M ∧ Q d M', s, r, h ds m Q q, ?_⟩
  rintro v H' d M ex st rv ⟨M', hs, q'⟩
  exact k v H' d M' (ex.trans (Ext.sub hs)) (st.sub hs) (rv.mono (Ext.sub hs)) q'
end Dq

/-! for over zip(data, a list that may change): the list is away while the loop goes -/
namespace Dq
open PySem L2
def dForZA (da : dA) (g : dG) (tb : dS) : dS := fun DD env m => da env m fun ds m1 => ∃ d p xs ys, ds = [d, .adr p] ∧ vwI d = some xs ∧ m1 p = some (.lst ys) ∧ forD g tb { DD with nx := fun e m' => m' p = none → DD.nx e (ups m' p (.lst ys)) } (zipD xs ys) env (del m1 p)
theorem WS.forZA {K : PySem.W.Frag} {ta : TA} {da : dA} {ug : TG} {g : dG} {ub : TS} {tb : dS} (ha : WA K ta da) (hg : WG K ug g) (hb : WS K ub tb) : WS K (tFor (iZip K ta) ug ub) (dForZA da g tb) := fun F DD env m0 σ H0 RR q o0 p0 => ha F env m0 _ σ H0 _ q o0 fun v H ds m e0 s0 r0 q0 => by
  obtain ⟨d, a, xs, ys, rfl, hx, hm, q⟩ := q0
  obtain ⟨u, u', rfl, ru, ra⟩ := r0.inv2
  cases ra
  obtain ⟨b, vs, rfl, h1, h2, h3⟩ := stays s0 ru hx
  have o := o0.at s0 e0
  have p : PstS K F H m DD RR := ⟨p0.nx.at e0, p0.rt.at e0, p0.bk.at e0, p0.ct.at e0⟩
  obtain ⟨us, hH, r⟩ := s0.ok _ _ hm
  have hF : F a = none := s0.apart hm
  have heq : hide (upd F a (.lst us)) H (del m a) = hide F H m := hide_away ⟨_, hm⟩ _
  have s1 := stt_away s0 hm hH
  have o1 : Ok K (upd F a (.lst us)) H σ env (del m a) := ⟨s1, by rw [heq]; exact o.fr⟩
  have nx' : ∀ {H1 m1}, Ext (hide F H m) (hide (upd F a (.lst us)) H1 m1) → PstX K (upd F a (.lst us)) H1 m1 (fun e m' => m' a = none → DD.nx e (ups m' a (.lst ys))) RR.nx := fun e1 σ3 H3 env3 m3 e3 o3 q3 => by
    have fr := o3.st.fr a _ upd_same
    have hk : hide F H3 (ups m3 a (.lst ys)) = hide (upd F a (.lst us)) H3 m3 := hide_know hF
    have s3 : Stt K F H3 (ups m3 a (.lst ys)) := o3.st.know hF (show MOk K H3 _ a (.lst ys) from ⟨us, fr.1, r.mono (e1.trans e3)⟩)
    exact p.nx σ3 H3 env3 _ (by rw [hk]; exact e1.trans e3) ⟨s3, by rw [hk]; exact o3.fr⟩ (q3 fr.2)
  have rt' : ∀ {H1 m1}, Ext (hide F H m) (hide (upd F a (.lst us)) H1 m1) → Pst K (upd F a (.lst us)) H1 m1 DD.rt RR.rt := fun e1 v3 H3 d3 m3 e3 s3 r3 q3 =>
    p.rt v3 H3 d3 m3 ((e1.trans e3).trans (Ext.back hF)) (s3.back hF) (r3.mono (Ext.back hF)) q3
  refine ⟨b, a, vs, us, rfl, h1, .of hH, ?_⟩
  refine for_it (walk_zip (K := K) (a := b) (b := a) (xs := vs) (ys := us) rfl) (fun i σ' H' => ∃ env' m', Ext (hide F H m) (hide (upd F a (.lst us)) H' m') ∧ Ok K (upd F a (.lst us)) H' σ' env' m' ∧ forD g tb { DD with nx := fun e m' => m' a = none → DD.nx e (ups m' a (.lst ys)) } ((zipD xs ys).drop i) env' m') ⟨env, del m a, by rw [heq]; exact Ext.refl, o1, q⟩ (fun i σ' H' _ ⟨env', m', ex, o', _⟩ => ⟨h3 _ _ _ ex o'.st, .of (o'.st.fr a _ upd_same).1⟩) ?_ ?_
  · rintro j x σ' Hc H' hj ⟨env', m', ex, o', q'⟩ y
    obtain ⟨T, x1, x2, rfl, hT, rfl, g1, g2⟩ := y
    obtain ⟨d1, hd1, rd1⟩ := h2.get' g1
    obtain ⟨d2, hd2, rd2⟩ := r.get' g2
    have hd := zipD_get j xs ys d1 d2 hd1 hd2
    obtain ⟨z1, z2, z3⟩ := pair_new o'.st hT (rd1.mono ex) (rd2.mono ex)
    have hdr : (zipD xs ys).drop j = .tuple [d1, d2] :: (zipD xs ys).drop (j + 1) := by
      obtain ⟨h1, h2⟩ := List.getElem?_eq_some_iff.mp hd
      rw [← h2, List.getElem_cons_drop]
    rw [hdr] at q'
    refine hg _ _ env' m' _ _ σ' _ _ q' (o'.at z2 z1) z3 fun σ2 H2 env2 m2 e3 o2 q2 => ?_
    have e12 := (ex.trans z1).trans e3
    have again : PstX K (upd F a (.lst us)) H2 m2 (forD g tb { DD with nx := fun e m' => m' a = none → DD.nx e (ups m' a (.lst ys)) } ((zipD xs ys).drop (j + 1))) (fun σ' H' => ∃ env' m', Ext (hide F H m) (hide (upd F a (.lst us)) H' m') ∧ Ok K (upd F a (.lst us)) H' σ' env' m' ∧ forD g tb { DD with nx := fun e m' => m' a = none → DD.nx e (ups m' a (.lst ys)) } ((zipD xs ys).drop (j + 1)) env' m') :=
      fun σ3 H3 env3 m3 e4 o3 q3 => ⟨env3, m3, e12.trans e4, o3, q3⟩
    exact hb _ _ env2 m2 σ2 H2 _ q2 o2 ⟨again, rt' e12, nx' e12, again⟩
  · rintro σ' H' ⟨env', m', ex, o', q'⟩
    rw [show min vs.length us.length = (zipD xs ys).length by rw [zipD_length, h2.length, r.length], List.drop_length] at q'
    exact nx' ex σ' H' env' m' Ext.refl o' q'
theorem s_forZA {K : PySem.W.Frag} {X : Cx} {e e2 : Expr} {ta : TA} {da : dA} {elts : List Expr} {kk : Nat} {p pos tpos fpos : Pos} {body : List Stmt} {ug : TG} {ub : TS} {g : dG} {tb : dS} (hm : X.mg "zip" = none) (ha : DA K X [e, e2] ta da) (hgt : DG K X (.Tuple elts kk tpos) ug g) (hb : DSs K X body ub tb) (hg : Gl X "zip" := by rfl)
    (hs : starEach [e, e2] X.env = (false, eval e X.env) :: starEach [e2] X.env := by rfl) (hpl : (backTo pos (starEach [e2] X.env)).any (·.1) = false := by rfl) (hp : PassesOwn (model X.prog X.w) X.A X.env X.xe := by exact PassesOwn.never) (hc : X.calm = true := by rfl)
    (hsf : ∀ z, foldedSetIterable (.Call (.Name "zip" p) [e, e2] [] pos) X.env z = pure z := by intro _; rfl) (hK : X.K = K := by rfl) :
    DS K X (.For (.Tuple elts kk tpos) (.Call (.Name "zip" p) [e, e2] [] pos) body [] fpos) (tFor (iZip K ta) ug ub) (dForZA da g tb) := by
  subst hK
  exact ⟨ps_for hp hc (pi_zip hg hm ha.p hs hpl) hgt.p hb.p hsf, .forZA ha.w hgt.w hb.w⟩
/-- by a word over the pairs left -/
theorem s_forZ {α β : Type} {DD : dEnds} {env : Dq.Env} {m : Mu} {da : dA} {g : dG} {tb : dS} (m1 : Mu) (p : Addr) (la : List α) (lb : List β) (ea : α → D) (eb : β → D) (hd : ∀ Q : List D → Mu → Prop, Q [.list (la.map ea), .adr p] m1 → da env m Q) (hm : m1 p = some (.lst (lb.map eb))) (hl : la.length = lb.length) (W : Nat → Dq.Env → Mu → Prop) (h0 : W 0 env (del m1 p))
    (hs : ∀ i a b, la[i]? = some a → lb[i]? = some b → ∀ e m', W i e m' → ∀ nx : Dq.Env → Mu → Prop, (∀ e m, W (i + 1) e m → nx e m) → g (.tuple [ea a, eb b]) e m' fun e1 m2 => tb { DD with nx := nx, ct := nx, bk := fun e m' => m' p = none → DD.nx e (ups m' p (.lst (lb.map eb))) } e1 m2)
    (hE : ∀ e m', W la.length e m' → m' p = none → DD.nx e (ups m' p (.lst (lb.map eb)))) : dForZA da g tb DD env m := by
  refine hd _ ⟨_, p, _, _, rfl, rfl, hm, ?_⟩
  refine forD_inv (DD := { DD with nx := fun e m' => m' p = none → DD.nx e (ups m' p (.lst (lb.map eb))) }) W (zipD (la.map ea) (lb.map eb)) 0 (fun i d hd e m' h nx hn => ?_) (fun e m' h => ?_) env _ h0
  · rw [Nat.zero_add] at h hn
    have hi : i < la.length := by
      have := (List.getElem?_eq_some_iff.mp hd).1
      rw [zipD_length, List.length_map, List.length_map] at this
      omega
    have ga : la[i]? = some la[i] := List.getElem?_eq_getElem hi
    have gb : lb[i]? = some lb[i] := List.getElem?_eq_getElem (hl ▸ hi)
    have z := zipD_get i (la.map ea) (lb.map eb) (ea la[i]) (eb lb[i]) (by rw [List.getElem?_map, ga]; rfl) (by rw [List.getElem?_map, gb]; rfl)
    rw [z] at hd
    cases hd
    exact hs i _ _ ga gb e m' h nx hn
  · rw [Nat.zero_add, zipD_length, List.length_map, List.length_map, ← hl, Nat.min_self] at h
    exact hE e m' h
theorem q_forZ {α β : Type} {DD : dEnds} {env : Dq.Env} {m : Mu} {da : dA} {g : dG} {tb u : dS} (m1 : Mu) (p : Addr) (la : List α) (lb : List β) (ea : α → D) (eb : β → D) (hd : ∀ Q : List D → Mu → Prop, Q [.list (la.map ea), .adr p] m1 → da env m Q) (hm : m1 p = some (.lst (lb.map eb))) (hl : la.length = lb.length) (W : Nat → Dq.Env → Mu → Prop) (h0 : W 0 env (del m1 p))
    (hs : ∀ i a b, la[i]? = some a → lb[i]? = some b → ∀ e m', W i e m' → ∀ nx : Dq.Env → Mu → Prop, (∀ e m, W (i + 1) e m → nx e m) → g (.tuple [ea a, eb b]) e m' fun e1 m2 => tb { DD with nx := nx, ct := nx, bk := fun e m' => m' p = none → u DD e (ups m' p (.lst (lb.map eb))) } e1 m2)
    (hE : ∀ e m', W la.length e m' → m' p = none → u DD e (ups m' p (.lst (lb.map eb)))) : dSeq (dForZA da g tb) u DD env m :=
  s_forZ m1 p la lb ea eb hd hm hl W h0 hs hE
end Dq

/-! a def that reads a list as data is lent one that may change; its answer holds no list as data -/
namespace Dq
open PySem L2
mutual
inductive NoL : D → Prop
  | non : NoL .non
  | bl (b : Bool) : NoL (.bl b)
  | int (i : Int) : NoL (.int i)
  | str (x : Str) : NoL (.str x)
  | adr (a : Addr) : NoL (.adr a)
  | tuple {xs : List D} : NoLs xs → NoL (.tuple xs)
inductive NoLs : List D → Prop
  | nil : NoLs []
  | cons {d : D} {ds : List D} : NoL d → NoLs ds → NoLs (d :: ds)
end
theorem NoLs.append : ∀ {a b : List D}, NoLs a → NoLs b → NoLs (a ++ b)
  | [], _, _, h => h
  | _ :: _, _, .cons x xs, h => .cons x (NoLs.append xs h)
theorem NoLs.map {α : Type} {f : α → D} (h : ∀ a, NoL (f a)) : ∀ l : List α, NoLs (l.map f)
  | [] => .nil
  | a :: l => .cons (h a) (NoLs.map h l)
mutual
theorem NoL.rep {K : PySem.W.Frag} {h h' : Hp} (ht : ∀ a vs, h a = some (.tup vs) → h' a = some (.tup vs)) : ∀ {d : D} {v : V}, NoL d → Rep K h v d → Rep K h' v d
  | _, _, .non, .non => .non
  | _, _, .bl _, .bl b => .bl b
  | _, _, .int _, .int i => .int i
  | _, _, .str _, .str x => .str x
  | _, _, .adr _, .adr a => .adr a
  | _, _, .tuple n, .tuple e r => .tuple (ht _ _ e) (NoLs.reps ht n r)
theorem NoLs.reps {K : PySem.W.Frag} {h h' : Hp} (ht : ∀ a vs, h a = some (.tup vs) → h' a = some (.tup vs)) : ∀ {ds : List D} {vs : List V}, NoLs ds → Reps K h vs ds → Reps K h' vs ds
  | _, _, .nil, .nil => .nil
  | _, _, .cons n ns, .cons r rs => .cons (NoL.rep ht n r) (NoLs.reps ht ns rs)
end
def join (m m' : Mu) : Mu := fun a => match m a with
  | some o => some o
  | none => m' a
theorem join_some {m m' : Mu} {a : Addr} {o : MO} (h : m a = some o) : join m m' a = some o := by unfold join; rw [h]
theorem join_none {m m' : Mu} {a : Addr} (h : m a = none) : join m m' a = m' a := by unfold join; rw [h]
theorem join_ups {m m' : Mu} {a : Addr} {o : MO} (h : m a = none) : join m (ups m' a o) = ups (join m m') a o := by
  funext b
  by_cases e : b = a
  · subst e
    rw [join_none h, ups_same, ups_same]
  · rw [ups_ne e]
    unfold join
    cases m b with
    | none => exact ups_ne e
    | some o => rfl
theorem join_nil {m : Mu} : join m (fun _ => none) = m := by
  funext b
  unfold join
  cases m b <;> rfl
/-- what stands apart while the lists of S are lent -/
def frmS (F H : Hp) (m : Mu) (S : Addr → Bool) : Hp := fun a => if S a = true then none else match m a with
  | some _ => H a
  | none => F a
section
variable {K : PySem.W.Frag} {F H : Hp} {m : Mu} {S : Addr → Bool}
theorem frmS_hide (s : Stt K F H m) (hS : ∀ p, S p = true → ∃ xs, m p = some (.lst xs)) (a : Addr) : hide (frmS F H m S) H (fun _ => none) a = if S a = true then H a else hide F H m a := by
  unfold hide frmS
  by_cases e : S a = true
  · rw [if_pos e, if_pos e]
  · rw [if_neg e, if_neg e]
    cases hm : m a with
    | none => rfl
    | some o' =>
      simp only
      obtain ⟨u, hu⟩ := (s.ok a o' hm).there
      rw [hu]
theorem frmS_ext (s : Stt K F H m) (hS : ∀ p, S p = true → ∃ xs, m p = some (.lst xs)) : Ext (hide F H m) (hide (frmS F H m S) H (fun _ => none)) := Ext.same fun a u e => by
  rw [frmS_hide s hS]
  have ne : ¬ S a = true := by
    intro h
    obtain ⟨xs, hp⟩ := hS a h
    have z := (hide_un e).1
    rw [hp] at z
    cases z
  rw [if_neg ne]
  exact e
theorem frmS_stt (s : Stt K F H m) (hS : ∀ p, S p = true → ∃ xs, m p = some (.lst xs)) : Stt K (frmS F H m S) H (fun _ => none) := by
  refine ⟨fun q o e => ⟨?_, rfl⟩, nofun, fun q vs e => ?_⟩
  · unfold frmS at e
    split at e
    · cases e
    · split at e
      · exact e
      · exact (s.fr q o e).1
  · unfold frmS at e
    split at e
    · cases e
    · split at e
      · rename_i z
        exact (s.ok q _ z).noTup vs e
      · exact s.ft q vs e
theorem frmS_back {H' : Hp} {m' : Mu} (s : Stt K F H m) (hS : ∀ p, S p = true → ∃ xs, m p = some (.lst xs)) (s' : Stt K (frmS F H m S) H' m')
    (hm' : ∀ a o, m' a = some o → ∃ ys, o = .lst ys ∧ NoLs ys) (e : Ext (hide (frmS F H m S) H (fun _ => none)) (hide (frmS F H m S) H' m')) :
    Stt K F H' (join m m') ∧ Ext (hide F H m) (hide F H' (join m m')) ∧ (∀ a, m' a ≠ none → m a = none) ∧ ∀ a vs, hide (frmS F H m S) H' m' a = some (.tup vs) → hide F H' (join m m') a = some (.tup vs) := by
  have fe := frmS_ext s hS
  have lent : ∀ p, S p = true → ∃ xs us, m p = some (.lst xs) ∧ Reps K (hide F H m) us xs ∧ hide (frmS F H m S) H' m' p = some (.lst us) := fun p h => by
    obtain ⟨xs, hp⟩ := hS p h
    obtain ⟨us, hH, r⟩ := s.ok _ _ hp
    exact ⟨xs, us, hp, r, e.lst p us (by rw [frmS_hide s hS, if_pos h]; exact hH)⟩
  have inF : ∀ a o, ¬ S a = true → m a = some o → ∃ u, H a = some u ∧ frmS F H m S a = some u := fun a o ne h => by
    obtain ⟨u, hu⟩ := (s.ok a o h).there
    refine ⟨u, hu, ?_⟩
    unfold frmS
    rw [if_neg ne, h]
    exact hu
  have apart : ∀ a, m' a ≠ none → m a = none := fun a h => by
    cases hm : m a with
    | none => rfl
    | some o =>
      by_cases ne : S a = true
      · obtain ⟨xs, us, _, _, h3⟩ := lent a ne
        exact absurd (hide_un h3).1 h
      · obtain ⟨u, _, hf⟩ := inF a o ne hm
        exact absurd (s'.fr a u hf).2 h
  have vis : ∀ a, (∃ u, hide F H m a = some u) → ¬ S a = true ∧ m a = none ∧ F a = none := fun a ⟨u, h⟩ => by
    have h1 := hide_un h
    refine ⟨fun z => ?_, h1.1, h1.2⟩
    obtain ⟨xs, hp⟩ := hS a z
    rw [hp] at h1
    cases h1.1
  have bck : ∀ a u, m a = none → F a = none → hide (frmS F H m S) H' m' a = some u → hide F H' (join m m') a = some u := fun a u h1 h2 h => by
    rw [hide_at (by rw [join_none h1]; exact (hide_un h).1) h2]
    exact hide_le h
  have rdb : ∀ a u, Rd (hide F H m) a u → Rd (hide (frmS F H m S) H' m') a u → Rd (hide F H' (join m m')) a u := fun a u h k => by
    have v : ¬ S a = true ∧ m a = none ∧ F a = none := by
      rcases h with h | ⟨o, h⟩
      · exact vis a ⟨_, h⟩
      · exact vis a ⟨_, h⟩
    rcases k with z | ⟨o, z⟩
    · exact .inl (bck a _ v.2.1 v.2.2 z)
    · exact .inr ⟨o, bck a _ v.2.1 v.2.2 z⟩
  have ex : Ext (hide F H m) (hide F H' (join m m')) := by
    refine ⟨fun a v h => ?_, fun a v h => ?_, fun a v h => ?_, fun a v h => rdb a _ h (e.rl a v (fe.rl a v h)), fun a v h => rdb a _ h (e.rt a v (fe.rt a v h)), fun a v h => rdb a _ h (e.dk a v (fe.dk a v h)), fun a v h => rdb a _ h (e.dt a v (fe.dt a v h)), fun a o u h => ?_⟩
    · have z := vis a ⟨_, h⟩
      exact bck a _ z.2.1 z.2.2 (e.ext a v (fe.ext a v h))
    · have z := vis a ⟨_, h⟩
      exact bck a _ z.2.1 z.2.2 (e.lst a v (fe.lst a v h))
    · have z := vis a ⟨_, h⟩
      exact bck a _ z.2.1 z.2.2 (e.tup a v (fe.tup a v h))
    · have z := vis a ⟨_, h⟩
      exact bck a _ z.2.1 z.2.2 (e.fz a o u (fe.fz a o u h))
  have tup : ∀ a vs, hide (frmS F H m S) H' m' a = some (.tup vs) → hide F H' (join m m') a = some (.tup vs) := fun a vs h => by
    have ne : ¬ S a = true := fun z => by
      obtain ⟨xs, us, _, _, h3⟩ := lent a z
      rw [h3] at h
      cases h
    have hu := hide_un h
    have hma : m a = none := by
      cases hm : m a with
      | none => rfl
      | some o =>
        obtain ⟨u, _, hf⟩ := inF a o ne hm
        rw [hf] at hu
        cases hu.2
    have hFa : F a = none := by
      have := hu.2
      unfold frmS at this
      rw [if_neg ne, hma] at this
      exact this
    exact bck a _ hma hFa h
  refine ⟨⟨fun q o h => ?_, fun q o h => ?_, s.ft⟩, ex, apart, tup⟩
  · have h1 := s.fr q o h
    have ne : ¬ S q = true := fun z => by
      obtain ⟨xs, hp⟩ := hS q z
      rw [hp] at h1
      cases h1.2
    have z := s'.fr q o (by unfold frmS; rw [if_neg ne, h1.2]; exact h)
    exact ⟨z.1, by rw [join_none h1.2]; exact z.2⟩
  · cases hm : m q with
    | some o' =>
      rw [join_some hm] at h
      cases h
      by_cases ne : S q = true
      · obtain ⟨xs, us, h1, h2, h3⟩ := lent q ne
        rw [hm] at h1
        cases h1
        exact ⟨us, hide_le h3, h2.mono ex⟩
      · obtain ⟨u, hu, hf⟩ := inF q o ne hm
        have h2 : H' q = H q := by
          rw [hu]
          exact (s'.fr q u hf).1
        exact (s.ok q o hm).mono h2 ex
    | none =>
      rw [join_none hm] at h
      obtain ⟨ys, rfl, n⟩ := hm' q o h
      obtain ⟨vs, hv, rv⟩ := s'.ok q _ h
      exact ⟨vs, hv, n.reps tup rv⟩
/-- arguments: lent ones as data -/
inductive Lent (m : Mu) (S : Addr → Bool) : List D → List D → Prop
  | nil : Lent m S [] []
  | same {d : D} {ds ds' : List D} : Lent m S ds ds' → Lent m S (d :: ds) (d :: ds')
  | lent {p : Addr} {xs ds ds' : List D} : S p = true → m p = some (.lst xs) → Lent m S ds ds' → Lent m S (.adr p :: ds) (.list xs :: ds')
theorem Lent.reps (s : Stt K F H m) (hS : ∀ p, S p = true → ∃ xs, m p = some (.lst xs)) : ∀ {ds ds' : List D} {vs : List V}, Lent m S ds ds' → Reps K (hide F H m) vs ds → Reps K (hide (frmS F H m S) H (fun _ => none)) vs ds'
  | _, _, _, .nil, .nil => .nil
  | _, _, _, .same l, .cons r rs => .cons (r.mono (frmS_ext s hS)) (Lent.reps s hS l rs)
  | _, _, _, .lent h hm l, .cons r rs => by
    cases r
    obtain ⟨us, hH, ru⟩ := s.ok _ _ hm
    refine .cons (.list (vs := us) ?_ (ru.mono (frmS_ext s hS))) (Lent.reps s hS l rs)
    rw [frmS_hide s hS, if_pos h]
    exact hH
/-- the answer's lists may change, or are new -/
def LentQ (m : Mu) (Q : D → Mu → Prop) : D → Mu → Prop := fun d m' => NoL d ∧ (∀ a o, m' a = some o → ∃ ys, o = .lst ys ∧ NoLs ys) ∧ ((∀ a, m' a ≠ none → m a = none) → Q d (join m m'))
theorem spD_lendS {pre pre' : Pre} (h : ∀ ds m Q, pre ds m Q → ∃ S : Addr → Bool, (∀ p, S p = true → ∃ xs, m p = some (.lst xs)) ∧ ∃ ds', Lent m S ds ds' ∧ pre' ds' (fun _ => none) (LentQ m Q)) :
    ∀ vs H R E, spD K pre vs H R E → spD K pre' vs H R E := by
  rintro vs H R E ⟨F, ds, m, Q, s, r, q, k⟩
  obtain ⟨S, hS, ds', hl, q1⟩ := h ds m Q q
  refine ⟨frmS F H m S, ds', fun _ => none, _, frmS_stt s hS, hl.reps s hS r, q1, ?_⟩
  rintro v H' d m' e st rv ⟨n1, n2, n3⟩
  obtain ⟨b1, b2, b3, b4⟩ := frmS_back s hS st n2 e
  exact k _ H' _ _ b2 b1 (n1.rep b4 rv) (n3 b3)
end
end Dq

/-! the program as plain functions over plain data -/
namespace Ls
open PySem L2 Dq
inductive Rl where | near | left | even
  deriving DecidableEq
def rt : Rl → Str
  | .near => "near"
  | .left => "left"
  | .even => "even"
def ps (p : List Bool) : Str := ⟨(p.map fun b => if b then 49 else 48).toArray⟩
def nums (l : List Nat) : List D := l.map fun n => .int (n : Nat)
/-- all patterns of so many places -/
def pats : Nat → List (List Bool)
  | 0 => [[]]
  | n + 1 => (pats n).map (false :: ·) ++ (pats n).map (true :: ·)
theorem mem_pats : ∀ (p : List Bool), p ∈ pats p.length
  | [] => by simp [pats]
  | false :: p => by
    rw [List.length_cons, pats, List.mem_append]
    exact .inl (List.mem_map_of_mem (mem_pats p))
  | true :: p => by
    rw [List.length_cons, pats, List.mem_append]
    exact .inr (List.mem_map_of_mem (mem_pats p))
/-- .. of at most six -/
def pats6 : List (List Bool) := pats 0 ++ pats 1 ++ pats 2 ++ pats 3 ++ pats 4 ++ pats 5 ++ pats 6
theorem mem_pats6 {p : List Bool} (h : p.length ≤ 6) : p ∈ pats6 := by
  have := mem_pats p
  unfold pats6
  simp only [List.mem_append]
  match hl : p.length, h with
  | 0, _ => rw [hl] at this; simp [this]
  | 1, _ => rw [hl] at this; simp [this]
  | 2, _ => rw [hl] at this; simp [this]
  | 3, _ => rw [hl] at this; simp [this]
  | 4, _ => rw [hl] at this; simp [this]
  | 5, _ => rw [hl] at this; simp [this]
  | 6, _ => rw [hl] at this; simp [this]
def placesOf (p : List Bool) : List Nat := (List.range p.length).filter fun i => p[i]?.getD false
def patOf (w : Nat) (pl : List Nat) : List Bool := (List.range w).map fun i => decide (i ∈ pl)
def evenPl (w n : Nat) : List Nat := (List.range n).map fun k => k * w / n
def insN (x : Nat) : List Nat → List Nat
  | [] => [x]
  | y :: r => if x ≤ y then x :: y :: r else y :: insN x r
def isortN : List Nat → List Nat
  | [] => []
  | x :: r => insN x (isortN r)
/-- the free places ahead, behind -/
def freeM (w : Nat) (pl : List Nat) : List Nat := (List.range w).filter fun i => !decide (i ∈ pl)
def beforeM (w : Nat) (pl : List Nat) (k : Nat) : List Nat := (freeM w pl).filter fun i => decide (0 < k) && decide (i < pl[k - 1]?.getD 0)
def behindM (w : Nat) (pl : List Nat) (k : Nat) : List Nat := (freeM w pl).filter fun i => decide (k < pl.length) && decide (pl[k]?.getD 0 < i)
def goesM (r : Rl) (w : Nat) (pl : List Nat) (k : Nat) : Bool :=
  if r = .near ∧ beforeM w pl k ≠ [] ∧ behindM w pl k ≠ [] then decide (pl[k - 1]?.getD 0 + pl[k]?.getD 0 ≤ (behindM w pl k).headD 0 + (beforeM w pl k).getLastD 0) else !decide (beforeM w pl k = [])
def shiftM (r : Rl) (w : Nat) (pl : List Nat) (k : Nat) : List Nat :=
  if goesM r w pl k = true then isortN (pl ++ [(beforeM w pl k).getLastD 0]) else isortN (pl ++ [(behindM w pl k).headD 0])
/-- the places behind a putting in; high is told with one more -/
def pbM (r : Rl) (w : Nat) (pl : List Nat) (k : Nat) : List Nat :=
  let low : Int := if 0 < k then (pl[k - 1]?.getD 0 : Nat) else -1
  let high : Int := if k < pl.length then (pl[k]?.getD 0 : Nat) else (w : Nat)
  if high - low > 1 then isortN (pl ++ [((low + high) / 2).toNat])
  else if r = .even then evenPl w (pl.length + 1) else shiftM r w pl k
def movedM (pl ot : List Nat) (k : Nat) : Nat := ((List.range pl.length).filter fun i => !decide (pl[i]? = (ot.eraseIdx k)[i]?)).length
def stepM (r : Rl) (p : List Bool) (word : Str) (k : Int) : Option (Nat × List Bool) :=
  if word = "take" ∧ 0 ≤ k ∧ k < (placesOf p).length then some (0, patOf p.length ((placesOf p).eraseIdx k.toNat))
  else if word = "put" ∧ 0 ≤ k ∧ k ≤ (placesOf p).length ∧ (placesOf p).length < p.length then
    some (movedM (placesOf p) (pbM r p.length (placesOf p) k.toNat) k.toNat, patOf p.length (pbM r p.length (placesOf p) k.toNat))
  else none
def stepD : Option (Nat × List Bool) → D
  | none => .non
  | some (n, q) => .tuple [.int (n : Nat), .str (ps q)]
/-! facts of the finite -/
theorem pl_len (p : List Bool) : (placesOf p).length ≤ p.length := by
  unfold placesOf
  refine Nat.le_trans (List.length_filter_le _ _) ?_
  rw [List.length_range]
  exact Nat.le_refl _
theorem pl_lt {p : List Bool} {i : Nat} (h : i ∈ placesOf p) : i < p.length := List.mem_range.mp (List.mem_filter.mp h).1
theorem ps_len (p : List Bool) : (ps p).length = p.length := by simp [ps, Str.length]
theorem ps_at {p : List Bool} {i : Nat} {b : Bool} (h : p[i]? = some b) : atI (ps p).cps.toList ((i : Nat) : Int) = some (if b then 49 else 48) := by
  refine atI_nat ?_
  simp [ps, h]
theorem ps_inj {p q : List Bool} : ps p = ps q ↔ p = q := by
  constructor
  · intro h
    have h1 : (p.map fun b => if b then 49 else 48) = (q.map fun b => if b then 49 else 48) := by
      have := congrArg (fun z : Str => z.cps.toList) h
      simpa [ps] using this
    exact (List.map_inj_right (fun a b hab => by cases a <;> cases b <;> simp_all)).mp h1
  · intro h
    rw [h]
theorem rt_inj {a b : Rl} : rt a = rt b ↔ a = b := by
  cases a <;> cases b <;> simp [rt] <;> decide +kernel
theorem nums_len (l : List Nat) : (nums l).length = l.length := by simp [nums]
theorem isortN_ints (l : List Nat) : isort (l.map fun n : Nat => (n : Int)) = (isortN l).map fun n : Nat => (n : Int) := by
  have hi : ∀ (x : Nat) (l : List Nat), ins (x : Int) (l.map fun n : Nat => (n : Int)) = (insN x l).map fun n : Nat => (n : Int) := by
    intro x l
    induction l with
    | nil => rfl
    | cons y r ih =>
      rw [List.map_cons, ins, insN]
      by_cases h : x ≤ y
      · rw [if_pos h, if_pos (by omega)]
        rfl
      · rw [if_neg h, if_neg (by omega), ih]
        rfl
  induction l with
  | nil => rfl
  | cons x r ih => rw [List.map_cons, isort, isortN, ih, hi]
theorem nums_ints (l : List Nat) : nums l = (l.map fun n : Nat => (n : Int)).map D.int := by simp [nums, List.map_map]

theorem nums_get {l : List Nat} {i : Nat} (h : i < l.length) : (nums l)[i]? = some (.int (l[i] : Nat)) := by simp [nums, h]
theorem nums_atN {l : List Nat} {i : Nat} (h : i < l.length) : atI (nums l) ((i : Nat) : Int) = some (.int (l[i] : Nat)) := atI_nat (nums_get h)
theorem nums_flat (l : List Nat) : (nums l).all flat = true := by
  unfold nums
  rw [List.all_map]
  exact List.all_eq_true.mpr fun _ _ => rfl
theorem nums_in (l : List Nat) (x : Nat) : inV (.int (x : Nat)) ((nums l).map toV) = decide (x ∈ l) := by
  unfold inV nums
  rw [List.map_map, List.any_map]
  induction l with
  | nil => rfl
  | cons a l ih =>
    rw [List.any_cons, ih]
    have e : ((fun y => eqV y (V.int (x : Nat))) ∘ toV ∘ fun n : Nat => D.int (n : Nat)) a = decide (x = a) := by
      show ((a : Int) == (x : Int)) = decide (x = a)
      by_cases h : x = a
      · subst h
        simp
      · rw [decide_eq_false h]
        simp only [beq_eq_false_iff_ne]
        omega
    rw [e]
    by_cases h : x = a
    · subst h
      simp
    · simp [h]
theorem cut_take (xs : List D) (k : Nat) : cutD xs none (some (k : Int)) = xs.take k := by
  unfold cutD HT.sIx
  simp only [Nat.sub_zero, List.drop_zero, if_neg (show ¬ ((k : Nat) : Int) < 0 by omega), Int.toNat_natCast]
  by_cases h : k ≤ xs.length
  · rw [Nat.min_eq_left h]
  · rw [Nat.min_eq_right (by omega), List.take_length, List.take_of_length_le (by omega)]
theorem cut_drop (xs : List D) (k : Nat) : cutD xs (some (k : Int)) none = xs.drop k := by
  unfold cutD HT.sIx
  simp only [if_neg (show ¬ ((k : Nat) : Int) < 0 by omega), Int.toNat_natCast]
  by_cases h : k ≤ xs.length
  · rw [Nat.min_eq_left h, List.take_of_length_le (by rw [List.length_drop]; omega)]
  · rw [Nat.min_eq_right (by omega), List.drop_length, List.drop_of_length_le (by omega)]
    simp
theorem cut_drop1 (xs : List D) (k : Nat) : cutD xs (some ((k : Int) + 1)) none = xs.drop (k + 1) := by
  rw [show ((k : Int) + 1) = ((k + 1 : Nat) : Int) by omega, cut_drop]
theorem take_drop_erase {α : Type} (xs : List α) (k : Nat) : xs.take k ++ xs.drop (k + 1) = xs.eraseIdx k := by
  rw [List.eraseIdx_eq_take_drop_succ]
theorem erase_map {α β : Type} (f : α → β) : ∀ (l : List α) (k : Nat), (l.map f).eraseIdx k = (l.eraseIdx k).map f
  | [], _ => rfl
  | _ :: _, 0 => rfl
  | a :: l, k + 1 => by
    show f a :: (l.map f).eraseIdx k = f a :: (l.eraseIdx k).map f
    rw [erase_map f l k]
theorem nums_erase (l : List Nat) (k : Nat) : (nums l).eraseIdx k = nums (l.eraseIdx k) := erase_map _ l k
theorem nums_append (l : List Nat) (n : Nat) : nums l ++ [.int (n : Nat)] = nums (l ++ [n]) := by simp [nums]
/-- joined signs -/
theorem str_ext {a b : Str} (h : a.cps.toList = b.cps.toList) : a = b := by
  cases a; cases b
  simp only [Str.mk.injEq]
  exact Array.toList_inj.mp h
theorem join0 : ∀ (l : List Str), (Str.join "" l).cps.toList = (l.map fun x => x.cps.toList).flatten
  | [] => rfl
  | [x] => by simp [Str.join]
  | x :: y :: r => by
    rw [List.map_cons, List.flatten_cons, ← join0 (y :: r)]
    show ((x ++ "" ++ Str.join "" (y :: r) : Str)).cps.toList = _
    have e : ∀ a b : Str, (a ++ b).cps.toList = a.cps.toList ++ b.cps.toList := fun a b => by
      show (a.cps ++ b.cps).toList = _
      simp
    rw [e, e]
    have z : ("" : Str).cps.toList = [] := by decide +kernel
    rw [z, List.append_nil]
theorem join_signs (l : List Bool) : Txt.join "" (l.map fun b => if b then ("1" : Str) else "0") = ps l := by
  refine str_ext ?_
  have e1 : (("1" : Str)).cps.toList = [49] := by decide +kernel
  have e0 : (("0" : Str)).cps.toList = [48] := by decide +kernel
  show (Builtin.Str.glued _ _).cps.toList = _
  rw [StrLaws.glued_eq_join, join0, List.map_map]
  simp only [ps]
  induction l with
  | nil => rfl
  | cons b l ih =>
    rw [List.map_cons, List.flatten_cons, ih, List.map_cons]
    cases b
    · simp [e0]
    · simp [e1]
theorem sign_len (b : Bool) : (if b then ("1" : Str) else "0").length = 1 := by cases b <;> decide +kernel
theorem signs_sum (l : List Bool) : ((l.map fun b => if b then ("1" : Str) else "0").map (·.length)).sum = l.length := by
  induction l with
  | nil => rfl
  | cons b l ih =>
    rw [List.map_cons, List.map_cons, List.sum_cons, ih, List.length_cons, sign_len]
    omega
/-- a comprehension that sifts numbers -/
theorem lc_nums {vs : List Nat} {env : Dq.Env} {j : Nat} {tt : dT} {Q : List D → Mu → Prop} {m : Mu} {l : List Nat} (c : Nat → Bool)
    (ht : ∀ i, i ∈ l → ∀ Q' : Bool → Mu → Prop, Q' (c i) m → tt ((wipeD env vs).set j (some (.int (i : Nat)))) m Q') (hl : l.length < sizeLine) (q : Q (nums (l.filter c)) m) (hj : j < (wipeD env vs).length := by simp only [wipeD, List.length_set, List.length_cons, List.length_nil]; omega) : lcD vs env (hName j) tt (dVar j) Q (nums l) [] m := by
  have key : ((nums l).filter (fun d => match d with | .int i => c i.toNat | _ => false)).map (fun d => d) = nums (l.filter c) := by
    rw [List.map_id']
    clear ht hl q
    unfold nums
    induction l with
    | nil => rfl
    | cons a l ih =>
      rw [List.map_cons, List.filter_cons, List.filter_cons, ih]
      simp only [Int.toNat_natCast]
      split <;> rfl
  refine lc_pure (fun d => match d with | .int i => c i.toNat | _ => false) (fun d => d) ?_ ?_ (by rw [nums_len]; exact hl) (by rw [key]; exact q)
  · intro x hx Q' q'
    obtain ⟨i, hi, rfl⟩ := List.mem_map.mp hx
    simp only [Int.toNat_natCast] at q'
    exact ht i hi Q' q'
  · intro x hx hc Q' q'
    exact ⟨x, List.getElem?_set_self hj, q'⟩
theorem rt_near {r : Rl} : (rt r = ("near" : Str)) = (r = .near) := propext (rt_inj (b := .near))
theorem rt_left {r : Rl} : (rt r = ("left" : Str)) = (r = .left) := propext (rt_inj (b := .left))
theorem rt_even {r : Rl} : (rt r = ("even" : Str)) = (r = .even) := propext (rt_inj (b := .even))
theorem nums_last {l : List Nat} (h : l ≠ []) : atI (nums l) (-1) = some (.int (l.getLastD 0 : Nat)) := by
  rw [← List.dropLast_concat_getLast h, ← nums_append, atI_last]
  simp
theorem nums_first {l : List Nat} (h : l ≠ []) : atI (nums l) (0 : Int) = some (.int (l.headD 0 : Nat)) := by
  obtain ⟨a, r, e⟩ := List.exists_cons_of_ne_nil h
  rw [e]
  exact nums_atN (i := 0) (by simp)
def lowM (pl : List Nat) (k : Nat) : Int := if 0 < k then (pl[k - 1]?.getD 0 : Nat) else -1
def highM (w : Nat) (pl : List Nat) (k : Nat) : Int := if k < pl.length then (pl[k]?.getD 0 : Nat) else (w : Nat)
theorem pbM_eq (r : Rl) (w : Nat) (pl : List Nat) (k : Nat) : pbM r w pl k = if highM w pl k - lowM pl k > 1 then isortN (pl ++ [((lowM pl k + highM w pl k) / 2).toNat]) else if r = .even then evenPl w (pl.length + 1) else shiftM r w pl k := rfl
def rls : List Rl := [.near, .left, .even]
theorem mem_rls (r : Rl) : r ∈ rls := by cases r <;> simp [rls]
/-- what the walk asks of a putting in -/
def pbOk (p : List Bool) : Bool := rls.all fun r => (List.range ((placesOf p).length + 1)).all fun k => !decide ((placesOf p).length < p.length) ||
  (decide ((pbM r p.length (placesOf p) k).length = (placesOf p).length + 1) && (decide (highM p.length (placesOf p) k - lowM (placesOf p) k > 1) || goesM r p.length (placesOf p) k || !decide (behindM p.length (placesOf p) k = [])))
theorem pbOk_all : pats6.all pbOk = true := by decide +kernel
theorem pb_ok {p : List Bool} (h : p.length ≤ 6) (r : Rl) {k : Nat} (hk : k ≤ (placesOf p).length) (hl : (placesOf p).length < p.length) :
    (pbM r p.length (placesOf p) k).length = (placesOf p).length + 1 ∧ (¬ highM p.length (placesOf p) k - lowM (placesOf p) k > 1 → goesM r p.length (placesOf p) k = false → behindM p.length (placesOf p) k ≠ []) := by
  have h1 := List.all_eq_true.mp pbOk_all p (mem_pats6 h)
  unfold pbOk at h1
  have h2 := List.all_eq_true.mp (List.all_eq_true.mp h1 r (mem_rls r)) k (List.mem_range.mpr (by omega))
  simp only [Bool.or_eq_true, Bool.and_eq_true, decide_eq_true_eq, Bool.not_eq_true', decide_eq_false_iff_not] at h2
  rcases h2 with h2 | ⟨h2, h3⟩
  · omega
  · refine ⟨h2, fun h4 h5 => ?_⟩
    rcases h3 with (h3 | h3) | h3
    · exact absurd h3 h4
    · rw [h5] at h3
      cases h3
    · exact h3
/-- the two words of a deed -/
inductive Wd where | put | take
  deriving DecidableEq
def wt : Wd → Str
  | .put => "put"
  | .take => "take"
theorem wt_inj {a b : Wd} : wt a = wt b ↔ a = b := by
  cases a <;> cases b <;> simp [wt] <;> decide +kernel
instance : Cod Wd where
  enc := fun w => .str (wt w)
  py := fun w => .str (wt w)
  isP := fun _ a => .str _
  lay := fun a => by
    simp only [PyData.canLay0]
    cases a <;> decide +kernel
  dep := 0
  depth := fun _ => by simp [PyData.depth]
  eqv := fun a b => by
    simp only [PyData.eqv]
    by_cases h : a = b
    · subst h; simp
    · rw [decide_eq_false h, beq_eq_false_iff_ne]
      exact fun e => h (wt_inj.mp e)
def deedD (d : Wd × Nat) : D := .tuple [.str (wt d.1), .int (d.2 : Nat)]
def deedsD (l : List (Wd × Nat)) : List D := l.map deedD
def stepW (r : Rl) (p : List Bool) (d : Wd × Nat) : Option (Nat × List Bool) := stepM r p (wt d.1) (d.2 : Nat)
def playM (r : Rl) : List Bool → List (Wd × Nat) → Option (List Nat × List Bool)
  | p, [] => some ([], p)
  | p, d :: l => match stepW r p d with
    | none => none
    | some (n, q) => match playM r q l with
      | none => none
      | some (ns, q') => some (n :: ns, q')
theorem zeros_ok {w : Nat} (h1 : 1 ≤ w) (h2 : w ≤ 6) : MulOk "0" (w : Nat) := by
  have : w = 1 ∨ w = 2 ∨ w = 3 ∨ w = 4 ∨ w = 5 ∨ w = 6 := by omega
  rcases this with rfl | rfl | rfl | rfl | rfl | rfl <;> exact ⟨by decide, fun _ _ => by decide +kernel, fun _ _ => by decide +kernel⟩
theorem zeros_eq {w : Nat} (h1 : 1 ≤ w) (h2 : w ≤ 6) : Txt.mul "0" (w : Nat) = ps (List.replicate w false) := by
  have : w = 1 ∨ w = 2 ∨ w = 3 ∨ w = 4 ∨ w = 5 ∨ w = 6 := by omega
  rcases this with rfl | rfl | rfl | rfl | rfl | rfl <;> decide +kernel
theorem patOf_len (w : Nat) (l : List Nat) : (patOf w l).length = w := by simp [patOf]
theorem stepM_len {r : Rl} {p q : List Bool} {w : Str} {k : Int} {n : Nat} (h : stepM r p w k = some (n, q)) : q.length = p.length := by
  unfold stepM at h
  split at h
  · cases h
    exact patOf_len _ _
  · split at h
    · cases h
      exact patOf_len _ _
    · cases h
/-- .. of whole numbers -/
theorem lc_ints {vs : List Nat} {env : Dq.Env} {j : Nat} {tt : dT} {Q : List D → Mu → Prop} {m : Mu} {l : List Int} (c : Int → Bool)
    (ht : ∀ i, i ∈ l → ∀ Q' : Bool → Mu → Prop, Q' (c i) m → tt ((wipeD env vs).set j (some (.int i))) m Q') (hl : l.length < sizeLine) (q : Q ((l.filter c).map D.int) m) (hj : j < (wipeD env vs).length := by simp only [wipeD, List.length_set, List.length_cons, List.length_nil]; omega) : lcD vs env (hName j) tt (dVar j) Q (l.map D.int) [] m := by
  have key : ((l.map D.int).filter (fun d => match d with | .int i => c i | _ => false)).map (fun d => d) = (l.filter c).map D.int := by
    rw [List.map_id']
    clear ht hl q
    induction l with
    | nil => rfl
    | cons a l ih =>
      rw [List.map_cons, List.filter_cons, List.filter_cons, ih]
      simp only
      split <;> rfl
  refine lc_pure (fun d => match d with | .int i => c i | _ => false) (fun d => d) ?_ ?_ (by rw [List.length_map]; exact hl) (by rw [key]; exact q)
  · intro x hx Q' q'
    obtain ⟨i, hi, rfl⟩ := List.mem_map.mp hx
    exact ht i hi Q' q'
  · intro x hx hc Q' q'
    exact ⟨x, List.getElem?_set_self hj, q'⟩
end Ls

namespace Dq
open PySem L2
theorem q_while {DD : dEnds} {env : Dq.Env} {m : Mu} {c : dT} {tb u : dS} (W : Nat → Dq.Env → Mu → Prop) (n0 : Nat) (h0 : W n0 env m)
    (hs : ∀ n e m', W n e m' → ∃ b : Bool, (∀ Q : Bool → Mu → Prop, Q b m' → c e m' Q) ∧ (b = true → ∀ nx : Dq.Env → Mu → Prop, (∀ n' e1 m1, n' < n → W n' e1 m1 → nx e1 m1) → tb { DD with nx := nx, ct := nx, bk := u DD } e m') ∧ (b = false → u DD e m')) :
    dSeq (dWhile c tb) u DD env m := by
  refine ⟨W, ⟨n0, h0⟩, fun n e m' w => ?_⟩
  obtain ⟨b, h1, h2, h3⟩ := hs n e m' w
  refine h1 _ ?_
  cases b with
  | true => exact h2 rfl _ fun n' e1 m1 hl w1 => ⟨n', hl, w1⟩
  | false => exact h3 rfl
/-- a new object known by A alone -/
theorem q_newAny {A : List D → Prop} {DD : dEnds} {env : Dq.Env} {m : Mu} {te : dE} {u : dS} {i : Nat} (h : ∀ Q : D → Mu → Prop, (∀ a, m a = none → Q (.adr a) (ups m a (.any A))) → te env m Q) (k : ∀ a, m a = none → u DD (env.set i (some (.adr a))) (ups m a (.any A))) : dSeq (dAsg te i) u DD env m := h _ k
/-- a loop over 0 .. n - 1 where n is drawn -/
theorem q_forN {DD : dEnds} {env : Dq.Env} {m : Mu} {u : dS} {wi : dI} {g : dG} {t : dS} (C : Nat → Prop) (hi : ∀ Q : List D → Mu → Prop, (∀ n, C n → Q ((List.range n).map fun i : Nat => .int (i : Nat)) m) → wi env m Q) (W : Nat → Nat → Dq.Env → Mu → Prop) (h0 : ∀ n, C n → W n 0 env m)
    (hs : ∀ n i, C n → i < n → ∀ e m', W n i e m' → ∀ nx : Dq.Env → Mu → Prop, (∀ e m, W n (i + 1) e m → nx e m) → g (.int (i : Nat)) e m' fun e1 m1 => t { DD with nx := nx, ct := nx, bk := u DD } e1 m1)
    (hd : ∀ n, C n → ∀ e m', W n n e m' → u DD e m') : dSeq (dFor wi g t) u DD env m := by
  refine hi _ fun n hn => forD_inv (W n) _ 0 (fun i d hd e m' h nx hn' => ?_) (fun e m' h => ?_) env m (h0 n hn)
  · rw [Nat.zero_add] at h hn'
    rw [List.getElem?_map] at hd
    obtain ⟨j, hj, rfl⟩ := Option.map_eq_some_iff.mp hd
    obtain ⟨hi, rfl⟩ := List.getElem?_eq_some_iff.mp hj
    rw [List.length_range] at hi
    rw [List.getElem_range]
    exact hs n i hn hi e m' h nx hn'
  · rw [Nat.zero_add, List.length_map, List.length_range] at h
    exact hd n hn e m' h
/-- a comprehension whose items are drawn -/
theorem lc_drawnA {β : Type} {vs : List Nat} {env : Dq.Env} {j : Nat} {te : dE} {Q : List D → Mu → Prop} {m : Mu} (g : β → D) : ∀ (ds : List D) (bs : List β),
    (∀ x ∈ ds, ∀ Q' : D → Mu → Prop, (∀ b, Q' (g b) m) → te ((wipeD env vs).set j (some x)) m Q') → bs.length + ds.length < sizeLine →
    (∀ cs : List β, cs.length = bs.length + ds.length → Q (cs.map g) m) → lcD vs env (hName j) dYes te Q ds (bs.map g) m
  | [], bs, _, _, q => q bs rfl
  | x :: r, bs, h, hl, q => by
    rw [List.length_cons] at hl
    refine h x List.mem_cons_self _ fun b => ⟨by rw [List.length_map]; omega, ?_⟩
    have := lc_drawnA (vs := vs) (env := env) (j := j) (te := te) (Q := Q) (m := m) g r (bs ++ [b]) (fun y hy => h y (List.mem_cons_of_mem _ hy)) (by rw [List.length_append, List.length_cons, List.length_nil]; omega) (fun cs hcs => q cs (by rw [hcs, List.length_append, List.length_cons, List.length_nil, List.length_cons]; omega))
    rw [List.map_append] at this
    exact this
theorem lc_drawn {β : Type} {vs : List Nat} {env : Dq.Env} {j : Nat} {te : dE} {Q : List D → Mu → Prop} {m : Mu} {ds : List D} (g : β → D)
    (h : ∀ x ∈ ds, ∀ Q' : D → Mu → Prop, (∀ b, Q' (g b) m) → te ((wipeD env vs).set j (some x)) m Q') (hl : ds.length < sizeLine)
    (q : ∀ cs : List β, cs.length = ds.length → Q (cs.map g) m) : lcD vs env (hName j) dYes te Q ds [] m :=
  lc_drawnA g ds [] h (by simpa using hl) fun cs hcs => q cs (by simpa using hcs)
/-- a comprehension over a list told by a function -/
theorem lc_mapA {α : Type} {vs : List Nat} {env : Dq.Env} {j : Nat} {tt : dT} {te : dE} {Q : List D → Mu → Prop} {m : Mu} (en : α → D) (c : α → Bool) (f : α → D) : ∀ (l : List α) (acc : List D),
    (∀ x ∈ l, ∀ Q' : Bool → Mu → Prop, Q' (c x) m → tt ((wipeD env vs).set j (some (en x))) m Q') → (∀ x ∈ l, c x = true → ∀ Q' : D → Mu → Prop, Q' (f x) m → te ((wipeD env vs).set j (some (en x))) m Q') →
    acc.length + l.length < sizeLine → Q (acc ++ (l.filter c).map f) m → lcD vs env (hName j) tt te Q (l.map en) acc m
  | [], acc, _, _, _, q => by
    have q' : Q (acc ++ []) m := q
    rw [List.append_nil] at q'
    exact q'
  | x :: r, acc, ht, he, hl, q => by
    rw [List.length_cons] at hl
    refine ht x List.mem_cons_self _ ?_
    rw [List.filter_cons] at q
    split
    · rename_i hc
      rw [if_pos hc] at q
      refine he x List.mem_cons_self hc _ ⟨by omega, lc_mapA en c f r _ (fun y hy => ht y (List.mem_cons_of_mem _ hy)) (fun y hy => he y (List.mem_cons_of_mem _ hy)) ?_ ?_⟩
      · rw [List.length_append, List.length_cons, List.length_nil]
        omega
      · rw [List.append_assoc]
        exact q
    · rename_i hc
      rw [if_neg hc] at q
      exact lc_mapA en c f r _ (fun y hy => ht y (List.mem_cons_of_mem _ hy)) (fun y hy => he y (List.mem_cons_of_mem _ hy)) (by omega) q
theorem lc_map {α : Type} {vs : List Nat} {env : Dq.Env} {j : Nat} {tt : dT} {te : dE} {Q : List D → Mu → Prop} {m : Mu} {en : α → D} {l : List α} (c : α → Bool) (f : α → D)
    (ht : ∀ x ∈ l, ∀ Q' : Bool → Mu → Prop, Q' (c x) m → tt ((wipeD env vs).set j (some (en x))) m Q') (he : ∀ x ∈ l, c x = true → ∀ Q' : D → Mu → Prop, Q' (f x) m → te ((wipeD env vs).set j (some (en x))) m Q')
    (hl : l.length < sizeLine) (q : Q ((l.filter c).map f) m) : lcD vs env (hName j) tt te Q (l.map en) [] m := lc_mapA en c f l [] ht he (by simpa using hl) q
theorem lc_mapAll {α : Type} {vs : List Nat} {env : Dq.Env} {j : Nat} {te : dE} {Q : List D → Mu → Prop} {m : Mu} {en : α → D} {l : List α} (f : α → D)
    (he : ∀ x ∈ l, ∀ Q' : D → Mu → Prop, Q' (f x) m → te ((wipeD env vs).set j (some (en x))) m Q') (hl : l.length < sizeLine) (q : Q (l.map f) m) : lcD vs env (hName j) dYes te Q (l.map en) [] m :=
  lc_map (fun _ => true) f (fun _ _ _ q' => q') (fun x hx _ => he x hx) hl (by rw [List.filter_eq_self.mpr (fun _ _ => rfl)]; exact q)
end Dq
/-! the laws' own helpers as plain functions -/
namespace Ls
open PySem L2 Dq
/-- the draws: two whole numbers, then great ones -/
def Dice (ds : List D) : Prop := ∃ (a b : Int) (l : List Int), ds = .int a :: .int b :: l.map D.int ∧ 0 ≤ a ∧ a < 2147483647 ∧ 0 ≤ b ∧ (∀ x ∈ l, 0 ≤ x) ∧ l.length ≤ 63
/-- what == tells of a list of draws -/
theorem rule_ix (r : Nat) (h : r < 3) : ∃ x : Rl, ([.str "near", .str "left", .str "even"] : List D)[r]? = some (.str (rt x)) := by
  have : r = 0 ∨ r = 1 ∨ r = 2 := by omega
  rcases this with rfl | rfl | rfl
  · exact ⟨.near, rfl⟩
  · exact ⟨.left, rfl⟩
  · exact ⟨.even, rfl⟩
/-- plain data of bounded depth, no dict -/
def flatP : PyData → Bool
  | .dict _ => false
  | .list _ => false
  | .tuple _ => false
  | _ => true
theorem isPs_length {m : Mu} : ∀ {xs : List D} {ds : List PyData}, IsPs m xs ds → xs.length = ds.length
  | _, _, .nil => rfl
  | _, _, .cons _ t => by rw [List.length_cons, List.length_cons, isPs_length t]
theorem isPs_get {m : Mu} : ∀ {xs : List D} {ds : List PyData} {i : Nat}, IsPs m xs ds → i < xs.length → ∃ x d, xs[i]? = some x ∧ ds[i]? = some d ∧ IsP m x d
  | _, _, _, .nil, h => by simp at h
  | _, _, 0, .cons r _, _ => ⟨_, _, rfl, rfl, r⟩
  | _, _, i + 1, .cons _ t, h => by
    obtain ⟨x, d, h1, h2, h3⟩ := isPs_get (i := i) t (by simpa using h)
    exact ⟨x, d, by simpa using h1, by simpa using h2, h3⟩
theorem depth_mem : ∀ {ds : List PyData} {i : Nat} {d : PyData}, ds[i]? = some d → d.depth ≤ PyData.depthAll ds
  | [], _, _, h => by simp at h
  | x :: xs, 0, d, h => by
    simp at h
    subst h
    simp only [PyData.depthAll]
    omega
  | x :: xs, i + 1, d, h => by
    have := depth_mem (ds := xs) (i := i) (d := d) (by simpa using h)
    simp only [PyData.depthAll]
    omega
/-! no dict in it, no list too long -/
mutual
def wideP : PyData → Bool
  | .list ds => decide (ds.length ≤ 1000) && wideA ds
  | .tuple ds => decide (ds.length ≤ 1000) && wideA ds
  | .dict _ => false
  | _ => true
def wideA : List PyData → Bool
  | [] => true
  | d :: ds => wideP d && wideA ds
end
theorem wideA_mem : ∀ {ds : List PyData} {i : Nat} {d : PyData}, wideA ds = true → ds[i]? = some d → wideP d = true
  | [], _, _, _, h => by simp at h
  | x :: xs, 0, d, hw, h => by
    simp at h
    subst h
    simp only [wideA, Bool.and_eq_true] at hw
    exact hw.1
  | x :: xs, i + 1, d, hw, h => by
    simp only [wideA, Bool.and_eq_true] at hw
    exact wideA_mem (ds := xs) (i := i) hw.2 (by simpa using h)
theorem k_NoneType_bool : kitB "NoneType" "bool" = some false := by decide +kernel
theorem k_NoneType_int : kitB "NoneType" "int" = some false := by decide +kernel
theorem k_NoneType_str : kitB "NoneType" "str" = some false := by decide +kernel
theorem k_NoneType_tuple : kitB "NoneType" "tuple" = some false := by decide +kernel
theorem k_NoneType_list : kitB "NoneType" "list" = some false := by decide +kernel
theorem k_bool_bool : kitB "bool" "bool" = some true := by decide +kernel
theorem k_bool_int : kitB "bool" "int" = some true := by decide +kernel
theorem k_bool_str : kitB "bool" "str" = some false := by decide +kernel
theorem k_bool_tuple : kitB "bool" "tuple" = some false := by decide +kernel
theorem k_bool_list : kitB "bool" "list" = some false := by decide +kernel
theorem k_int_bool : kitB "int" "bool" = some false := by decide +kernel
theorem k_int_int : kitB "int" "int" = some true := by decide +kernel
theorem k_int_str : kitB "int" "str" = some false := by decide +kernel
theorem k_int_tuple : kitB "int" "tuple" = some false := by decide +kernel
theorem k_int_list : kitB "int" "list" = some false := by decide +kernel
theorem k_str_bool : kitB "str" "bool" = some false := by decide +kernel
theorem k_str_int : kitB "str" "int" = some false := by decide +kernel
theorem k_str_str : kitB "str" "str" = some true := by decide +kernel
theorem k_str_tuple : kitB "str" "tuple" = some false := by decide +kernel
theorem k_str_list : kitB "str" "list" = some false := by decide +kernel
theorem k_list_bool : kitB "list" "bool" = some false := by decide +kernel
theorem k_list_int : kitB "list" "int" = some false := by decide +kernel
theorem k_list_str : kitB "list" "str" = some false := by decide +kernel
theorem k_list_tuple : kitB "list" "tuple" = some false := by decide +kernel
theorem k_list_list : kitB "list" "list" = some true := by decide +kernel
theorem k_tuple_bool : kitB "tuple" "bool" = some false := by decide +kernel
theorem k_tuple_int : kitB "tuple" "int" = some false := by decide +kernel
theorem k_tuple_str : kitB "tuple" "str" = some false := by decide +kernel
theorem k_tuple_tuple : kitB "tuple" "tuple" = some true := by decide +kernel
theorem k_tuple_list : kitB "tuple" "list" = some false := by decide +kernel
def pre_law_alike (k : Nat) : Pre := fun ds m Q => ∃ (x y : D) (a : PyData), ds = [x, y] ∧ IsP m x a ∧ IsP m y a ∧ a.depth < k ∧ wideP a = true ∧ Q (.bl true) m
theorem alike_all {x y : D} {xs ys : List D} {as : List PyData} {n : Nat} {m : Mu} {Q : D → Mu → Prop} (hx : vwS m x = some xs) (hy : vwS m y = some ys) (ix : IsPs m xs as) (iy : IsPs m ys as) (hd : PyData.depthAll as < n) (hw : as.length ≤ 1000) (hwa : wideA as = true) (q : Q (.bl true) m) :
    if ¬((xs.length : Nat) : Int) = ((ys.length : Nat) : Int) then Q (.bl false) m else -2 ^ 62 ≤ ((ys.length : Nat) : Int) ∧ ((ys.length : Nat) : Int) < 2 ^ 62 ∧ lcD [2] [some x, some y, none] (hName 2) dYes (dCall (pre_law_alike n) (dCons (dOp ixD (dVar 0) (dVar 2)) (dCons (dOp ixD (dVar 1) (dVar 2)) dNil)))
      (fun acc m2 => allD [.list acc] m2 Q) (List.map (fun i : Nat => D.int (i : Int)) (List.range ((ys.length : Nat) : Int).toNat)) [] m := by
  have lx := isPs_length ix
  have ly := isPs_length iy
  rw [if_neg (by omega), Int.toNat_natCast]
  refine ⟨by omega, by omega, lc_rangeAll (fun _ => .bl true) (fun i hi Q' q' => ?_) (small_line (by omega)) ?_⟩
  · obtain ⟨x1, d1, h1, h2, h3⟩ := isPs_get (i := i) ix (by omega)
    obtain ⟨y1, d2, h4, h5, h6⟩ := isPs_get (i := i) iy (by omega)
    rw [h2] at h5
    cases h5
    have hdm := depth_mem h2
    have e0 : ∀ z : D, (∀ s, z ≠ .str s) → ∀ zs d (R : D → Mu → Prop), vwS m z = some zs → atI zs ((i : Nat) : Int) = some d → R d m → ixD z (.int (i : Nat)) m R := by
      intro z hz zs d R h1 h2 h3
      refine ⟨i, rfl, ?_⟩
      cases z with
      | str s => exact absurd rfl (hz s)
      | _ => exact ⟨zs, d, h1, h2, h3⟩
    refine ⟨x, rfl, _, rfl, e0 x ?_ xs x1 _ hx (atI_nat h1) ?_⟩
    · rintro s rfl
      cases hx
    · refine ⟨y, rfl, _, rfl, e0 y ?_ ys y1 _ hy (atI_nat h4) ?_⟩
      · rintro s rfl
        cases hy
      · exact ⟨x1, y1, d1, rfl, h3, h6, by omega, wideA_mem hwa h2, q'⟩
  · refine ⟨_, rfl, List.replicate ys.length true, ?_, ?_⟩
    · simp only [vwL, Option.some.injEq]
      rw [List.map_replicate, List.map_const', List.length_range]
    · have : (List.replicate ys.length true).all id = true := by simp
      rw [this]
      exact q

theorem alike_same {x y : D} {a : PyData} {m : Mu} {Q : D → Mu → Prop} {k : Nat} (hx : IsP m x a) (hy : IsP m y a) (hd : a.depth < k) (hw : wideP a = true) (q : Q (.bl true) m) : pre_law_alike k [x, y] m Q := ⟨x, y, a, rfl, hx, hy, hd, hw, q⟩
theorem nums_isPs (m : Mu) (l : List Nat) : IsPs m (nums l) (l.map fun n : Nat => .int (n : Nat)) := cod_isPs m l
theorem nums_wide (l : List Nat) : wideA (l.map fun n : Nat => .int (n : Nat)) = true := by
  induction l with
  | nil => rfl
  | cons a l ih => rw [List.map_cons, wideA, ih]; rfl
theorem nums_depth (l : List Nat) : PyData.depthAll (l.map fun n : Nat => .int (n : Nat)) ≤ 0 := cod_depths l
theorem join_bits {bs : List Bool} {Q : D → Mu → Prop} {m : Mu} (h : bs.length ≤ 1000) (q : Q (.str (ps bs)) m) : ∃ x : List Str, bs.map (fun b => D.str (if b then "1" else "0")) = List.map D.str x ∧ (List.map (fun x => x.length) x).sum + x.length * ("" : Str).length ≤ 16777216 ∧ Q (.str (Txt.join "" x)) m := by
  refine ⟨bs.map fun b => if b then ("1" : Str) else "0", ?_, ?_, ?_⟩
  · rw [List.map_map]
    rfl
  · rw [signs_sum, List.length_map]
    have : ("" : Str).length = 0 := by decide +kernel
    rw [this]
    omega
  · rw [join_signs]
    exact q
theorem bit_ix (r : Nat) (h : r < 2) : ∃ b : Bool, ∃ c, atI ("01" : Str).cps.toList ((r : Nat) : Int) = some c ∧ (D.str ⟨#[c]⟩) = D.str (if b then "1" else "0") := by
  have : r = 0 ∨ r = 1 := by omega
  rcases this with rfl | rfl
  · exact ⟨false, 48, (by decide +kernel : atI (Str.ofString "01").cps.toList (0 : Int) = some 48), congrArg D.str (by decide +kernel : (⟨#[48]⟩ : Str) = "0")⟩
  · exact ⟨true, 49, (by decide +kernel : atI (Str.ofString "01").cps.toList (1 : Int) = some 49), congrArg D.str (by decide +kernel : (⟨#[49]⟩ : Str) = "1")⟩
/-! ### rows of things -/
abbrev Row := List (Option Int)
def rowD (l : Row) : List D := l.map Cod.enc
def lawPat (row : Row) : List Bool := row.map Option.isSome
/-- the nearest free place from n - 1 on down, -1 if there is none; from i on up -/
def leftP (p : List Bool) : Nat → Int
  | 0 => -1
  | n + 1 => if p[n]?.getD false = true then leftP p n else n
def rightP (p : List Bool) : Nat → Nat → Nat
  | 0, i => i
  | f + 1, i => if i < p.length ∧ p[i]?.getD false = true then rightP p f (i + 1) else i
def insAt {α : Type} (l : List α) (k : Nat) (x : α) : List α := l.take k ++ [x] ++ l.drop k
def evenPut (w : Nat) (things : Row) : Row := (List.range things.length).foldl (fun f j => f.set (j * w / things.length) (things[j]?.getD none)) (List.replicate w none)
def plow (p : List Bool) (k : Nat) : Int := if 0 < k then ((placesOf p)[k - 1]?.getD 0 : Nat) else -1
def phigh (p : List Bool) (k : Nat) : Nat := if k < (placesOf p).length then (placesOf p)[k]?.getD 0 else p.length
def pleft (p : List Bool) (k : Nat) : Int := leftP p (plow p k + 1).toNat
def pright (p : List Bool) (k : Nat) : Nat := rightP p p.length (phigh p k)
def pgoes (r : Rl) (p : List Bool) (k : Nat) : Bool := decide (0 ≤ pleft p k) && ((decide (pright p k = p.length) || decide (plow p k - pleft p k ≤ (pright p k : Int) - phigh p k)) || decide (r = .left))
def lawPut (r : Rl) (row : Row) (k : Nat) (new : Int) : Row :=
  let p := lawPat row
  if (phigh p k : Int) > plow p k + 1 then row.set ((plow p k + phigh p k) / 2).toNat (some new)
  else if r = .even then evenPut row.length (insAt ((placesOf p).map fun i => row[i]?.getD none) k (some new))
  else if pgoes r p k = true then insAt (row.eraseIdx (pleft p k).toNat) (plow p k).toNat (some new)
  else insAt (row.eraseIdx (pright p k)) (phigh p k) (some new)
def lawTake (row : Row) (k : Nat) : Row := row.take ((placesOf (lawPat row))[k]?.getD 0) ++ [none] ++ row.drop ((placesOf (lawPat row))[k]?.getD 0 + 1)
def idxM (row : Row) (x : Option Int) : Nat := row.findIdx fun y => decide (y = x)
def lawMoves (row other : Row) : Nat := ((row.filter fun x => x.isSome && decide (x ∈ other)).filter fun x => !decide (idxM other x = idxM row x)).length
def lawRow (p : List Bool) : Row := (List.range p.length).map fun i : Nat => if p[i]?.getD false then some (i : Int) else none
def lawStep (r : Rl) (p : List Bool) (d : Wd × Nat) : Nat × List Bool := match d.1 with
  | .take => (0, lawPat (lawTake (lawRow p) d.2))
  | .put => (lawMoves (lawRow p) (lawPut r (lawRow p) d.2 99), lawPat (lawPut r (lawRow p) d.2 99))
def okD (p : List Bool) (d : Wd × Nat) : Bool := match d.1 with
  | .take => decide (d.2 < (placesOf p).length)
  | .put => decide (d.2 ≤ (placesOf p).length) && decide ((placesOf p).length < p.length)
/-- all deeds, as the laws tell them -/
def deedsM (p : List Bool) : List (Wd × Nat) := ((List.range (placesOf p).length).map fun k => (Wd.take, k)) ++ (((List.range ((placesOf p).length + 1)).filter fun _ => decide ((placesOf p).length < p.length)).map fun k => (Wd.put, k))

theorem rowD_len (l : Row) : (rowD l).length = l.length := by simp [rowD]
theorem rowD_at {l : Row} {i : Nat} (h : i < l.length) : atI (rowD l) ((i : Nat) : Int) = some (Cod.enc l[i]) := atI_nat (by simp [rowD, h])
theorem enc_non (x : Option Int) : isN (Cod.enc x) = !x.isSome := by cases x <;> rfl
theorem pat_len (row : Row) : (lawPat row).length = row.length := by simp [lawPat]
theorem pat_at {row : Row} {i : Nat} (h : i < row.length) : (lawPat row)[i]?.getD false = row[i].isSome := by simp [lawPat, h]
theorem rowD_set (l : Row) (i : Nat) (x : Option Int) : (rowD l).set i (Cod.enc x) = rowD (l.set i x) := by
  unfold rowD
  rw [List.map_set]
theorem rowD_erase (l : Row) (i : Nat) : (rowD l).eraseIdx i = rowD (l.eraseIdx i) := erase_map _ l i
theorem rowD_ins (l : Row) (i : Nat) (x : Option Int) : (rowD l).take i ++ [Cod.enc x] ++ (rowD l).drop i = rowD (insAt l i x) := by
  unfold rowD insAt
  rw [List.map_append, List.map_append, List.map_take, List.map_drop]
  rfl
theorem row_flat (l : Row) : (rowD l).all flat = true := by
  unfold rowD
  rw [List.all_map]
  exact List.all_eq_true.mpr fun x _ => by cases x <;> rfl
theorem enc_flat (x : Option Int) : flat (Cod.enc x) = true := by cases x <;> rfl
theorem enc_eqV (x y : Option Int) : eqV (toV (Cod.enc y)) (toV (Cod.enc x)) = decide (x = y) := by
  cases x with
  | none => cases y with
    | none => rfl
    | some y => rfl
  | some x => cases y with
    | none => rfl
    | some y =>
      show (y == x) = decide (some x = some y)
      by_cases h : x = y
      · subst h; simp
      · rw [decide_eq_false (by simpa using h)]
        simp only [beq_eq_false_iff_ne]
        omega
theorem row_in (x : Option Int) (l : Row) : inV (toV (Cod.enc x)) ((rowD l).map toV) = decide (x ∈ l) := by
  unfold inV rowD
  rw [List.map_map, List.any_map]
  induction l with
  | nil => rfl
  | cons a l ih =>
    rw [List.any_cons, ih]
    have e : ((fun y => eqV y (toV (Cod.enc x))) ∘ toV ∘ Cod.enc) a = decide (x = a) := enc_eqV x a
    rw [e]
    by_cases h : x = a <;> simp [h]
theorem row_index {x : Option Int} {l : Row} {m : Mu} {Q : D → Mu → Prop} (h : x ∈ l) (q : Q (.int (idxM l x : Nat)) m) : indexD (.list (rowD l)) [Cod.enc x] m Q := by
  have h1 : l.findIdx (fun y => decide (y = x)) < l.length := List.findIdx_lt_length_of_exists ⟨x, h, by simp⟩
  have h2 : l[l.findIdx (fun y => decide (y = x))] = x := by simpa using List.findIdx_getElem (w := h1)
  refine ⟨rowD l, _, l.findIdx (fun y => decide (y = x)), Cod.enc x, rfl, rfl, enc_flat x, row_flat l, ?_, by rw [enc_eqV]; simp, fun k z' hk hz => ?_, q⟩
  · unfold rowD
    rw [List.getElem?_map, List.getElem?_eq_getElem h1, h2]
    rfl
  · unfold rowD at hz
    have hk' : k < l.length := by omega
    rw [List.getElem?_map, List.getElem?_eq_getElem hk'] at hz
    cases hz
    rw [enc_eqV]
    have := List.not_of_lt_findIdx hk
    exact decide_eq_false fun e => (of_decide_eq_false this) e.symm
theorem rep_none (n : Nat) : (List.replicate n [D.non]).flatten = rowD (List.replicate n none) := by
  unfold rowD
  rw [List.map_replicate]
  induction n with
  | zero => rfl
  | succ n ih =>
    rw [List.replicate_succ, List.flatten_cons, ih, List.replicate_succ]
    rfl
/-- the places of a row that are taken -/
theorem lc_taken {env : Dq.Env} {j : Nat} {tt : dT} {Q : List D → Mu → Prop} {m : Mu} {row : Row} (hrow : row.length ≤ 1000)
    (ht : ∀ i, (hi : i < row.length) → ∀ Q' : Bool → Mu → Prop, Q' (row[i].isSome) m → tt ((wipeD env [j]).set j (some (.int (i : Nat)))) m Q') (hj : j < (wipeD env [j]).length) (q : Q (nums (placesOf (lawPat row))) m) :
    lcD [j] env (hName j) tt (dVar j) Q ((List.range row.length).map fun i : Nat => .int (i : Int)) [] m := by
  refine lc_range (fun i => (lawPat row)[i]?.getD false) (fun i => .int (i : Nat)) (fun i hi Q' q' => ?_) (fun i hi hc Q' q' => ?_) (small_line (by omega)) ?_
  · rw [pat_at hi] at q'
    exact ht i hi Q' q'
  · exact ⟨_, List.getElem?_set_self hj, q'⟩
  · unfold placesOf nums at q
    rw [pat_len] at q
    exact q
theorem pat_lt {row : Row} {i : Nat} (h : i ∈ placesOf (lawPat row)) : i < row.length := by
  have := pl_lt h
  rwa [pat_len] at this
end Ls

/-! what holds of all patterns of at most six places -/
namespace Ls
open PySem L2 Dq
def agree (p : List Bool) : Bool := rls.all fun r => (deedsM p).all fun d => decide (stepW r p d = some (lawStep r p d)) && okD p d && decide ((placesOf (lawStep r p d).2).length = match d.1 with | .put => (placesOf p).length + 1 | .take => (placesOf p).length - 1)
set_option maxHeartbeats 4000000 in
theorem agree_all : pats6.all agree = true := by decide +kernel
theorem step_law {p : List Bool} (h : p.length ≤ 6) (r : Rl) {d : Wd × Nat} (hd : d ∈ deedsM p) : stepW r p d = some (lawStep r p d) := by
  have h1 := List.all_eq_true.mp agree_all p (mem_pats6 h)
  unfold agree at h1
  have h2 := List.all_eq_true.mp (List.all_eq_true.mp h1 r (mem_rls r)) d hd
  simp only [Bool.and_eq_true, decide_eq_true_eq] at h2
  exact h2.1.1
theorem step_cnt {p : List Bool} (h : p.length ≤ 6) (r : Rl) {d : Wd × Nat} (hd : d ∈ deedsM p) : (placesOf (lawStep r p d).2).length = match d.1 with | .put => (placesOf p).length + 1 | .take => (placesOf p).length - 1 := by
  have h1 := List.all_eq_true.mp agree_all p (mem_pats6 h)
  unfold agree at h1
  have h2 := List.all_eq_true.mp (List.all_eq_true.mp h1 r (mem_rls r)) d hd
  simp only [Bool.and_eq_true, decide_eq_true_eq] at h2
  exact h2.2
theorem mem_deeds {p : List Bool} {d : Wd × Nat} : d ∈ deedsM p ↔ okD p d = true := by
  obtain ⟨w, k⟩ := d
  unfold deedsM okD
  rw [List.mem_append, List.mem_map, List.mem_map]
  cases w <;> simp <;> omega
theorem count_all : (pats6.all fun p => decide (Txt.count (ps p) "1" = (placesOf p).length)) = true := by decide +kernel
theorem count_ps {p : List Bool} (h : p.length ≤ 6) : Txt.count (ps p) "1" = (placesOf p).length := by simpa using List.all_eq_true.mp count_all p (mem_pats6 h)
theorem insAt_len {α : Type} (l : List α) (k : Nat) (x : α) : (insAt l k x).length = l.length + 1 := by
  unfold insAt
  simp only [List.length_append, List.length_take, List.length_drop, List.length_cons, List.length_nil]
  omega
theorem evenPut_len (w : Nat) (th : Row) : (evenPut w th).length = w := by
  unfold evenPut
  have : ∀ (l : List Nat) (f : Row), (l.foldl (fun f j => f.set (j * w / th.length) (th[j]?.getD none)) f).length = f.length := by
    intro l
    induction l with
    | nil => intro f; rfl
    | cons j l ih => intro f; rw [List.foldl_cons, ih, List.length_set]
  rw [this, List.length_replicate]
theorem lawPut_len (r : Rl) (row : Row) (k : Nat) (new : Int) : (lawPut r row k new).length ≤ row.length + 1 := by
  unfold lawPut
  simp only
  split
  · rw [List.length_set]
    omega
  split
  · rw [evenPut_len]
    omega
  split
  · rw [insAt_len, List.length_eraseIdx]
    split <;> omega
  · rw [insAt_len, List.length_eraseIdx]
    split <;> omega
theorem lawTake_len (row : Row) (k : Nat) : (lawTake row k).length ≤ 2 * row.length + 1 := by
  unfold lawTake
  simp only [List.length_append, List.length_take, List.length_drop, List.length_cons, List.length_nil]
  omega
/-- deeds that can be done one after another where `many` things stand already; how many stand behind -/
def drawnOk (wide : Nat) : Nat → List (Wd × Nat) → Option Nat
  | many, [] => some many
  | many, (.put, k) :: l => if k ≤ many ∧ many < wide then drawnOk wide (many + 1) l else none
  | many, (.take, k) :: l => if k < many then drawnOk wide (many - 1) l else none
theorem drawnOk_put {wide many k : Nat} {l : List (Wd × Nat)} : drawnOk wide many ((.put, k) :: l) = if k ≤ many ∧ many < wide then drawnOk wide (many + 1) l else none := rfl
theorem drawnOk_take {wide many k : Nat} {l : List (Wd × Nat)} : drawnOk wide many ((.take, k) :: l) = if k < many then drawnOk wide (many - 1) l else none := rfl
theorem drawnOk_append {wide : Nat} {l' : List (Wd × Nat)} : ∀ {l : List (Wd × Nat)} {many n : Nat}, drawnOk wide many l = some n → drawnOk wide many (l ++ l') = drawnOk wide n l'
  | [], many, n, h => by
    cases h
    rfl
  | (.put, k) :: l, many, n, h => by
    rw [drawnOk_put] at h
    rw [List.cons_append, drawnOk_put]
    split at h
    · rename_i hc
      rw [if_pos hc]
      exact drawnOk_append h
    · cases h
  | (.take, k) :: l, many, n, h => by
    rw [drawnOk_take] at h
    rw [List.cons_append, drawnOk_take]
    split at h
    · rename_i hc
      rw [if_pos hc]
      exact drawnOk_append h
    · cases h
theorem playM_len {r : Rl} {q : List Bool} : ∀ {l : List (Wd × Nat)} {p : List Bool} {ms : List Nat}, playM r p l = some (ms, q) → ms.length = l.length
  | [], p, ms, h => by
    cases h
    rfl
  | e :: l, p, ms, h => by
    have h' : (match stepW r p e with | none => none | some (n, q) => match playM r q l with | none => none | some (ns, q') => some (n :: ns, q')) = some (ms, q) := h
    cases h1 : stepW r p e with
    | none => rw [h1] at h'; cases h'
    | some z =>
      obtain ⟨a, b⟩ := z
      rw [h1] at h'
      simp only at h'
      cases h2 : playM r b l with
      | none => rw [h2] at h'; cases h'
      | some z =>
        obtain ⟨as, b'⟩ := z
        rw [h2] at h'
        simp only [Option.some.injEq, Prod.mk.injEq] at h'
        obtain ⟨rfl, rfl⟩ := h'
        rw [List.length_cons, List.length_cons, playM_len h2]
theorem playM_append {r : Rl} {d : Wd × Nat} {q q' : List Bool} {n : Nat} : ∀ {l : List (Wd × Nat)} {p : List Bool} {ms : List Nat}, playM r p l = some (ms, q) → stepW r q d = some (n, q') → playM r p (l ++ [d]) = some (ms ++ [n], q')
  | [], p, ms, h, hs => by
    cases h
    show (match stepW r q d with | none => none | some (n, q) => match playM r q [] with | none => none | some (ns, q') => some (n :: ns, q')) = _
    rw [hs]
    rfl
  | e :: l, p, ms, h, hs => by
    have h' : (match stepW r p e with | none => none | some (n, q) => match playM r q l with | none => none | some (ns, q') => some (n :: ns, q')) = some (ms, q) := h
    show (match stepW r p e with | none => none | some (n, q) => match playM r q (l ++ [d]) with | none => none | some (ns, q') => some (n :: ns, q')) = _
    cases h1 : stepW r p e with
    | none => rw [h1] at h'; cases h'
    | some z =>
      obtain ⟨a, b⟩ := z
      rw [h1] at h'
      simp only at h' ⊢
      cases h2 : playM r b l with
      | none => rw [h2] at h'; cases h'
      | some z =>
        obtain ⟨as, b'⟩ := z
        rw [h2] at h'
        simp only [Option.some.injEq, Prod.mk.injEq] at h'
        obtain ⟨rfl, rfl⟩ := h'
        rw [playM_append h2 hs]
        rfl
theorem drawn_ok {p : List Bool} {d : Wd × Nat} {l : List (Wd × Nat)} {n : Nat} (h : drawnOk p.length (placesOf p).length (d :: l) = some n) : okD p d = true := by
  obtain ⟨wd, k⟩ := d
  cases wd with
  | put =>
    rw [drawnOk_put] at h
    split at h
    · rename_i hc
      simp [okD, hc]
    · cases h
  | take =>
    rw [drawnOk_take] at h
    split at h
    · rename_i hc
      simp [okD, hc]
    · cases h
/-- one deed more -/
theorem play_step {r : Rl} {p0 p : List Bool} {l : List (Wd × Nat)} {n i : Nat} {ms : List Nat} (hp : p.length = p0.length) (h6 : p0.length ≤ 6) (h0 : (placesOf p0).length = 0) (h : drawnOk p0.length 0 l = some n) (hi : i < l.length) (hpl : playM r p0 (l.take i) = some (ms, p)) (hd : drawnOk p0.length 0 (l.take i) = some (placesOf p).length) :
    okD p l[i] = true ∧ playM r p0 (l.take (i + 1)) = some (ms ++ [(lawStep r p l[i]).1], (lawStep r p l[i]).2) ∧ (lawStep r p l[i]).2.length = p0.length ∧ drawnOk p0.length 0 (l.take (i + 1)) = some (placesOf (lawStep r p l[i]).2).length := by
  have e : l.take i ++ l[i] :: l.drop (i + 1) = l := by
    rw [← List.drop_eq_getElem_cons hi, List.take_append_drop]
  have h1 := h
  rw [← e, drawnOk_append hd] at h1
  have h1' := h1
  rw [← hp] at h1'
  have hok := drawn_ok h1'
  have hmem := mem_deeds.mpr hok
  have hst := step_law (by omega) r hmem
  have hc := step_cnt (by omega) r hmem
  have ht : l.take (i + 1) = l.take i ++ [l[i]] := by rw [List.take_succ, List.getElem?_eq_getElem hi]; rfl
  refine ⟨hok, ?_, ?_, ?_⟩
  · rw [ht]
    exact playM_append hpl hst
  · rw [← hp]
    exact stepM_len (n := (lawStep r p l[i]).1) (q := (lawStep r p l[i]).2) hst
  · rw [ht, drawnOk_append hd, hc]
    generalize l[i] = d at h1
    obtain ⟨wd, k⟩ := d
    cases wd with
    | put =>
      rw [drawnOk_put] at h1 ⊢
      split at h1
      · rename_i hc
        rw [if_pos hc]
        rfl
      · cases h1
    | take =>
      rw [drawnOk_take] at h1 ⊢
      split at h1
      · rename_i hc
        rw [if_pos hc]
        rfl
      · cases h1
/-- what the walk of the laws' own putting in asks -/
def putOk (p : List Bool) : Bool := rls.all fun r => (List.range ((placesOf p).length + 1)).all fun k => !decide ((placesOf p).length < p.length) || decide ((phigh p k : Int) > plow p k + 1) ||
  ((!pgoes r p k || (decide (0 ≤ plow p k) && decide (pleft p k ≤ plow p k) && decide (plow p k < p.length))) && (pgoes r p k || (decide (pright p k < p.length))) && decide (phigh p k ≤ p.length) && decide (plow p k < p.length))
set_option maxHeartbeats 4000000 in
theorem putOk_all : pats6.all putOk = true := by decide +kernel
theorem put_ok {p : List Bool} (h : p.length ≤ 6) (r : Rl) {k : Nat} (hk : k ≤ (placesOf p).length) (hl : (placesOf p).length < p.length) (hg : ¬ (phigh p k : Int) > plow p k + 1) :
    (pgoes r p k = true → 0 ≤ plow p k ∧ pleft p k ≤ plow p k ∧ plow p k < p.length) ∧ (pgoes r p k = false → pright p k < p.length) ∧ phigh p k ≤ p.length ∧ plow p k < p.length := by
  have h1 := List.all_eq_true.mp putOk_all p (mem_pats6 h)
  unfold putOk at h1
  have h2 := List.all_eq_true.mp (List.all_eq_true.mp h1 r (mem_rls r)) k (List.mem_range.mpr (by omega))
  simp only [Bool.or_eq_true, Bool.and_eq_true, decide_eq_true_eq, Bool.not_eq_true', decide_eq_false_iff_not] at h2
  rcases h2 with (h2 | h2) | ⟨⟨⟨h2, h3⟩, h4⟩, h5⟩
  · omega
  · exact absurd h2 hg
  · refine ⟨fun hp => ?_, fun hp => ?_, h4, h5⟩
    · rcases h2 with h2 | h2
      · rw [hp] at h2
        cases h2
      · exact ⟨h2.1.1, h2.1.2, h2.2⟩
    · rcases h3 with h3 | h3
      · rw [hp] at h3
        cases h3
      · exact h3
end Ls

/-! shelves as plain data: a pattern and the keys in order -/
namespace Ls
open PySem L2 Dq
def ixA : List Bool → Nat → List (Option Nat)
  | [], _ => []
  | true :: p, n => some n :: ixA p (n + 1)
  | false :: p, n => none :: ixA p n
def gv (ks : List Int) (x : Option Nat) : Option Int := x.map fun i => ks[i]?.getD 0
def rowOf (p : List Bool) (ks : List Int) : Row := (ixA p 0).map (gv ks)
def up (k i : Nat) : Nat := if i < k then i else i + 1
def fillI (w : Nat) (pl : List Nat) : List (Option Nat) := (pl.zip (List.range pl.length)).foldl (fun f x => f.set x.1 (some x.2)) (List.replicate w none)
def ixAt (p : List Bool) (i : Nat) : Option Nat := (ixA p 0)[i]?.getD none
/-- what holds of a pattern -/
def ixOk (p : List Bool) : Bool :=
  (ixA p 0).all (fun x => decide (x.getD 0 < (placesOf p).length) || decide (x = none)) && decide ((placesOf p).map (ixAt p) = (List.range (placesOf p).length).map some) && decide ((ixA p 0).map Option.isSome = p) && decide ((ixA p 0).filter Option.isSome = (List.range (placesOf p).length).map some)
  && ((List.range (placesOf p).length).all fun k => decide ((ixA (patOf p.length ((placesOf p).eraseIdx k)) 0).map (Option.map (up k)) = (ixA p 0).map fun x => if x = some k then none else x) && decide (placesOf (patOf p.length ((placesOf p).eraseIdx k)) = (placesOf p).eraseIdx k))
def putAll (p : List Bool) : Bool := rls.all fun r => (List.range ((placesOf p).length + 1)).all fun k => !decide ((placesOf p).length < p.length) ||
  (let o := pbM r p.length (placesOf p) k
   let q := patOf p.length o
   decide (placesOf q = o) && decide (o.length = (placesOf p).length + 1) && decide (fillI p.length o = ixA q 0) && decide (((placesOf p).filter fun i => !decide (ixAt q i = (ixAt p i).map (up k))).length = movedM (placesOf p) o k)
   && decide (movedM (placesOf p) o k ≤ (placesOf p).length) && (!decide ((phigh p k : Int) > plow p k + 1) || decide (movedM (placesOf p) o k = 0)))
set_option maxHeartbeats 4000000 in
theorem ixOk_all : pats6.all ixOk = true := by decide +kernel
set_option maxHeartbeats 4000000 in
theorem putAll_all : pats6.all putAll = true := by decide +kernel
section
variable {p : List Bool}
theorem ix_ok (h : p.length ≤ 6) : (∀ x ∈ ixA p 0, x.getD 0 < (placesOf p).length ∨ x = none) ∧ (placesOf p).map (ixAt p) = (List.range (placesOf p).length).map some ∧ (ixA p 0).map Option.isSome = p ∧ (ixA p 0).filter Option.isSome = (List.range (placesOf p).length).map some
    ∧ ∀ k, k < (placesOf p).length → (ixA (patOf p.length ((placesOf p).eraseIdx k)) 0).map (Option.map (up k)) = ((ixA p 0).map fun x => if x = some k then none else x) ∧ placesOf (patOf p.length ((placesOf p).eraseIdx k)) = (placesOf p).eraseIdx k := by
  have h1 := List.all_eq_true.mp ixOk_all p (mem_pats6 h)
  unfold ixOk at h1
  simp only [Bool.and_eq_true, decide_eq_true_eq, List.all_eq_true, Bool.or_eq_true, List.mem_range] at h1
  obtain ⟨⟨⟨⟨h1, h2⟩, h3⟩, h4⟩, h5⟩ := h1
  exact ⟨h1, h2, h3, h4, h5⟩
theorem put_all (h : p.length ≤ 6) (r : Rl) {k : Nat} (hk : k ≤ (placesOf p).length) (hl : (placesOf p).length < p.length) :
    placesOf (patOf p.length (pbM r p.length (placesOf p) k)) = pbM r p.length (placesOf p) k ∧ (pbM r p.length (placesOf p) k).length = (placesOf p).length + 1 ∧ fillI p.length (pbM r p.length (placesOf p) k) = ixA (patOf p.length (pbM r p.length (placesOf p) k)) 0
    ∧ ((placesOf p).filter fun i => !decide (ixAt (patOf p.length (pbM r p.length (placesOf p) k)) i = (ixAt p i).map (up k))).length = movedM (placesOf p) (pbM r p.length (placesOf p) k) k ∧ movedM (placesOf p) (pbM r p.length (placesOf p) k) k ≤ (placesOf p).length ∧ ((phigh p k : Int) > plow p k + 1 → movedM (placesOf p) (pbM r p.length (placesOf p) k) k = 0) := by
  have h1 := List.all_eq_true.mp putAll_all p (mem_pats6 h)
  unfold putAll at h1
  have h2 := List.all_eq_true.mp (List.all_eq_true.mp h1 r (mem_rls r)) k (List.mem_range.mpr (by omega))
  simp only [Bool.or_eq_true, Bool.and_eq_true, decide_eq_true_eq, Bool.not_eq_true', decide_eq_false_iff_not] at h2
  rcases h2 with h2 | ⟨⟨⟨⟨⟨h2, h3⟩, h4⟩, h5⟩, h6⟩, h7⟩
  · exact absurd hl h2
  · refine ⟨h2, h3, h4, h5, h6, fun g => ?_⟩
    rcases h7 with h7 | h7
    · exact absurd g h7
    · exact h7
theorem ixA_len : ∀ (p : List Bool) (n : Nat), (ixA p n).length = p.length
  | [], _ => rfl
  | true :: p, n => by rw [ixA, List.length_cons, List.length_cons, ixA_len p]
  | false :: p, n => by rw [ixA, List.length_cons, List.length_cons, ixA_len p]
theorem rowOf_len (ks : List Int) : (rowOf p ks).length = p.length := by rw [rowOf, List.length_map, ixA_len]
theorem gv_some (ks : List Int) (x : Option Nat) : (gv ks x).isSome = x.isSome := by cases x <;> rfl
theorem rowOf_pat (h : p.length ≤ 6) (ks : List Int) : lawPat (rowOf p ks) = p := by
  unfold lawPat rowOf
  rw [List.map_map]
  have e : (Option.isSome ∘ gv ks) = Option.isSome := funext fun x => gv_some ks x
  rw [e]
  exact (ix_ok h).2.2.1
theorem rowOf_at (ks : List Int) (i : Nat) : (rowOf p ks)[i]?.getD none = gv ks (ixAt p i) := by
  unfold rowOf ixAt
  rw [List.getElem?_map]
  cases (ixA p 0)[i]? <;> rfl
theorem range_vals (ks : List Int) : ((List.range ks.length).map some).map (gv ks) = ks.map some := by
  rw [List.map_map]
  refine List.ext_getElem (by simp) fun i h1 h2 => ?_
  simp only [List.getElem_map, List.getElem_range, Function.comp]
  rw [List.length_map] at h2
  simp [gv, h2]
theorem rowOf_some (h : p.length ≤ 6) {ks : List Int} (hk : ks.length = (placesOf p).length) : (rowOf p ks).filter Option.isSome = ks.map some := by
  unfold rowOf
  rw [List.filter_map]
  have e : (Option.isSome ∘ gv ks) = Option.isSome := funext fun x => gv_some ks x
  rw [e, (ix_ok h).2.2.2.1, ← hk, range_vals]
theorem rowOf_keys (h : p.length ≤ 6) {ks : List Int} (hk : ks.length = (placesOf p).length) : (placesOf p).map (fun i => (rowOf p ks)[i]?.getD none) = ks.map some := by
  have e : (fun i => (rowOf p ks)[i]?.getD none) = gv ks ∘ ixAt p := funext fun i => rowOf_at ks i
  rw [e, ← List.map_map, (ix_ok h).2.1, ← hk, range_vals]
theorem rowOf_mem (h : p.length ≤ 6) {ks : List Int} (hk : ks.length = (placesOf p).length) (x : Int) : some x ∈ rowOf p ks ↔ x ∈ ks := by
  have e : some x ∈ rowOf p ks ↔ some x ∈ (rowOf p ks).filter Option.isSome := by simp [List.mem_filter]
  rw [e, rowOf_some h hk]
  simp
theorem up_lt {k i n : Nat} (h : i < n) : up k i < n + 1 := by unfold up; split <;> omega
theorem insAt_get {ks : List Int} {k i : Nat} {key : Int} (hk : k ≤ ks.length) (hi : i < ks.length) : (insAt ks k key)[up k i]? = ks[i]? := by
  unfold insAt up
  split
  · rename_i h
    rw [List.append_assoc, List.getElem?_append_left (by rw [List.length_take]; omega), List.getElem?_take]
    rw [if_pos h]
  · rename_i h
    rw [List.append_assoc, List.getElem?_append_right (by rw [List.length_take]; omega), List.length_take, Nat.min_eq_left hk, List.getElem?_append_right (by simp; omega)]
    simp only [List.length_cons, List.length_nil]
    rw [List.getElem?_drop]
    congr 1
    omega
theorem gv_up {ks : List Int} {k : Nat} {key : Int} (hk : k ≤ ks.length) {x : Option Nat} (hx : x.getD 0 < ks.length ∨ x = none) : gv (insAt ks k key) (x.map (up k)) = gv ks x := by
  cases x with
  | none => rfl
  | some i =>
    have hi : i < ks.length := by
      rcases hx with hx | hx
      · exact hx
      · cases hx
    simp only [gv, Option.map_some, insAt_get hk hi]
/-- the row that is laid anew -/
def fillR (w : Nat) (l : List (Nat × Int)) : Row := l.foldl (fun f x => f.set x.1 (some x.2)) (List.replicate w none)
theorem fill_map (ks : List Int) : ∀ (l : List (Nat × Nat)) (f : List (Option Nat)), (l.map fun x => (x.1, ks[x.2]?.getD 0)).foldl (fun (f : Row) (x : Nat × Int) => f.set x.1 (some x.2)) (f.map (gv ks)) = (l.foldl (fun f x => f.set x.1 (some x.2)) f).map (gv ks)
  | [], f => rfl
  | x :: l, f => by
    rw [List.map_cons, List.foldl_cons, List.foldl_cons, ← fill_map ks l]
    congr 1
    rw [List.map_set]
    rfl
theorem zip_range {α : Type} (l : List α) (ks : List Int) (h : l.length = ks.length) : l.zip ks = (l.zip (List.range l.length)).map fun x => (x.1, ks[x.2]?.getD 0) := by
  refine List.ext_getElem (by simp [h]) fun i h1 h2 => ?_
  simp only [List.getElem_map, List.getElem_zip, List.getElem_range]
  rw [List.length_zip] at h1
  rw [List.getElem?_eq_getElem (by omega)]
  rfl
theorem fill_row {o : List Nat} {ks : List Int} {w : Nat} {q : List Bool} (h : o.length = ks.length) (hf : fillI w o = ixA q 0) : fillR w (o.zip ks) = rowOf q ks := by
  unfold fillR rowOf
  rw [zip_range o ks h, ← hf, fillI]
  have := fill_map ks (o.zip (List.range o.length)) (List.replicate w none)
  rw [List.map_replicate] at this
  exact this
theorem gv_inj {ks : List Int} (hn : ks.Nodup) {x y : Option Nat} (hx : x.getD 0 < ks.length ∨ x = none) (hy : y.getD 0 < ks.length ∨ y = none) : gv ks x = gv ks y ↔ x = y := by
  refine ⟨fun e => ?_, fun e => by rw [e]⟩
  cases x with
  | none => cases y with
    | none => rfl
    | some j => cases e
  | some i => cases y with
    | none => cases e
    | some j =>
      have hi : i < ks.length := by
        rcases hx with hx | hx
        · exact hx
        · cases hx
      have hj : j < ks.length := by
        rcases hy with hy | hy
        · exact hy
        · cases hy
      simp only [gv, Option.map_some, List.getElem?_eq_getElem hi, List.getElem?_eq_getElem hj, Option.getD_some, Option.some.injEq] at e
      rw [(List.getElem_inj hn).mp e]
theorem ixAt_lt (h : p.length ≤ 6) (i : Nat) : (ixAt p i).getD 0 < (placesOf p).length ∨ ixAt p i = none := by
  unfold ixAt
  by_cases hi : i < (ixA p 0).length
  · rw [List.getElem?_eq_getElem hi]
    exact (ix_ok h).1 _ (List.getElem_mem hi)
  · rw [List.getElem?_eq_none (by omega)]
    exact .inr rfl
/-- is it the same thing that stands there, ahead and behind -/
theorem same_thing (h : p.length ≤ 6) (r : Rl) {k : Nat} {ks : List Int} {key : Int} (hks : ks.length = (placesOf p).length) (hk : k ≤ ks.length) (hl : (placesOf p).length < p.length) (hn : (insAt ks k key).Nodup) (i : Nat) :
    ((rowOf (patOf p.length (pbM r p.length (placesOf p) k)) (insAt ks k key))[i]?.getD none = (rowOf p ks)[i]?.getD none) ↔ ixAt (patOf p.length (pbM r p.length (placesOf p) k)) i = (ixAt p i).map (up k) := by
  have hp := put_all h r (by omega : k ≤ (placesOf p).length) hl
  rw [rowOf_at, rowOf_at]
  have hx := ixAt_lt h i
  rw [← hks] at hx
  rw [← gv_up (key := key) hk hx]
  refine gv_inj hn ?_ ?_
  · have := ixAt_lt (p := patOf p.length (pbM r p.length (placesOf p) k)) (by rw [patOf_len]; exact h) i
    rw [hp.1, hp.2.1] at this
    rw [insAt_len, hks]
    exact this
  · rw [insAt_len]
    rcases hx with hx | hx
    · cases e : ixAt p i with
      | none => exact .inr rfl
      | some j =>
        rw [e] at hx
        exact .inl (up_lt hx)
    · rw [hx]
      exact .inr rfl
theorem take_row (h : p.length ≤ 6) {k : Nat} {ks : List Int} (hks : ks.length = (placesOf p).length) (hk : k < ks.length) (hn : ks.Nodup) :
    ((rowOf p ks).map fun x => if x = some ks[k] then none else x) = rowOf (patOf p.length ((placesOf p).eraseIdx k)) (ks.eraseIdx k) := by
  have hp := ((ix_ok h).2.2.2.2 k (by omega)).1
  unfold rowOf
  rw [List.map_map]
  have e1 : (ixA p 0).map ((fun x => if x = some ks[k] then none else x) ∘ gv ks) = ((ixA p 0).map fun x => if x = some k then none else x).map (gv ks) := by
    rw [List.map_map]
    refine List.map_congr_left fun x hx => ?_
    have hx' := (ix_ok h).1 x hx
    rw [← hks] at hx'
    have e : gv ks x = some ks[k] ↔ x = some k := by
      have : gv ks (some k) = some ks[k] := by simp [gv, hk]
      rw [← this]
      exact gv_inj hn hx' (.inl hk)
    simp only [Function.comp]
    by_cases hc : x = some k
    · rw [if_pos (e.mpr hc), if_pos hc]
      rfl
    · rw [if_neg (fun z => hc (e.mp z)), if_neg hc]
  rw [e1, ← hp, List.map_map]
  refine List.map_congr_left fun x _ => ?_
  cases x with
  | none => rfl
  | some i =>
    simp only [Function.comp, gv, Option.map_some, Option.some.injEq]
    unfold up
    rw [List.getElem?_eraseIdx]
    split <;> rfl
end
/-! ### keys in order -/
def Incr (ks : List Int) : Prop := ks.Pairwise (· < ·)
def rankM (ks : List Int) (key : Int) : Nat := (ks.filter fun x => decide (x < key)).length
theorem Incr.nodup {ks : List Int} (h : Incr ks) : ks.Nodup := List.Pairwise.imp (fun h => Int.ne_of_lt h) h
theorem rank_split : ∀ {ks : List Int} {key : Int}, Incr ks → key ∉ ks → (∀ x ∈ ks.take (rankM ks key), x < key) ∧ (∀ x ∈ ks.drop (rankM ks key), key < x)
  | [], _, _, _ => ⟨nofun, nofun⟩
  | y :: ks, key, h, hn => by
    obtain ⟨h1, h2⟩ := List.pairwise_cons.mp h
    unfold rankM
    rw [List.filter_cons]
    by_cases hy : y < key
    · rw [if_pos (by simpa using hy), List.length_cons, List.take_succ_cons, List.drop_succ_cons]
      obtain ⟨i1, i2⟩ := rank_split (ks := ks) (key := key) h2 (fun z => hn (List.mem_cons_of_mem _ z))
      refine ⟨fun x hx => ?_, i2⟩
      rcases List.mem_cons.mp hx with rfl | hx
      · exact hy
      · exact i1 x hx
    · rw [if_neg (by simpa using hy)]
      have hne : key ≠ y := fun z => hn (z ▸ List.mem_cons_self)
      have h3 : ks.filter (fun x => decide (x < key)) = [] := by
        rw [List.filter_eq_nil_iff]
        intro x hx
        have := h1 x hx
        simp only [decide_eq_true_eq]
        omega
      rw [h3]
      refine ⟨nofun, fun x hx => ?_⟩
      rcases List.mem_cons.mp hx with rfl | hx
      · omega
      · have := h1 x hx
        omega
theorem rank_le (ks : List Int) (key : Int) : rankM ks key ≤ ks.length := List.length_filter_le _ _
theorem ins_incr {ks : List Int} {key : Int} (h : Incr ks) (hn : key ∉ ks) : Incr (insAt ks (rankM ks key) key) := by
  obtain ⟨h1, h2⟩ := rank_split h hn
  unfold insAt Incr
  rw [List.append_assoc, List.pairwise_append]
  refine ⟨h.sublist (List.take_sublist _ _), ?_, fun a ha b hb => ?_⟩
  · show List.Pairwise _ (key :: ks.drop _)
    rw [List.pairwise_cons]
    exact ⟨fun x hx => h2 x hx, h.sublist (List.drop_sublist _ _)⟩
  · have ha' := h1 a ha
    rcases List.mem_append.mp hb with hb | hb
    · rw [List.mem_singleton.mp hb]
      exact ha'
    · have := h2 b hb
      omega
theorem ins_perm' {α : Type} (ks : List α) (k : Nat) (key : α) : (insAt ks k key).Perm (key :: ks) := by
  unfold insAt
  refine List.perm_append_comm.append_right _ |>.trans ?_
  show (key :: (ks.take k ++ ks.drop k)).Perm _
  rw [List.take_append_drop]
theorem incr_eq {a b : List Int} (ha : Incr a) (hb : Incr b) (h : a.Perm b) : a = b :=
  List.Perm.eq_of_pairwise (le := (· < ·)) (fun x y _ _ h1 h2 => by omega) ha hb h
theorem isort_incr {l ks : List Int} (h : l.Perm ks) (hi : Incr ks) : isort l = ks :=
  List.Perm.eq_of_pairwise (le := (· ≤ ·)) (fun x y _ _ h1 h2 => by omega) (isort_sorted l) (List.Pairwise.imp (fun h => Int.le_of_lt h) hi) ((isort_perm l).trans h)
/-! ### the object -/
def shF (r : Rl) (w : Nat) (b : D) (n : Nat) : List (Str × D) := [("rule", .str (rt r)), ("wide", .int w), ("row", b), ("many", .int n)]
section
variable {r : Rl} {w : Nat} {b b' : D} {n n' : Nat}
theorem shF_rule : (shF r w b n).lookup ("rule" : Str) = some (.str (rt r)) := by unfold shF; rw [List.lookup_cons]; rfl
theorem shF_wide : (shF r w b n).lookup ("wide" : Str) = some (.int w) := by
  unfold shF
  rw [List.lookup_cons, show (("wide" : Str) == "rule") = false by decide +kernel]
  rfl
theorem shF_row : (shF r w b n).lookup ("row" : Str) = some b := by
  unfold shF
  rw [List.lookup_cons, show (("row" : Str) == "rule") = false by decide +kernel, List.lookup_cons, show (("row" : Str) == "wide") = false by decide +kernel]
  rfl
theorem shF_many : (shF r w b n).lookup ("many" : Str) = some (.int n) := by
  unfold shF
  rw [List.lookup_cons, show (("many" : Str) == "rule") = false by decide +kernel, List.lookup_cons, show (("many" : Str) == "wide") = false by decide +kernel, List.lookup_cons, show (("many" : Str) == "row") = false by decide +kernel]
  rfl
theorem shF_no {x : Str} (h1 : (x == ("rule" : Str)) = false) (h2 : (x == ("wide" : Str)) = false) (h3 : (x == ("row" : Str)) = false) (h4 : (x == ("many" : Str)) = false) : (shF r w b n).lookup x = none := by
  unfold shF
  rw [List.lookup_cons, h1, List.lookup_cons, h2, List.lookup_cons, h3, List.lookup_cons, h4]
  rfl
theorem shF_put_in : (shF r w b n).lookup ("put_in" : Str) = none := shF_no (by decide +kernel) (by decide +kernel) (by decide +kernel) (by decide +kernel)
theorem shF_take_out : (shF r w b n).lookup ("take_out" : Str) = none := shF_no (by decide +kernel) (by decide +kernel) (by decide +kernel) (by decide +kernel)
theorem shF_standing : (shF r w b n).lookup ("standing" : Str) = none := shF_no (by decide +kernel) (by decide +kernel) (by decide +kernel) (by decide +kernel)
theorem shF_moved : (shF r w b n).lookup ("moved" : Str) = none := shF_no (by decide +kernel) (by decide +kernel) (by decide +kernel) (by decide +kernel)
theorem shF_len : (shF r w b n).length = 4 := rfl
theorem putD_ne {f g : Str} {v x : D} {l : List (Str × D)} (h : ¬ g = f) : putD f v ((g, x) :: l) = (g, x) :: putD f v l := by
  show (if g = f then _ else _) = _
  rw [if_neg h]
theorem putD_eq {f : Str} {v x : D} {l : List (Str × D)} : putD f v ((f, x) :: l) = (f, v) :: l := by
  show (if f = f then _ else _) = _
  rw [if_pos rfl]
theorem ne_rw : ¬ ("rule" : Str) = "wide" := by decide +kernel
theorem ne_rr : ¬ ("rule" : Str) = "row" := by decide +kernel
theorem ne_rm : ¬ ("rule" : Str) = "many" := by decide +kernel
theorem ne_wr : ¬ ("wide" : Str) = "row" := by decide +kernel
theorem ne_wm : ¬ ("wide" : Str) = "many" := by decide +kernel
theorem ne_om : ¬ ("row" : Str) = "many" := by decide +kernel
theorem put_row : putD "row" b' (shF r w b n) = shF r w b' n := by
  unfold shF
  rw [putD_ne ne_rr, putD_ne ne_wr, putD_eq]
theorem put_many : putD "many" (.int (n' : Nat)) (shF r w b n) = shF r w b n' := by
  unfold shF
  rw [putD_ne ne_rm, putD_ne ne_wm, putD_ne ne_om, putD_eq]
theorem put_init : putD "many" (.int (n : Nat)) (putD "row" b (putD "wide" (.int (w : Nat)) (putD "rule" (.str (rt r)) []))) = shF r w b n := by
  show putD "many" _ (putD "row" _ (putD "wide" _ [_])) = _
  rw [putD_ne ne_rw]
  show putD "many" _ (putD "row" _ [_, _]) = _
  rw [putD_ne ne_rr, putD_ne ne_wr]
  show putD "many" _ [_, _, _] = _
  rw [putD_ne ne_rm, putD_ne ne_wm, putD_ne ne_om]
  rfl
end
/-- a shelf as plain data -/
structure Sh where
  r : Rl
  p : List Bool
  ks : List Int
  n : Nat
structure Sh.Ok (S : Sh) : Prop where
  w1 : 1 ≤ S.p.length
  w6 : S.p.length ≤ 6
  len : S.ks.length = (placesOf S.p).length
  inc : Incr S.ks
def Sh.row (S : Sh) : Row := rowOf S.p S.ks
/-- the shelf behind a putting in -/
def Sh.pb (S : Sh) (key : Int) : List Nat := pbM S.r S.p.length (placesOf S.p) (rankM S.ks key)
def Sh.found (S : Sh) (key : Int) : Nat := movedM (placesOf S.p) (S.pb key) (rankM S.ks key)
def Sh.put (S : Sh) (key : Int) : Sh := ⟨S.r, patOf S.p.length (S.pb key), insAt S.ks (rankM S.ks key) key, S.n + S.found key⟩
def Sh.take (S : Sh) (key : Int) : Sh := ⟨S.r, patOf S.p.length ((placesOf S.p).eraseIdx (rankM S.ks key)), S.ks.erase key, S.n⟩
/-- it stands in the store -/
theorem putD_len {f : Str} {v : D} : ∀ {l : List (Str × D)} {n : Nat}, l.length ≤ n → (putD f v l).length ≤ n + 1
  | [], n, _ => by simp [putD]
  | (g, x) :: l, 0, h => by simp at h
  | (g, x) :: l, n + 1, h => by
    unfold putD
    rw [List.length_cons] at h
    split
    · rw [List.length_cons]; omega
    · rw [List.length_cons]
      have := putD_len (f := f) (v := v) (l := l) (n := n) (by omega)
      omega
structure ShAt (C : Addr) (m : Mu) (a b : Addr) (S : Sh) : Prop where
  ok : S.Ok
  ha : m a = some (.ins C (shF S.r S.p.length (.adr b) S.n))
  hb : m b = some (.lst (rowD S.row))
  ne : a ≠ b
/-- all else stands as it stood -/
def Keep (m m' : Mu) (a b b' : Addr) : Prop := ∀ q o, m q = some o → q ≠ a → q ≠ b → m' q = some o ∧ q ≠ b'
theorem ShAt.keep {C a b c : Addr} {m m' : Mu} {S : Sh} (h : ShAt C m a b S) (hc : ∀ q w, m q = some w → q ≠ c → m' q = some w) (h1 : a ≠ c) (h2 : b ≠ c) : ShAt C m' a b S := ⟨h.ok, hc _ _ h.ha h1, hc _ _ h.hb h2, h.ne⟩
theorem Sh.put_ok {S : Sh} (h : S.Ok) {key : Int} (hn : key ∉ S.ks) (hl : S.ks.length < S.p.length) : (S.put key).Ok := by
  have hr := rank_le S.ks key
  have hp := put_all h.w6 S.r (k := rankM S.ks key) (by rw [← h.len]; exact hr) (by rw [← h.len]; exact hl)
  refine ⟨?_, ?_, ?_, ins_incr h.inc hn⟩
  · show 1 ≤ (patOf _ _).length
    rw [patOf_len]
    exact h.w1
  · show (patOf _ _).length ≤ 6
    rw [patOf_len]
    exact h.w6
  · show (insAt _ _ _).length = (placesOf (patOf _ _)).length
    rw [insAt_len, Sh.pb, hp.1, hp.2.1, h.len]
theorem rank_mem : ∀ {ks : List Int} {key : Int}, Incr ks → key ∈ ks → ∃ h : rankM ks key < ks.length, ks[rankM ks key] = key ∧ ks.erase key = ks.eraseIdx (rankM ks key)
  | y :: ks, key, h, hm => by
    obtain ⟨h1, h2⟩ := List.pairwise_cons.mp h
    by_cases hy : y = key
    · subst hy
      have h3 : rankM (y :: ks) y = 0 := by
        unfold rankM
        rw [List.length_eq_zero_iff, List.filter_eq_nil_iff]
        intro x hx
        rcases List.mem_cons.mp hx with rfl | hx
        · simp
        · have := h1 x hx
          simp only [decide_eq_true_eq]
          omega
      refine ⟨by rw [h3]; simp, by simp [h3], by rw [h3]; simp⟩
    · have hm' : key ∈ ks := by
        rcases List.mem_cons.mp hm with e | e
        · exact absurd e.symm hy
        · exact e
      have hlt := h1 key hm'
      obtain ⟨i1, i2, i3⟩ := rank_mem h2 hm'
      have h3 : rankM (y :: ks) key = rankM ks key + 1 := by
        unfold rankM
        rw [List.filter_cons, if_pos (by simpa using hlt), List.length_cons]
      refine ⟨by rw [h3, List.length_cons]; omega, by simp only [h3, List.getElem_cons_succ]; exact i2, ?_⟩
      rw [h3, List.eraseIdx_cons_succ, List.erase_cons, if_neg (by simpa using hy), i3]
theorem Sh.take_ok {S : Sh} (h : S.Ok) {key : Int} (hm : key ∈ S.ks) : (S.take key).Ok := by
  obtain ⟨i1, i2, i3⟩ := rank_mem h.inc hm
  have hp := ((ix_ok h.w6).2.2.2.2 (rankM S.ks key) (by rw [← h.len]; exact i1)).2
  refine ⟨?_, ?_, ?_, ?_⟩
  · show 1 ≤ (patOf _ _).length
    rw [patOf_len]
    exact h.w1
  · show (patOf _ _).length ≤ 6
    rw [patOf_len]
    exact h.w6
  · show (S.ks.erase key).length = (placesOf (patOf _ _)).length
    rw [hp, i3, List.length_eraseIdx, List.length_eraseIdx, h.len]
  · show Incr (S.ks.erase key)
    exact List.Pairwise.sublist List.erase_sublist h.inc
theorem zeros_places {w : Nat} (h1 : 1 ≤ w) (h2 : w ≤ 6) : (placesOf (List.replicate w false)).length = 0 := by
  have : w = 1 ∨ w = 2 ∨ w = 3 ∨ w = 4 ∨ w = 5 ∨ w = 6 := by omega
  rcases this with rfl | rfl | rfl | rfl | rfl | rfl <;> decide
theorem zeros_row {r : Rl} {n w : Nat} (h1 : 1 ≤ w) (h2 : w ≤ 6) : (Sh.row ⟨r, List.replicate w false, [], n⟩) = List.replicate w none := by
  have : w = 1 ∨ w = 2 ∨ w = 3 ∨ w = 4 ∨ w = 5 ∨ w = 6 := by omega
  rcases this with rfl | rfl | rfl | rfl | rfl | rfl <;> rfl
theorem cell_ne {x y : Option Int} {Q' : Bool → Mu → Prop} {m : Mu} (q : Q' (!decide (x = y)) m) : (match (Cod.enc x : D), (Cod.enc y : D) with
    | D.int i, D.int j => Q' (!decide (i = j)) m
    | D.str i, D.str j => Q' (!decide (i = j)) m
    | D.bl i, D.bl j => Q' (!decide (i = j)) m
    | x, y => eqP false x y m fun d m1 => ∃ k, d = D.bl k ∧ Q' k m1) := by
  cases x with
  | none => cases y with
    | none => exact eq_cod (α := Option Int) none none (by decide) ⟨_, rfl, q⟩
    | some y => exact eq_cod (α := Option Int) none (some y) (by decide) ⟨_, rfl, q⟩
  | some x => cases y with
    | none => exact eq_cod (α := Option Int) (some x) none (by decide) ⟨_, rfl, q⟩
    | some y =>
      simp only [Option.some.injEq] at q
      exact q
/-- the neighbours of a rank -/
def lowOk (p : List Bool) : Bool := (List.range ((placesOf p).length + 1)).all fun k =>
  ((List.range p.length).all fun i => match ixAt p i with
    | some j => if j < k then decide ((i : Int) ≤ plow p k) else decide (phigh p k ≤ i)
    | none => true) && (decide (plow p k = -1) && decide (k = 0) || decide (0 < k) && decide (ixAt p (plow p k).toNat = some (k - 1)) && decide (0 ≤ plow p k) && decide (plow p k < p.length))
  && (decide (phigh p k = p.length) && decide (k = (placesOf p).length) || decide (ixAt p (phigh p k) = some k) && decide (phigh p k < p.length))
theorem lowOk_all : pats6.all lowOk = true := by decide +kernel
theorem low_ok {p : List Bool} (h : p.length ≤ 6) {k : Nat} (hk : k ≤ (placesOf p).length) :
    (∀ i j, i < p.length → ixAt p i = some j → (j < k → (i : Int) ≤ plow p k) ∧ (¬ j < k → phigh p k ≤ i)) ∧ ((plow p k = -1 ∧ k = 0) ∨ (0 < k ∧ ixAt p (plow p k).toNat = some (k - 1) ∧ 0 ≤ plow p k ∧ plow p k < p.length)) ∧ ((phigh p k = p.length ∧ k = (placesOf p).length) ∨ (ixAt p (phigh p k) = some k ∧ phigh p k < p.length)) := by
  have h1 := List.all_eq_true.mp lowOk_all p (mem_pats6 h)
  unfold lowOk at h1
  have h2 := List.all_eq_true.mp h1 k (List.mem_range.mpr (by omega))
  simp only [Bool.or_eq_true, Bool.and_eq_true, decide_eq_true_eq, List.all_eq_true, List.mem_range] at h2
  obtain ⟨⟨h2, h3⟩, h4⟩ := h2
  refine ⟨fun i j hi hj => ?_, ?_, h4⟩
  · have := h2 i hi
    rw [hj] at this
    simp only at this
    refine ⟨fun g => ?_, fun g => ?_⟩
    · rw [if_pos g] at this
      exact of_decide_eq_true this
    · rw [if_neg g] at this
      exact of_decide_eq_true this
  · rcases h3 with h3 | h3
    · exact .inl h3
    · exact .inr ⟨h3.1.1.1, h3.1.1.2, h3.1.2, h3.2⟩
theorem rank_lt {ks : List Int} {key : Int} (h : Incr ks) (hn : key ∉ ks) {j : Nat} (hj : j < ks.length) : ks[j] < key ↔ j < rankM ks key := by
  obtain ⟨h1, h2⟩ := rank_split h hn
  constructor
  · intro hlt
    by_cases hc : j < rankM ks key
    · exact hc
    · have : ks[j] ∈ ks.drop (rankM ks key) := by
        rw [List.mem_drop_iff_getElem]
        refine ⟨j - rankM ks key, by omega, ?_⟩
        congr 1
        omega
      have := h2 _ this
      omega
  · intro hlt
    refine h1 _ ?_
    rw [List.mem_take_iff_getElem]
    exact ⟨j, by omega, rfl⟩
/-- what stands at a place, by the rank -/
theorem row_cell {S : Sh} (ok : S.Ok) {i : Nat} {v : Int} (hv : S.row[i]?.getD none = some v) : ∃ j, ∃ h : j < S.ks.length, ixAt S.p i = some j ∧ S.ks[j] = v := by
  unfold Sh.row at hv
  rw [rowOf_at] at hv
  have := ixAt_lt ok.w6 i
  cases e : ixAt S.p i with
  | none => rw [e] at hv; cases hv
  | some j =>
    rw [e] at hv this
    have hj : j < S.ks.length := by
      rw [ok.len]
      rcases this with z | z
      · exact z
      · cases z
    refine ⟨j, hj, rfl, ?_⟩
    simp only [gv, Option.map_some, List.getElem?_eq_getElem hj, Option.getD_some, Option.some.injEq] at hv
    exact hv
theorem cell_row {S : Sh} (ok : S.Ok) {i j : Nat} (h : ixAt S.p i = some j) (hj : j < S.ks.length) : S.row[i]?.getD none = some S.ks[j] := by
  unfold Sh.row
  rw [rowOf_at, h]
  simp [gv, hj]
theorem low_max {S : Sh} (ok : S.Ok) {key : Int} (hn : key ∉ S.ks) (x : Int) :
    (x ∈ (-1 : Int) :: ((List.range S.p.length).filter fun i => match S.row[i]?.getD none with | some v => decide (v < key) | none => false).map (fun i : Nat => (i : Int))) →
    (∀ y ∈ (-1 : Int) :: ((List.range S.p.length).filter fun i => match S.row[i]?.getD none with | some v => decide (v < key) | none => false).map (fun i : Nat => (i : Int)), y ≤ x) → x = plow S.p (rankM S.ks key) := by
  intro hx hmax
  have hrk := rank_le S.ks key
  obtain ⟨l1, l2, _⟩ := low_ok ok.w6 (k := rankM S.ks key) (by rw [← ok.len]; exact hrk)
  have hle : x ≤ plow S.p (rankM S.ks key) := by
    rcases List.mem_cons.mp hx with rfl | hx
    · rcases l2 with l2 | l2
      · omega
      · omega
    · obtain ⟨i, hi, rfl⟩ := List.mem_map.mp hx
      obtain ⟨hi1, hi2⟩ := List.mem_filter.mp hi
      cases e : S.row[i]?.getD none with
      | none => rw [e] at hi2; cases hi2
      | some v =>
        rw [e] at hi2
        obtain ⟨j, hj, h1, h2⟩ := row_cell ok e
        refine (l1 i j (List.mem_range.mp hi1) h1).1 ((rank_lt ok.inc hn hj).mp ?_)
        rw [h2]
        exact of_decide_eq_true hi2
  have hge : plow S.p (rankM S.ks key) ≤ x := by
    rcases l2 with l2 | ⟨g1, g2, g3, g4⟩
    · rw [l2.1]
      exact hmax _ List.mem_cons_self
    · refine hmax _ (List.mem_cons_of_mem _ (List.mem_map.mpr ⟨(plow S.p (rankM S.ks key)).toNat, List.mem_filter.mpr ⟨List.mem_range.mpr (by omega), ?_⟩, by omega⟩))
      have hj : rankM S.ks key - 1 < S.ks.length := by omega
      rw [cell_row ok g2 hj]
      exact decide_eq_true ((rank_lt ok.inc hn hj).mpr (by omega))
  omega
theorem high_min {S : Sh} (ok : S.Ok) {key : Int} (hn : key ∉ S.ks) (x : Int) :
    (x ∈ (S.p.length : Int) :: ((List.range S.p.length).filter fun i => match S.row[i]?.getD none with | some v => decide (key < v) | none => false).map (fun i : Nat => (i : Int))) →
    (∀ y ∈ (S.p.length : Int) :: ((List.range S.p.length).filter fun i => match S.row[i]?.getD none with | some v => decide (key < v) | none => false).map (fun i : Nat => (i : Int)), x ≤ y) → x = phigh S.p (rankM S.ks key) := by
  intro hx hmax
  have hrk := rank_le S.ks key
  obtain ⟨l1, _, l2⟩ := low_ok ok.w6 (k := rankM S.ks key) (by rw [← ok.len]; exact hrk)
  have hle : (phigh S.p (rankM S.ks key) : Int) ≤ x := by
    rcases List.mem_cons.mp hx with rfl | hx
    · rcases l2 with l2 | l2
      · omega
      · omega
    · obtain ⟨i, hi, rfl⟩ := List.mem_map.mp hx
      obtain ⟨hi1, hi2⟩ := List.mem_filter.mp hi
      cases e : S.row[i]?.getD none with
      | none => rw [e] at hi2; cases hi2
      | some v =>
        rw [e] at hi2
        obtain ⟨j, hj, h1, h2⟩ := row_cell ok e
        have := (l1 i j (List.mem_range.mp hi1) h1).2 (fun z => by
          have := (rank_lt ok.inc hn hj).mpr z
          rw [h2] at this
          have := of_decide_eq_true hi2
          omega)
        omega
  have hge : x ≤ (phigh S.p (rankM S.ks key) : Int) := by
    rcases l2 with l2 | ⟨g2, g4⟩
    · rw [l2.1]
      exact hmax _ List.mem_cons_self
    · refine hmax _ (List.mem_cons_of_mem _ (List.mem_map.mpr ⟨phigh S.p (rankM S.ks key), List.mem_filter.mpr ⟨List.mem_range.mpr (by omega), ?_⟩, rfl⟩))
      have hj : rankM S.ks key < S.ks.length := by
        have := ixAt_lt ok.w6 (phigh S.p (rankM S.ks key))
        rw [g2, ← ok.len] at this
        rcases this with z | z
        · exact z
        · cases z
      rw [cell_row ok g2 hj]
      refine decide_eq_true ?_
      have h1 : ¬ S.ks[rankM S.ks key] < key := fun z => Nat.lt_irrefl _ ((rank_lt ok.inc hn hj).mp z)
      have h2 : S.ks[rankM S.ks key] ≠ key := fun z => hn (z ▸ List.getElem_mem hj)
      omega
  omega
theorem apart_len {S : Sh} (ok : S.Ok) {key : Int} (hn : key ∉ S.ks) (hl : S.ks.length < S.p.length) :
    ((List.range S.p.length).filter fun i => (S.row[i]?.getD none).isSome && !decide ((S.put key).row[i]?.getD none = S.row[i]?.getD none)).length = S.found key := by
  have hrk := rank_le S.ks key
  have hkl := ok.len
  have hpa := put_all ok.w6 S.r (k := rankM S.ks key) (by omega) (by omega)
  unfold Sh.found Sh.pb
  rw [← hpa.2.2.2.1]
  have e1 : (List.range S.p.length).filter (fun i => (S.row[i]?.getD none).isSome && !decide ((S.put key).row[i]?.getD none = S.row[i]?.getD none)) = ((List.range S.p.length).filter fun i => S.p[i]?.getD false).filter fun i => !decide ((S.put key).row[i]?.getD none = S.row[i]?.getD none) := by
    rw [List.filter_filter]
    refine List.filter_congr fun i hi => ?_
    have hi' := List.mem_range.mp hi
    have e2 : (S.row[i]?.getD none).isSome = S.p[i]?.getD false := by
      have h3 : lawPat S.row = S.p := rowOf_pat ok.w6 _
      have h4 : i < S.row.length := by
        show i < (rowOf _ _).length
        rw [rowOf_len]
        exact hi'
      rw [← h3, pat_at h4, List.getElem?_eq_getElem h4]
      rfl
    rw [e2, Bool.and_comm]
  rw [e1]
  refine congrArg List.length (List.filter_congr fun i hi => ?_)
  have := same_thing (key := key) ok.w6 S.r hkl hrk (by omega) (ins_incr ok.inc hn).nodup i
  exact congrArg not (decide_eq_decide.mpr this)
/-- dice, shelf and the list of keys in the store -/
structure St (C a s l : Addr) (m : Mu) (S : Sh) (b : Addr) (ins : List Int) : Prop where
  sh : ShAt C m s b S
  di : m a = some (.any Dice)
  li : m l = some (.lst (ins.map D.int))
  nbl : b ≠ l
  nab : a ≠ b
  pm : ins.Perm S.ks
theorem St.nsl {C a s l : Addr} {m : Mu} {S : Sh} {b : Addr} {ins : List Int} (h : St C a s l m S b ins) : s ≠ l := by
  rintro rfl
  have := h.li
  rw [h.sh.ha] at this
  cases this
theorem St.nal {C a s l : Addr} {m : Mu} {S : Sh} {b : Addr} {ins : List Int} (h : St C a s l m S b ins) : a ≠ l := by
  rintro rfl
  have := h.li
  rw [h.di] at this
  cases this
theorem St.nas {C a s l : Addr} {m : Mu} {S : Sh} {b : Addr} {ins : List Int} (h : St C a s l m S b ins) : a ≠ s := by
  rintro rfl
  have := h.sh.ha
  rw [h.di] at this
  cases this
/-- the shelf is another -/
theorem St.move {C a s l : Addr} {m m' : Mu} {S S' : Sh} {b b' : Addr} {ins : List Int} (h : St C a s l m S b ins) (hS : ShAt C m' s b' S') (k : Keep m m' s b b') : ShAt C m' s b' S' ∧ m' a = some (.any Dice) ∧ m' l = some (.lst (ins.map D.int)) ∧ b' ≠ l ∧ a ≠ b' := by
  obtain ⟨k1, k2⟩ := k a _ h.di h.nas h.nab
  obtain ⟨k3, k4⟩ := k l _ h.li h.nsl.symm h.nbl.symm
  exact ⟨hS, k1, k3, k4.symm, k2⟩
/-- the list is another -/
theorem St.list {C a s l : Addr} {m : Mu} {S : Sh} {b : Addr} {ins' : List Int} (hS : ShAt C m s b S) (hd : m a = some (.any Dice)) (h1 : s ≠ l) (h2 : b ≠ l) (h3 : a ≠ l) (h4 : a ≠ b) (p : ins'.Perm S.ks) : St C a s l (ups m l (.lst (ins'.map D.int))) S b ins' :=
  ⟨hS.keep (fun q w g1 g2 => by rw [ups_ne g2]; exact g1) h1 h2, by rw [ups_ne h3]; exact hd, ups_same, h2, h4, p⟩
theorem ints_flat (l : List Int) : (l.map D.int).all flat = true := by
  rw [List.all_map]
  exact List.all_eq_true.mpr fun _ _ => rfl
theorem ints_in (l : List Int) (x : Int) : inV (.int x) ((l.map D.int).map toV) = decide (x ∈ l) := by
  unfold inV
  rw [List.map_map, List.any_map]
  induction l with
  | nil => rfl
  | cons a l ih =>
    rw [List.any_cons, ih]
    have e : ((fun y => eqV y (V.int x)) ∘ toV ∘ D.int) a = decide (x = a) := by
      show (a == x) = decide (x = a)
      by_cases h : x = a
      · subst h
        simp
      · rw [decide_eq_false h]
        simp only [beq_eq_false_iff_ne]
        omega
    rw [e]
    by_cases h : x = a <;> simp [h]
/-- == of a list of whole numbers in the store and a plain one -/
theorem eq_ints {t : Bool} {m : Mu} {Q : D → Mu → Prop} {p : Addr} {l : List Int} (hm : m p = some (.lst (l.map D.int))) (b : List Int) (q : Q (.bl (t == decide (l = b))) m) : eqP t (.adr p) (.list (b.map D.int)) m Q :=
  ⟨_, _, .adr hm (cod_isPs m l), Cod.isP m b, cod_shaped l (by decide), cod_shaped b (by decide), by
    have e : PyData.eqv (Cod.py l) (Cod.py b) = decide (l = b) := Cod.eqv l b
    show Q (.bl (t == PyData.eqv (Cod.py l) (Cod.py b))) m
    rw [e]
    exact q⟩
end Ls

/-! exceptions of the text's own classes, the way whose context is told (L2N) -/
namespace L2
open PySem PySem.Spec PyProof.Rows
/-- what the text must say of a class S over ValueError, so that S.__init__ is ValueError's -/
structure BaseInit (K : PySem.W.Frag) (mg : Str → Option Value) (x : Str) (S : Addr) : Prop where
  at_ : mg x = some (.ref S)
  rd : ∃ mc, ClX.CRead K S mc ∧ PySem.W.findCls K (.ref S) mc "__init__" = some (.val (.builtin "ValueError.__init__"))
/-- a call by an attribute, as it is evaluated -/
def viaAttr (env : PySem.Env) (o : Expr) (m : Str) (mp pos : Pos) (es : List Expr) (pl : Sem Bool) : Sem Value :=
  eval o env >>= fun v => standAt mp.atName >>= fun _ => holding [v] (getMethod v m pl) >>= fun r => callWith pos r.1 r.2 (backTo pos (starEach es env)) (backToKw pos (keywordEach [] env))
/-- S.__init__(a, b), a and b names -/
theorem pe_baseinit {X : Cx} {x a b : Str} {S : Addr} {ta : TA} {p1 p2 q1 q2 pos : Pos} {pl : Sem Bool} (B : BaseInit X.K X.mg x S) (hg : Gl X x) (args : PA X [.Name a q1, .Name b q2] ta)
    (ev : eval (.Call (.Attribute (.Name x p1) "__init__" p2) [.Name a q1, .Name b q2] [] pos) X.env = viaAttr X.env (.Name x p1) "__init__" p2 pos [.Name a q1, .Name b q2] pl := by rfl) (hdb : (x == ("__debug__" : Str)) = false := by decide) :
    PE X (.Call (.Attribute (.Name x p1) "__init__" p2) [.Name a q1, .Name b q2] [] pos) (tVeI X.K ta) := by
  obtain ⟨hm, mc, cr, val⟩ := B
  constructor
  intro pins s σ H Q I want
  refine PySem.W.methodCall_KW (ld_glob I hg hm ?_ hdb) (ev.trans rfl)
  apply PySem.W.method_cls I.kIn cr.ga
  apply PySem.W.cls_value I.kIn cr.rd val (by decide +kernel)
  show wpAny _ _ (callWith pos (Value.builtin "ValueError.__init__") [] (backTo pos (starEach [.Name a q1, .Name b q2] X.env)) []) _ _ _
  refine PyProof.Rows.callWith_method1 (thn (args.run pos pins _ σ H _ (I.tok _) want) ?_) rfl rfl
  rintro us s1 ⟨vs, H1, J, rel, ea, C, ws, rfl, few, ox, he, q⟩
  obtain ⟨u, ur, rfl, ru, rr⟩ : ∃ u ur, us = u :: ur ∧ RelV (.ref ea) u ∧ Vals ws ur := by
    cases rel with
    | cons r t => exact ⟨_, _, rfl, r, t⟩
  cases ru
  have small : ur.length ≤ sizeLine := by
    have := rr.length
    rw [sizeLine_eq]
    omega
  exact oinit_ok ox J he small fun s' J' => ⟨.non, H1, J', rfl, q⟩
end L2
namespace L2N
open PySem PySem.Spec PyProof.Rows L2
section
variable {X : Cx} {pins : List (Addr × Obj)} {σ : St} {H : Hp} {C fI : Addr} {k : Nat} {fd : FuncData} {ps : List Str} {sp : Sp}
/-- the promise of C's __init__ as the maker wants it: the exception at a gets its dict -/
def wantInit (C : Addr) (H : Hp) (a : Addr) (Q : XK) : VK := fun v H2 => v = .non ∧ ∃ (d : Addr) (fs : List (Str × V)), H2 a = some (exo a C (some d)) ∧ H2 d = some (exd d fs) ∧ H d = none ∧ Q (.ref C) (some d) (upd (L2.del H2 a) d (.xd fs))
/-- C(..): a new exception whose context is None -/
theorem new_exc (ox : OexC X.K C) (fi : PySem.W.findIn X.K (.ref C) "__init__" = some (some (.ref fI))) (fn : PySem.W.typeIn X.K (.ref fI) = some (.type "function")) (F : FnOk X.prog X.w X.K X.mg X.base CX0 k fI fd ps sp) (room : Room (k + 1) X.A) (bd : Binds X.K fd ps [])
    {s : Shared} {us : List Value} {vs : List V} {Q : XK} (I : Inv X pins σ H s) (rel : Vals vs us) (few : vs.length ≤ 1000) (want : ∀ a, H a = none → sp (.ref a :: vs) (upd H a (exo a C none)) (wantInit C H a Q) (fun _ _ _ => False)) :
    wpAny (model X.prog X.w) X.A (call (.ref C) us) (MkP X pins σ Q) X.xe s := by
  obtain ⟨nm, qn, N, bs, bm, sn, sub, ab, col, dd, k0, k1, k2, k3, k5, there, tail⟩ := ox.cls
  obtain ⟨h, g, dr, tk, os⟩ := s
  -- the arguments' tuple stands at the heap's end, the exception behind it
  generalize hx : h.objs.size + 1 = x
  generalize hh : (h.push (PySem.W.kdv_tup us)).push (PySem.HandSPX.excO C h.objs.size) = h2
  have hle : h.objs.size ≤ x := by omega
  have old : ∀ b o, h.get? b = some o → h2.get? b = some o := by
    intro b o e
    rw [← hh]
    exact Heap.get?_push_of_some _ (Heap.get?_push_of_some _ e)
  have new : h2.get? x = some (PySem.HandSPX.excO C h.objs.size) := by
    rw [← hh, ← hx]
    heap_get
  have free : H x = none := I.hok.fresh hle
  have J : Inv X pins σ (upd H x (exo x C none)) ⟨h2, g, dr, tk, os⟩ := I.laid (t' := tk) (h' := h2) old hle (exo_ok new)
  have rel2 : Vals (V.ref x :: vs) (Value.ref x :: us) := .cons rfl rel
  have sp' := want x free
  have len : (Value.ref x :: us).length = ps.length := by rw [← rel2.length]; exact F.len _ _ _ _ sp'
  have small : us.length ≤ sizeLine := by
    have := rel.length
    rw [sizeLine_eq]
    omega
  have bnd := bd ⟨h2, g, dr, tk, os⟩ (Value.ref x :: us) J.kIn (by rw [List.append_nil]; exact len)
  rw [List.append_nil] at bnd
  have ran := F.run _ X.stack _ _ ⟨Value.ref x :: us, []⟩ (Value.ref x :: us) _ _ (fun _ _ _ => False) (room.make C us []) (J.env0.make C us []) bnd rel2 sp'
  apply wpAny_call
  apply PySem.HandSPX.call_own PySem.F.excBase_ValueError (fun Y => PySem.HandSPX.refsVE_contains Y bm tail) (I.kIn _ _ there) (PySem.W.looks_findIn I.kIn fi) (fun self => PySem.W.bind_fn I.kIn self fn) small
  rw [hh, hx]
  refine codeAny_mono ran fun r s' out => ?_
  match r, out with
  | .ok (.ret u), ⟨v, H2, eos, eb, eu, eok, rv, ⟨hv, d, fs, e1, e2, e3, q⟩⟩ =>
    subst hv
    obtain ⟨h3, g3, d3, t3, os3⟩ := s'
    obtain ⟨t0, G, JG, kG, gone, at_, na⟩ := mk_end0 (d2 := d3) (t2 := t3) I hle old eu eok eos eb e1 e2 e3
    exact ⟨rv, x, _, _, ⟨G, g3, d3, t3, os3⟩, _, .ref C, some d, rfl, JG, kG, gone, at_, ⟨rfl, rfl, fun vs e => by cases e; rfl⟩, rfl, rfl, na, rfl, eb, raises_own ox.exC ox.tyC, q⟩
  | .ok .next, out => exact out.elim
  | .ok .brk, out => exact out.elim
  | .ok .cont, out => exact out.elim
  | .error _, out => exact out.elim
/-- raise C(e) in the L2N way: the making of it -/
theorem pmk_new (ox : OexC X.K C) (fi : PySem.W.findIn X.K (.ref C) "__init__" = some (some (.ref fI))) (fn : PySem.W.typeIn X.K (.ref fI) = some (.type "function")) (F : FnOk X.prog X.w X.K X.mg X.base CX0 k fI fd ps sp) (room : Room (k + 1) X.A) (bd : Binds X.K fd ps [])
    {x : Str} {e : Expr} {te : TE} {p pos : Pos} (hg : Gl X x) (hm : X.mg x = some (.ref C)) (arg : PE X e te) (st : starEach [e] X.env = [(false, eval e X.env)]) (hdb : (x == ("__debug__" : Str)) = false := by decide) :
    PMk X (.Call (.Name x p) [e] [] pos) (fun σ H Q => tCons te tNil σ H fun vs H1 => ∃ v, vs = [v] ∧ ∀ a, H1 a = none → sp [.ref a, v] (upd H1 a (exo a C none)) (wantInit C H1 a Q) (fun _ _ _ => False)) := by
  intro pins s σ H Q I want
  apply wpAny_Call_Name_kw
  apply ld_glob I hg hm ?_ hdb
  have args : PA X [e] (tCons te tNil) := pa_cons arg pa_nil st
  refine PySem.W.callWith_K (h₀ := X.base) I.ok.mod.kin ox.kC (thn (args.run pos pins s σ H (fun vs H1 => ∃ v, vs = [v] ∧ ∀ a, H1 a = none → sp [.ref a, v] (upd H1 a (exo a C none)) (wantInit C H1 a Q) (fun _ _ _ => False)) I want) ?_) st rfl
  · rintro us s1 ⟨vs, H1, J, rel, v, rfl, w⟩
    exact ⟨J.kIn, new_exc ox fi fn F room bd J rel (by show 1 ≤ 1000; decide) w⟩
end
end L2N
namespace L2
open PySem PySem.Spec PyProof.Rows
/-- a def's promise by its body, whatever way its exceptions take -/
theorem Fun.okG {P : Program} {w : World} {K : PySem.W.Frag} {mg : Str → Option Value} {base : Heap} (way : CXT) {x qual : Str} {st : Stmt} {f : Addr} {fd : FuncData} {N ps : List Str} {k : Nat} {sp : Sp} (F : Fun K x qual st f fd) (S : FnScope N ps (defScope st)) (len : ∀ vs H Q E, sp vs H Q E → vs.length = ps.length)
    (body : ∀ (cd : Value) (A : Around) (outer : List Env) (s : Shared) (H : Hp) (vs : List V) (Q : VK) (E : XK), Room k (A.deeper (envOfC qual (defScope st) s.heap.objs.size f cd)) → sp vs H Q E → ∃ t, PSs (cxOf way P w K mg base N qual (defScope st) f cd A outer s H E) (defBody st) t ∧ t { nx := fun _ H' => Q .non H', rt := Q } (start N vs) H) :
    FnOk P w K mg base way (k + 1) f fd ps sp := by
  obtain ⟨oc, od, kV, doc, pm, an, cd, ct, sl, rfl, at_, code⟩ := F.ex
  exact fn_of at_ code S len (body cd)
end L2

/-! deep data: defs that raise -/
namespace Dq
open PySem L2 PyProof.Rows
/-- what is wanted of an exception: its class, its one field -/
abbrev XDt := Addr → Option (Str × Int) → Mu → Prop
def XIs (Hh : Hp) (d : Option Addr) : Option (Str × Int) → Prop
  | none => d = none
  | some (f, n) => ∃ da, d = some da ∧ Hh da = some (.xd [(f, .int n)])
def PstE (K : PySem.W.Frag) (F H : Hp) (m : Mu) (xd : XDt) (E : XK) : Prop :=
  ∀ (C : Addr) (d : Option Addr) (fo : Option (Str × Int)) (H' : Hp) (m' : Mu), Ext (hide F H m) (hide F H' m') → Stt K F H' m' → XIs (hide F H' m') d fo → xd C fo m' → E (.ref C) d H'
theorem PstE.at {K : PySem.W.Frag} {F H H1 : Hp} {m m1 : Mu} {xd : XDt} {E : XK} (p : PstE K F H m xd E) (e : Ext (hide F H m) (hide F H1 m1)) : PstE K F H1 m1 xd E := fun C d fo H' m' e' s x q => p C d fo H' m' (e.trans e') s x q
abbrev dEX := XDt → dE
abbrev dSX := XDt → dS
def WEX (K : PySem.W.Frag) (E : XK) (te : TE) (t : dEX) : Prop := ∀ F xd env m Q σ H R, t xd env m Q → Ok K F H σ env m → Pst K F H m Q R → PstE K F H m xd E → te σ H R
def WSX (K : PySem.W.Frag) (E : XK) (ts : TS) (t : dSX) : Prop := ∀ F xd DD env m σ H RR, t xd DD env m → Ok K F H σ env m → PstS K F H m DD RR → PstE K F H m xd E → ts RR σ H
structure DEX (K : PySem.W.Frag) (X : Cx) (E : XK) (e : Expr) (te : TE) (t : dEX) : Prop where
  p : PE X e te
  w : WEX K E te t
structure DSX (K : PySem.W.Frag) (X : Cx) (E : XK) (st : Stmt) (ts : TS) (t : dSX) : Prop where
  p : PS X st ts
  w : WSX K E ts t
structure DSsX (K : PySem.W.Frag) (X : Cx) (E : XK) (st : List Stmt) (ts : TS) (t : dSX) : Prop where
  p : PSs X st ts
  w : WSX K E ts t
section
variable {K : PySem.W.Frag} {X : Cx} {E : XK} {st : Stmt} {rest : List Stmt} {e : Expr} {te : TE} {de : dE} {tx : dEX} {st1 st2 : TS} {dt : dSX} {du : dSX} {ds : dS} {pos : Pos}
theorem DE.x (h : DE K X e te de) : DEX K X E e te (fun _ => de) := ⟨h.p, fun F xd env m Q σ H R q o p _ => h.w F env m Q σ H R q o p⟩
theorem DS.x (h : DS K X st st1 ds) : DSX K X E st st1 (fun _ => ds) := ⟨h.p, fun F xd DD env m σ H RR q o p _ => h.w F DD env m σ H RR q o p⟩
theorem DSs.x (h : DSs K X rest st1 ds) : DSsX K X E rest st1 (fun _ => ds) := ⟨h.p, fun F xd DD env m σ H RR q o p _ => h.w F DD env m σ H RR q o p⟩
def xSeq (t u : dSX) : dSX := fun xd => dSeq (t xd) (u xd)
theorem xx_cons (h : DSX K X E st st1 dt) (k : DSsX K X E rest st2 du) : DSsX K X E (st :: rest) (tSeq st1 st2) (xSeq dt du) := by
  obtain ⟨h1, w1⟩ := h
  obtain ⟨h2, w2⟩ := k
  refine ⟨pss_cons h1 h2, fun F xd DD env m σ H RR q o p x => w1 F xd { DD with nx := du xd DD } env m σ H { RR with nx := st2 RR } q o ⟨fun σ' H' env' m' e' o' q' => w2 F xd DD env' m' σ' H' RR q' o' (p.at e') (x.at e'), p.rt, p.bk, p.ct⟩ x⟩
theorem xx_one (h : DSX K X E st st1 dt) : DSsX K X E [st] st1 dt := ⟨pss_one h.p, h.w⟩
def xDrop (t : dEX) : dSX := fun xd => dDrop (t xd)
theorem x_expr (h : DEX K X E e te tx) (hs : swapsWith e none pos.line X.env = pure false := by rfl) : DSX K X E (.Expr e pos) (tDrop te) (xDrop tx) :=
  ⟨ps_expr h.p hs, fun F xd DD env m σ H RR q o p x => h.w F xd env m _ σ H _ q o (fun v H1 d m1 e1 s1 r1 q1 => p.nx σ H1 env m1 e1 (o.at s1 e1) q1) x⟩
def xAsg (t : dEX) (i : Nat) : dSX := fun xd => dAsg (t xd) i
theorem x_set {i : Nat} {x : Str} {pos' : Pos} (hN : X.N.Nodup) (he : DEX K X E e te tx) (hi : X.N[i]? = some x := by rfl) (hx : Loc X.env.scope x := by first | exact Or.inl rfl | exact Or.inr rfl) (hs : swapsWith e (some (.Name x pos')) pos.line X.env = pure false := by rfl)
    (hf : X.fn x = true ∨ X.env.scope.names.lookup x = some .local := by first | exact .inl rfl | exact .inr rfl) : DSX K X E (.Assign [.Name x pos'] e pos) (tAsg te (gName i)) (xAsg tx i) :=
  ⟨ps_set hN hi hx he.p hs hf, fun F xd DD env m σ H RR q o p x => he.w F xd env m _ σ H _ q o (fun v H1 d m1 e1 s1 r1 q1 => p.nx _ H1 _ m1 e1 ⟨s1, (o.fr.mono e1).set r1⟩ q1) x⟩
def xIfS (c : dT) (t u : dSX) : dSX := fun xd => dIfS c (t xd) (u xd)
theorem x_if {c : Expr} {p q : List Stmt} {tc : TT} {dc : dT} (h : DT K X c tc dc) (h1 : DSsX K X E p st1 dt) (h2 : DSsX K X E q st2 du) : DSX K X E (.If c p q pos) (tIfS tc st1 st2) (xIfS dc dt du) := by
  obtain ⟨hc, wc⟩ := h
  obtain ⟨h1, w1⟩ := h1
  obtain ⟨h2, w2⟩ := h2
  refine ⟨ps_if hc h1 h2, fun F xd DD env m σ H RR q o p x => wc F env m _ σ H _ q o fun k H1 m1 e1 s1 q1 => ?_⟩
  cases k with
  | true => exact w1 F xd DD env m1 σ H1 RR q1 (o.at s1 e1) (p.at e1) (x.at e1)
  | false => exact w2 F xd DD env m1 σ H1 RR q1 (o.at s1 e1) (p.at e1) (x.at e1)
def xFor (wi : dI) (g : dG) (tb : dSX) : dSX := fun xd => dFor wi g (tb xd)
theorem WSX.for {wi : TI} {di : dI} {g : TG} {dg : dG} {tb : TS} {db : dSX} (hi : WI K wi di) (hg : WG K g dg) (hb : WSX K E tb db) : WSX K E (tFor wi g tb) (xFor di dg db) := fun F xd DD env m σ H RR q o p x => by
  refine hi F env m _ σ H _ q o fun J H1 ds m1 e1 s1 wk q1 => ?_
  obtain ⟨n, G, Y, rfl, w, hG, hY⟩ := wk.ex
  refine for_it w (fun i σ' H' => ∃ env' m', Ext (hide F H1 m1) (hide F H' m') ∧ Ok K F H' σ' env' m' ∧ forD dg (db xd) DD (ds.drop i) env' m') ⟨env, m1, Ext.refl, o.at s1 e1, q1⟩ (fun i σ' H' _ ⟨env', m', ex, o', _⟩ => hG F H' m' ex o'.st) ?_ ?_
  · rintro i x1 σ' Hc H' hi' ⟨env', m', ex, o', q'⟩ y
    obtain ⟨d, hd, e2, s2, r2⟩ := hY i F Hc m' x1 H' ex o'.st y hi'
    have hdr : ds.drop i = d :: ds.drop (i + 1) := by
      obtain ⟨h1, h2⟩ := List.getElem?_eq_some_iff.mp hd
      rw [← h2, List.getElem_cons_drop]
    rw [hdr] at q'
    refine hg F d env' m' _ x1 σ' H' _ q' (o'.at s2 e2) r2 fun σ2 H2 env2 m2 e3 o2 q2 => ?_
    have e12 : Ext (hide F H1 m1) (hide F H2 m2) := (ex.trans e2).trans e3
    have again : PstX K F H2 m2 (forD dg (db xd) DD (ds.drop (i + 1))) (fun σ' H' => ∃ env' m', Ext (hide F H1 m1) (hide F H' m') ∧ Ok K F H' σ' env' m' ∧ forD dg (db xd) DD (ds.drop (i + 1)) env' m') :=
      fun σ3 H3 env3 m3 e4 o3 q3 => ⟨env3, m3, e12.trans e4, o3, q3⟩
    exact hb F xd _ env2 m2 σ2 H2 _ q2 o2 ⟨again, p.rt.at (e1.trans e12), p.nx.at (e1.trans e12), again⟩ (x.at (e1.trans e12))
  · rintro σ' H' ⟨env', m', ex, o', q'⟩
    rw [List.drop_length] at q'
    exact p.nx σ' H' env' m' (e1.trans ex) o' q'
theorem x_for {tg iter : Expr} {body : List Stmt} {ui : TI} {ug : TG} {ub : TS} {wi : dI} {g : dG} {tb : dSX} (hp : PassesOwn (model X.prog X.w) X.A X.env X.xe) (hi : DI K X tg iter ui wi) (hg : DG K X tg ug g) (hb : DSsX K X E body ub tb) (hc : X.calm = true := by rfl)
    (hs : ∀ x, foldedSetIterable iter X.env x = pure x := by intro _; rfl) : DSX K X E (.For tg iter body [] pos) (tFor ui ug ub) (xFor wi g tb) :=
  ⟨ps_for hp hc hi.p hg.p hb.p hs, .for hi.w hg.w hb.w⟩
end
/-! ### raise -/
/-- an own class over ValueError without __init__ -/
structure Exc0 (K : PySem.W.Frag) (mg : Str → Option Value) (x : Str) (C : Addr) : Prop where
  gC : mg x = some (.ref C)
  ex : PySem.W.excIn K C [.type "ValueError", .type "Exception", .type "BaseException", .type "object"] "ValueError.__new__" = true
  kC : PySem.W.keepIn K (.ref C) = true
  bP : PySem.W.subIn K (.ref C) (.type "BaseException") = some true
  tP : PySem.W.typeIn K (.ref C) = some (.type "type")
def xRaise0 (C : Addr) : dSX := fun xd _ _ m => xd C none m
theorem x_raise0 {K : PySem.W.Frag} {X : Cx} {E : XK} {x t : Str} {C : Addr} {j : Nat} {p p2 pos pos2 : Pos} (T : Exc0 K X.mg x C) (tk : L2N.Takes X (fun cls d _ H => E cls d H)) (hg : Gl X x := by rfl) (hdb : (x == ("__debug__" : Str)) = false := by decide) (hc : X.calm = true := by rfl) (hK : X.K = K := by rfl) :
    DSX K X E (.Raise (some (.Call (.Name x p) [.Constant (.str t) j p2] [] pos)) none pos2) (fun _ _ H => E (.ref C) none H) (xRaise0 C) := by
  subst hK
  exact ⟨L2N.ps_raise hc tk (L2N.pmk_own PySem.F.excBase_ValueError T.ex T.gC T.kC (raises_own T.bP T.tP) hg hdb), fun F xd DD env m σ H RR q o p x => x C none none H m Ext.refl o.st rfl q⟩
/-- __init__ of an own class: the field f -/
def spInit (K : PySem.W.Frag) (f : Str) : Sp := fun vs H Q _ => ∃ (a C : Addr) (n : Int), vs = [.ref a, .int n] ∧ OexC K C ∧ PySem.W.findIn K (.ref C) f = some none ∧ H a = some (exo a C none) ∧ ∀ dx, H dx = none → dx ≠ a → Q .non (upd (upd H dx (exd dx [(f, .int n)])) a (exo a C (some dx)))
structure Exc1 (P : Program) (w : World) (K : PySem.W.Frag) (mg : Str → Option Value) (base : Heap) (x : Str) (C : Addr) (f : Str) (k : Nat) : Prop where
  gC : mg x = some (.ref C)
  ox : OexC K C
  noF : PySem.W.findIn K (.ref C) f = some none
  ini : ∃ fI fd ps, PySem.W.findIn K (.ref C) "__init__" = some (some (.ref fI)) ∧ PySem.W.typeIn K (.ref fI) = some (.type "function") ∧ FnOk P w K mg base CX0 k fI fd ps (spInit K f) ∧ Binds K fd ps []
def xRaise1 (C : Addr) (f : Str) (de : dE) : dSX := fun xd _ env m => de env m fun d m1 => ∃ n : Int, d = .int n ∧ xd C (some (f, n)) m1
theorem x_raise1 {K : PySem.W.Frag} {X : Cx} {E : XK} {x f : Str} {C : Addr} {e : Expr} {te : TE} {de : dE} {k : Nat} {p pos pos2 : Pos} (T : Exc1 X.prog X.w K X.mg X.base x C f k) (hr : Room (k + 1) X.A) (tk : L2N.Takes X (fun cls d _ H => E cls d H)) (he : DE K X e te de) (hg : Gl X x := by rfl) (hdb : (x == ("__debug__" : Str)) = false := by decide) (hc : X.calm = true := by rfl)
    (hst : starEach [e] X.env = [(false, eval e X.env)] := by rfl) (hK : X.K = K := by rfl) :
    DSX K X E (.Raise (some (.Call (.Name x p) [e] [] pos)) none pos2) (fun _ σ H => tCons te tNil σ H fun vs H1 => ∃ v, vs = [v] ∧ ∀ a, H1 a = none → spInit K f [.ref a, v] (upd H1 a (exo a C none)) (L2N.wantInit C H1 a fun cls d H' => E cls d H') (fun _ _ _ => False)) (xRaise1 C f de) := by
  subst hK
  obtain ⟨fI, fd, ps, iC, tI, F1, hb⟩ := T.ini
  refine ⟨L2N.ps_raise hc tk (L2N.pmk_new T.ox iC tI F1 hr hb hg T.gC he.p hst hdb), fun F xd DD env m σ H RR q o p x => he.w F env m _ σ H _ q o fun v H1 d m1 e1 s1 r1 q1 => ?_⟩
  obtain ⟨n, rfl, q1⟩ := q1
  cases r1
  refine ⟨_, rfl, fun a ha => ⟨a, C, n, rfl, T.ox, T.noF, upd_same, fun dx hdx hne => ⟨rfl, dx, [(f, .int n)], upd_same, ?_, ?_, ?_⟩⟩⟩
  · rw [upd_ne hne, upd_same]
  · rw [upd_ne hne] at hdx
    exact hdx
  · rw [upd_ne hne] at hdx
    have eH : upd (L2.del (upd (upd (upd H1 a (exo a C none)) dx (exd dx [(f, .int n)])) a (exo a C (some dx))) a) dx (.xd [(f, .int n)]) = upd H1 dx (.xd [(f, .int n)]) := by
      funext b
      by_cases hb : b = dx
      · subst hb
        rw [upd_same, upd_same]
      · rw [upd_ne hb, upd_ne hb]
        by_cases hb2 : b = a
        · subst hb2
          rw [L2.del_same, ha]
        · rw [L2.del_ne hb2, upd_ne hb2, upd_ne hb, upd_ne hb2]
    rw [eH]
    have e2 := Ext.new (o := .xd [(f, .int n)]) s1 hdx
    refine x C (some dx) (some (f, n)) _ m1 (e1.trans e2) (s1.new hdx) ⟨dx, rfl, ?_⟩ q1
    rw [hide_at (s1.free hdx) (s1.freeF hdx), upd_same]
/-! ### calls of defs that raise -/
abbrev PreX := List D → Mu → (D → Mu → Prop) → XDt → Prop
def spX (K : PySem.W.Frag) (pre : PreX) : Sp := fun vs H R E => ∃ F ds m Q xd, Stt K F H m ∧ Reps K (hide F H m) vs ds ∧ pre ds m Q xd ∧ Pst K F H m Q R ∧ PstE K F H m xd E
structure DefX (P : Program) (w : World) (K : PySem.W.Frag) (mg : Str → Option Value) (base : Heap) (x : Str) (k : Nat) (pre : PreX) : Prop where
  ex : ∃ f fd ps, FnOk P w K mg base (L2N.CX P w) k f fd ps (spX K pre) ∧ mg x = some (.ref f) ∧ PySem.W.keepIn K (.ref f) = true ∧ Binds K fd ps []
structure MDefX (P : Program) (w : World) (K : PySem.W.Frag) (mg : Str → Option Value) (base : Heap) (C : Addr) (x : Str) (k : Nat) (pre : PreX) : Prop where
  ex : ∃ f fd ps, FnOk P w K mg base (L2N.CX P w) k f fd ps (spX K pre) ∧ Meth K C x f ∧ Binds K fd ps []
structure IDefX (P : Program) (w : World) (K : PySem.W.Frag) (mg : Str → Option Value) (base : Heap) (C : Addr) (k : Nat) (pre : PreX) : Prop where
  ex : ∃ f fd ps, FnOk P w K mg base (L2N.CX P w) k f fd ps (spX K pre) ∧ Mk K C f ∧ Binds K fd ps []
def xCall (pre : PreX) (ta : dA) : dEX := fun xd env m Q => ta env m fun ds m1 => pre ds m1 Q xd
section
variable {K : PySem.W.Frag} {X : Cx} {E : XK} {C : Addr} {x : Str} {k : Nat} {pre : PreX} {o e : Expr} {es : List Expr} {ue : TE} {te : dE} {ta : TA} {da : dA} {p pos apos : Pos} {pl : Sem Bool}
theorem x_call (h : DefX X.prog X.w K X.mg X.base x k pre) (hr : Room k X.A) (tk : L2N.Takes X (fun cls d _ H => E cls d H)) (ha : DA K X (e :: es) ta da) (hg : Gl X x := by rfl) (hdb : (x == ("__debug__" : Str)) = false := by decide) (he : starEach (e :: es) X.env = (false, eval e X.env) :: starEach es X.env := by rfl)
    (hpl : (backTo pos (starEach es X.env)).any (·.1) = false := by rfl) (hK : X.K = K := by rfl) : DEX K X E (.Call (.Name x p) (e :: es) [] pos) (tCall (spX K pre) [] E ta) (xCall pre da) := by
  subst hK
  obtain ⟨f, fd, ps, F, hm, hk, hb⟩ := h.ex
  refine ⟨pe_call F hr hg hm hk hb .nil (L2N.passes_call tk fun _ _ _ _ h => h) ha.p hdb he hpl, fun F xd env m Q σ H R q o p x => ha.w F env m _ σ H _ q o fun vs H1 ds m1 e1 s1 r1 q1 => ?_⟩
  rw [List.append_nil]
  exact ⟨F, ds, m1, Q, xd, s1, r1, q1, p.at e1, x.at e1⟩
def xMeth (C : Addr) (x : Str) (pre : PreX) (te : dE) (ta : dA) : dEX := fun xd env m Q => te env m fun d m1 => ∃ a fs, d = .adr a ∧ m1 a = some (.ins C fs) ∧ fs.lookup x = none ∧ ta env m1 fun ds m2 => pre (d :: ds) m2 Q xd
theorem x_meth (h : MDefX X.prog X.w K X.mg X.base C x k pre) (c : Cls K C) (hr : Room k X.A) (tk : L2N.Takes X (fun cls d _ H => E cls d H)) (he : DE K X o ue te) (ha : DA K X (e :: es) ta da) (hst : starEach (e :: es) X.env = (false, eval e X.env) :: starEach es X.env := by rfl) (hpl : (backTo pos (starEach es X.env)).any (·.1) = false := by rfl)
    (ht : eval (.Call (.Attribute o x apos) (e :: es) [] pos) X.env = (do
      let ov ← eval o X.env
      standAt apos.atName
      let (f, first) ← holding [ov] (getMethod ov x pl)
      callWith pos f first (backTo pos (starEach (e :: es) X.env)) (backToKw pos (keywordEach [] X.env))) := by rfl) (hK : X.K = K := by rfl) : DEX K X E (.Call (.Attribute o x apos) (e :: es) [] pos) (tMeth C x (spX K pre) [] E ue ta) (xMeth C x pre te da) := by
  subst hK
  obtain ⟨f, fd, ps, F, hm, hb⟩ := h.ex
  refine ⟨pe_meth he.p c hm F hr hb .nil (L2N.passes_call tk fun _ _ _ _ h => h) ha.p hst hpl ht, fun F xd env m Q σ H R q o p x => he.w F env m _ σ H _ q o fun v H1 d m1 e1 s1 r1 ⟨a, fs, hd, hm, hl, q1⟩ => ?_⟩
  subst hd
  cases r1
  obtain ⟨dx, fvs, h1, h2⟩ := s1.ok a _ hm
  refine ⟨a, dx, fvs, rfl, h1, fp_none h2 hl, ha.w F env m1 _ σ H1 _ q1 (o.at s1 e1) fun vs H2 ds m2 e2 s2 r2 q2 => ?_⟩
  rw [List.append_nil]
  exact ⟨F, _, m2, Q, xd, s2, .cons (.adr _) r2, q2, p.at (e1.trans e2), x.at (e1.trans e2)⟩
def xMake (C : Addr) (pre : PreX) (ta : dA) : dEX := fun xd env m Q => ta env m fun ds m1 => ∀ a, m1 a = none → pre (.adr a :: ds) (ups m1 a (.ins C [])) (fun d m2 => d = .non ∧ Q (.adr a) m2) xd
theorem x_make (h : IDefX X.prog X.w K X.mg X.base C k pre) (hr : Room (k + 1) X.A) (tk : L2N.Takes X (fun cls d _ H => E cls d H)) (hm : X.mg x = some (.ref C)) (ha : DA K X (e :: es) ta da) (hg : Gl X x := by rfl) (hdb : (x == ("__debug__" : Str)) = false := by decide)
    (he : starEach (e :: es) X.env = (false, eval e X.env) :: starEach es X.env := by rfl) (hpl : (backTo pos (starEach es X.env)).any (·.1) = false := by rfl) (hK : X.K = K := by rfl) : DEX K X E (.Call (.Name x p) (e :: es) [] pos) (tMake C (spX K pre) [] E ta) (xMake C pre da) := by
  subst hK
  obtain ⟨f, fd, ps, F, M, hb⟩ := h.ex
  refine ⟨pe_make M F hr hg hm hb .nil (L2N.passes_call tk fun _ _ _ _ h => h) ha.p hdb he hpl, fun F xd env m Q σ H R q o p x => ha.w F env m _ σ H _ q o fun vs H1 ds m1 e1 s1 r1 q1 xa dx hx hdx hne => ?_⟩
  rw [List.append_nil]
  have s2 := s1.new (o := .own xa) hdx
  have e2 := Ext.new (o := .own xa) s1 hdx
  have hx2 : (upd H1 dx (.own xa)) xa = none := by rw [upd_ne hne.symm]; exact hx
  have s3 : Stt X.K F (upd (upd H1 dx (.own xa)) xa (.ins C dx [])) (ups m1 xa (.ins C [])) := s2.newM hx2 ⟨dx, [], upd_same, .nil⟩
  have e3 : Ext (hide F (upd H1 dx (.own xa)) m1) (hide F (upd (upd H1 dx (.own xa)) xa (.ins C dx [])) (ups m1 xa (.ins C []))) := Ext.newM s2 hx2
  have e23 := e2.trans e3
  refine ⟨F, _, _, _, xd, s3, .cons (.adr _) (r1.mono e23), q1 xa (s1.free hx), fun v H' d m' e4 s4 r4 ⟨hd, q4⟩ => ?_, x.at (e1.trans e23)⟩
  subst hd
  cases r4
  exact ⟨rfl, p _ H' _ m' ((e1.trans e23).trans e4) s4 (.adr _) q4⟩
end
section
variable {P : Program} {w : World} {K : PySem.W.Frag} {mg : Str → Option Value} {base : Heap}
theorem ok_defX {x qual : Str} {st : Stmt} {f : Addr} {fd : FuncData} {N ps : List Str} {k : Nat} {pre : PreX} (F : Fun K x qual st f fd) (S : FnScope N ps (defScope st)) (len : ∀ ds m Q xd, pre ds m Q xd → ds.length = ps.length)
    (hb : ∀ (cdv : Value) (A : Around) (outer : List PySem.Env) (s : Shared) (H : Hp) (E : XK), Room k (A.deeper (envOfC qual (defScope st) s.heap.objs.size f cdv)) → L2N.Takes (cxOf (L2N.CX P w) P w K mg base N qual (defScope st) f cdv A outer s H E) (fun cls d _ H => E cls d H) →
      PassesOwn (model P w) (cxOf (L2N.CX P w) P w K mg base N qual (defScope st) f cdv A outer s H E).A (cxOf (L2N.CX P w) P w K mg base N qual (defScope st) f cdv A outer s H E).env (cxOf (L2N.CX P w) P w K mg base N qual (defScope st) f cdv A outer s H E).xe →
      ∃ ts t, DSsX K (cxOf (L2N.CX P w) P w K mg base N qual (defScope st) f cdv A outer s H E) E (defBody st) ts t ∧ ∀ ds m Q xd, pre ds m Q xd → t xd { nx := fun _ m' => Q .non m', rt := Q } (startD N.length ds) m) : FnOk P w K mg base (L2N.CX P w) (k + 1) f fd ps (spX K pre) := by
  refine F.okG (L2N.CX P w) S (fun vs H Q E h => ?_) (fun cdv A outer s H vs Q E hr h => ?_)
  · obtain ⟨F', ds, m, Q', xd, s', r, p, _⟩ := h
    rw [r.length]
    exact len _ _ _ _ p
  · obtain ⟨F', ds, m, Q', xd, s', r, p, k', x'⟩ := h
    obtain ⟨ts, t, b, q⟩ := hb cdv A outer s H E hr (L2N.takes_of rfl rfl rfl rfl) (passes_of rfl)
    refine ⟨ts, b.p, b.w F' xd _ (startD N.length ds) m (L2.start N vs) H _ (q ds m Q' xd p) ⟨s', startD_ok r⟩ ⟨fun σ' H' env' m' ex o' q' => k' _ H' _ m' ex o'.st .non q', k', fun _ _ _ _ _ _ z => z.elim, fun _ _ _ _ _ _ z => z.elim⟩ x'⟩
/-- two promises of one def -/
theorem FnOk.or {CX : CXT} {k : Nat} {f : Addr} {fd : FuncData} {ps : List Str} {sp sp' : Sp} (F : FnOk P w K mg base CX k f fd ps sp) (G : FnOk P w K mg base CX k f fd ps sp') : FnOk P w K mg base CX k f fd ps (fun vs H Q E => sp vs H Q E ∨ sp' vs H Q E) :=
  ⟨fun vs H Q E h => h.elim (F.len vs H Q E) (G.len vs H Q E), fun A outer s H args us vs Q E hr he hb hv h => h.elim (F.run A outer s H args us vs Q E hr he hb hv) (G.run A outer s H args us vs Q E hr he hb hv)⟩
end
end Dq

/-! closures: called -/
namespace Dq
open PySem PySem.Spec L2 PyProof.Rows
/-- at b stands o, out of reach of what is tracked and of the frames -/
structure Rest (fs : List Addr) (H : Hp) (h : Heap) (b : Addr) (o : Obj) : Prop where
  at_ : h.get? b = some o
  un : H b = none
  nf : b ∉ fs
theorem Rest.keep {fs fs' ex : List Addr} {H H' : Hp} {h h' : Heap} {b : Addr} {o : Obj} (r : Rest fs H h b o) (u : Un fs' ex H H' h h') (h1 : b ∉ fs') (h2 : b ∉ ex) {fs2 : List Addr} (h3 : b ∉ fs2) : Rest fs2 H' h' b o :=
  ⟨u.keep b o r.at_ r.un h1 h2, u.free b o r.at_ r.un h2, h3⟩
/-- a closure of the text T at f: its captured names N hold vs (their cells are out of reach) -/
structure CloAt (T : LamT) (N : List Str) (f : Addr) (vs : List V) (fs : List Addr) (H : Hp) (h : Heap) : Prop where
  ex : ∃ (cl : List (Str × Addr)) (pm : Value) (c : Addr) (ct dV doc : Value), H f = some (exactO f (lamObj T cl pm c ct dV doc)) ∧ H c = some (LamX.CodeO c T.qual) ∧ DvOk H T.dv dV ∧
    (∀ y z a, cl.lookup y = some a → cl.lookup z = some a → y = z) ∧ (∀ y a, cl.lookup y = some a → y ∈ N) ∧ vs.length = N.length ∧
    ∀ (i : Nat) (y : Str) (v : V), N[i]? = some y → vs[i]? = some v → ∃ a o u, cl.lookup y = some a ∧ Rest fs H h a o ∧ o.data = .cell (some u) ∧ RelV v u
theorem CloAt.keep {T : LamT} {N : List Str} {f : Addr} {vs : List V} {fs fs' fs2 : List Addr} {H : Hp} {h h' : Heap} (c : CloAt T N f vs fs H h) (u : Un fs' [] H H h h') (h1 : ∀ b, b ∉ fs → b ∉ fs') (h2 : ∀ b o, h.get? b = some o → b ∉ fs → b ∉ fs2) : CloAt T N f vs fs2 H h' := by
  obtain ⟨cl, pm, c', ct, dV, doc, r1, r2, r3, e3, e4, e5, e6⟩ := c.ex
  refine ⟨cl, pm, c', ct, dV, doc, r1, r2, r3, e3, e4, e5, fun i y v a b => ?_⟩
  obtain ⟨ad, o, w, g1, g2, g3, g4⟩ := e6 i y v a b
  exact ⟨ad, o, w, g1, g2.keep u (h1 _ g2.nf) (by simp) (h2 _ _ g2.at_ g2.nf), g3, g4⟩
/-- a lambda's names: captured ones and globals -/
structure LamSc (T : LamT) (N : List Str) : Prop where
  kind : T.scope.kind = .function
  co : T.scope.isCoroutine = false
  gen : T.scope.isGenerator = false
  own : ∀ y ∈ T.scope.names, y.2 ≠ .cell ∧ (y.2 = .local → y.1 ∉ N)
  free : ∀ y ∈ T.scope.names, y.2 = .free → y.1 ∈ N
/-- the frame of a lambda's call -/
abbrev lamEnv (T : LamT) (cl : List (Str × Addr)) (L f c : Addr) : PySem.Env := PySem.W.envX T.qual T.scope L f (.ref c) cl
section
variable {P : Program} {w : World} {K : PySem.W.Frag} {mg : Str → Option Value} {base : Heap}
def lamC (P : Program) (w : World) (K : PySem.W.Frag) (mg : Str → Option Value) (base : Heap) (T : LamT) (N : List Str) (cl : List (Str × Addr)) (A : Around) (outer : List PySem.Env) (s : Shared) (H : Hp) (E : XK) (f c : Addr) : Cx :=
  { prog := P, w := w, K := K, mg := mg, base := base, N := N, s_0 := s, H_0 := H, outer := outer, ex := [], calm := true, pn := []
    A := A.deeper (lamEnv T cl s.heap.objs.size f c)
    env := lamEnv T cl s.heap.objs.size f c
    stack := lamEnv T cl s.heap.objs.size f c :: outer
    fn := fun _ => false
    xe := fun e s1 => wpAny (model P w) (A.deeper (lamEnv T cl s.heap.objs.size f c)) (leaving (lamEnv T cl s.heap.objs.size f c) e) (fun _ s2 => L2N.CX P w outer H s E e s2) (fun e2 s2 => L2N.CX P w outer H s E e2 s2) s1 }
/-- the frame is entered -/
theorem lam_enter {T : LamT} {N : List Str} {cl : List (Str × Addr)} {A : Around} {outer : List PySem.Env} {s : Shared} {H : Hp} {E : XK} {f c : Addr} {vs : List V} {h1 : Heap} {tk : Nat} (L : LamSc T N) (e0 : Env0 P w K mg base A outer s H) (calm : A.handled = none)
    (inj : ∀ y z a, cl.lookup y = some a → cl.lookup z = some a → y = z) (dom : ∀ y a, cl.lookup y = some a → y ∈ N) (len : vs.length = N.length)
    (cells : ∀ (i : Nat) (y : Str) (v : V), N[i]? = some y → vs[i]? = some v → ∃ a o u, cl.lookup y = some a ∧ Rest (frs outer) H s.heap a o ∧ o.data = .cell (some u) ∧ RelV v u)
    {mL : Str → Option Value} (hns : h1.Ns s.heap.objs.size mL) (kp : ∀ b o, s.heap.get? b = some o → h1.get? b = some o) :
    Inv (lamC P w K mg base T N cl A outer s H E f c) [] (vs.map some) H { s with heap := h1, toks := tk } := by
  have at_ : ∀ {y a}, cl.lookup y = some a → ∃ o u, Rest (frs outer) H s.heap a o ∧ o.data = .cell (some u) := by
    intro y a e
    obtain ⟨i, hi⟩ := List.getElem?_of_mem (dom y a e)
    have hl : i < vs.length := by rw [len]; exact (List.getElem?_eq_some_iff.mp hi).1
    obtain ⟨a', o, u, g1, g2, g3, _⟩ := cells i y _ hi (List.getElem?_eq_getElem hl)
    rw [e] at g1
    cases g1
    exact ⟨o, u, g2, g3⟩
  have kinds : ∀ {y k}, T.scope.names.lookup y = some k → k ≠ .cell ∧ (k = .local → y ∉ N) := fun h => L.own _ (PySem.mem_of_lookup h)
  have got : ∀ {y}, T.scope.names.lookup y = some .free → ∃ a, cl.lookup y = some a := by
    intro y h
    obtain ⟨i, hi⟩ := List.getElem?_of_mem (L.free _ (PySem.mem_of_lookup h) rfl)
    have hl : i < vs.length := by rw [len]; exact (List.getElem?_eq_some_iff.mp hi).1
    obtain ⟨a, _, _, g1, _⟩ := cells i y _ hi (List.getElem?_eq_getElem hl)
    exact ⟨a, g1⟩
  have ok : (lamC P w K mg base T N cl A outer s H E f c).Ok :=
    { mod := e0.mod, kind := L.kind, glob := rfl, blt := rfl, above := Nat.le_refl _, inj := inj, frames := Around.frames_deeper e0.frames, stk := .inr ⟨rfl, rfl⟩, bs := e0.bs, bsz := e0.bsz, funs := e0.funs, frf := e0.frf
      has := fun y hy => by
        have hy : T.scope.names.lookup y = some .cell ∨ T.scope.names.lookup y = some .free := hy
        rcases hy with h | h
        · exact absurd rfl (kinds h).1
        · exact got h
      cab := fun y a z _ => absurd (show false = true from z) (by decide)
      hd := fun _ => calm
      exf := fun b z => absurd (show b ∈ ([] : List Addr) from z) (by simp)
      noex := fun b o _ z => absurd (show b ∈ ([] : List Addr) from z) (by simp)
      exfs := fun b z => absurd (show b ∈ ([] : List Addr) from z) (by simp) }
  refine { ok := ok, os := rfl, bare := e0.bare, base := Un.kept kp, loc := ⟨_, hns, ?_⟩, cell := ?_, free := e0.hok.fresh (Nat.le_refl _), freeC := ?_, pin := ?_, hok := e0.hok.kept kp, len := by rw [List.length_map]; exact len }
  · intro i y v hy hv vis
    have hv : vs[i]? = some v := by
      rw [List.getElem?_map] at hv
      obtain ⟨v', e, e'⟩ := Option.map_eq_some_iff.mp hv
      cases e'
      exact e
    obtain ⟨a, o, u, g1, g2, g3, g4⟩ := cells i y v hy hv
    have vis : Vis T.scope y := vis
    have fr : T.scope.names.lookup y = some .free := by
      rcases vis with h | h | h
      · exact absurd (List.mem_of_getElem? hy) ((kinds h).2 rfl)
      · exact absurd rfl (kinds h).1
      · exact h
    exact ⟨u, g4, .inr ⟨.inr fr, a, g1, o, kp _ _ g2.at_, g3⟩⟩
  · intro y a e
    obtain ⟨o, u, r, d⟩ := at_ e
    exact ⟨some u, o, kp _ _ r.at_, d⟩
  · intro y a e
    obtain ⟨o, u, r, d⟩ := at_ e
    exact r.un
  · intro p hp
    exact absurd (show p ∈ ([] : List (Addr × Obj)) ++ [] from hp) (by simp)
/-- what the text T promises of its closures, by their captured values -/
structure LamOk (P : Program) (w : World) (K : PySem.W.Frag) (mg : Str → Option Value) (base : Heap) (k : Nat) (T : LamT) (N : List Str) (sp : Sp) : Prop where
  run : ∀ (A : Around) (outer : List PySem.Env) (s : Shared) (H : Hp) (f : Addr) (vs : List V) (Q : VK) (E : XK), Room k A → Env0 P w K mg base A outer s H → CloAt T N f vs (frs outer) H s.heap → sp vs H Q E →
    codeAny (model P w) A (.call (.ref f) ⟨[], []⟩) (CR (L2N.CX P w) outer P w H s Q E) s
/-- the call binds nothing but names that are not captured -/
def LamBd (T : LamT) (N : List Str) : Prop := ∀ (cl : List (Str × Addr)) (pm cv ct dV doc : Value) (us : List Value) (s : Shared), (T.dv = [] ∧ dV = .none ∨ ∃ t, dV = .ref t ∧ s.heap.get? t = some (PySem.W.kdv_tup us) ∧ Vals (T.dv.map .int) us ∧ T.dv ≠ []) →
  ∃ binds, BindsTo s (PySem.W.kdv_fn "<lambda>" T.qual T.params (.expr T.body) T.scope cl dV doc pm cv ct) ⟨[], []⟩ binds ∧ ∀ y ∈ binds, T.scope.names.lookup y.1 = some .local
theorem lamBd_nil {T : LamT} {N : List Str} (hd : T.dv = []) (h : ∀ (cl : List (Str × Addr)) (pm cv ct doc : Value), bindArgs (PySem.W.kdv_fn "<lambda>" T.qual T.params (.expr T.body) T.scope cl .none doc pm cv ct) ⟨[], []⟩ = pure []) : LamBd T N := fun cl pm cv ct dV doc us s q => by
  rcases q with ⟨_, rfl⟩ | ⟨t, rfl, h1, h2⟩
  · exact ⟨[], .of_eq (h _ _ _ _ _), by simp⟩
  · exact absurd hd h2.2
/-- .. by its body -/
theorem lam_of {k : Nat} {T : LamT} {N : List Str} {sp : Sp} (L : LamSc T N) (bind : LamBd T N)
    (body : ∀ (A : Around) (outer : List PySem.Env) (s : Shared) (H : Hp) (E : XK) (cl : List (Str × Addr)) (f c : Addr), Room k (A.deeper (lamEnv T cl s.heap.objs.size f c)) → ∃ te, PE (lamC P w K mg base T N cl A outer s H E f c) T.body te ∧ ∀ vs Q, sp vs H Q E → te (vs.map some) H Q) :
    LamOk P w K mg base (k + 1) T N sp := by
  refine ⟨fun A outer s H f vs Q E room e0 clo want => ?_⟩
  obtain ⟨cl, pm, c, ct, dV, doc, r1, r2, r3, inj, dom, len, cells⟩ := clo.ex
  have hf : ObjOk P w H s.heap f (.ext fun h => h.get? f = some (lamObj T cl pm c ct dV doc)) := e0.hok f _ r1
  have hc : ObjOk P w H s.heap c (LamX.CodeO c T.qual) := e0.hok c _ r2
  obtain ⟨⟨oc, fv, t, at_, e1, e2⟩, _, _⟩ := hc
  obtain ⟨te, pe, q⟩ := body A outer s H E cl f c (room.deeper _)
  have lim : s.heap.NoLimit := e0.mod.nolimit.keeps fun b o e => (e0.bs b o e).1
  obtain ⟨us, hus⟩ : ∃ us, T.dv = [] ∧ dV = .none ∨ ∃ t, dV = .ref t ∧ s.heap.get? t = some (PySem.W.kdv_tup us) ∧ Vals (T.dv.map .int) us ∧ T.dv ≠ [] := by
    rcases r3 with h | ⟨t, us, h1, h2, h3⟩
    · exact ⟨[], .inl h⟩
    · have z : ObjOk P w H s.heap t (.ext fun h => h.get? t = some (PySem.W.kdv_tup us)) := e0.hok t _ h2
      exact ⟨us, .inr ⟨t, h1, z.1, h3⟩⟩
  obtain ⟨binds, bd, loc⟩ := bind cl pm (.ref c) ct dV doc us s hus
  apply PySem.W.kla_callFunE room.depth hf.1 rfl L.co L.gen rfl ⟨c, oc, fv, t, rfl, at_, e1, e2⟩
  refine bd _ _ _ _ (wpAny_newFunctionEnv (fun y hy => (L.own y hy).1) loc (fun h1 hns hsb => ⟨lim.fresh _ hsb, ?_⟩) L.kind)
  have kp : ∀ b o, s.heap.get? b = some o → h1.get? b = some o := fun b o e => hsb.extBut b o (Nat.ne_of_lt (Heap.lt_size e)) (Heap.get?_push_of_some _ e)
  have I := lam_enter (E := E) (f := f) (c := c) (tk := s.toks + binds.length) L e0 room.hd inj dom len cells hns kp
  show codeAny _ _ (.expr T.body (lamEnv T cl s.heap.objs.size f c)) _ _
  apply PySem.W.kla_codeExpr
  refine wpAny_mono (pe.run [] _ _ H Q I (q vs Q want)) ?_ fun e s2 z => z
  rintro v s2 ⟨x, H2, J, rel, z⟩
  exact ⟨x, H2, J.os, J.bare, J.base, J.hok, rel, z⟩
end
end Dq

/-! closures: made -/
namespace Dq
open PySem PySem.Spec L2 PyProof.Rows
theorem exact_ok {P : Program} {w : World} {H : Hp} {h : Heap} {a : Addr} {o : Obj} (e : h.get? a = some o) : ObjOk P w H h a (exactO a o) := ⟨e, ⟨o, e⟩, fun _ _ z st => st _ z⟩
theorem exact_at {P : Program} {w : World} {H : Hp} {h : Heap} {a : Addr} {o : Obj} (ok : HOk P w H h) (e : H a = some (exactO a o)) : h.get? a = some o := by
  have z : ObjOk P w H h a (.ext fun h => h.get? a = some o) := ok a _ e
  exact z.1
/-- a closure over the cells: it holds those of the names N -/
structure CloF (cells : List (Str × Addr)) (N : List Str) (cl : List (Str × Addr)) : Prop where
  inj : ∀ y z a, cl.lookup y = some a → cl.lookup z = some a → y = z
  dom : ∀ y a, cl.lookup y = some a → y ∈ N
  all : ∀ y ∈ N, ∃ a, cl.lookup y = some a ∧ cells.lookup y = some a
theorem lookup_of_mem {y : Str} {a : Addr} : ∀ {l : List (Str × Addr)}, (y, a) ∈ l → ∃ b, l.lookup y = some b
  | [], h => by cases h
  | (z, b) :: l, h => by
    unfold List.lookup
    cases e : y == z with
    | true => exact ⟨b, rfl⟩
    | false =>
      rcases List.mem_cons.mp h with h | h
      · cases h
        simp at e
      · exact lookup_of_mem h
theorem cloF_of {cells : List (Str × Addr)} {names : List (Str × NameKind)} {N : List Str} (inj : ∀ y z a, cells.lookup y = some a → cells.lookup z = some a → y = z) (free : ∀ y ∈ names, y.2 = .free → ∃ c, cells.lookup y.1 = some c) (n1 : ∀ z ∈ names, z.2 = .free → z.1 ∈ N) (n2 : ∀ y ∈ N, (y, NameKind.free) ∈ names) : CloF cells N (cloFrom cells names []) := by
  have key : ∀ {y a}, (cloFrom cells names []).lookup y = some a → (y, NameKind.free) ∈ names ∧ cells.lookup y = some a := fun {y a} h => by
    rcases cloFrom_mem (PySem.mem_of_lookup h) with z | ⟨hm, rfl⟩
    · cases z
    · obtain ⟨c, e⟩ := free (y, NameKind.free) hm rfl
      have e : cells.lookup y = some c := e
      rw [e]
      exact ⟨hm, rfl⟩
  refine ⟨fun y z a h1 h2 => inj y z a (key h1).2 (key h2).2, fun y a h => n1 (y, NameKind.free) (key h).1 rfl, fun y hy => ?_⟩
  obtain ⟨a, ha⟩ := lookup_of_mem (cloFrom_has (cells := cells) (acc := []) (n2 y hy))
  exact ⟨a, ha, (key ha).2⟩
/-- the reading of a lambda: the table at p grows by the code at c at the most, the closure is new -/
def tMkLam (p : Addr) (cells : List (Str × Addr)) (N : List Str) (T : LamT) : TE := fun _ H Q => ∃ ps : Array Value, H p = some (.tbl ps) ∧ TriplesOk ps.toList ∧ (∀ (pos : Pos) (cv : Value), codeAmong pos ps.toList = some cv → ∃ c, cv = .ref c ∧ H c = some (LamX.CodeO c T.qual)) ∧
  ∀ (H1 : Hp) (ps1 : Array Value) (f c : Addr) (cl : List (Str × Addr)) (pm ct dV doc : Value), CloF cells N cl → (∀ b u, b ≠ p → H b = some u → H1 b = some u) → H1 p = some (.tbl ps1) → TriplesOk ps1.toList → (∀ (pos : Pos) (cv : Value), codeAmong pos ps1.toList = some cv → (∃ pos, codeAmong pos ps.toList = some cv) ∨ cv = .ref c) →
    H1 c = some (LamX.CodeO c T.qual) → (H c = none ∨ ∃ pos, codeAmong pos ps.toList = some (.ref c)) → DvOk H1 T.dv dV → (∀ t, dV = .ref t → H t = none) → H1 f = none → Q (.ref f) (upd H1 f (exactO f (lamObj T cl pm c ct dV doc)))
section
variable {X : Cx}
/-- .. behind its defaults -/
theorem mk_tail {N : List Str} {params : Arguments} {body : Expr} {scope : Scope} {pos : Pos} {c0 p : Addr} {dv : List Int} {dV : Value} {H0 : Hp} {pins : List (Addr × Obj)} {σ : L2.St} {H : Hp} {s : Shared} {Q : VK} (TB : LamX.TabB X.base X.mg c0 p) (code : X.env.code = .ref c0) (fk : ∀ y ∈ scope.names, y.2 = .free → X.env.scope.names.lookup y.1 = some .cell) (n1 : ∀ z ∈ scope.names, z.2 = .free → z.1 ∈ N) (n2 : ∀ y ∈ N, (y, NameKind.free) ∈ scope.names)
    (I : Inv X pins σ H s) (old : ∀ b u, H0 b = some u → H b = some u) (dd : DvOk H dv dV) (dn : ∀ t, dV = .ref t → H0 t = none ∧ t ≠ p) (want : tMkLam p X.env.cells N ⟨params, body, scope, X.env.qual ++ "<lambda>", dv⟩ σ H0 Q) :
    wpAny (model X.prog X.w) X.A (makeTail "<lambda>" (X.env.qual ++ "<lambda>") params (.expr body) scope X.env dV .none none pos pos.line) (EP X pins σ Q) X.xe s := by
  obtain ⟨ps, tab0, three, codes, q⟩ := want
  have free : ∀ y ∈ scope.names, y.2 = .free → ∃ c, X.env.cells.lookup y.1 = some c := fun y hy e => I.ok.has y.1 (.inl (fk y hy e))
  have clo : CloF X.env.cells N (cloFrom X.env.cells scope.names []) := cloF_of I.ok.inj free n1 n2
  have tab : H p = some (.tbl ps) := old p _ tab0
  have there : s.heap.get? p = some { cls := .none, data := .fields ps } := I.hok p _ tab
  have built : s.heap.BuiltinsAt X.mg p := TB.bm.keeps I.bk
  -- the function object is laid upon a state that knows its code
  have lay : ∀ {h1 : Heap} {tk : Tok} {H1 : Hp} {ps1 : Array Value} {c : Addr} {ct doc : Value}, Inv X pins σ H1 { s with heap := h1, toks := tk } → (∀ b u, b ≠ p → H b = some u → H1 b = some u) → H1 p = some (.tbl ps1) → TriplesOk ps1.toList → (∀ (pos : Pos) (cv : Value), codeAmong pos ps1.toList = some cv → (∃ pos, codeAmong pos ps.toList = some cv) ∨ cv = .ref c) →
      H1 c = some (LamX.CodeO c (X.env.qual ++ "<lambda>")) → (H0 c = none ∨ ∃ pos, codeAmong pos ps.toList = some (.ref c)) →
      EP X pins σ Q (.ref h1.objs.size) { s with heap := h1.push (lamObj ⟨params, body, scope, X.env.qual ++ "<lambda>", dv⟩ (cloFrom X.env.cells scope.names []) ((X.mg "__name__").getD .none) c ct dV doc), toks := tk } := by
    intro h1 tk H1 ps1 c ct doc J grow tab1 three1 codes1 hc was
    have new : H1 h1.objs.size = none := J.hok.fresh (Nat.le_refl _)
    have J2 := J.laid (t' := tk) (a := h1.objs.size) (o := exactO h1.objs.size (lamObj ⟨params, body, scope, X.env.qual ++ "<lambda>", dv⟩ (cloFrom X.env.cells scope.names []) ((X.mg "__name__").getD .none) c ct dV doc)) (fun b o e => Heap.get?_push_of_some _ e) (Nat.le_refl _) (exact_ok (Heap.get?_push_size _ rfl))
    refine ⟨.ref h1.objs.size, _, J2, rfl, q H1 ps1 h1.objs.size c _ _ ct dV doc clo (fun b u n e => grow b u n (old b u e)) tab1 three1 codes1 hc was ?_ (fun t e => (dn t e).1) new⟩
    rcases dd with h | ⟨t, us, e1, e2, e3⟩
    · exact .inl h
    · exact .inr ⟨t, us, e1, grow t _ (dn t e1).2 e2, e3⟩
  cases among : codeAmong pos ps.toList with
  | some cv =>
    obtain ⟨c, rfl, hc⟩ := codes pos cv among
    refine PySem.W.kdv_makeTailHit (mg := X.mg) (c := c0) (P := p) (ps := ps) (closure_ok free) I.ok.glob (I.mod.glob.keeps I.bk) code (TB.code.keeps I.bk) there three among built fun ct doc h1 tk kept size => ?_
    exact lay (I.kept kept) (fun b u _ e => e) tab three (fun p2 cv h => .inl ⟨p2, h⟩) (old _ _ hc) (.inr ⟨pos, among⟩)
  | none =>
    refine PySem.W.kdv_makeTail (mg := X.mg) (c := c0) (P := p) (ps := ps) (closure_ok free) I.ok.glob (I.mod.glob.keeps I.bk) code (TB.code.keeps I.bk) there three among TB.gP built fun c ct doc h1 tk kept ge lt record grown => ?_
    obtain ⟨c2, oc, fv, t, e2, hoc, hd, hv⟩ := record
    cases e2
    have newC : H c = none := I.hok.fresh ge
    have newC0 : H0 c = none := by
      cases z : H0 c with
      | none => rfl
      | some u =>
        rw [old c u z] at newC
        cases newC
    have pc : p ≠ c := by
      rintro rfl
      rw [tab] at newC
      cases newC
    have J := LamX.inv_table (t' := tk) (more := #[rawInt pos.line, rawInt pos.col, .ref c]) (q := X.env.qual ++ "<lambda>") I tab (fun b o hb e => kept b o hb e) grown ge ⟨oc, fv, t, hoc, hd, hv⟩
    refine lay J (fun b u hb e => ?_) (by rw [upd_ne pc, upd_same]) ?_ (fun p2 cv h => ?_) upd_same (.inl newC0)
    · rw [upd_ne (ne_of_none e newC), upd_ne hb]
      exact e
    · rw [Array.toList_append]
      exact PySem.TriplesOk_snoc _ _ _ _ three
    · rw [Array.toList_append] at h
      rcases LamX.among_app _ three h with h | h
      · exact .inl ⟨p2, h⟩
      · exact .inr h
theorem pe_mklam {N : List Str} {params : Arguments} {body : Expr} {scope : Scope} {pos : Pos} {c0 p : Addr} (TB : LamX.TabB X.base X.mg c0 p) (code : X.env.code = .ref c0) (nodef : defaultsOf params X.env = ([], [])) (fk : ∀ y ∈ scope.names, y.2 = .free → X.env.scope.names.lookup y.1 = some .cell) (n1 : ∀ z ∈ scope.names, z.2 = .free → z.1 ∈ N) (n2 : ∀ y ∈ N, (y, NameKind.free) ∈ scope.names) :
    PE X (.Lambda params body scope pos) (tMkLam p X.env.cells N ⟨params, body, scope, X.env.qual ++ "<lambda>", []⟩) := by
  refine ⟨fun pins s σ H Q I want => ?_⟩
  apply PySem.W.kla_eval nodef
  rw [makeFunction_eq]
  simp only [List.zip_nil_right, List.filterMap_nil, List.isEmpty_nil, if_true, pure_bind]
  exact mk_tail TB code fk n1 n2 I (fun _ _ e => e) (.inl ⟨rfl, rfl⟩) (fun t e => by cases e) want
/-- one default, a number -/
theorem pe_mklam1 {N : List Str} {params : Arguments} {body e : Expr} {scope : Scope} {pos : Pos} {c0 p : Addr} {n : Int} (TB : LamX.TabB X.base X.mg c0 p) (code : X.env.code = .ref c0) (hd : params.defaults = [e]) (hk : params.kw_defaults = []) (he : PE X e (tC (.int n))) (fk : ∀ y ∈ scope.names, y.2 = .free → X.env.scope.names.lookup y.1 = some .cell) (n1 : ∀ z ∈ scope.names, z.2 = .free → z.1 ∈ N) (n2 : ∀ y ∈ N, (y, NameKind.free) ∈ scope.names) :
    PE X (.Lambda params body scope pos) (tMkLam p X.env.cells N ⟨params, body, scope, X.env.qual ++ "<lambda>", [n]⟩) := by
  refine ⟨fun pins s σ H Q I want => ?_⟩
  refine PySem.W.kdv_lam (by rw [hd]; rfl) hk ?_
  rw [hd]
  refine PySem.W.kdv_all1 (thn (he.run pins s σ H (fun v H1 => v = .int n ∧ H1 = H) I ⟨rfl, rfl⟩) ?_)
  rintro u s1 ⟨v, H1, J, r, rfl, rfl⟩
  refine PySem.W.kdv_all0 ?_
  rw [makeFunction_eq]
  simp only [List.zip_nil_right, List.filterMap_nil, List.isEmpty_nil, List.isEmpty_cons, Bool.false_eq_true, if_false, if_true, pure_bind]
  refine wpAny_bind (wpAny_newTextTuple ?_)
  have new : H1 s1.heap.objs.size = none := J.hok.fresh (Nat.le_refl _)
  have J2 := J.laid (t' := s1.toks) (a := s1.heap.objs.size) (o := exactO s1.heap.objs.size (PySem.W.kdv_tup [u])) (fun b o e => Heap.get?_push_of_some _ e) (Nat.le_refl _) (exact_ok (Heap.get?_push_size _ rfl))
  obtain ⟨ps, tab0, _⟩ := id want
  refine mk_tail TB code fk n1 n2 J2 (fun b u e => by rw [upd_ne (ne_of_none e new)]; exact e) (.inr ⟨s1.heap.objs.size, [u], rfl, upd_same, (show Vals ([n].map V.int) [u] from .cons r .nil), by simp⟩) (fun t e => ?_) want
  cases e
  exact ⟨new, fun z => by rw [z, tab0] at new; cases new⟩
end
/-! deep -/
def dMkLam (p : Addr) (cells : List (Str × Addr)) (N : List Str) (T : LamT) : dE := fun _ m Q => m p = some (.tab T.qual) ∧ ∀ f cl, CloF cells N cl → m f = none → Q (.adr f) (ups m f (.clo T cl))
theorem WE.mklam {K : PySem.W.Frag} {p : Addr} {cells : List (Str × Addr)} {N : List Str} {T : LamT} : WE K (tMkLam p cells N T) (dMkLam p cells N T) := fun F env m Q σ H R q o k => by
  obtain ⟨hp, q⟩ := q
  have s := o.st
  obtain ⟨ps, h1, h2, h3⟩ := s.ok p _ hp
  refine ⟨ps, h1, h2, fun pos cv hc => ?_, fun H1 ps1 f c cl pm ct dV doc clo grow tab1 three1 codes1 hcode old hdv hdn hf => ?_⟩
  · obtain ⟨c, e1, e2⟩ := h3 pos cv hc
    exact ⟨c, e1, hide_le e2⟩
  have ntab : ∀ {b u}, H b = some u → b ≠ p → H1 b = some u := fun e hb => grow _ _ hb e
  have unp : ∀ {b}, m b = none → b ≠ p := by
    rintro b e rfl
    rw [hp] at e
    cases e
  have vis1 : ∀ a u, hide F H m a = some u → hide F H1 m a = some u := fun a u e => by
    rw [hide_at (hide_un e).1 (hide_un e).2]
    exact ntab (hide_le e) (unp (hide_un e).1)
  have ex1 : Ext (hide F H m) (hide F H1 m) := Ext.same vis1
  have known : ∀ {a pos}, codeAmong pos ps.toList = some (.ref a) → hide F H1 m a = some (LamX.CodeO a T.qual) := fun {a pos} e => by
    obtain ⟨c2, e1, e2⟩ := h3 pos _ e
    cases e1
    exact ex1.ext _ _ e2
  have seen : hide F H1 m c = some (LamX.CodeO c T.qual) := by
    rcases old with hn | ⟨pos, hc⟩
    · rw [hide_at (s.free hn) (s.freeF hn)]
      exact hcode
    · exact known hc
  have st1 : Stt K F H1 m := by
    refine ⟨fun b u e => ?_, fun b u e => ?_, s.ft⟩
    · obtain ⟨g1, g2⟩ := s.fr b u e
      exact ⟨ntab g1 (unp g2), g2⟩
    · by_cases hb : b = p
      · subst hb
        rw [hp] at e
        cases e
        refine ⟨ps1, tab1, three1, fun pos cv hc => ?_⟩
        rcases codes1 pos cv hc with ⟨pos2, h⟩ | h
        · obtain ⟨c2, e1, e2⟩ := h3 pos2 cv h
          exact ⟨c2, e1, ex1.ext _ _ e2⟩
        · exact ⟨c, h, seen⟩
      · obtain ⟨u2, hu⟩ := (s.ok b u e).there
        exact (s.ok b u e).mono (by rw [hu]; exact ntab hu hb) ex1
  have ex2 : Ext (hide F H1 m) (hide F (upd H1 f (exactO f (lamObj T cl pm c ct dV doc))) (ups m f (.clo T cl))) := Ext.newM st1 hf
  refine k _ _ (.adr f) _ (ex1.trans ex2) (st1.newM hf ⟨pm, ct, c, dV, doc, upd_same, ex2.ext _ _ seen, ?_⟩) (.adr f) (q f cl clo (st1.free hf))
  rcases hdv with h | ⟨t, us, e1, e2, e3⟩
  · exact .inl h
  · have n := hdn t e1
    exact .inr ⟨t, us, e1, ex2.ext _ _ (by rw [hide_at (s.free n) (s.freeF n)]; exact e2), e3⟩
section
variable {K : PySem.W.Frag} {X : Cx}
theorem d_mklam {N : List Str} {params : Arguments} {body : Expr} {scope : Scope} {pos : Pos} {c0 p : Addr} (TB : LamX.TabB X.base X.mg c0 p) (code : X.env.code = .ref c0) (fk : ∀ y ∈ scope.names, y.2 = .free → X.env.scope.names.lookup y.1 = some .cell) (n1 : ∀ z ∈ scope.names, z.2 = .free → z.1 ∈ N) (n2 : ∀ y ∈ N, (y, NameKind.free) ∈ scope.names) (nodef : defaultsOf params X.env = ([], []) := by rfl) :
    DE K X (.Lambda params body scope pos) (tMkLam p X.env.cells N ⟨params, body, scope, X.env.qual ++ "<lambda>", []⟩) (dMkLam p X.env.cells N ⟨params, body, scope, X.env.qual ++ "<lambda>", []⟩) :=
  ⟨pe_mklam TB code nodef fk n1 n2, .mklam⟩
theorem d_mklam1 {N : List Str} {params : Arguments} {body e : Expr} {scope : Scope} {pos : Pos} {c0 p : Addr} {n : Int} (TB : LamX.TabB X.base X.mg c0 p) (code : X.env.code = .ref c0) (he : PE X e (tC (.int n))) (fk : ∀ y ∈ scope.names, y.2 = .free → X.env.scope.names.lookup y.1 = some .cell) (n1 : ∀ z ∈ scope.names, z.2 = .free → z.1 ∈ N) (n2 : ∀ y ∈ N, (y, NameKind.free) ∈ scope.names) (hd : params.defaults = [e] := by rfl) (hk : params.kw_defaults = [] := by rfl) :
    DE K X (.Lambda params body scope pos) (tMkLam p X.env.cells N ⟨params, body, scope, X.env.qual ++ "<lambda>", [n]⟩) (dMkLam p X.env.cells N ⟨params, body, scope, X.env.qual ++ "<lambda>", [n]⟩) :=
  ⟨pe_mklam1 TB code hd hk he fk n1 n2, .mklam⟩
end
end Dq

/-! a comprehension over a list, also where an exception is handled; what is known of the state at its start may be used within -/
namespace HotX
open PySem PySem.Spec PyProof.Rows
/-- a list's iterator at its end, an exception being handled -/
theorem list_end_hot {prog : Program} {w : World} {A : Around} {E : Value → Shared → Prop} {s : Shared} {it l x1 : Addr} {i : Nat} {items : Array Value} {Q : Option Value → Shared → Prop} (hot : HotAt A x1 s.heap) (hit : s.heap.IsListIter it l i) (hl : s.heap.IsList l items) (hend : items[i]? = none)
    (hne : x1 ≠ it) (hQ : ∀ h', (∀ b o, b ≠ it → s.heap.get? b = some o → h'.get? b = some o) → Q none { s with heap := h' }) : wpAny (model prog w) A (pyNext (.ref it)) Q E s := by
  obtain ⟨oi, hoi, hci, hdi⟩ := id hit
  obtain ⟨ol, hol, _, nl, hdl⟩ := hl
  obtain ⟨hh, o1, vs1, h1, d1, c1⟩ := hot
  have slot := slot_listiter_next
  unfold pyNext
  apply wpAny_bind
  apply wpAny_attempt
  apply wpAny_callSpecial?_slot (name := Str.ofString "__next__") hit.typeIs slot
  refine wpAny_call_entry slot hit.typeIs entry_listiter_next ?_ (args_listiter_next _)
  change wpAny _ _ (Bind.bind (field (Value.ref it) 0) _) _ _ _
  have notNone : ¬ ((Value.ref l == Value.none) = true) := Bool.false_ne_true
  repeat (first
    | with_reducible refine wpAny_field hoi hdi (x := .ref l) rfl ?_
    | with_reducible refine wpAny_field hoi hdi (x := .int i 0) rfl ?_
    | with_reducible refine wpAny_seqItems hol hdl ?_
    | (rw [if_neg notNone])
    | with_reducible refine wpAny_bind ?_
    | with_reducible refine wpAny_rule ?_
    | simp only [Int.toNat_natCast, hend])
  refine wpAny_setField hoi hdi (by simp) ?_
  have hot2 : (s.heap.update it (Obj.mapFields (·.setIfInBounds 0 Value.none))).get? x1 = some o1 := by rw [Heap.get?_update_ne _ _ _ _ hne]; exact h1
  have keep2 : ∀ b o, b ≠ it → s.heap.get? b = some o → (s.heap.update it (Obj.mapFields (·.setIfInBounds 0 Value.none))).get? b = some o := fun b o hb e => by rw [Heap.get?_update_ne _ _ _ _ hb]; exact e
  generalize (s.heap.update it (Obj.mapFields (·.setIfInBounds 0 Value.none))) = h2 at hot2 keep2
  change wpAny _ _ (Bind.bind (newExc (Value.type "StopIteration") []) _) _ _ _
  apply wpAny_bind
  unfold newExc newTuple
  repeat (first
    | with_reducible refine wpAny_bind ?_
    | (with_reducible refine wpAny_newObj_type ?_ ?_)
    | (refine wpAny_of_eq (a := Value.none) (by rfl) ?_)
    | fail)
  any_goals (solve | size_fits)
  dsimp only
  generalize hT : h2.push { cls := Value.type "tuple", data := Data.seq #[] } = h3
  have kept3 : ∀ b o, h2.get? b = some o → h3.get? b = some o := fun b o e => by rw [← hT]; exact Heap.get?_push_of_some _ e
  generalize hO : ({ cls := Value.type "StopIteration", data := Data.fields (#[Value.ref h2.objs.size, Value.none, Value.none, Value.none, Value.bool false, Value.none] ++ ownMembersOf (Value.type "StopIteration") []) } : Obj) = oE
  have at4 : (h3.push oE).get? h3.objs.size = some oE := Heap.get?_push_size _ (by rw [← hO]; rfl)
  have lt : ∀ {b o}, h2.get? b = some o → b ≠ h3.objs.size := fun e => Nat.ne_of_lt (Heap.lt_size (kept3 _ _ e))
  refine raiseNew_hot ⟨hh, o1, vs1, Heap.get?_push_of_some _ (kept3 _ _ hot2), d1, c1⟩ (lt hot2) at4 (by rw [← hO]) (by rw [Array.size_append]; show 2 < 6 + _; omega) ?_
  refine wpAny_bind (wpAny_isInstance (T := "StopIteration") (b := true) ⟨_, Heap.get?_update_self _ at4 (by rw [← hO]; rfl), by rw [← hO]; rfl⟩ isSubtype_stop ?_)
  refine wpAny_pure (hQ _ fun b o hb e => ?_)
  rw [Heap.get?_update_ne _ _ _ _ (lt (keep2 b o hb e))]
  exact Heap.get?_push_of_some _ (kept3 _ _ (keep2 b o hb e))
end HotX
namespace L2
open PySem PySem.Spec PyProof.Rows
section
variable {X : Cx} {pins : List (Addr × Obj)} {σ : St} {H : Hp} {s : Shared}
/-- the block of a comprehension whose iterator stands at it -/
abbrev blkAt (X : Cx) (scope : Scope) (s3 : Shared) (H3 : Hp) (it : Addr) : Cx := X.blk s3 H3 scope (compEnvC scope (cellsFrom (s3.heap.objs.size + 1) scope.names (cloFrom X.env.cells scope.names [])) s3.heap.objs.size X.env) [it]
/-- [elt for n in iter if ..], n in slot i; W: what holds at the j-th turn -/
theorem comp_run {elt iter : Expr} {ifs : List Expr} {scope : Scope} {n : Str} {i : Nat} {tp pos : Pos} {tl te : TE} {tt : TT} {Q : VK} (I : Inv X pins σ H s) (cool : X.calm = true ∨ L2H.HotC X) (hN : X.N.Nodup) (ok : BlkOk X.N X.env.scope scope [(n, i)]) (list : PE X iter tl)
    (tgt : ∀ s3 H3 it, PG (blkAt X scope s3 H3 it) (.Name n tp) (gName i)) (parts : ∀ s3 H3 it, Inv X pins σ H3 s3 → FpOk X pins H3 it → PTs (blkAt X scope s3 H3 it) ifs tt ∧ PE (blkAt X scope s3 H3 it) elt te) (fold : ∀ x, foldedSetIterable iter X.env x = pure x)
    (want : tl σ H fun x H1 => ∃ a xs, x = .ref a ∧ SqL X.K H1 a xs ∧ ∀ D, H1 D = none → ∃ W : Nat → Hp → Prop, W 0 (upd H1 D (.lst [])) ∧ (∀ j H', W j H' → SqL X.K H' a xs) ∧
      (∀ j x H', xs[j]? = some x → W j H' → tt ((wipe σ [i]).set i (some x)) H' fun b H2 => if b = true then te ((wipe σ [i]).set i (some x)) H2 fun y H4 => ∃ acc, H4 D = some (.lst acc) ∧ acc.length < sizeLine ∧ W (j + 1) (upd H4 D (.lst (acc ++ [y]))) else W (j + 1) H2) ∧ ∀ H', W xs.length H' → Q (.ref D) H') :
    wpAny (model X.prog X.w) X.A (eval (.ListComp elt [⟨.Name n tp, iter, ifs, 0⟩] scope pos) X.env) (EP X pins σ Q) X.xe s := by
  have free : ∀ y ∈ scope.names, y.2 = .free → ∃ c, X.env.cells.lookup y.1 = some c := fun y hy e => I.ok.has _ (ok.free y hy e)
  rw [eval_ListComp]
  refine wpAny_comprehension_free (use := none) rfl fold (closure_ok free) ok.kind (fun y hy e => by rw [ok.uniq y hy, e]) (thn (list.run pins s σ H _ I want) ?_)
  rintro u s1 ⟨x, H1, I1, rel, a, xs, rfl, sq, go⟩
  obtain rfl : u = .ref a := rel
  obtain ⟨its, vals, isL, small⟩ := I1.list sq
  refine wpAny_pyIter_list isL.isList ?_
  -- the iterator
  generalize eit : s1.heap.objs.size = it
  generalize es2 : ({ s1 with heap := s1.heap.push { cls := .type "list_iterator", data := .fields #[.ref a, .int 0 0] } } : Shared) = s2
  have I2 : Inv X pins σ H1 s2 := by
    rw [← es2]
    exact I1.kept (t' := s1.toks) fun b o e => Heap.get?_push_of_some _ e
  have iter2 : s2.heap.IsListIter it a 0 := by
    rw [← es2, ← eit]
    exact ⟨_, Heap.get?_push_size _ rfl, rfl, rfl⟩
  have ltIt : it < s2.heap.objs.size := by
    obtain ⟨o, e, _⟩ := iter2
    exact Heap.lt_size e
  have fpIt : ∀ {H' : Hp}, H' it = none → FpOk X pins H' it := fun hn => I1.fpOk (Nat.le_of_eq eit) hn
  have freeIt : H1 it = none := I1.hok.fresh (Nat.le_of_eq eit)
  -- the new list
  refine wpAny_newObj_type (newEnv_comp ?_) (by show 0 ≤ sizeLine; decide)
  generalize eD : s2.heap.objs.size = D
  generalize es3 : ({ s2 with heap := s2.heap.push { cls := .type "list", data := .seq ([] : List Value).toArray } } : Shared) = s3
  have newD : H1 D = none := I2.hok.fresh (Nat.le_of_eq eD)
  obtain ⟨W, W0, Wl, Wt, Wd⟩ := go D newD
  generalize eH3 : upd H1 D (.lst []) = H3 at W0
  have I3 : Inv X pins σ H3 s3 := by
    rw [← es3, ← eH3]
    refine I2.laid (t' := s2.toks) (fun b o e => Heap.get?_push_of_some _ e) (Nat.le_of_eq eD) ⟨Nat.zero_le _, [], 0, .nil, ?_⟩
    rw [← eD]
    exact Heap.get?_push_size _ rfl
  have up3 : ∀ b o, s2.heap.get? b = some o → s3.heap.get? b = some o := fun b o e => by rw [← es3]; exact Heap.get?_push_of_some _ e
  have ltIt3 : it < s3.heap.objs.size := by
    obtain ⟨o, e, _⟩ := iter2
    exact Heap.lt_size (up3 _ _ e)
  have freeIt3 : H3 it = none := by
    rw [← eH3, upd_ne (by rw [← eD]; exact Nat.ne_of_lt ltIt)]
    exact freeIt
  obtain ⟨pt, pe⟩ := parts s3 H3 it I3 (fpIt freeIt3)
  have pg := tgt s3 H3 it
  have I4 := block_start (fp := [it]) I3 ok hN fun b hb => by
    obtain rfl : b = it := by simpa using hb
    exact ⟨fpIt freeIt3, ltIt3⟩
  generalize es4 : ({ s3 with heap := pushCells (s3.heap.push { cls := .type "dict", data := .dict #[] }) scope.names } : Shared) = s4 at I4
  have up4 : ∀ b o, s3.heap.get? b = some o → s4.heap.get? b = some o := fun b o e => by rw [← es4]; exact pushCells_keeps _ _ _ _ (Heap.get?_push_of_some _ e)
  have iter4 : s4.heap.IsListIter it a 0 := iter2.at fun o e => up4 _ _ (up3 _ _ e)
  unfold blkAt at pt pe pg
  generalize ece : compEnvC scope (cellsFrom (s3.heap.objs.size + 1) scope.names (cloFrom X.env.cells scope.names [])) s3.heap.objs.size X.env = ce at I4 pt pe pg
  have loc : ce.locals = s3.heap.objs.size := by rw [← ece]; rfl
  have goal : codeAny (model X.prog X.w) X.A (.compStart (.ListComp elt [⟨.Name n tp, iter, ifs, 0⟩] scope pos) 0 (.ref it) (.ref D) ce) (compPost (model X.prog X.w) X.A X.xe none (EP X pins σ Q) (.ref D) s3.heap.objs.size) s4 := by
    -- what stands at each turn
    have loop : codeAny (model X.prog X.w) X.A (.compLoop (.ListComp elt [⟨.Name n tp, iter, ifs, 0⟩] scope pos) 0 (.ref it) (.ref D) ce) (compPost (model X.prog X.w) X.A X.xe none (EP X pins σ Q) (.ref D) s3.heap.objs.size) s4 := by
      refine compLoop_any (fun k s5 => ∃ j H5, k + j = xs.length ∧ Inv (X.blk s3 H3 scope ce [it]) [] (wipe σ [i]) H5 s5 ∧ s5.heap.IsListIter it a j ∧ H5 it = none ∧ W j H5) ?_ xs.length ⟨0, H3, rfl, I4, iter4, freeIt3, W0⟩
      rintro k s5 ⟨j, H5, hk, I5, iter5, fr5, w5⟩
      obtain ⟨its5, vals5, isL5, small5⟩ := I5.list (Wl j H5 w5)
      have exf := I5.ok.exf it (by show it ∈ [it]; simp)
      have turned : ∀ {h' : Heap} {tk : Nat}, (∀ b o, b ≠ it → s5.heap.get? b = some o → h'.get? b = some o) → Inv (X.blk s3 H3 scope ce [it]) [] (wipe σ [i]) H5 { s5 with heap := h', toks := tk } := fun kp =>
        I5.turned kp fr5 exf.1 (.inl (by show it ∈ [it]; simp)) exf.2 fun p hp => absurd (show p ∈ ([] : List (Addr × Obj)) ++ [] from hp) (by simp)
      by_cases hend : j = xs.length
      · subst hend
        have none_ : its5.toArray[xs.length]? = none := by
          have := vals5.length
          simp
          omega
        have fin : ∀ h', (∀ b o, b ≠ it → s5.heap.get? b = some o → h'.get? b = some o) → compPost (model X.prog X.w) X.A X.xe none (EP X pins σ Q) (.ref D) s3.heap.objs.size (.ok .next) { s5 with heap := h' } := fun h' kp => by
          have I6 := turned (tk := s5.toks) kp
          have I7 : Inv X pins σ H5 { s5 with heap := h', toks := s5.toks } := I3.call' (ch := [it]) I6.os I6.base I6.hok I6.bare fun b hb => by
            obtain rfl : b = it := by simpa using hb
            obtain ⟨_, f1, _, f3, f4, f5⟩ := fpIt (H' := H5) fr5
            exact ⟨f3, f1, f4, f5⟩
          have nC : H5 s3.heap.objs.size = none := by
            have z : H5 ce.locals = none := I6.free
            rw [loc] at z
            exact z
          obtain ⟨m, hm, _⟩ := I6.loc
          have hm : h'.Ns ce.locals m := hm
          rw [loc] at hm
          obtain ⟨g0, g1, _, g3, g4, g5⟩ := I3.fpOk (H' := H5) (Nat.le_refl _) nC
          exact ⟨m, hm, fun h2 sb => ⟨.ref D, H5, I7.turned (t' := s5.toks) (fun b o hb e => (sb.2 b hb).trans e) g0 g1 g3 g4 g5, rfl, Wd H5 w5⟩⟩
        rcases cool with calm | ⟨p, ⟨hh, fv, hd, hc⟩, hp⟩
        · exact wpAny_pyNext_list_end (I.ok.hd calm) iter5 isL5.isList none_ fun h' kp => fin h' fun b o hb e => kp b o hb e
        · have P := I3.pin p (List.mem_append_left _ hp)
          have pit : p.1 ≠ it := (fpIt (H' := H5) fr5).2.2.2.2.2 p (List.mem_append_left _ hp)
          have pfr : p.1 ∉ frs X.stack := fun z => (List.mem_cons.mp (I3.stkSub _ z)).elim P.2.2.1 P.2.2.2.1
          have at5 : s5.heap.get? p.1 = some p.2 := I5.base.keep _ _ P.1 P.2.1 pfr (by show p.1 ∉ [it]; simpa using pit)
          exact HotX.list_end_hot ⟨hh, p.2, fv, at5, hd, hc⟩ iter5 isL5.isList none_ pit fin
      · have hj : j < xs.length := by omega
        have hx : xs[j]? = some xs[j] := List.getElem?_eq_getElem hj
        obtain ⟨u, hu, ru⟩ := vals5.get hx
        refine wpAny_pyNext_list_item iter5 isL5.isList (x := u) (by simpa using hu) fun h' iter6 sb => ?_
        have I6 := turned (h' := h') (tk := s5.toks) fun b o hb e => (sb.2 b hb).trans e
        have iter6' : ({ s5 with heap := h', toks := s5.toks } : Shared).heap.IsListIter it a (j + 1) := iter6
        obtain ⟨oi, hoi, hci, hdi⟩ := id iter6'
        have own : letOwnedTupleGo (.Name n tp) (.ref it) u = pure () := by cases u <;> rfl
        dsimp only
        rw [own]
        refine wpAny_pure ?_
        change wpAny _ _ _ _ _ ({ s5 with heap := h', toks := s5.toks } : Shared)
        generalize ({ s5 with heap := h', toks := s5.toks } : Shared) = s6 at I6 iter6' hoi
        have I6' := I6.pinned (fp := [it]) (fun b hb => by
          obtain rfl : b = it := by simpa using hb
          exact ⟨fr5, exf.1, I6.ok.exfs b (by show b ∈ [b]; simp), .inl (by show b ∈ [b]; simp), exf.2, fun p hp => absurd (show p ∈ ([] : List (Addr × Obj)) ++ [] from hp) (by simp)⟩) (fun b hb => by
          obtain rfl : b = it := by simpa using hb
          exact ⟨oi, hoi, fun v z => by rw [hdi] at z; cases z⟩)
        refine thnF (pg.run _ s6 _ H5 xs[j] u (fun σ' H' => σ' = (wipe σ [i]).set i (some xs[j]) ∧ H' = H5) I6' ru ⟨rfl, rfl⟩) ?_
        rintro _ s7 ⟨σ7, H7, I7, rfl, rfl⟩
        have again : ∀ {s' : Shared} {H' : Hp}, Inv (X.blk s3 H3 scope ce [it]) ([] ++ pinsAt [it] s6.heap) ((wipe σ [i]).set i (some xs[j])) H' s' → W (j + 1) H' → ∃ m, m < k ∧ ∃ j H5, m + j = xs.length ∧ Inv (X.blk s3 H3 scope ce [it]) [] (wipe σ [i]) H5 s' ∧ s'.heap.IsListIter it a j ∧ H5 it = none ∧ W j H5 := by
          intro s' H' J w
          have P := J.pin (it, oi) (List.mem_append_right _ (List.mem_append_right _ (mem_pinsAt (by simp) hoi)))
          refine ⟨k - 1, by omega, j + 1, H', by omega, (J.unpinned (pins := [])).weak ?_ fun q v e => ?_, ⟨oi, P.1, hci, hdi⟩, P.2.1, w⟩
          · rw [List.length_set]
          · have h2 := wipe_some e
            rw [List.getElem?_set_ne (by simpa using fun z => h2.2 (by simp [z]))]
            exact e
        refine thnF (pt.run _ s7 _ _ _ I7 (Wt j _ _ hx w5)) ?_
        rintro b s8 ⟨H8, I8, q8⟩
        cases b with
        | false => exact again I8 q8
        | true =>
          refine thnF (pe.run _ s8 _ H8 _ I8 q8) ?_
          rintro z s9 ⟨y, H9, I9, r9, acc, hD, room, w9⟩
          exact app_ok (X := X.blk s3 H3 scope ce [it]) I9 hD room r9 fun s10 I10 => again I10 w9
    exact codeAny_compStart_list loop (wpAny_pyIter_listiter iter4 loop)
  rw [← ece] at goal
  exact goal
end
end L2

/-! within an except suite: isinstance, the exception's field, a comprehension, defs -/
namespace L2
open PySem PySem.Spec PyProof.Rows
/-- what an own class C of exceptions says when isinstance asks its instance -/
structure AskC (K : PySem.W.Frag) (C : Addr) : Prop where
  isC : (PySem.W.clsIn K C).isSome = true
  getA : PySem.W.findIn K (.ref C) "__getattribute__" = some (some (.builtin "BaseException.__getattribute__"))
  getB : PySem.W.findIn K (.ref C) "__getattr__" = some none
  sub : PySem.W.subIn K (.ref C) (.type "BaseException") = some true
  own : PySem.W.findIn K (.ref C) "__class__" = some (some (.builtin "object.__class__"))
  get : PySem.W.specialIn K (.builtin "object.__class__") "__get__" = some (some (.builtin "getset_descriptor.__get__"))
  tak : PySem.W.takesIn K (.builtin "object.__class__") = some true
  mro : PySem.W.mroIn K C (.type "object") = some true
/-- isinstance(e, c): e the exception held, with or without a dict -/
def rAsk (K : PySem.W.Frag) (a : Addr) (cls : Value) (d : Option Addr) : List V → Hp → VK → Prop := fun xs H Q => ∃ (C : Addr) (c : V) (cv : Value) (b : Bool), cls = .ref C ∧ AskC K C ∧ xs = [.ref a, c] ∧ (∀ u, RelV c u → u = cv) ∧ PySem.W.kitOne K (.ref C) cv = some b ∧
  (d = none ∨ ∃ dd fs, d = some dd ∧ H dd = some (.xd fs)) ∧ Q (.bl b) H
theorem call_ask {X : Cx} {a : Addr} {oe : Obj} {cls : Value} {d : Option Addr} {pn : List (Addr × Obj)} (hz : Zc cls d oe) (hf : ∃ vs, oe.data = .fields vs) : CallR (X.suite a ((a, oe) :: pn)) (.builtin "isinstance") (rAsk X.K a cls d) := by
  intro pins s σ H xs us Q I r h
  obtain ⟨C, c, cv, b, ec, T, rfl, hcv, e, dict, q⟩ := h
  obtain ⟨u1, u2, rfl, r1, r2⟩ : ∃ u1 u2, us = [u1, u2] ∧ RelV (.ref a) u1 ∧ RelV c u2 := by
    cases r with
    | cons r1 r => cases r with
      | cons r2 r => cases r; exact ⟨_, _, rfl, r1, r2⟩
  obtain rfl : u1 = .ref a := r1
  obtain rfl := hcv _ r2
  obtain ⟨here, _⟩ := I.pin (a, oe) (List.mem_append_left _ List.mem_cons_self)
  obtain ⟨vs, hv⟩ := hf
  obtain ⟨od, dk⟩ : ∃ od : Option Obj, (match oe.dict, od with | some dx, some o => s.heap.get? dx = some o | none, none => True | _, _ => False) := by
    rw [hz.2]
    rcases dict with rfl | ⟨dd, fs, rfl, hd⟩
    · exact ⟨none, trivial⟩
    · obtain ⟨m, ns, _⟩ := (show ObjOk X.prog X.w H s.heap dd (.xd fs) from I.hok dd _ hd)
      obtain ⟨o, ho, _⟩ := lookIn_ns ns
      exact ⟨some o, ho⟩
  have J : PySem.W.InstAt s.heap a oe C od := ⟨here, hz.1.trans ec, by unfold PySem.W.notCls; rw [hv] <;> rfl, dk⟩
  exact PySem.W.kia_one (PySem.W.kitx_exc T.isC T.getA T.getB T.sub T.own T.get T.tak T.mro) I.kIn J e (fun z => nomatch z) fun tk => ⟨.bl b, H, I.kept (t' := tk) fun _ _ z => z, rfl, q⟩
end L2
namespace Dq
open PySem PySem.Spec L2 PyProof.Rows
def askD (K : PySem.W.Frag) (a : Addr) (cls : Value) (d : Option Addr) (ds : List D) (m : Mu) (Q : D → Mu → Prop) : Prop := ∃ (C : Addr) (e : D) (b : Bool), cls = .ref C ∧ AskC K C ∧ ds = [.adr a, e] ∧ ((∃ c, e = .adr c ∧ PySem.W.kitOne K (.ref C) (.ref c) = some b) ∨ ∃ T, e = .ty T ∧ PySem.W.kitOne K (.ref C) (.type T) = some b) ∧
  (d = none ∨ ∃ dd fs, d = some dd ∧ m dd = some (.raw (.xd fs))) ∧ Q (.bl b) m
theorem cd_ask {K : PySem.W.Frag} {a : Addr} {cls : Value} {d : Option Addr} : CallD K (rAsk K a cls d) (askD K a cls d) := fun F H m vs ds Q R q s rs p => by
  obtain ⟨C, e, b, ec, T, rfl, he, hd, q⟩ := q
  obtain ⟨v, u, rfl, r1, r2⟩ := rs.inv2
  cases r1
  have hd' : d = none ∨ ∃ dd fs, d = some dd ∧ H dd = some (.xd fs) := by
    rcases hd with h | ⟨dd, fs, h1, h2⟩
    · exact .inl h
    · exact .inr ⟨dd, fs, h1, (s.ok dd _ h2).1⟩
  rcases he with ⟨c, rfl, hk⟩ | ⟨T', rfl, hk⟩
  · cases r2
    exact ⟨C, .ref c, .ref c, b, ec, T, rfl, fun u h => h, hk, hd', p.here s (.bl _) q⟩
  · cases r2
    exact ⟨C, .ty T', .type T', b, ec, T, rfl, fun u h => h, hk, hd', p.here s (.bl _) q⟩
/-- e.f, e the exception held -/
def dXf (a : Addr) (cls : Value) (d : Option Addr) (C : Addr) (f : Str) (de : dE) : dE := fun env m Q => de env m fun x m1 => x = .adr a ∧ cls = .ref C ∧ ∃ (dd : Addr) (fs : List (Str × V)) (i : Int), d = some dd ∧ m1 dd = some (.raw (.xd fs)) ∧ fs.lookup f = some (.int i) ∧ Q (.int i) m1
theorem d_xf {K : PySem.W.Frag} {X : Cx} {a C : Addr} {oe : Obj} {cls : Value} {d : Option Addr} {pn : List (Addr × Obj)} {e : Expr} {te : TE} {de : dE} {pos : Pos} {n : Str} (T : XfC X.K C) (hno : PySem.W.findIn X.K (.ref C) n = some none)
    (hz : Zc cls d oe) (hf : ∃ vs, oe.data = .fields vs) (he : DE K (X.suite a ((a, oe) :: pn)) e te de) (hb : attributeBase e n X.env (eval e X.env) = eval e X.env := by rfl) :
    DE K (X.suite a ((a, oe) :: pn)) (.Attribute e n pos) (tXf a cls d C n te) (dXf a cls d C n de) :=
  ⟨pe_xf T hno hz hf he.p hb, fun F env m Q σ H R q o p => he.w F env m _ σ H _ q o fun v H1 x m1 e1 s1 r1 q1 => by
    obtain ⟨rfl, ec, dd, fs, i, hd, hm, hl, q1⟩ := q1
    cases r1
    exact ⟨rfl, ec, dd, fs, .int i, hd, (s1.ok dd _ hm).1, hl, p _ H1 _ m1 e1 s1 (.int i) q1⟩⟩
/-! defs called there -/
structure HDef (P : Program) (w : World) (K : PySem.W.Frag) (mg : Str → Option Value) (base : Heap) (x : Str) (k : Nat) (pre : Pre) : Prop where
  ex : ∃ f fd ps, L2H.FnH P w K mg base CX0 k f fd ps (spD K pre) ∧ mg x = some (.ref f) ∧ PySem.W.keepIn K (.ref f) = true ∧ Binds K fd ps []
theorem d_callH {K : PySem.W.Frag} {X : Cx} {x : Str} {k : Nat} {pre : Pre} {e : Expr} {es : List Expr} {ta : TA} {da : dA} {p pos : Pos} (h : HDef X.prog X.w K X.mg X.base x k pre) (hr : L2H.RoomH k X.A) (hot : L2H.HotC X) (ha : DA K X (e :: es) ta da) (hg : Gl X x := by rfl) (hdb : (x == ("__debug__" : Str)) = false := by decide) (he : starEach (e :: es) X.env = (false, eval e X.env) :: starEach es X.env := by rfl)
    (hpl : (backTo pos (starEach es X.env)).any (·.1) = false := by rfl) (hK : X.K = K := by rfl) : DE K X (.Call (.Name x p) (e :: es) [] pos) (tCallS (spD K pre) (fun _ => E0) ta) (dCall pre da) := by
  subst hK
  obtain ⟨f, fd, ps, F, hm, hk, hb⟩ := h.ex
  exact ⟨L2H.pe_callH F hr hot hg hm hk hb (fun _ _ _ _ _ _ _ h => h.elim) ha.p hdb he hpl, fun F env m Q σ H R q o p => ha.w F env m _ σ H _ q o fun vs H1 ds m1 e1 s1 r1 q1 => ⟨F, ds, m1, Q, s1, r1, q1, p.at e1⟩⟩
theorem ok_defH {P : Program} {w : World} {K : PySem.W.Frag} {mg : Str → Option Value} {base : Heap} {x qual : Str} {st : Stmt} {f : Addr} {fd : FuncData} {N ps : List Str} {k : Nat} {pre : Pre} (F : Fun K x qual st f fd) (S : FnScope N ps (defScope st)) (len : ∀ ds m Q, pre ds m Q → ds.length = ps.length)
    (hb : ∀ (cdv : Value) (A : Around) (outer : List PySem.Env) (s : Shared) (H : Hp) (E : XK) (p : Addr × Obj), L2H.RoomH k (A.deeper (envOfC qual (defScope st) s.heap.objs.size f cdv)) →
      ∃ ts t, DSs K (L2H.cxH CX0 P w K mg base N qual (defScope st) f cdv A outer s H E p) (defBody st) ts t ∧ ∀ ds m Q, pre ds m Q → t { nx := fun _ m' => Q .non m', rt := Q } (startD N.length ds) m) : L2H.FnH P w K mg base CX0 (k + 1) f fd ps (spD K pre) := by
  obtain ⟨oc, od, kV, doc, pm, an, cd, ct, sl, rfl, at_, code⟩ := F.ex
  refine L2H.fn_ofH at_ code S (fun vs H Q E h => ?_) fun A outer s H vs Q E p hot hr h => ?_
  · obtain ⟨F', ds, m, Q', s', r, p, _⟩ := h
    rw [r.length]
    exact len _ _ _ p
  · obtain ⟨F', ds, m, Q', s', r, q, k'⟩ := h
    obtain ⟨ts, t, b, q'⟩ := hb cd A outer s H E p hr
    exact ⟨ts, b.p, b.w F' _ (startD N.length ds) m (L2.start N vs) H _ (q' ds m Q' q) ⟨s', startD_ok r⟩ ⟨fun σ' H' env' m' ex o' q' => k' _ H' _ m' ex o'.st .non q', k', fun _ _ _ _ _ _ z => z.elim, fun _ _ _ _ _ _ z => z.elim⟩⟩
/-! a comprehension over a list (as data), there -/
def tLcH (K : PySem.W.Frag) (i : Nat) (tl : TE) (tt : L2.St → TT) (te : TE) : TE := fun σ H Q => tl σ H fun x H1 => ∃ a xs, x = .ref a ∧ SqL K H1 a xs ∧ ∀ D, H1 D = none → ∃ W : Nat → Hp → Prop, W 0 (upd H1 D (.lst [])) ∧ (∀ j H', W j H' → SqL K H' a xs) ∧
  (∀ j x H', xs[j]? = some x → W j H' → tt σ ((wipe σ [i]).set i (some x)) H' fun b H2 => if b = true then te ((wipe σ [i]).set i (some x)) H2 fun y H4 => ∃ acc, H4 D = some (.lst acc) ∧ acc.length < sizeLine ∧ W (j + 1) (upd H4 D (.lst (acc ++ [y]))) else W (j + 1) H2) ∧ ∀ H', W xs.length H' → Q (.ref D) H'
def dLcH (b : Bool) (i : Nat) (di : dE) (dt : Env → dT) (de : dE) : dE := fun env m Q => di env m fun d m1 => ∃ ds, d = .list ds ∧ lcD [i] env (hName i) (dt env) de (fun acc m2 => mkL b acc m2 Q) ds [] m1
theorem lch_at {K : PySem.W.Frag} {tl : TE} {dl : dE} {tt : L2.St → TT} {dt : Env → dT} {te : TE} {de : dE} {i : Nat} (b : Bool) (F : Hp) (env : Env) (m : Mu) (Q : D → Mu → Prop) (σ : L2.St) (H : Hp) (R : VK) (hl : WE K tl dl)
    (ht : ∀ x F' env' m' Q' H' R', dt env env' m' Q' → Ok K F' H' ((wipe σ [i]).set i (some x)) env' m' → RepS K (hide F' H' m') σ env → PstB K F' H' m' Q' R' → tt σ ((wipe σ [i]).set i (some x)) H' R') (he : WE K te de) (q : dLcH b i dl dt de env m Q) (o : Ok K F H σ env m) (p : Pst K F H m Q R) : tLcH K i tl tt te σ H R := by
  refine hl F env m _ σ H _ q o fun v H1 d m1 e1 s1 r1 q1 => ?_
  obtain ⟨ds, rfl, q1⟩ := q1
  cases r1 with
  | list at_ reps =>
  rename_i a xs
  have sq : ∀ {H' : Hp} {F' : Hp} {m' : Mu}, hide F' H' m' a = some (.lst xs) → SqL K H' a xs := fun h => .inl (.inl (hide_le h))
  refine ⟨a, xs, rfl, sq at_, fun A hA => ?_⟩
  have fA := s1.freeF hA
  refine ⟨fun j H' => ∃ m' av acc, Stt K (upd F A (.lst av)) H' m' ∧ Ext (hide F H1 m1) (hide (upd F A (.lst av)) H' m') ∧ Reps K (hide (upd F A (.lst av)) H' m') av acc ∧ lcD [i] env (hName i) (dt env) de (fun acc m2 => mkL b acc m2 Q) (ds.drop j) acc m',
    ⟨m1, [], [], s1.set_apart hA, Ext.apart hA, .nil, q1⟩, fun j H' ⟨m', av, acc, s', ex, _, _⟩ => sq (ex.lst _ _ at_), ?_, ?_⟩
  · rintro j x H' hx ⟨m', av, acc, s', ex, ra, q'⟩
    obtain ⟨d, hd, r2⟩ := (reps.mono ex).get' hx
    have hdr : ds.drop j = d :: ds.drop (j + 1) := by
      obtain ⟨h1, h2⟩ := List.getElem?_eq_some_iff.mp hd
      rw [← h2, List.getElem_cons_drop]
    rw [hdr] at q'
    have fr := o.fr.mono (e1.trans ex)
    refine ht x _ _ m' _ H' _ q' ⟨s', (wipe_env fr [i]).set r2⟩ fr fun k H3 m3 e4 s4 q4 => ?_
    have e34 := ex.trans e4
    cases k with
    | false => exact ⟨m3, av, acc, s4, e34, ra.mono e4, q4⟩
    | true =>
      refine he _ _ m3 _ _ H3 _ q4 ⟨s4, ((wipe_env fr [i]).set r2).mono e4⟩ fun z H4 dz m4 e5 s5 r5 q5 => ?_
      have ra' := ra.mono (e4.trans e5)
      refine ⟨av, (s5.fr A _ upd_same).1, by rw [ra'.length]; exact q5.1, m4, av ++ [z], acc ++ [dz], s5.turn, ?_, ?_, q5.2⟩
      · rw [hide_turn (vs := av)]
        exact e34.trans e5
      · rw [hide_turn (vs := av)]
        exact ra'.append (.one r5)
  · rintro H' ⟨m', av, acc, s', ex, ra, q'⟩
    rw [reps.length, List.drop_length] at q'
    have hAv := s'.fr A _ upd_same
    cases b with
    | false => exact p _ H' _ m' ((e1.trans ex).trans (Ext.back fA)) (s'.back fA) (.list (by rw [hide_at hAv.2 fA]; exact hAv.1) (ra.mono (Ext.back fA))) q'
    | true =>
      refine p _ H' _ _ ?_ (s'.know fA (show MOk K H' _ A (.lst acc) from ⟨av, hAv.1, ra⟩)) (.adr A) (q' A hAv.2)
      rw [hide_know (vs := av) fA]
      exact e1.trans ex
theorem d_lcH {K : PySem.W.Frag} {X : Cx} (b : Bool) {elt iter : Expr} {ifs : List Expr} {scope : Scope} {n : Str} {i : Nat} {tp pos : Pos} {tl : TE} {dl : dE} {tt : TT} {dt : dT} {te : TE} {de : dE} (cool : X.calm = true ∨ L2H.HotC X) (hN : X.N.Nodup) (hl : DE K X iter tl dl) (ok : BlkOk X.N X.env.scope scope [(n, i)])
    (hg : ∀ (s : Shared) (H : Hp) (C : Addr) (cl : List (Str × Addr)) (fp : List Addr), PG (X.blk s H scope (compEnvC scope cl C X.env) fp) (.Name n tp) (gName i)) (ht : ∀ (s : Shared) (H : Hp) (C : Addr) (cl : List (Str × Addr)) (fp : List Addr), DTs K (X.blk s H scope (compEnvC scope cl C X.env) fp) ifs tt dt)
    (he : ∀ (s : Shared) (H : Hp) (C : Addr) (cl : List (Str × Addr)) (fp : List Addr), DE K (X.blk s H scope (compEnvC scope cl C X.env) fp) elt te de) (hs : ∀ x, foldedSetIterable iter X.env x = pure x := by intro _; rfl) (hK : X.K = K := by rfl) :
    DE K X (.ListComp elt [⟨.Name n tp, iter, ifs, 0⟩] scope pos) (tLcH K i tl (fun _ => tt) te) (dLcH b i dl (fun _ => dt) de) := by
  subst hK
  exact ⟨⟨fun pins s σ H Q I want => comp_run I cool hN ok hl.p (fun _ _ _ => hg _ _ _ _ _) (fun _ _ _ _ _ => ⟨(ht _ _ _ _ _).p, (he _ _ _ _ _).p⟩) hs want⟩,
    fun F env m Q σ H R q o p => lch_at b F env m Q σ H R hl.w (fun x F' env' m' Q' H' R' q o _ p => (ht X.s_0 X.H_0 0 [] []).w F' env' m' Q' _ H' R' q o p) (he X.s_0 X.H_0 0 [] []).w q o p⟩
end Dq

/-! a def that calls the closure it is handed, and looks at the exception -/
namespace Dq
open PySem PySem.Spec L2 PyProof.Rows
/-- all stays but the exception's dict -/
def ButD (d : Option Addr) (H H' : Hp) : Prop := ∀ b u, H b = some u → d ≠ some b → H' b = some u
theorem ext_but {H H' : Hp} {d : Option Addr} (k : ∀ b u, H b = some u → d ≠ some b → H' b = some u) (hd : ∀ b, d = some b → ∃ fs, H b = some (.xd fs)) : Ext H H' := by
  have no : ∀ {b u}, H b = some u → (∀ fs, u ≠ .xd fs) → H' b = some u := fun {b u} e n => k b u e fun z => by
    obtain ⟨fs, q⟩ := hd b z
    rw [e] at q
    exact n fs (Option.some.inj q)
  have rd : ∀ {b u}, Rd H b u → (∀ fs, u ≠ .xd fs) → Rd H' b u := fun r n => r.elim (fun e => .inl (no e n)) fun ⟨o, e⟩ => .inr ⟨o, no e fun _ z => HO.noConfusion z⟩
  exact ⟨fun _ _ e => no e fun _ z => HO.noConfusion z, fun _ _ e => no e fun _ z => HO.noConfusion z, fun _ _ e => no e fun _ z => HO.noConfusion z, fun _ _ e => rd e fun _ z => HO.noConfusion z, fun _ _ e => rd e fun _ z => HO.noConfusion z, fun _ _ e => rd e fun _ z => HO.noConfusion z, fun _ _ e => rd e fun _ z => HO.noConfusion z,
    fun _ _ _ e => no e fun _ z => HO.noConfusion z⟩
/-- what is wanted behind it, the dict let go -/
theorem but_stt {K : PySem.W.Frag} {F H H' : Hp} {m : Mu} {d : Option Addr} (s : Stt K F H m) (k : ButD d H H') (hd : ∀ b, d = some b → m b = none ∧ F b = none ∧ ∃ fs, H b = some (.xd fs)) : Ext (hide F H m) (hide F H' m) ∧ Stt K F H' m := by
  have ex : Ext (hide F H m) (hide F H' m) := ext_but (d := d) (fun b u e n => by
    rw [hide_at (hide_un e).1 (hide_un e).2]
    exact k b u (hide_le e) n) fun b e => by
      obtain ⟨h1, h2, fs, h3⟩ := hd b e
      exact ⟨fs, by rw [hide_at h1 h2]; exact h3⟩
  refine ⟨ex, fun b u e => ?_, fun b o e => ?_, s.ft⟩
  · obtain ⟨h1, h2⟩ := s.fr b u e
    refine ⟨k b u h1 fun z => ?_, h2⟩
    have q := (hd b z).2.1
    rw [e] at q
    cases q
  · obtain ⟨u, hu⟩ := (s.ok b o e).there
    refine (s.ok b o e).mono ?_ ex
    rw [hu]
    exact k b u hu fun z => by
      have q := (hd b z).1
      rw [e] at q
      cases q
/-- nothing that is tracked is touched: all stands apart but tuples and the dict -/
def frozen (H : Hp) (d : Option Addr) : Hp := fun b => if d = some b then none else match H b with | some (.tup _) => none | x => x
def dictM (H : Hp) (d : Option Addr) : Mu := fun b => if d = some b then (H b).map .raw else none
theorem frozen_un {H : Hp} {d : Option Addr} {b : Addr} {u : HO} (h : frozen H d b = some u) : H b = some u ∧ d ≠ some b ∧ ∀ vs, u ≠ .tup vs := by
  unfold frozen at h
  split at h
  · cases h
  · rename_i n
    split at h
    · cases h
    · rename_i g
      exact ⟨h, n, fun vs z => by subst z; exact g vs h⟩
theorem frozen_stt {K : PySem.W.Frag} {H : Hp} {d : Option Addr} (hd : ∀ b, d = some b → ∃ fs, H b = some (.xd fs)) : Stt K (frozen H d) H (dictM H d) := by
  refine ⟨fun b u e => ?_, fun b o e => ?_, fun b vs e => (frozen_un e).2.2 vs rfl⟩
  · obtain ⟨h1, h2, _⟩ := frozen_un e
    exact ⟨h1, if_neg h2⟩
  · unfold dictM at e
    split at e
    · rename_i z
      obtain ⟨fs, q⟩ := hd b z
      rw [q] at e
      cases e
      exact ⟨q, fun _ z => HO.noConfusion z⟩
    · cases e
theorem frozen_back {K : PySem.W.Frag} {H H' : Hp} {d : Option Addr} {m' : Mu} (ex : Ext (hide (frozen H d) H (dictM H d)) (hide (frozen H d) H' m')) (s : Stt K (frozen H d) H' m') : ButD d H H' := fun b u e n => by
  by_cases t : ∃ vs, u = .tup vs
  · obtain ⟨vs, rfl⟩ := t
    have f : frozen H d b = none := by
      unfold frozen
      rw [if_neg n, e]
    have g : dictM H d b = none := if_neg n
    exact hide_le (ex.tup b vs (by rw [hide_at g f]; exact e))
  · have f : frozen H d b = some u := by
      unfold frozen
      rw [if_neg n, e]
      split
      · rename_i vs z
        exact absurd ⟨vs, Option.some.inj z⟩ t
      · rfl
    exact (s.fr b u f).1
/-! the promise -/
def refWords : List Str := ["width", "rule", "pattern", "deed", "key", "number"]
def MatchX (cs : List Addr) (word : Str) (val : Int) (C : Addr) (fo : Option (Str × Int)) : Prop :=
  ∃ i, cs[i]? = some C ∧ refWords[i]? = some word ∧ (fo = none ∧ i ≠ 2 ∧ i ≠ 3 ∨ fo = some (("at" : Str), val) ∧ i = 2 ∨ fo = some (("number" : Str), val) ∧ i = 3)
/-- the exception is the one looked for: then the def says True -/
def refE (cs : List Addr) (word : Str) (val : Int) (Q : VK) : XK := fun cls d H => ∃ C fo, cls = .ref C ∧ MatchX cs word val C fo ∧ XIs H d fo ∧ ∀ H', ButD d H H' → Q (.bl true) H'
structure RefOk (P : Program) (w : World) (K : PySem.W.Frag) (mg : Str → Option Value) (base : Heap) (cs : List Addr) (x : Str) (k : Nat) : Prop where
  ex : ∃ f, mg x = some (.ref f) ∧ PySem.W.keepIn K (.ref f) = true ∧ ∀ (A : Around) (outer : List PySem.Env) (s : Shared) (H : Hp) (p : Addr) (cvs : List V) (word : Str) (val : Int) (us : List Value) (T : LamT) (N : List Str) (preT : PreX) (Q : VK), Room (k + 1) A → Env0 P w K mg base A outer s H → Vals [.ref p, .str word, .int val] us →
    CloAt T N p cvs (frs outer) H s.heap → LamOk P w K mg base k T N (spX K preT) → spX K preT cvs H (fun _ _ => False) (refE cs word val Q) →
    codeAny (model P w) A (.call (.ref f) ⟨us, []⟩) (CR CX0 outer P w H s Q E0) s
theorem spX_mono {K : PySem.W.Frag} {preT : PreX} {vs : List V} {H : Hp} {R : VK} {E E' : XK} (h : ∀ c d H', E c d H' → E' c d H') (q : spX K preT vs H R E) : spX K preT vs H R E' := by
  obtain ⟨F, ds, m, Q, xd, s, r, p, k, x⟩ := q
  exact ⟨F, ds, m, Q, xd, s, r, p, k, fun C d fo H' m' e s i q => h _ _ _ (x C d fo H' m' e s i q)⟩
section
variable {P : Program} {w : World} {K : PySem.W.Frag} {mg : Str → Option Value} {base : Heap}
/-- the try of it -/
theorem ref_of {x : Str} {st : Stmt} {cs : List Addr} {k j : Nat} {N ps : List Str} {work xc e : Str} {CS : Addr} {p1 p2 p3 np pos pos' : Pos} {b₀ : Stmt} {suite rest : List Stmt} (h : Has K mg x st) (S : FnScope N ps (defScope st))
    (body : defBody st = .Try [.Expr (.Call (.Name work p1) [] [] p2) p3] [.ExceptHandler (some (.Name xc np)) (some e) (b₀ :: suite) pos'] [] [] pos :: rest) (hps : ps.length = 3) (hN : N.length = 7 := by rfl)
    (hb : ∀ (kV doc pm : Value) (an : Option Addr) (cdv ct : Value) (us : List Value), us.length = ps.length → bindArgs (PySem.W.fnOf x x (defArgs st) (defBody st) (defScope st) .none kV doc pm an cdv ct) ⟨us, []⟩ = pure (ps.zip us))
    (h0 : N[0]? = some work) (hv : Vis (defScope st) work) (hj : N[j]? = some e) (hl : (defScope st).names.lookup e = some .local) (hg : (defScope st).names.lookup xc = some .globalImplicit) (hm : mg xc = some (.ref CS)) (hX : ∀ C ∈ cs, PySem.W.exmOne K (.ref C) (.ref CS) = some true)
    (hd1 : (work == ("__debug__" : Str)) = false) (hd2 : (work == ("__classdict__" : Str)) = false) (hd3 : (xc == ("__debug__" : Str)) = false) (j3 : 3 ≤ j)
    (hsu : ∀ (f : Addr) (cdv : Value) (A : Around) (outer : List PySem.Env) (s : Shared) (H : Hp), Room k (A.deeper (envOfC x (defScope st) s.heap.objs.size f cdv)) → ∃ (ts : Addr → Value → Option Addr → TS) (t : Addr → Value → Option Addr → dS),
      (∀ (a : Addr) (oe : Obj) (cls : Value) (d : Option Addr) (pn : List (Addr × Obj)), L2N.Zn cls d oe → (∃ vs, oe.data = .fields vs) → L2H.HotC ((cxOf CX0 P w K mg base N x (defScope st) f cdv A outer s H E0).suite a ((a, oe) :: pn)) →
        DSs K ((cxOf CX0 P w K mg base N x (defScope st) f cdv A outer s H E0).suite a ((a, oe) :: pn)) (b₀ :: suite) (ts a cls d) (t a cls d)) ∧
      ∀ (a p : Addr) (C : Addr) (d : Option Addr) (fo : Option (Str × Int)) (word : Str) (val : Int) (m : Mu) (RT : D → Mu → Prop), MatchX cs word val C fo → (fo = none → d = none) → (∀ f n, fo = some (f, n) → ∃ dd, d = some dd ∧ m dd = some (.raw (.xd [(f, .int n)]))) → RT (.bl true) m →
        t a (.ref C) d { nx := fun _ _ => False, rt := RT, bk := fun _ _ => False, ct := fun _ _ => False } ((startD N.length [.adr p, .str word, .int val]).set j (some (.adr a))) m) : RefOk P w K mg base cs x k := by
  obtain ⟨f, fd, F, hmx⟩ := h.ex
  refine ⟨f, hmx, F.kp, fun A outer s H p cvs word val us T NT preT Q room e0 rel clo L want => ?_⟩
  obtain ⟨oc, od, kV, doc, pm, an, cd, ct, sl, rfl, lk, code⟩ := F.ex
  have len : us.length = ps.length := by rw [← rel.length, hps]; rfl
  refine LamX.run_ofS (N := N) (ps := ps) (us := us) (vs := [.ref p, .str word, .int val]) lk code S room e0 (.of_eq (hb _ _ _ _ _ _ _ len)) rel (by rw [hps]; rfl) fun room' => ?_
  obtain ⟨ts, t, su, read⟩ := hsu f cd A outer s H room'
  have tk : L2N.Takes (cxOf CX0 P w K mg base N x (defScope st) f cd A outer s H E0) (fun _ _ _ _ => False) := fun _ _ ⟨_, _, _, _, _, _, _, _, _, _, _, _, _, _, _, _, z⟩ => z.elim
  have tryP := L2N.ps_try_as (X := cxOf CX0 P w K mg base N x (defScope st) f cd A outer s H E0) (x := xc) (n := e) (c := .ref CS) (i := j) (body := [.Expr (.Call (.Name work p1) [] [] p2) p3]) (suite := suite) (b₀ := b₀) (np := np) (pos := pos) (pos' := pos') (Wout := fun _ _ _ _ => False)
    (tb := fun W D σ H1 => σ[0]? = some (some (.ref p)) ∧ H1 = H ∧ spX K preT cvs H (fun _ _ => False) (fun cls d H' => W cls d σ H')) (ts := ts) rfl rfl S.nd hj hl ⟨hg, hd3, .inl hm⟩ tk (fun W pn xe tkW _ => ?_)
    (fun a oe cls d pn hz ⟨vs, hv⟩ => (su a oe cls d pn hz ⟨vs, hv⟩ ⟨(a, oe), ⟨rfl, vs, hv, hz.2.2 vs hv⟩, List.mem_cons_self⟩).p)
  · rw [body]
    refine ⟨_, pss_cons tryP pss_never, ?_⟩
    refine ⟨by unfold L2.start; rfl, rfl, spX_mono (fun cls d H' q => ?_) want⟩
    obtain ⟨C, fo, rfl, mt, xis, q⟩ := q
    obtain ⟨i, hi, _⟩ := id mt
    refine ⟨true, hX C (List.mem_of_getElem? hi), fun _ a ha => ?_, fun z => by cases z⟩
    have hdd : ∀ b, d = some b → ∃ fs, H' b = some (.xd fs) := fun b z => by
      cases fo with
      | none => rw [show d = none from xis] at z; cases z
      | some y =>
        obtain ⟨da, h1, h2⟩ := xis
        rw [h1] at z
        cases z
        exact ⟨_, h2⟩
    have fz := frozen_stt (K := K) hdd
    have rs : RepS K (hide (frozen H' d) H' (dictM H' d)) (L2.start N [.ref p, .str word, .int val]) (startD N.length [.adr p, .str word, .int val]) := startD_ok (.cons (.adr p) (.cons (.str word) (.one (.int val))))
    have sw : WS K (ts a (.ref C) d) (t a (.ref C) d) := by
      have z := su a { cls := .ref C, dict := d, data := .fields #[.none, .none, .none] } (.ref C) d [] ⟨rfl, rfl, fun vs e => by cases e; rfl⟩ ⟨_, rfl⟩ ⟨(a, { cls := .ref C, dict := d, data := .fields #[.none, .none, .none] }), ⟨rfl, _, rfl, rfl⟩, List.mem_cons_self⟩
      exact z.w
    refine sw (frozen H' d) _ _ (dictM H' d) _ H' _ (read a p C d fo word val (dictM H' d) (fun dv m' => dv = .bl true) mt ?_ ?_ rfl) ⟨fz, rs.set (.adr a)⟩ ⟨fun _ _ _ _ _ _ z => z.elim, fun v H2 dv m2 ex s2 r2 z => ?_, fun _ _ _ _ _ _ z => z.elim, fun _ _ _ _ _ _ z => z.elim⟩
    · rintro rfl
      exact xis
    · rintro fl n rfl
      obtain ⟨da, h1, h2⟩ := xis
      refine ⟨da, h1, ?_⟩
      unfold dictM
      rw [if_pos h1, h2]
      rfl
    · cases z
      cases r2
      exact q H2 (frozen_back ex s2)
  · have peC : PE ((cxOf CX0 P w K mg base N x (defScope st) f cd A outer s H E0).tr pn xe) (.Call (.Name work p1) [] [] p2) (fun σ H1 _ => σ[0]? = some (some (.ref p)) ∧ H1 = H ∧ spX K preT cvs H (fun _ _ => False) (fun cls d H' => W cls d σ H')) := by
      refine ⟨fun pins s1 σ H1 Q I1 q => ?_⟩
      obtain ⟨q0, eH, q⟩ := q
      refine wpAny_Call_Name_kw (thn ((pe_var (pos := p1) (i := 0) h0 hv hd1 hd2).run pins s1 σ H1 (fun v H2 => v = .ref p ∧ H2 = H1) I1 ⟨.ref p, q0, rfl, rfl⟩) fun u s2 ⟨v, H2, I2, r2, ev, e2⟩ => ?_)
      subst ev
      subst e2
      subst eH
      obtain rfl : u = Value.ref p := r2
      obtain ⟨cl, pm, c, ct, dV, doc, hp, _⟩ := clo.ex
      have of1 : ObjOk P w H2 s2.heap p (.ext fun h => h.get? p = some (lamObj T cl pm c ct dV doc)) := I2.hok p _ hp
      refine PySem.W.callWith_F0 ⟨_, _, _, _, of1.1⟩ ?_
      have un : Un (frs outer) [] H2 H2 s.heap s2.heap := I2.base
      have clo2 : CloAt T NT p cvs (frs (envOfC x (defScope st) s.heap.objs.size f cd :: outer)) H2 s2.heap := clo.keep un (fun b z => z) fun b o hb nb z => by
        rcases List.mem_cons.mp (show b ∈ s.heap.objs.size :: frs outer from z) with z | z
        · exact absurd (Heap.lt_size hb) (by rw [z]; exact Nat.lt_irrefl _)
        · exact nb z
      have rc := L.run _ _ s2 H2 p cvs (fun _ _ => False) (fun cls d H' => W cls d σ H') room' I2.env0 clo2 q
      refine wpAny_call (codeAny_mono rc fun r s3 hq => ?_)
      cases r with
      | error ev => exact tkW _ _ (L2N.XE.of_call I2 (fun _ _ _ h => h) hq)
      | ok fl =>
        cases fl with
        | ret u =>
          obtain ⟨_, _, _, _, _, _, _, z⟩ := hq
          exact z.elim
        | next => exact False.elim hq
        | brk => exact False.elim hq
        | cont => exact False.elim hq
    exact pss_one (ps_expr peC rfl)
end
end Dq

/-! the closure handed on: its cells stand apart for the time of the call -/
namespace Dq
open PySem PySem.Spec L2 PyProof.Rows
def cutH (L : List Addr) (H : Hp) : Hp := fun b => if b ∈ L then none else H b
def glueH (L : List Addr) (H H' : Hp) : Hp := fun b => if b ∈ L then H b else H' b
theorem cutH_in {L : List Addr} {H : Hp} {b : Addr} (h : b ∈ L) : cutH L H b = none := if_pos h
theorem cutH_out {L : List Addr} {H : Hp} {b : Addr} (h : b ∉ L) : cutH L H b = H b := if_neg h
theorem glueH_in {L : List Addr} {H H' : Hp} {b : Addr} (h : b ∈ L) : glueH L H H' b = H b := if_pos h
theorem glueH_out {L : List Addr} {H H' : Hp} {b : Addr} (h : b ∉ L) : glueH L H H' b = H' b := if_neg h
theorem cutH_le {L : List Addr} {H : Hp} {b : Addr} {u : HO} (h : cutH L H b = some u) : H b = some u ∧ b ∉ L := by
  unfold cutH at h
  split at h
  · cases h
  · exact ⟨h, by assumption⟩
/-- at a stands a cell that holds v, out of reach -/
structure OwnC (fs : List Addr) (H : Hp) (h : Heap) (a : Addr) (v : V) : Prop where
  ex : ∃ o u, Rest fs H h a o ∧ o.data = .cell (some u) ∧ RelV v u
section
variable {P : Program} {w : World} {L : List Addr} {H : Hp} {h : Heap}
/-- all of L stand as they are -/
def Stands (L : List Addr) (H : Hp) : Prop := ∀ a ∈ L, ∃ o, H a = some (exactO a o)
theorem cut_ok (hok : HOk P w H h) (L : List Addr) (st : Stands L H) : HOk P w (cutH L H) h := fun a o e => by
  obtain ⟨e1, n1⟩ := cutH_le e
  have kind : ∀ {b u}, H b = some u → (∀ φ, u ≠ .ext φ) → cutH L H b = some u := fun {b u} q n => by
    rw [cutH_out]
    · exact q
    · intro hb
      obtain ⟨o', q'⟩ := st b hb
      rw [q] at q'
      exact n _ (Option.some.inj q')
  exact (hok a o e1).stay (fun _ _ _ q => q) (fun b q => kind q fun _ z => HO.noConfusion z) fun b xs q => kind q fun _ z => HO.noConfusion z
theorem glue_back {fs : List Addr} {H' : Hp} {h' : Heap} (hok : HOk P w H h) (st : Stands L H) (frf : ∀ b ∈ fs, H b = none) (un : Un fs [] (cutH L H) H' h h') (hok' : HOk P w H' h') : Un fs [] H (glueH L H H') h h' ∧ HOk P w (glueH L H H') h' := by
  have kept : ∀ {a o}, a ∈ L → H a = some (exactO a o) → h'.get? a = some o := fun {a o} ha e => by
    refine un.keep a o (exact_at hok e) (cutH_in ha) (fun hf => ?_) (by simp)
    rw [frf a hf] at e
    cases e
  have gone : ∀ {a}, a ∈ L → H' a = none := fun {a} ha => by
    obtain ⟨o, e⟩ := st a ha
    exact un.free a o (exact_at hok e) (cutH_in ha) (by simp)
  have notin : ∀ {b}, H b = none → b ∉ L := fun {b} n hb => by
    obtain ⟨o, e⟩ := st b hb
    rw [n] at e
    cases e
  have kind : ∀ {b u}, H b = some u → (∀ φ, u ≠ .ext φ) → b ∉ L := fun {b u} q n hb => by
    obtain ⟨o', q'⟩ := st b hb
    rw [q] at q'
    exact n _ (Option.some.inj q')
  have some' : ∀ {b u}, H' b = some u → glueH L H H' b = some u := fun {b u} q => by
    rw [glueH_out]
    · exact q
    · intro hb
      rw [gone hb] at q
      cases q
  refine ⟨⟨fun b o e n hf hx => un.keep b o e (by rw [cutH_out (notin n)]; exact n) hf hx, fun b o e n hf hx => un.slot b o e (by rw [cutH_out (notin n)]; exact n) hf hx, fun b o e n hx => ?_, un.there, fun b xs e => ?_, fun b o u e => ?_, fun b ps e => ?_⟩, fun a o e => ?_⟩
  · rw [glueH_out (notin n)]
    exact un.free b o e (by rw [cutH_out (notin n)]; exact n) hx
  · have nb := kind e fun _ z => HO.noConfusion z
    rw [glueH_out nb]
    exact un.tups b xs (by rw [cutH_out nb]; exact e)
  · have nb := kind e fun _ z => HO.noConfusion z
    rw [glueH_out nb]
    exact un.frzs b o u (by rw [cutH_out nb]; exact e)
  · have nb := kind e fun _ z => HO.noConfusion z
    rw [glueH_out nb]
    exact un.tbls b ps (by rw [cutH_out nb]; exact e)
  · by_cases ha : a ∈ L
    · rw [glueH_in ha] at e
      obtain ⟨o', e'⟩ := st a ha
      rw [e'] at e
      cases e
      exact exact_ok (kept ha e')
    · rw [glueH_out ha] at e
      exact (hok' a o e).stay (fun _ _ _ q => q) (fun b q => some' q) fun b xs q => some' q
end
section
variable {Y : Cx} {pins : List (Addr × Obj)} {σ : L2.St} {H : Hp} {s : Shared} {cs : List Addr} {x : Str} {k : Nat}
/-- what must stand at the call: OW: the cells out of reach; L: the cells that are tracked -/
def RefAt (OW : Addr → V → Prop) (P : Program) (w : World) (K : PySem.W.Frag) (mg : Str → Option Value) (base : Heap) (k : Nat) (cs : List Addr) (vs : List V) (H : Hp) (Q : VK) : Prop :=
  ∃ (p : Addr) (word : Str) (val : Int) (T : LamT) (N : List Str) (cl : List (Str × Addr)) (pm : Value) (c : Addr) (ct dV doc : Value) (preT : PreX) (cvs : List V) (L : List Addr), vs = [.ref p, .str word, .int val] ∧ H p = some (exactO p (lamObj T cl pm c ct dV doc)) ∧ H c = some (LamX.CodeO c T.qual) ∧ p ∉ L ∧ c ∉ L ∧ DvOk (cutH L H) T.dv dV ∧
    (∀ y z a, cl.lookup y = some a → cl.lookup z = some a → y = z) ∧ (∀ y a, cl.lookup y = some a → y ∈ N) ∧ cvs.length = N.length ∧ Stands L H ∧
    (∀ (i : Nat) (y : Str) (v : V), N[i]? = some y → cvs[i]? = some v → ∃ a, cl.lookup y = some a ∧ (OW a v ∨ a ∈ L ∧ ∃ o u, H a = some (exactO a o) ∧ o.data = .cell (some u) ∧ RelV v u)) ∧
    LamOk P w K mg base k T N (spX K preT) ∧ spX K preT cvs (cutH L H) (fun _ _ => False) (refE cs word val fun v H' => (∀ a ∈ L, H' a = none) → Q v (glueH L H H'))
theorem ref_run (R : RefOk Y.prog Y.w Y.K Y.mg Y.base cs x k) (room : Room (k + 1) Y.A) {OW : Addr → V → Prop} {f : Addr} (hf : Y.mg x = some (.ref f)) (I : Inv Y pins σ H s) (own : ∀ a v, OW a v → OwnC (frs Y.stack) H s.heap a v) {us : List Value} {vs : List V} {Q : VK} (rel : Vals vs us) (want : RefAt OW Y.prog Y.w Y.K Y.mg Y.base k cs vs H Q) :
    wpAny (model Y.prog Y.w) Y.A (call (.ref f) us) (EP Y pins σ Q) Y.xe s := by
  obtain ⟨f', hm', _, run⟩ := R.ex
  rw [hf] at hm'
  cases hm'
  obtain ⟨p, word, val, T, N, cl, pm, c, ct, dV, doc, preT, cvs, L, rfl, hp, hc, np, nc, hdv, inj, dom, len, st, cells, LT, sp⟩ := want
  have e0 := I.env0
  have e0' : Env0 Y.prog Y.w Y.K Y.mg Y.base Y.A Y.stack s (cutH L H) := ⟨e0.frames, e0.mod, fun b o e => ⟨(e0.bs b o e).1, by
    by_cases hb : b ∈ L
    · exact cutH_in hb
    · rw [cutH_out hb]
      exact (e0.bs b o e).2⟩, e0.bsz, e0.funs, fun b hb => by
    by_cases h : b ∈ L
    · exact cutH_in h
    · rw [cutH_out h]
      exact e0.frf b hb, cut_ok e0.hok L st, e0.bare⟩
  have clo : CloAt T N p cvs (frs Y.stack) (cutH L H) s.heap := by
    refine ⟨cl, pm, c, ct, dV, doc, by rw [cutH_out np]; exact hp, by rw [cutH_out nc]; exact hc, hdv, inj, dom, len, fun i y v hy hv => ?_⟩
    obtain ⟨a, ha, h⟩ := cells i y v hy hv
    rcases h with h | ⟨hL, o, u, h1, h2, h3⟩
    · obtain ⟨o, u, r, h2, h3⟩ := (own a v h).ex
      refine ⟨a, o, u, ha, ⟨r.at_, ?_, r.nf⟩, h2, h3⟩
      by_cases h : a ∈ L
      · exact cutH_in h
      · rw [cutH_out h]
        exact r.un
    · refine ⟨a, o, u, ha, ⟨exact_at e0.hok h1, cutH_in hL, fun z => ?_⟩, h2, h3⟩
      rw [e0.frf a z] at h1
      cases h1
  have rc := run Y.A Y.stack s (cutH L H) p cvs word val us T N preT (fun v H' => (∀ a ∈ L, H' a = none) → Q v (glueH L H H')) room e0' rel clo LT sp
  refine wpAny_call (codeAny_mono rc fun r s' hq => ?_)
  cases r with
  | error e => exact False.elim hq
  | ok fl =>
    cases fl with
    | ret u =>
      obtain ⟨v, H', h1, h2, h3, h4, h5, h6⟩ := hq
      obtain ⟨g1, g2⟩ := glue_back e0.hok st e0.frf h3 h4
      exact I.after ⟨v, _, h1, h2, g1, g2, h5, h6 fun a ha => by
        obtain ⟨o, e⟩ := st a ha
        exact h3.free a o (exact_at e0.hok e) (cutH_in ha) (by simp)⟩
    | next => exact False.elim hq
    | brk => exact False.elim hq
    | cont => exact False.elim hq
/-- own cells of a frame -/
def Own (N : List Str) (cells : List (Str × Addr)) (cn : List Str) (σ : L2.St) (a : Addr) (v : V) : Prop := ∃ (j : Nat) (y : Str), y ∈ cn ∧ N[j]? = some y ∧ cells.lookup y = some a ∧ σ[j]? = some (some v)
theorem own_at {cn : List Str} (I : Inv Y pins σ H s) (hs : Y.stack = Y.env :: Y.outer) (hf : Y.env.frame = some Y.env.locals) (hcn : ∀ y ∈ cn, Y.fn y = true ∧ Y.env.scope.names.lookup y = some .cell) {a : Addr} {v : V} (o : Own Y.N Y.env.cells cn σ a v) : OwnC (frs Y.stack) H s.heap a v := by
  obtain ⟨j, y, hy, hN, hc, hv⟩ := o
  obtain ⟨m, ns, look⟩ := I.loc
  obtain ⟨hfn, hk⟩ := hcn y hy
  obtain ⟨u, ru, lk⟩ := look j y v hN hv (.inr (.inl hk))
  rcases lk with ⟨hl, _⟩ | ⟨_, c, hc2, o, ho, hd⟩
  · have hl : Y.env.scope.names.lookup y = some .local := hl
    rw [hk] at hl
    cases hl
  · rw [hc] at hc2
    cases hc2
    refine ⟨o, u, ⟨ho, I.freeC y a hc, fun z => ?_⟩, hd, ru⟩
    rw [hs] at z
    rcases List.mem_cons.mp (show a ∈ Y.env.locals :: frs Y.outer from by
      unfold frs at z
      rw [List.filterMap_cons, hf] at z
      exact z) with z | z
    · obtain ⟨o2, es, ep, ho2, hd2, _⟩ := ns
      rw [← z, ho] at ho2
      cases ho2
      rw [hd2] at hd
      cases hd
    · have lt := Heap.lt_size (I.ok.funs.mem z).2.choose_spec.1
      exact absurd (Nat.lt_of_lt_of_le lt (I.ok.cab y a hfn hc)) (Nat.lt_irrefl _)
end
end Dq

/-! deep: the closure handed on -/
namespace Dq
open PySem PySem.Spec L2 PyProof.Rows
def cutM (L : List Addr) (m : Mu) : Mu := fun b => if b ∈ L then none else m b
def glueM (L : List Addr) (m m' : Mu) : Mu := fun b => if b ∈ L then m b else m' b
theorem cutM_nil {m : Mu} : cutM [] m = m := by funext b; unfold cutM; rw [if_neg (by simp)]
theorem glueM_nil {m m' : Mu} : glueM [] m m' = m' := by funext b; unfold glueM; rw [if_neg (by simp)]
/-- what must stand at the call, in the store's words; DOW: the cells of the frame -/
def RefD (LK : LamT → List Str → PreX → Prop) (DOW : Addr → D → Prop) (cs : List Addr) (ds : List D) (m : Mu) (Q : D → Mu → Prop) : Prop :=
  ∃ (p : Addr) (word : Str) (val : Int) (T : LamT) (N : List Str) (cl : List (Str × Addr)) (preT : PreX) (us : List D) (L : List Addr), ds = [.adr p, .str word, .int val] ∧ m p = some (.clo T cl) ∧
    (∀ y z a, cl.lookup y = some a → cl.lookup z = some a → y = z) ∧ (∀ y a, cl.lookup y = some a → y ∈ N) ∧ us.length = N.length ∧ (∀ a ∈ L, ∃ d, m a = some (.cel d)) ∧
    (∀ (i : Nat) (y : Str) (d : D), N[i]? = some y → us[i]? = some d → ∃ a, cl.lookup y = some a ∧ (DOW a d ∨ a ∈ L ∧ m a = some (.cel d))) ∧
    LK T N preT ∧ preT us (cutM L m) (fun _ _ => False) (fun C fo m' => MatchX cs word val C fo ∧ Q (.bl true) (glueM L m m'))
theorem pick {α β : Type} {R : Nat → α → β → Prop} : ∀ (us : List β) (j : Nat), (∀ i d, us[i]? = some d → ∃ v, R (j + i) v d) → ∃ vs : List α, vs.length = us.length ∧ ∀ i v d, vs[i]? = some v → us[i]? = some d → R (j + i) v d
  | [], _, _ => ⟨[], rfl, fun i v d h => by simp at h⟩
  | u :: us, j, h => by
    obtain ⟨v, hv⟩ := h 0 u rfl
    obtain ⟨vs, hl, hr⟩ := pick us (j + 1) fun i d hd => by
      obtain ⟨w, hw⟩ := h (i + 1) d (by simpa using hd)
      exact ⟨w, by rw [show j + 1 + i = j + (i + 1) by omega]; exact hw⟩
    refine ⟨v :: vs, by simp [hl], fun i w d h1 h2 => ?_⟩
    cases i with
    | zero =>
      simp at h1 h2
      subst h1
      subst h2
      exact hv
    | succ i =>
      have := hr i w d (by simpa using h1) (by simpa using h2)
      rw [show j + (i + 1) = j + 1 + i by omega]
      exact this
theorem reps_of {K : PySem.W.Frag} {H : Hp} : ∀ {vs : List V} {ds : List D}, vs.length = ds.length → (∀ (i : Nat) (v : V) (d : D), vs[i]? = some v → ds[i]? = some d → Rep K H v d) → Reps K H vs ds
  | [], [], _, _ => .nil
  | [], _ :: _, h, _ => by simp at h
  | _ :: _, [], h, _ => by simp at h
  | v :: vs, d :: ds, h, r => .cons (r 0 v d rfl rfl) (reps_of (by simpa using h) fun i w e h1 h2 => r (i + 1) w e (by simpa using h1) (by simpa using h2))
section
variable {K : PySem.W.Frag} {F H H' : Hp} {m m' : Mu} {L : List Addr}
theorem hide_cut (st : ∀ a ∈ L, ∃ d, m a = some (.cel d)) : hide F (cutH L H) (cutM L m) = hide F H m := by
  funext b
  by_cases hb : b ∈ L
  · obtain ⟨d, e⟩ := st b hb
    unfold hide cutH cutM
    rw [e, if_pos hb, if_pos hb]
    cases F b <;> rfl
  · unfold hide cutH cutM
    rw [if_neg hb, if_neg hb]
theorem cut_stt (s : Stt K F H m) (st : ∀ a ∈ L, ∃ d, m a = some (.cel d)) : Stt K F (cutH L H) (cutM L m) := by
  refine ⟨fun b u e => ?_, fun b o e => ?_, s.ft⟩
  · obtain ⟨h1, h2⟩ := s.fr b u e
    have nb : b ∉ L := fun hb => by
      obtain ⟨d, q⟩ := st b hb
      rw [h2] at q
      cases q
    exact ⟨by rw [cutH_out nb]; exact h1, by unfold cutM; rw [if_neg nb]; exact h2⟩
  · rw [hide_cut st]
    unfold cutM at e
    split at e
    · cases e
    · rename_i nb
      exact (s.ok b o e).mono (cutH_out nb) Ext.refl
theorem hide_glue (st : ∀ a ∈ L, ∃ d, m a = some (.cel d)) (no : ∀ a ∈ L, H' a = none) : hide F (glueH L H H') (glueM L m m') = hide F H' m' := by
  funext b
  by_cases hb : b ∈ L
  · obtain ⟨d, e⟩ := st b hb
    have n := no b hb
    unfold hide glueH glueM
    rw [if_pos hb, if_pos hb, e, n]
    cases m' b <;> cases F b <;> rfl
  · unfold hide glueH glueM
    rw [if_neg hb, if_neg hb]
theorem glue_stt (s : Stt K F H m) (s' : Stt K F H' m') (st : ∀ a ∈ L, ∃ d, m a = some (.cel d)) (no : ∀ a ∈ L, H' a = none) (ex : Ext (hide F H m) (hide F H' m')) : Stt K F (glueH L H H') (glueM L m m') := by
  refine ⟨fun b u e => ?_, fun b o e => ?_, s.ft⟩
  · obtain ⟨h1, h2⟩ := s'.fr b u e
    have nb : b ∉ L := fun hb => by
      rw [no b hb] at h1
      cases h1
    exact ⟨by rw [glueH_out nb]; exact h1, by unfold glueM; rw [if_neg nb]; exact h2⟩
  · rw [hide_glue st no]
    unfold glueM at e
    split at e
    · rename_i hb
      exact (s.ok b o e).mono (glueH_in hb) ex
    · rename_i nb
      exact (s'.ok b o e).mono (glueH_out nb) Ext.refl
end
theorem ref_deep {P : Program} {w : World} {K : PySem.W.Frag} {mg : Str → Option Value} {base : Heap} {k : Nat} {LK : LamT → List Str → PreX → Prop} {DOW : Addr → D → Prop} {OW : Addr → V → Prop} {cs : List Addr} {F H : Hp} {m : Mu} {vs : List V} {ds : List D} {Q : D → Mu → Prop} {R : VK} (lk : ∀ T N pre, LK T N pre → LamOk P w K mg base k T N (spX K pre))
    (q : RefD LK DOW cs ds m Q) (s : Stt K F H m) (r : Reps K (hide F H m) vs ds) (ow : ∀ a d, DOW a d → ∃ v, OW a v ∧ Rep K (hide F H m) v d) (p : Pst K F H m Q R) : RefAt OW P w K mg base k cs vs H R := by
  obtain ⟨pa, word, val, T, N, cl, preT, us, L, rfl, hp, inj, dom, len, st, cells, hL, q⟩ := q
  obtain ⟨pm, ct, c, dV, doc, h1, h2, hdv⟩ := s.ok pa _ hp
  have vs_ : vs = [.ref pa, .str word, .int val] := by
    cases r with
    | cons r1 r => cases r with
      | cons r2 r => cases r with
        | cons r3 r =>
          cases r
          cases r1
          cases r2
          cases r3
          rfl
  have np : pa ∉ L := fun hb => by
    obtain ⟨d, e⟩ := st pa hb
    rw [hp] at e
    cases e
  have nc : c ∉ L := fun hb => by
    obtain ⟨d, e⟩ := st c hb
    have := (hide_un h2).1
    rw [e] at this
    cases this
  have hdv2 : DvOk (cutH L H) T.dv dV := by
    rcases hdv with h | ⟨t, us, e1, e2, e3⟩
    · exact .inl h
    · refine .inr ⟨t, us, e1, ?_, e3⟩
      rw [cutH_out]
      · exact hide_le e2
      · intro hb
        obtain ⟨d, e⟩ := st t hb
        have := (hide_un e2).1
        rw [e] at this
        cases this
  have stH : Stands L H := fun a ha => by
    obtain ⟨d, e⟩ := st a ha
    obtain ⟨o, u, v, g, _⟩ := s.ok a _ e
    exact ⟨o, g⟩
  obtain ⟨cvs, cl_, cr⟩ := pick (R := fun i (v : V) (d : D) => Rep K (hide F H m) v d ∧ ∀ y, N[i]? = some y → ∃ a, cl.lookup y = some a ∧ (OW a v ∨ a ∈ L ∧ ∃ o u, H a = some (exactO a o) ∧ o.data = .cell (some u) ∧ RelV v u)) us 0 fun i d hd => by
    have hi : i < N.length := by
      rw [← len]
      exact (List.getElem?_eq_some_iff.mp hd).1
    obtain ⟨a, ha, h⟩ := cells i _ d (List.getElem?_eq_getElem hi) hd
    rcases h with h | ⟨hL, hm⟩
    · obtain ⟨v, h1, h2⟩ := ow a d h
      refine ⟨v, h2, fun y hy => ⟨a, ?_, .inl h1⟩⟩
      rw [Nat.zero_add, List.getElem?_eq_getElem hi] at hy
      cases hy
      exact ha
    · obtain ⟨o, u, v, g1, g2, g3, g4⟩ := s.ok a _ hm
      refine ⟨v, g4, fun y hy => ⟨a, ?_, .inr ⟨hL, o, u, g1, g2, g3⟩⟩⟩
      rw [Nat.zero_add, List.getElem?_eq_getElem hi] at hy
      cases hy
      exact ha
  refine ⟨pa, word, val, T, N, cl, pm, c, ct, dV, doc, preT, cvs, L, vs_, h1, hide_le h2, np, nc, hdv2, inj, dom, cl_.trans len, stH, fun i y v hy hv => ?_, lk _ _ _ hL, ?_⟩
  · have hi : i < us.length := by
      rw [← cl_]
      exact (List.getElem?_eq_some_iff.mp hv).1
    have := (cr i v _ hv (List.getElem?_eq_getElem hi)).2 y
    rw [Nat.zero_add] at this
    exact this hy
  · have sc := cut_stt s st
    refine ⟨F, us, cutM L m, _, _, sc, reps_of cl_ fun i v d h1 h2 => by rw [hide_cut st]; exact (cr i v d h1 h2).1, q, fun _ _ _ _ _ _ _ z => z.elim, fun C d fo H' m' ex s' xis ⟨mt, q'⟩ => ⟨C, fo, rfl, mt, ?_, fun H2 but no => ?_⟩⟩
    · cases fo with
      | none => exact xis
      | some y =>
        obtain ⟨da, e1, e2⟩ := xis
        exact ⟨da, e1, hide_le e2⟩
    · rw [hide_cut st] at ex
      obtain ⟨b1, b2⟩ := but_stt s' but fun b z => by
        cases fo with
        | none => rw [show d = none from xis] at z; cases z
        | some y =>
          obtain ⟨da, e1, e2⟩ := xis
          rw [e1] at z
          cases z
          exact ⟨(hide_un e2).1, (hide_un e2).2, _, hide_le e2⟩
      have ex2 := ex.trans b1
      refine p _ _ _ (glueM L m m') ?_ (glue_stt s b2 st no ex2) (.bl true) q'
      rw [hide_glue st no]
      exact ex2
/-! the call in a frame -/
def DOwn (N : List Str) (cells : List (Str × Addr)) (cn : List Str) (env : Env) (a : Addr) (d : D) : Prop := ∃ (j : Nat) (y : Str), y ∈ cn ∧ N[j]? = some y ∧ cells.lookup y = some a ∧ env[j]? = some (some d)
theorem down_own {K : PySem.W.Frag} {H : Hp} {N : List Str} {cells : List (Str × Addr)} {cn : List Str} {σ : L2.St} {env : Env} (r : RepS K H σ env) : ∀ a d, DOwn N cells cn env a d → ∃ v, Own N cells cn σ a v ∧ Rep K H v d := fun a d ⟨j, y, h1, h2, h3, h4⟩ => by
  obtain ⟨v, hv, rv⟩ := r.2 j d h4
  exact ⟨v, ⟨j, y, h1, h2, h3, hv⟩, rv⟩
def dRef (LK : LamT → List Str → PreX → Prop) (N : List Str) (cells : List (Str × Addr)) (cn : List Str) (cs : List Addr) (da : dA) : dE := fun env m Q => da env m fun ds m1 => RefD LK (DOwn N cells cn env) cs ds m1 Q
def tRef (X : Cx) (cn : List Str) (k : Nat) (cs : List Addr) (ta : TA) : TE := fun σ H Q => ta σ H fun vs H1 => RefAt (Own X.N X.env.cells cn σ) X.prog X.w X.K X.mg X.base k cs vs H1 Q
section
variable {K : PySem.W.Frag} {X : Cx} {cs : List Addr} {x : Str} {k : Nat} {LK : LamT → List Str → PreX → Prop} {cn : List Str} {e : Expr} {es : List Expr} {ta : TA} {da : dA} {p pos : Pos}
theorem pe_refY {Y : Cx} {OW : L2.St → Addr → V → Prop} (R : RefOk Y.prog Y.w Y.K Y.mg Y.base cs x k) (hr : Room (k + 1) Y.A) (own : ∀ pins σ H s, Inv Y pins σ H s → ∀ a v, OW σ a v → OwnC (frs Y.stack) H s.heap a v) (ha : PA Y (e :: es) ta) (hg : Gl Y x) (hdb : (x == ("__debug__" : Str)) = false) (he : starEach (e :: es) Y.env = (false, eval e Y.env) :: starEach es Y.env)
    (hpl : (backTo pos (starEach es Y.env)).any (·.1) = false) : PE Y (.Call (.Name x p) (e :: es) [] pos) (fun σ H Q => ta σ H fun vs H1 => RefAt (OW σ) Y.prog Y.w Y.K Y.mg Y.base k cs vs H1 Q) := by
  refine ⟨fun pins s σ H Q I h => ?_⟩
  obtain ⟨f, hm, hk, _⟩ := id R.ex
  refine wpAny_Call_Name_kw (ld_glob I hg hm ?_ hdb)
  refine PySem.W.callWith_K (h₀ := Y.base) I.ok.mod.kin hk (thn (ha.run pos pins s σ H _ I h) fun us s1 ⟨vs, H1, I1, r, q⟩ => ⟨I1.kIn, ?_⟩) he hpl
  exact ref_run R hr hm I1 (own _ _ _ _ I1) r q
theorem d_ref (R : RefOk X.prog X.w X.K X.mg X.base cs x k) (hr : Room (k + 1) X.A) (lk : ∀ T N pre, LK T N pre → LamOk X.prog X.w K X.mg X.base k T N (spX K pre)) (hcn : ∀ y ∈ cn, X.fn y = true ∧ X.env.scope.names.lookup y = some .cell) (ha : DA K X (e :: es) ta da) (hs : X.stack = X.env :: X.outer := by rfl) (hf : X.env.frame = some X.env.locals := by rfl)
    (hg : Gl X x := by rfl) (hdb : (x == ("__debug__" : Str)) = false := by decide) (he : starEach (e :: es) X.env = (false, eval e X.env) :: starEach es X.env := by rfl) (hpl : (backTo pos (starEach es X.env)).any (·.1) = false := by rfl) (hK : X.K = K := by rfl) :
    DE K X (.Call (.Name x p) (e :: es) [] pos) (tRef X cn k cs ta) (dRef LK X.N X.env.cells cn cs da) := by
  subst hK
  exact ⟨pe_refY R hr (fun _ _ _ _ I a v o => own_at I hs hf hcn o) ha.p hg hdb he hpl, fun F env m Q σ H R q o p => ha.w F env m _ σ H _ q o fun vs H1 ds m1 e1 s1 r1 q1 => ref_deep lk q1 s1 r1 (down_own (o.fr.mono e1)) (p.at e1)⟩
/-- [w for w in works if not x(w, ..)] -/
def dLcR (LK : LamT → List Str → PreX → Prop) (N : List Str) (cells : List (Str × Addr)) (cn : List Str) (cs : List Addr) (b : Bool) (i : Nat) (di : dE) (da : dA) (de : dE) : dE :=
  dLcH b i di (fun env0 env m Q => da env m fun ds m1 => RefD LK (DOwn N cells cn env0) cs ds m1 fun d m2 => ∃ c, d = .bl c ∧ Q (!c) m2) de
theorem d_lcR (b : Bool) {elt iter : Expr} {scope : Scope} {n : Str} {i : Nat} {tp npos lpos : Pos} {tl : TE} {dl : dE} {te : TE} {de : dE} (R : RefOk X.prog X.w X.K X.mg X.base cs x k) (hr : Room (k + 1) X.A) (lk : ∀ T N pre, LK T N pre → LamOk X.prog X.w K X.mg X.base k T N (spX K pre)) (hcn : ∀ y ∈ cn, X.fn y = true ∧ X.env.scope.names.lookup y = some .cell)
    (hN : X.N.Nodup) (hl : DE K X iter tl dl) (ok : BlkOk X.N X.env.scope scope [(n, i)])
    (hg : ∀ (s : Shared) (H : Hp) (C : Addr) (cl : List (Str × Addr)) (fp : List Addr), PG (X.blk s H scope (compEnvC scope cl C X.env) fp) (.Name n tp) (gName i)) (ha : ∀ (s : Shared) (H : Hp) (C : Addr) (cl : List (Str × Addr)) (fp : List Addr), DA K (X.blk s H scope (compEnvC scope cl C X.env) fp) (e :: es) ta da)
    (he : ∀ (s : Shared) (H : Hp) (C : Addr) (cl : List (Str × Addr)) (fp : List Addr), DE K (X.blk s H scope (compEnvC scope cl C X.env) fp) elt te de) (hgl : ∀ (s : Shared) (H : Hp) (C : Addr) (cl : List (Str × Addr)) (fp : List Addr), Gl (X.blk s H scope (compEnvC scope cl C X.env) fp) x := by intro _ _ _ _ _; rfl) (hdb : (x == ("__debug__" : Str)) = false := by decide)
    (hst : ∀ (cl : List (Str × Addr)) (C : Addr), starEach (e :: es) (compEnvC scope cl C X.env) = (false, eval e (compEnvC scope cl C X.env)) :: starEach es (compEnvC scope cl C X.env) := by intro _ _; rfl)
    (hpl : ∀ (cl : List (Str × Addr)) (C : Addr), (backTo pos (starEach es (compEnvC scope cl C X.env))).any (·.1) = false := by intro _ _; rfl)
    (htr : ∀ (cl : List (Str × Addr)) (C : Addr) (whole : Sem Value), isTrue (.Call (.Name x p) (e :: es) [] pos) (compEnvC scope cl C X.env) whole = (do let v ← whole; standAt (Expr.Call (.Name x p) (e :: es) [] pos).pos; holding [v] (truthy v)) := by intro _ _ _; rfl)
    (hs : X.stack = X.env :: X.outer := by rfl) (hf : X.env.frame = some X.env.locals := by rfl) (hfo : ∀ z, foldedSetIterable iter X.env z = pure z := by intro _; rfl) (hc : X.calm = true := by rfl) (hK : X.K = K := by rfl) :
    DE K X (.ListComp elt [⟨.Name n tp, iter, [.UnaryOp .Not (.Call (.Name x p) (e :: es) [] pos) npos], 0⟩] scope lpos) (tLcH K i tl (fun σ => tNot (tB fun σb H Q => ta σb H fun vs H1 => RefAt (Own X.N X.env.cells cn σ) X.prog X.w X.K X.mg X.base k cs vs H1 Q)) te) (dLcR LK X.N X.env.cells cn cs b i dl da de) := by
  subst hK
  refine ⟨⟨fun pins s σ H Q I want => ?_⟩, fun F env m Q σ H R' q o p => lch_at b F env m Q σ H R' hl.w (fun x F' env' m' Q' H' R2 q o' fr p => ?_) (he X.s_0 X.H_0 0 [] []).w q o p⟩
  · refine comp_run I (.inl hc) hN ok hl.p (fun _ _ _ => hg _ _ _ _ _) (fun s3 H3 it I3 fp => ⟨pts_one (pt_not (pt_val (pe_refY (Y := blkAt X scope s3 H3 it) (OW := fun _ => Own X.N X.env.cells cn σ) R hr (fun pins' σ' H' s' I' a v o => ?_) (ha _ _ _ _ _).p (hgl _ _ _ _ _) hdb (hst _ _) (hpl _ _)) (htr _ _))), (he _ _ _ _ _).p⟩) hfo want
    obtain ⟨oc, u, r, h2, h3⟩ := (own_at I3 hs hf hcn o).ex
    obtain ⟨j, y, _, _, hc2, _⟩ := o
    have un : Un (frs X.stack) [it] H3 H' s3.heap s'.heap := I'.base
    exact ⟨oc, u, r.keep un r.nf (by simpa using fp.2.2.2.2.1 y a hc2) r.nf, h2, h3⟩
  · refine (ha X.s_0 X.H_0 0 [] []).w F' env' m' _ _ H' _ q o' fun vs H1 ds m1 e1 s1 r1 q1 => ?_
    refine ref_deep lk q1 s1 r1 (down_own (fr.mono e1)) fun v H2 d m2 e2 s2 r2 q2 => ?_
    obtain ⟨c, rfl, q2⟩ := q2
    cases r2
    exact ⟨c, rfl, p _ H2 m2 (e1.trans e2) s2 q2⟩
end
end Dq

/-! deep: a lambda's body -/
namespace Dq
open PySem PySem.Spec L2 PyProof.Rows
theorem reps_map {K : PySem.W.Frag} {H : Hp} {vs : List V} {ds : List D} (r : Reps K H vs ds) : RepS K H (vs.map some) (ds.map some) := by
  refine ⟨by simp [r.length], fun i d h => ?_⟩
  rw [List.getElem?_map] at h
  obtain ⟨d', h1, h2⟩ := Option.map_eq_some_iff.mp h
  cases h2
  obtain ⟨v, hv, rv⟩ := r.get h1
  exact ⟨v, by rw [List.getElem?_map, hv]; rfl, rv⟩
section
variable {P : Program} {w : World} {K : PySem.W.Frag} {mg : Str → Option Value} {base : Heap}
theorem ok_lam {k : Nat} {T : LamT} {N : List Str} {preT : PreX} (L : LamSc T N) (bd : LamBd T N)
    (hb : ∀ (A : Around) (outer : List PySem.Env) (s : Shared) (H : Hp) (E : XK) (cl : List (Str × Addr)) (f c : Addr), Room k (A.deeper (lamEnv T cl s.heap.objs.size f c)) → L2N.Takes (lamC P w K mg base T N cl A outer s H E f c) (fun cls d _ H => E cls d H) →
      ∃ te t, DEX K (lamC P w K mg base T N cl A outer s H E f c) E T.body te t ∧ ∀ ds m Q xd, preT ds m Q xd → t xd (ds.map some) m Q) : LamOk P w K mg base (k + 1) T N (spX K preT) := by
  refine lam_of L bd fun A outer s H E cl f c hr => ?_
  obtain ⟨te, t, b, q⟩ := hb A outer s H E cl f c hr (L2N.takes_of rfl rfl rfl rfl)
  refine ⟨te, b.p, fun vs Q h => ?_⟩
  obtain ⟨F, ds, m, Q', xd, st, r, p, k', x'⟩ := h
  exact b.w F xd (ds.map some) m Q' (vs.map some) H Q (q ds m Q' xd p) ⟨st, reps_map r⟩ k' x'
end
/-- a def of the text whose code object stands at c -/
structure FunC (K : PySem.W.Frag) (x qual : Str) (st : Stmt) (c f : Addr) (fd : FuncData) : Prop where
  ex : ∃ (oc : Value) (od : Option Addr) (kV doc pm : Value) (an : Option Addr) (ct : Value) (sl : Array (Option Value)), fd = PySem.W.fnOf x qual (defArgs st) (defBody st) (defScope st) .none kV doc pm an (.ref c) ct ∧ K.lookup f = some ⟨oc, od, .func fd, sl⟩ ∧ PySem.W.codeIn K (.ref c) qual = true
  kp : PySem.W.keepIn K (.ref f) = true
theorem FunC.plain {K : PySem.W.Frag} {x qual : Str} {st : Stmt} {c f : Addr} {fd : FuncData} (h : FunC K x qual st c f fd) : Fun K x qual st f fd := by
  obtain ⟨oc, od, kV, doc, pm, an, ct, sl, e1, e2, e3⟩ := h.ex
  exact ⟨⟨oc, od, kV, doc, pm, an, .ref c, ct, sl, e1, e2, e3⟩, h.kp⟩
structure HasC (K : PySem.W.Frag) (mg : Str → Option Value) (x : Str) (st : Stmt) (c : Addr) : Prop where
  ex : ∃ f fd, FunC K x x st c f fd ∧ mg x = some (.ref f)
theorem HasC.plain {K : PySem.W.Frag} {mg : Str → Option Value} {x : Str} {st : Stmt} {c : Addr} (h : HasC K mg x st c) : Has K mg x st := by
  obtain ⟨f, fd, F, m⟩ := h.ex
  exact ⟨f, fd, F.plain, m⟩
/-! a def that ends with a return, its own cells told to the caller -/
/-- what stands behind a list of statements that returns: slots, value, heap -/
def RP (X : Cx) (pins : List (Addr × Obj)) (R : L2.St → V → Hp → Prop) (f : Flow) (s' : Shared) : Prop := ∃ u v σ' H', f = .ret u ∧ Inv X pins σ' H' s' ∧ RelV v u ∧ R σ' v H'
abbrev TR := (L2.St → V → Hp → Prop) → L2.St → Hp → Prop
structure RetP (X : Cx) (sts : List Stmt) (t : TR) : Prop where
  run : ∀ (pins : List (Addr × Obj)) (s : Shared) (σ : L2.St) (H : Hp) (R : L2.St → V → Hp → Prop), Inv X pins σ H s → t R σ H → wpAny (model X.prog X.w) X.A (execs sts X.env) (RP X pins R) X.xe s
section
variable {X : Cx} {st : Stmt} {rest : List Stmt} {e : Expr} {ts : TS} {t : TR} {te : TE} {pos : Pos}
theorem pr_cons (h : PS X st ts) (k : RetP X rest t) : RetP X (st :: rest) (fun R σ H => ts { nx := fun σ' H' => t R σ' H', rt := fun _ _ => False, bk := fun _ _ => False, ct := fun _ _ => False } σ H) := by
  refine ⟨fun pins s σ H R I q => ?_⟩
  refine wpAny_execs_cons (wpAny_mono (h.run pins s σ H _ I q) (fun f s1 z => ?_) fun _ _ z => z)
  cases f with
  | next =>
    obtain ⟨σ', H', J, q'⟩ := z
    exact k.run pins s1 σ' H' R J q'
  | brk =>
    obtain ⟨_, _, _, q'⟩ := z
    exact q'.elim
  | cont =>
    obtain ⟨_, _, _, q'⟩ := z
    exact q'.elim
  | ret u =>
    obtain ⟨_, _, _, _, _, q'⟩ := z
    exact q'.elim
theorem pr_ret (h : PE X e te) : RetP X [.Return (some e) pos] (fun R σ H => te σ H fun v H' => R σ v H') := by
  refine ⟨fun pins s σ H R I q => ?_⟩
  exact wpAny_execs_cons (wpAny_Return_some (thn (h.run pins s σ H _ I q) fun u s1 ⟨v, H1, I1, r1, q1⟩ => ⟨u, v, σ, H1, rfl, I1, r1, q1⟩))
end
theorem Un.add {fs ex : List Addr} {H H' : Hp} {h h' : Heap} {a : Addr} {o : HO} (un : Un fs ex H H' h h') (new : h.objs.size ≤ a) (na : H' a = none) : Un fs ex H (upd H' a o) h h' := by
  have ne : ∀ {b u}, H' b = some u → upd H' a o b = some u := fun e => by
    rw [upd_ne (ne_of_none e na)]
    exact e
  refine ⟨un.keep, un.slot, fun b ob e n hx => ?_, un.there, fun b xs e => ne (un.tups b xs e), fun b ob u e => ne (un.frzs b ob u e), fun b ps e => ?_⟩
  · rw [upd_ne fun z => absurd (Nat.lt_of_lt_of_le (Heap.lt_size e) new) (by rw [z]; exact Nat.lt_irrefl _)]
    exact un.free b ob e n hx
  · obtain ⟨more, q⟩ := un.tbls b ps e
    exact ⟨more, ne q⟩
theorem hok_add {P : Program} {w : World} {H : Hp} {h : Heap} {a : Addr} {o : Obj} (ok : HOk P w H h) (na : H a = none) (at_ : h.get? a = some o) : HOk P w (upd H a (exactO a o)) h := fun b u e => by
  by_cases hb : b = a
  · subst hb
    rw [upd_same] at e
    cases e
    exact exact_ok at_
  · rw [upd_ne hb] at e
    have ne : ∀ {c v}, H c = some v → upd H a (exactO a o) c = some v := fun e => by
      rw [upd_ne (ne_of_none e na)]
      exact e
    exact (ok b u e).stay (fun _ _ _ q => q) (fun _ q => ne q) fun _ _ q => ne q
/-- what is wanted where the def's first two names are cells that closures hold -/
def Left (N : List Str) (cells : List (Str × Addr)) (y1 y2 : Str) (Q : VK) : L2.St → V → Hp → Prop := fun σ v H => ∃ v1 v2, σ[0]? = some (some v1) ∧ σ[1]? = some (some v2) ∧
  ∀ (a1 a2 : Addr) (o1 o2 : Obj) (u1 u2 : Value), cells.lookup y1 = some a1 → cells.lookup y2 = some a2 → a1 ≠ a2 → H a1 = none → H a2 = none → o1.data = .cell (some u1) → RelV v1 u1 → o2.data = .cell (some u2) → RelV v2 u2 → Q v (upd (upd H a1 (exactO a1 o1)) a2 (exactO a2 o2))
section
variable {P : Program} {w : World} {K : PySem.W.Frag} {mg : Str → Option Value} {base : Heap}
theorem fn_left {k : Nat} {x : Str} {st : Stmt} {f : Addr} {fd : FuncData} {N ps : List Str} {sp : Sp} {y1 y2 : Str} {c : Addr} (F : FunC K x x st c f fd) (S : FnScope N ps (defScope st)) (len : ∀ vs H Q E, sp vs H Q E → vs.length = ps.length) (n1 : N[0]? = some y1) (n2 : N[1]? = some y2)
    (k1 : (defScope st).names.lookup y1 = some .cell) (k2 : (defScope st).names.lookup y2 = some .cell) (ne : y1 ≠ y2)
    (body : ∀ (A : Around) (outer : List PySem.Env) (s : Shared) (H : Hp) (vs : List V) (Q : VK), Room k (A.deeper (envOfC x (defScope st) s.heap.objs.size f (.ref c))) → sp vs H Q E0 →
      ∃ t, RetP (cxOf CX0 P w K mg base N x (defScope st) f (.ref c) A outer s H E0) (defBody st) t ∧ t (Left N (envOfC x (defScope st) s.heap.objs.size f (.ref c)).cells y1 y2 Q) (L2.start N vs) H) (spE : ∀ vs H Q E, sp vs H Q E → sp vs H Q E0) : FnOk P w K mg base CX0 (k + 1) f fd ps sp := by
  obtain ⟨oc, od, kV, doc, pm, an, ct, sl, rfl, at_, code⟩ := F.ex
  refine ⟨len, fun A outer s H args us vs Q E room e0 bd rel want => ?_⟩
  have hl := len _ _ _ _ want
  obtain ⟨t, rp, q⟩ := body A outer s H vs Q (room.deeper _) (spE _ _ _ _ want)
  have inK : K.In s.heap := e0.mod.kin.keeps fun b o e => (e0.bs b o e).1
  have nolim : s.heap.NoLimit := e0.mod.nolimit.keeps fun b o e => (e0.bs b o e).1
  apply codeAny_call_function room.depth (inK _ _ at_) rfl S.co S.gen rfl (PySem.W.codeRec_of inK code)
  refine bd _ _ _ _ (wpAny_newFunctionEnv_cells S.kind (fun y hy => (S.par y.1 (List.of_mem_zip (a := y.1) (b := y.2) hy).1).elim .inl fun z => .inr ⟨z, PySem.W.cellsFrom_some _ _ _ (.inl z)⟩) ?_)
  rintro env rfl s1 inC
  refine ⟨nolim.keeps inC.toInCall.keep, codeAny_func ?_⟩
  have I0 : Inv (cxOf CX0 P w K mg base N x (defScope st) f (.ref c) A outer s H E0) [] (L2.start N vs) H s1 := inv_start S room.hd e0 hl rel inC
  refine wpAny_mono (rp.run [] s1 _ H _ I0 q) ?_ fun e s2 z => z
  rintro fl s2 ⟨u, v, σ2, H2, rfl, J, rv, v1, v2, h1, h2, fin⟩
  obtain ⟨a1, c1⟩ := J.ok.has y1 (.inl k1)
  obtain ⟨a2, c2⟩ := J.ok.has y2 (.inl k2)
  have a12 : a1 ≠ a2 := fun z => ne (J.ok.inj y1 y2 a1 c1 (by rw [z]; exact c2))
  have cn : ∀ y ∈ [y1, y2], (cxOf CX0 P w K mg base N x (defScope st) f (.ref c) A outer s H E0).fn y = true ∧ (defScope st).names.lookup y = some .cell := fun y hy => by
    rcases List.mem_cons.mp hy with rfl | hy
    · exact ⟨rfl, k1⟩
    · rcases List.mem_cons.mp hy with rfl | hy
      · exact ⟨rfl, k2⟩
      · cases hy
  obtain ⟨o1, u1, r1, d1, g1⟩ := (own_at (cn := [y1, y2]) J rfl rfl cn ⟨0, y1, by simp, n1, c1, h1⟩).ex
  obtain ⟨o2, u2, r2, d2, g2⟩ := (own_at (cn := [y1, y2]) J rfl rfl cn ⟨1, y2, by simp, n2, c2, h2⟩).ex
  have q2 := fin a1 a2 o1 o2 u1 u2 c1 c2 a12 r1.un r2.un d1 g1 d2 g2
  have na2 : upd H2 a1 (exactO a1 o1) a2 = none := by rw [upd_ne (Ne.symm a12)]; exact r2.un
  exact ⟨v, _, J.os, J.bare, Un.add (Un.add J.base (J.ok.cab y1 a1 rfl c1) r1.un) (J.ok.cab y2 a2 rfl c2) na2, hok_add (hok_add J.hok r1.un r1.at_) na2 r2.at_, rv, q2⟩
end
end Dq

/-! deep: a def whose closures outlive it -/
namespace Dq
open PySem PySem.Spec L2 PyProof.Rows
abbrev dR := (Env → D → Mu → Prop) → Env → Mu → Prop
structure DR (K : PySem.W.Frag) (X : Cx) (sts : List Stmt) (t : TR) (dt : dR) : Prop where
  p : RetP X sts t
  w : ∀ (F : Hp) (env : Env) (m : Mu) (σ : L2.St) (H : Hp) (R : L2.St → V → Hp → Prop) (Q : Env → D → Mu → Prop), dt Q env m → Ok K F H σ env m → (∀ σ' H' env' m' v d, Ext (hide F H m) (hide F H' m') → Ok K F H' σ' env' m' → Rep K (hide F H' m') v d → Q env' d m' → R σ' v H') → t R σ H
section
variable {K : PySem.W.Frag} {X : Cx} {st : Stmt} {rest : List Stmt} {e : Expr} {ts : TS} {ds : dS} {t : TR} {dt : dR} {te : TE} {de : dE} {pos : Pos}
def rSeq (ds : dS) (dt : dR) : dR := fun Q env m => ds { nx := fun env' m' => dt Q env' m', rt := fun _ _ => False, bk := fun _ _ => False, ct := fun _ _ => False } env m
theorem r_cons (h : DS K X st ts ds) (k : DR K X rest t dt) : DR K X (st :: rest) (fun R σ H => ts { nx := fun σ' H' => t R σ' H', rt := fun _ _ => False, bk := fun _ _ => False, ct := fun _ _ => False } σ H) (rSeq ds dt) := by
  obtain ⟨h1, w1⟩ := h
  obtain ⟨h2, w2⟩ := k
  refine ⟨pr_cons h1 h2, fun F env m σ H R Q q o p => w1 F _ env m σ H _ q o ⟨fun σ' H' env' m' ex o' q' => ?_, fun _ _ _ _ _ _ _ z => z.elim, fun _ _ _ _ _ _ z => z.elim, fun _ _ _ _ _ _ z => z.elim⟩⟩
  exact w2 F env' m' σ' H' R Q q' o' fun σ2 H2 env2 m2 v d ex2 o2 r2 q2 => p σ2 H2 env2 m2 v d (ex.trans ex2) o2 r2 q2
def rRet (de : dE) : dR := fun Q env m => de env m fun d m1 => Q env d m1
theorem r_ret (h : DE K X e te de) : DR K X [.Return (some e) pos] (fun R σ H => te σ H fun v H' => R σ v H') (rRet de) := by
  obtain ⟨h1, w1⟩ := h
  exact ⟨pr_ret h1, fun F env m σ H R Q q o p => w1 F env m _ σ H _ q o fun v H1 d m1 e1 s1 r1 q1 => p σ H1 env m1 v d e1 (o.at s1 e1) r1 q1⟩
end
/-- what the caller is told: the two cells stand as they were left -/
def leftD (cells : List (Str × Addr)) (y1 y2 : Str) (Q : D → Mu → Prop) : Env → D → Mu → Prop := fun env d m => ∃ d1 d2, env[0]? = some (some d1) ∧ env[1]? = some (some d2) ∧
  ∀ a1 a2, cells.lookup y1 = some a1 → cells.lookup y2 = some a2 → a1 ≠ a2 → m a1 = none → m a2 = none → Q d (ups (ups m a1 (.cel d1)) a2 (.cel d2))
theorem def_left {P : Program} {w : World} {K : PySem.W.Frag} {mg : Str → Option Value} {base : Heap} {x : Str} {st : Stmt} {k : Nat} {pre : Pre} {N ps : List Str} {y1 y2 : Str} {c : Addr} (h : HasC K mg x st c) (S : FnScope N ps (defScope st)) (n1 : N[0]? = some y1) (n2 : N[1]? = some y2)
    (k1 : (defScope st).names.lookup y1 = some .cell) (k2 : (defScope st).names.lookup y2 = some .cell) (ne : y1 ≠ y2) (len : ∀ ds m Q, pre ds m Q → ds.length = ps.length)
    (hb : ∀ (kV doc pm : Value) (an : Option Addr) (cdv ct : Value) (us : List Value), us.length = ps.length → bindArgs (PySem.W.fnOf x x (defArgs st) (defBody st) (defScope st) .none kV doc pm an cdv ct) ⟨us, []⟩ = pure (ps.zip us))
    (body : ∀ (f : Addr) (A : Around) (outer : List PySem.Env) (s : Shared) (H : Hp), Room k (A.deeper (envOfC x (defScope st) s.heap.objs.size f (.ref c))) →
      ∃ t dt, DR K (cxOf CX0 P w K mg base N x (defScope st) f (.ref c) A outer s H E0) (defBody st) t dt ∧ ∀ ds m Q, pre ds m Q → dt (leftD (envOfC x (defScope st) s.heap.objs.size f (.ref c)).cells y1 y2 Q) (startD N.length ds) m) : Def P w K mg base x (k + 1) pre := by
  obtain ⟨f, fd, F, hm⟩ := h.ex
  refine ⟨f, fd, ps, fn_left F S (fun vs H Q E q => ?_) n1 n2 k1 k2 ne (fun A outer s H vs Q room q => ?_) fun vs H Q E q => q, hm, F.plain.kp, F.plain.binds hb⟩
  · obtain ⟨F', ds, m, Q', s', r, p, _⟩ := q
    rw [r.length]
    exact len _ _ _ p
  · obtain ⟨F', ds, m, Q', s', r, q, k'⟩ := q
    obtain ⟨t, dt, b, q'⟩ := body f A outer s H room
    refine ⟨t, b.p, b.w F' (startD N.length ds) m (L2.start N vs) H _ _ (q' ds m Q' q) ⟨s', startD_ok r⟩ ?_⟩
    rintro σ2 H2 env2 m2 v d ex o2 r2 ⟨d1, d2, h1, h2, fin⟩
    obtain ⟨v1, e1, r1⟩ := o2.fr.2 0 d1 h1
    obtain ⟨v2, e2, r3⟩ := o2.fr.2 1 d2 h2
    refine ⟨v1, v2, e1, e2, fun a1 a2 o1 o2' u1 u2 c1 c2 a12 na1 na2 g1 g2 g3 g4 => ?_⟩
    have st2 := o2.st
    have ex1 : Ext (hide F' H2 m2) (hide F' (upd H2 a1 (exactO a1 o1)) (ups m2 a1 (.cel d1))) := Ext.newM st2 na1
    have st3 : Stt K F' (upd H2 a1 (exactO a1 o1)) (ups m2 a1 (.cel d1)) := st2.newM na1 ⟨o1, u1, v1, upd_same, g1, g2, r1.mono ex1⟩
    have na2' : upd H2 a1 (exactO a1 o1) a2 = none := by rw [upd_ne (Ne.symm a12)]; exact na2
    have ex3 : Ext (hide F' (upd H2 a1 (exactO a1 o1)) (ups m2 a1 (.cel d1))) (hide F' (upd (upd H2 a1 (exactO a1 o1)) a2 (exactO a2 o2')) (ups (ups m2 a1 (.cel d1)) a2 (.cel d2))) := Ext.newM st3 na2'
    have st4 : Stt K F' (upd (upd H2 a1 (exactO a1 o1)) a2 (exactO a2 o2')) (ups (ups m2 a1 (.cel d1)) a2 (.cel d2)) := st3.newM na2' ⟨o2', u2, v2, upd_same, g3, g4, (r3.mono ex1).mono ex3⟩
    exact k' v _ d _ ((ex.trans ex1).trans ex3) st4 ((r2.mono ex1).mono ex3) (fin a1 a2 c1 c2 a12 (st2.free na1) (st2.free na2))
end Dq

/-! defs whose code object is known; defs that raise, by their text; __init__ of own exceptions -/
namespace Dq
open PySem PySem.Spec L2 PyProof.Rows
section
variable {P : Program} {w : World} {K : PySem.W.Frag} {mg : Str → Option Value} {base : Heap}
theorem ok_defC {x qual : Str} {st : Stmt} {c f : Addr} {fd : FuncData} {N ps : List Str} {k : Nat} {pre : Pre} (F : FunC K x qual st c f fd) (S : FnScope N ps (defScope st)) (len : ∀ ds m Q, pre ds m Q → ds.length = ps.length)
    (hb : ∀ (A : Around) (outer : List PySem.Env) (s : Shared) (H : Hp) (E : XK), Room k (A.deeper (envOfC qual (defScope st) s.heap.objs.size f (.ref c))) →
      ∃ ts t, DSs K (cxOf CX0 P w K mg base N qual (defScope st) f (.ref c) A outer s H E).nox (defBody st) ts t ∧ ∀ ds m Q, pre ds m Q → t { nx := fun _ m' => Q .non m', rt := Q } (startD N.length ds) m) : FnOk P w K mg base CX0 (k + 1) f fd ps (spD K pre) := by
  obtain ⟨oc, od, kV, doc, pm, an, ct, sl, rfl, at_, code⟩ := F.ex
  refine L2.fn_of at_ code S (fun vs H Q E h => ?_) fun A outer s H vs Q E hr h => ?_
  · obtain ⟨F', ds, m, Q', s', r, p, _⟩ := h
    rw [r.length]
    exact len _ _ _ p
  · obtain ⟨F', ds, m, Q', s', r, p, k'⟩ := h
    obtain ⟨ts, t, b, q⟩ := hb A outer s H E hr
    exact ⟨ts, b.p.nox, b.w F' _ (startD N.length ds) m (L2.start N vs) H _ (q ds m Q' p) ⟨s', startD_ok r⟩ ⟨fun σ' H' env' m' ex o' q' => k' _ H' _ m' ex o'.st .non q', k', fun _ _ _ _ _ _ z => z.elim, fun _ _ _ _ _ _ z => z.elim⟩⟩
variable {x : Str} {st : Stmt} {k : Nat} {ps : List Str}
theorem Def.ofC {c : Addr} {pre : Pre} (h : HasC K mg x st c) (hb : ∀ (kV doc pm : Value) (an : Option Addr) (cdv ct : Value) (us : List Value), us.length = ps.length → bindArgs (PySem.W.fnOf x x (defArgs st) (defBody st) (defScope st) .none kV doc pm an cdv ct) ⟨us, []⟩ = pure (ps.zip us))
    (ok : ∀ f fd, FunC K x x st c f fd → FnOk P w K mg base CX0 k f fd ps (spD K pre)) : Def P w K mg base x k pre := by
  obtain ⟨f, fd, F, hm⟩ := h.ex
  exact ⟨f, fd, ps, ok f fd F, hm, F.plain.kp, F.plain.binds hb⟩
theorem DefX.of {pre : PreX} (h : Has K mg x st) (hb : ∀ (kV doc pm : Value) (an : Option Addr) (cdv ct : Value) (us : List Value), us.length = ps.length → bindArgs (PySem.W.fnOf x x (defArgs st) (defBody st) (defScope st) .none kV doc pm an cdv ct) ⟨us, []⟩ = pure (ps.zip us))
    (ok : ∀ f fd, Fun K x x st f fd → FnOk P w K mg base (L2N.CX P w) k f fd ps (spX K pre)) : DefX P w K mg base x k pre := by
  obtain ⟨f, fd, F, hm⟩ := h.ex
  exact ⟨f, fd, ps, ok f fd F, hm, F.kp, F.binds hb⟩
variable {C : Addr} {qual : Str}
theorem MDefX.of {pre : PreX} (h : HasM K C x qual st) (hb : ∀ (kV doc pm : Value) (an : Option Addr) (cdv ct : Value) (us : List Value), us.length = ps.length → bindArgs (PySem.W.fnOf x qual (defArgs st) (defBody st) (defScope st) .none kV doc pm an cdv ct) ⟨us, []⟩ = pure (ps.zip us))
    (ok : ∀ f fd, Fun K x qual st f fd → FnOk P w K mg base (L2N.CX P w) k f fd ps (spX K pre)) : MDefX P w K mg base C x k pre := by
  obtain ⟨f, fd, F, hm⟩ := h.ex
  exact ⟨f, fd, ps, ok f fd F, hm, F.binds hb⟩
theorem IDefX.of {pre : PreX} (h : HasI K C qual st) (hb : ∀ (kV doc pm : Value) (an : Option Addr) (cdv ct : Value) (us : List Value), us.length = ps.length → bindArgs (PySem.W.fnOf "__init__" qual (defArgs st) (defBody st) (defScope st) .none kV doc pm an cdv ct) ⟨us, []⟩ = pure (ps.zip us))
    (ok : ∀ f fd, Fun K "__init__" qual st f fd → FnOk P w K mg base (L2N.CX P w) k f fd ps (spX K pre)) : IDefX P w K mg base C k pre := by
  obtain ⟨f, fd, F, hm⟩ := h.ex
  exact ⟨f, fd, ps, ok f fd F, hm, F.binds hb⟩
/-- S.__init__(self, at); self.f = at -/
theorem init_ok {f : Addr} {fd : FuncData} {S : Addr} {bx a b fl : Str} {p1 p2 p3 q1 q2 pos r1 r2 r3 r4 : Pos} (F : Fun K "__init__" qual st f fd) (Sc : FnScope [a, b] [a, b] (defScope st)) (B : BaseInit K mg bx S)
    (body : defBody st = [.Expr (.Call (.Attribute (.Name bx p1) "__init__" p2) [.Name a q1, .Name b q2] [] pos) p3, .Assign [.Attribute (.Name a r1) fl r2] (.Name b r3) r4]) (hg : (defScope st).names.lookup bx = some .globalImplicit) (ha : (defScope st).names.lookup a = some .local) (hb : (defScope st).names.lookup b = some .local)
    (d0 : (bx == ("__debug__" : Str)) = false) (d1 : (a == ("__debug__" : Str)) = false) (d2 : (a == ("__classdict__" : Str)) = false) (d3 : (b == ("__debug__" : Str)) = false) (d4 : (b == ("__classdict__" : Str)) = false) (ev : ∀ (env : PySem.Env), ∃ pl, eval (.Call (.Attribute (.Name bx p1) "__init__" p2) [.Name a q1, .Name b q2] [] pos) env = viaAttr env (.Name bx p1) "__init__" p2 pos [.Name a q1, .Name b q2] pl) :
    FnOk P w K mg base CX0 1 f fd [a, b] (spInit K fl) := by
  refine F.ok Sc (fun vs H Q E h => ?_) fun cdv A outer s H vs Q E hr h => ?_
  · obtain ⟨_, _, _, rfl, _⟩ := h
    rfl
  obtain ⟨e, C, n, rfl, ox, nf, he, fin⟩ := h
  have va : ∀ (pp : Pos), PE (cxOf CX0 P w K mg base [a, b] qual (defScope st) f cdv A outer s H E).nox (.Name a pp) (tVar 0) := fun pp => pe_var (i := 0) rfl (.inl ha) d1 d2
  have vb : ∀ (pp : Pos), PE (cxOf CX0 P w K mg base [a, b] qual (defScope st) f cdv A outer s H E).nox (.Name b pp) (tVar 1) := fun pp => pe_var (i := 1) rfl (.inl hb) d3 d4
  obtain ⟨pl, ev⟩ := ev (cxOf CX0 P w K mg base [a, b] qual (defScope st) f cdv A outer s H E).nox.env
  have call := pe_baseinit (X := (cxOf CX0 P w K mg base [a, b] qual (defScope st) f cdv A outer s H E).nox) (pl := pl) B hg (pa_cons (va q1) (pa_cons (vb q2) pa_nil rfl) rfl) ev d0
  refine ⟨_, by rw [body]; exact pss_cons (ps_expr call rfl) (pss_one (ps_ost (va r1) (vb r3) rfl)), ?_⟩
  refine ⟨.ref e, rfl, .int n, rfl, e, C, [.int n], rfl, by simp, ox, he, ?_⟩
  refine ⟨.int n, rfl, .ref e, rfl, e, C, rfl, ox, nf, .inl ⟨he, fun dx h1 h2 => ?_⟩⟩
  exact fin dx h1 h2
end
end Dq

/-! small rules for the derivations -/
namespace Dq
open PySem PySem.Spec L2 PyProof.Rows
theorem LamOk.mono {P : Program} {w : World} {K : PySem.W.Frag} {mg : Str → Option Value} {base : Heap} {j k : Nat} {T : LamT} {N : List Str} {sp : Sp} (L : LamOk P w K mg base j T N sp) (h : j ≤ k) : LamOk P w K mg base k T N sp := ⟨fun A outer s H f vs Q E hr => L.run A outer s H f vs Q E (hr.mono h)⟩
/-- the text of a lambda -/
def lamOf (qual : Str) (dv : List Int) : Expr → LamT
  | .Lambda params body scope _ => ⟨params, body, scope, qual, dv⟩
  | _ => ⟨⟨[], [], none, [], [], none, []⟩, .Constant .none 0 ⟨0, 0, 0, 0⟩, ⟨.function, [], false, false, []⟩, qual, dv⟩
/-- the names of a lambda: the captured ones are cells of the frame -/
structure LamN (T : LamT) (N : List Str) (sc : Scope) : Prop where
  fk : ∀ y ∈ T.scope.names, y.2 = .free → sc.names.lookup y.1 = some .cell
  n1 : ∀ z ∈ T.scope.names, z.2 = .free → z.1 ∈ N
  n2 : ∀ y ∈ N, (y, NameKind.free) ∈ T.scope.names
section
variable {K : PySem.W.Frag} {X : Cx}
theorem d_lam (T : LamT) (N : List Str) {params : Arguments} {body : Expr} {scope : Scope} {pos : Pos} {c0 p : Addr} (TB : LamX.TabB X.base X.mg c0 p) (L : LamN T N X.env.scope) (hT : T = ⟨params, body, scope, X.env.qual ++ "<lambda>", []⟩ := by rfl) (code : X.env.code = .ref c0 := by rfl) (nodef : defaultsOf params X.env = ([], []) := by rfl) :
    DE K X (.Lambda params body scope pos) (tMkLam p X.env.cells N T) (dMkLam p X.env.cells N T) := by
  subst hT
  exact d_mklam TB code L.fk L.n1 L.n2 nodef
theorem d_lam1 (T : LamT) (N : List Str) {n : Int} {params : Arguments} {body e : Expr} {scope : Scope} {pos : Pos} {c0 p : Addr} (TB : LamX.TabB X.base X.mg c0 p) (L : LamN T N X.env.scope) (he : PE X e (tC (.int n))) (hT : T = ⟨params, body, scope, X.env.qual ++ "<lambda>", [n]⟩ := by rfl) (code : X.env.code = .ref c0 := by rfl) (hd : params.defaults = [e] := by rfl) (hk : params.kw_defaults = [] := by rfl) :
    DE K X (.Lambda params body scope pos) (tMkLam p X.env.cells N T) (dMkLam p X.env.cells N T) := by
  subst hT
  exact d_mklam1 TB code he L.fk L.n1 L.n2 hd hk
end
theorem u64H {A : Around} {k : Nat} (hr : L2H.RoomH k A) : A.units + 64 < cLine := by have := hr.un; omega
theorem roomMark {A : Around} {k : Nat} {x : Option Value} (hr : Room k A) : L2H.RoomH k (A.mark x) := ⟨hr.dp, hr.un⟩
/-! parts of the text -/
def valOf : Stmt → Expr
  | .Assign _ e _ => e
  | .Expr e _ => e
  | .Return (some e) _ => e
  | .If e _ _ _ => e
  | _ => .Constant .none 0 ⟨0, 0, 0, 0⟩
def noE : Expr := .Constant .none 0 ⟨0, 0, 0, 0⟩
def argE (i : Nat) : Expr → Expr
  | .Call _ es _ _ => es.getD i noE
  | .List es _ => es.getD i noE
  | .Tuple es _ _ => es.getD i noE
  | .BoolOp _ es _ => es.getD i noE
  | .BinOp a _ b _ => if i = 0 then a else b
  | .UnaryOp _ a _ => a
  | .Compare a _ es _ => if i = 0 then a else es.getD (i - 1) noE
  | _ => noE
end Dq

/-! plain words for the closure handed on -/
namespace Dq
open PySem PySem.Spec L2 PyProof.Rows
theorem refD_own {LK : LamT → List Str → PreX → Prop} {N NT cn : List Str} {cells cl : List (Str × Addr)} {cs : List Addr} {word : Str} {val : Int} {T : LamT} {preT : PreX} {us : List D} {env : Env} {m : Mu} {Q : D → Mu → Prop} {p : Addr} (hp : m p = some (.clo T cl)) (clo : CloF cells NT cl) (len : us.length = NT.length)
    (own : ∀ (i : Nat) (y : Str) (d : D), NT[i]? = some y → us[i]? = some d → ∃ j : Nat, y ∈ cn ∧ N[j]? = some y ∧ env[j]? = some (some d)) (lk : LK T NT preT) (h : preT us m (fun _ _ => False) (fun C fo m' => MatchX cs word val C fo ∧ Q (.bl true) m')) : RefD LK (DOwn N cells cn env) cs [.adr p, .str word, .int val] m Q := by
  refine ⟨p, word, val, T, NT, cl, preT, us, [], rfl, hp, clo.inj, clo.dom, len, by simp, fun i y d h1 h2 => ?_, lk, ?_⟩
  · obtain ⟨a, ha, hc⟩ := clo.all y (List.mem_of_getElem? h1)
    obtain ⟨j, g1, g2, g3⟩ := own i y d h1 h2
    exact ⟨a, ha, .inl ⟨j, y, g1, g2, hc, g3⟩⟩
  · rw [cutM_nil]
    simp only [glueM_nil]
    exact h
/-- a closure whose cells were left: all of them stand in L -/
theorem refD_left {LK : LamT → List Str → PreX → Prop} {DOW : Addr → D → Prop} {NT : List Str} {cells cl : List (Str × Addr)} {cs : List Addr} {word : Str} {val : Int} {T : LamT} {preT : PreX} {us : List D} {m : Mu} {Q : D → Mu → Prop} {p : Addr} (L : List Addr) (hp : m p = some (.clo T cl)) (clo : CloF cells NT cl) (len : us.length = NT.length) (hL : ∀ a ∈ L, ∃ d, m a = some (.cel d))
    (own : ∀ (i : Nat) (y : Str) (d : D) (a : Addr), NT[i]? = some y → us[i]? = some d → cells.lookup y = some a → a ∈ L ∧ m a = some (.cel d)) (lk : LK T NT preT) (h : preT us (cutM L m) (fun _ _ => False) (fun C fo m' => MatchX cs word val C fo ∧ Q (.bl true) (glueM L m m'))) : RefD LK DOW cs [.adr p, .str word, .int val] m Q := by
  refine ⟨p, word, val, T, NT, cl, preT, us, L, rfl, hp, clo.inj, clo.dom, len, hL, fun i y d h1 h2 => ?_, lk, h⟩
  obtain ⟨a, ha, hc⟩ := clo.all y (List.mem_of_getElem? h1)
  exact ⟨a, ha, .inr (own i y d a h1 h2 hc)⟩
end Dq

/-! k01: what is none, as plain data -/
namespace Ls
open PySem PySem.Spec L2 Dq PyProof.Rows
def Grow (m m' : Mu) : Prop := ∀ b o, m b = some o → m' b = some o
theorem Grow.refl (m : Mu) : Grow m m := fun _ _ h => h
theorem Grow.trans {m m1 m2 : Mu} (h : Grow m m1) (k : Grow m1 m2) : Grow m m2 := fun b o e => k b o (h b o e)
theorem Grow.new {m : Mu} {p : Addr} {o : MO} (h : m p = none) : Grow m (ups m p o) := fun b u e => by
  rw [ups_ne]
  · exact e
  · rintro rfl
    rw [h] at e
    cases e
def noRule (s : Str) : Prop := ∀ r, s ≠ rt r
theorem str_in {s : Str} : ∀ {l : List Str}, (∀ t ∈ l, s ≠ t) → inV (.str s) (l.map V.str) = false
  | [], _ => rfl
  | t :: l, h => by
    have h1 := h t List.mem_cons_self
    have h2 := str_in (s := s) (l := l) fun u hu => h u (List.mem_cons_of_mem _ hu)
    unfold inV at h2 ⊢
    rw [List.map_cons, List.any_cons, h2, Bool.or_false]
    show eqV (.str t) (.str s) = false
    have e : eqV (.str t) (.str s) = decide (t = s) := rfl
    rw [e]
    exact decide_eq_false fun z => h1 z.symm
theorem noRule_in {s : Str} (h : noRule s) : inV (toV (.str s)) [toV (.str "near"), toV (.str "left"), toV (.str "even")] = false := by
  refine str_in (l := [rt .near, rt .left, rt .even]) fun t ht => ?_
  simp only [List.mem_cons, List.not_mem_nil, or_false] at ht
  rcases ht with rfl | rfl | rfl
  · exact h .near
  · exact h .left
  · exact h .even
def badWide (w : Int) : Prop := ¬ (1 ≤ w ∧ w ≤ 6)
/-- the first sign of s that is none of a pattern stands at k -/
def BadAt (s : Str) (k : Nat) : Prop := (s = "" ∧ k = 0) ∨ ∃ (p : List Bool) (c : Nat) (rest : List Nat), p.length = k ∧ k ≤ 6 ∧ s.cps.toList = (ps p).cps.toList ++ c :: rest ∧ (k = 6 ∨ c ≠ 48 ∧ c ≠ 49)
/-- a deed that can't be done where n of w places are taken -/
def badK (w n : Nat) (word : Str) (k : Int) : Prop := ¬ (word = "take" ∧ 0 ≤ k ∧ k < n) ∧ ¬ (word = "put" ∧ 0 ≤ k ∧ k ≤ n ∧ n < w)
def spoilt (l : List (Wd × Nat)) (word : Str) (k : Int) (rest : List D) : D := .list (deedsD l ++ .tuple [.str word, .int k] :: rest)
theorem badK_step {r : Rl} {p : List Bool} {word : Str} {k : Int} (h : badK p.length (placesOf p).length word k) : stepM r p word k = none := by
  unfold stepM
  rw [if_neg h.1, if_neg h.2]
def goesN (many : Nat) (d : Wd × Nat) : Nat := match d.1 with | .put => many + 1 | .take => many - 1
theorem drawn_step {w mn n rk : Nat} {wd : Wd} {l : List (Wd × Nat)} (h : drawnOk w mn ((wd, rk) :: l) = some n) : ((wd = .put → rk ≤ mn ∧ mn < w) ∧ (wd = .take → rk < mn)) ∧ drawnOk w (goesN mn (wd, rk)) l = some n := by
  cases wd with
  | put =>
    rw [drawnOk_put] at h
    split at h
    · rename_i z
      exact ⟨⟨fun _ => z, nofun⟩, h⟩
    · cases h
  | take =>
    rw [drawnOk_take] at h
    split at h
    · rename_i z
      exact ⟨⟨nofun, fun _ => z⟩, h⟩
    · cases h
theorem wt_put : ∀ wd, (wt wd = Str.ofString "put") ↔ wd = .put := fun wd => by cases wd <;> decide +kernel
theorem wt_take : ∀ wd, (wt wd = Str.ofString "take") ↔ wd = .take := fun wd => by cases wd <;> decide +kernel
theorem wt_np : ¬ (wt Wd.take = Str.ofString "put") := by decide +kernel
theorem tp_np {s : Str} (h : s = Str.ofString "take") : ¬ s = Str.ofString "put" := by subst h; decide +kernel
theorem nums_snoc (l : List Nat) (n : Nat) : nums l ++ [.int (n : Nat)] = nums (l ++ [n]) := by
  unfold nums
  rw [List.map_append]
  rfl
theorem sign_in {p : List Bool} {i c : Nat} (h : (ps p).cps.toList[i]? = some c) : inV (toV (.str ⟨#[c]⟩)) [toV (.str "0"), toV (.str "1")] = true := by
  have hi : i < p.length := by
    have := (List.getElem?_eq_some_iff.mp h).1
    simpa [ps] using this
  have e : (ps p).cps.toList[i]? = some (if p[i] then 49 else 48) := by simp [ps, hi]
  rw [e] at h
  cases h
  cases p[i] <;> decide +kernel
theorem sign_out {c : Nat} (h1 : c ≠ 48) (h2 : c ≠ 49) : inV (toV (.str ⟨#[c]⟩)) [toV (.str "0"), toV (.str "1")] = false := by
  refine str_in (l := [(⟨#[48]⟩ : Str), ⟨#[49]⟩]) fun t ht => ?_
  simp only [List.mem_cons, List.not_mem_nil, or_false] at ht
  rcases ht with rfl | rfl
  · intro z
    have := congrArg (fun s : Str => s.cps.toList) z
    simp at this
    exact h1 this
  · intro z
    have := congrArg (fun s : Str => s.cps.toList) z
    simp at this
    exact h2 this
def evens (w : Nat) : List Int := (List.range w).map fun i : Nat => 2 * (i : Int)
theorem evens_len (w : Nat) : (evens w).length = w := by simp [evens]
theorem evens_in {w r : Nat} (h : r < w) : 2 * (r : Int) ∈ evens w := List.mem_map.mpr ⟨r, List.mem_range.mpr h, rfl⟩
theorem evens_out {w k : Nat} {x : Int} (d : Int) (h : x = 2 * (k : Int) - d ∧ (d = 1 ∨ d = -1)) : x ∉ evens w := fun z => by
  obtain ⟨i, _, e⟩ := List.mem_map.mp z
  omega
instance codB : Cod Bool where
  enc := .bl
  py := .bool
  isP := fun _ a => .bl a
  lay := fun _ => by simp [PyData.canLay0]
  dep := 0
  depth := fun _ => by simp [PyData.depth]
  eqv := fun a b => by cases a <;> cases b <;> simp [PyData.eqv]
theorem bl_ne {m : Mu} {Q : D → Mu → Prop} (l k : List Bool) (h : l = k) (q : Q (.bl false) m) : eqP false (.list (l.map D.bl)) (.list (k.map D.bl)) m Q := by
  subst h
  refine eq_cod (α := List Bool) l l (by decide) ?_
  rw [decide_eq_true rfl]
  exact q
theorem ups_none {m : Mu} {p q : Addr} {o : MO} : ups m p o q = none ↔ q ≠ p ∧ m q = none := by
  unfold ups
  by_cases h : q = p
  · simp [h]
  · simp [h]
theorem Grow.set {m m1 : Mu} {p : Addr} {o : MO} (g : Grow m m1) (h : m p = none) : Grow m (ups m1 p o) := fun b u e => by
  rw [ups_ne]
  · exact g b u e
  · rintro rfl
    rw [h] at e
    cases e
theorem str_len (s : Str) : s.length = s.cps.toList.length := Array.length_toList.symm
theorem cutS_take {s : Str} {k : Nat} (h : k ≤ s.cps.toList.length) : (cutS s none (some (k : Int))).cps.toList = s.cps.toList.take k := by
  unfold cutS
  rw [HT.sIx_none, HT.sIx_nat, str_len, Nat.min_eq_left h, List.toList_toArray, List.drop_zero, Nat.sub_zero]
theorem cutS_drop {s : Str} {k : Nat} (h : k ≤ s.cps.toList.length) : (cutS s (some (k : Int)) none).cps.toList = s.cps.toList.drop k := by
  unfold cutS
  rw [HT.sIx_none, HT.sIx_nat, str_len, Nat.min_eq_left h, List.toList_toArray]
  exact List.take_of_length_le (by rw [List.length_drop]; exact Nat.le_refl _)
theorem str_app (s t : Str) : (s ++ t).cps.toList = s.cps.toList ++ t.cps.toList := Array.toList_append
theorem ps_list (p : List Bool) : (ps p).cps.toList = p.map fun b => if b then 49 else 48 := rfl
/-- a wrong sign at k -/
theorem bad_mid {p : List Bool} {k c : Nat} (hk : k ≤ p.length) (h6 : p.length ≤ 6) (h1 : c ≠ 48) (h2 : c ≠ 49) : BadAt (cutS (ps p) none (some (k : Int)) ++ ⟨#[c]⟩ ++ cutS (ps p) (some (k : Int)) none) k := by
  have hl : k ≤ (ps p).cps.toList.length := by rw [ps_list, List.length_map]; exact hk
  refine .inr ⟨p.take k, c, ((ps p).cps.toList.drop k), by rw [List.length_take]; omega, by omega, ?_, .inr ⟨h1, h2⟩⟩
  rw [str_app, str_app, cutS_take hl, cutS_drop hl, ps_list, ps_list, List.map_take]
  simp
theorem bad_long {p : List Bool} (h6 : p.length ≤ 6) : BadAt (ps p ++ "0000000") 6 := by
  refine .inr ⟨p ++ List.replicate (6 - p.length) false, 48, List.replicate p.length 48, by simp; omega, by omega, ?_, .inl rfl⟩
  rw [str_app, ps_list, ps_list, List.map_append, List.map_replicate, List.append_assoc]
  congr 1
  have e : (("0000000" : Str)).cps.toList = List.replicate 7 48 := by decide +kernel
  rw [e, ← List.replicate_succ]
  show _ = List.replicate _ 48 ++ _
  rw [List.replicate_append_replicate]
  congr 1
  omega
theorem app_len (s t : Str) : (s ++ t).length = s.length + t.length := by rw [str_len, str_app, List.length_append, ← str_len, ← str_len]
theorem cut_len1 {p : List Bool} {k : Nat} (hk : k ≤ p.length) (h6 : p.length ≤ 6) : (cutS (ps p) none (some (k : Int))).length ≤ 6 ∧ (cutS (ps p) (some (k : Int)) none).length ≤ 6 := by
  have hl : k ≤ (ps p).cps.toList.length := by rw [ps_list, List.length_map]; exact hk
  rw [str_len, str_len, cutS_take hl, cutS_drop hl, List.length_take, List.length_drop, ps_list, List.length_map]
  omega
theorem wrong_sign {i : Nat} (h : i < 4) : ∃ c, (Str.ofString "2x _").cps.toList[i]? = some c ∧ c ≠ 48 ∧ c ≠ 49 := by
  have : i = 0 ∨ i = 1 ∨ i = 2 ∨ i = 3 := by omega
  rcases this with rfl | rfl | rfl | rfl
  · exact ⟨50, by decide +kernel, by decide, by decide⟩
  · exact ⟨120, by decide +kernel, by decide, by decide⟩
  · exact ⟨32, by decide +kernel, by decide, by decide⟩
  · exact ⟨95, by decide +kernel, by decide, by decide⟩
theorem drawn_none {wide : Nat} {l' : List (Wd × Nat)} : ∀ {l : List (Wd × Nat)} {many : Nat}, drawnOk wide many l = none → drawnOk wide many (l ++ l') = none
  | [], _, h => by cases h
  | (.put, k) :: l, many, h => by
    rw [drawnOk_put] at h
    rw [List.cons_append, drawnOk_put]
    split
    · rename_i z
      rw [if_pos z] at h
      exact drawn_none h
    · rfl
  | (.take, k) :: l, many, h => by
    rw [drawnOk_take] at h
    rw [List.cons_append, drawnOk_take]
    split
    · rename_i z
      rw [if_pos z] at h
      exact drawn_none h
    · rfl
theorem drawn_part {w n : Nat} {l : List (Wd × Nat)} (h : drawnOk w 0 l = some n) (k : Nat) : ∃ n', drawnOk w 0 (l.take k) = some n' := by
  cases e : drawnOk w 0 (l.take k) with
  | some n' => exact ⟨n', rfl⟩
  | none =>
    have := drawn_none (l' := l.drop k) e
    rw [List.take_append_drop, h] at this
    cases this
end Ls

/-! k01: closures in a list, all refused as they must -/
namespace Ls
open PySem PySem.Spec L2 Dq PyProof.Rows
theorem lcR_all {vs : List Nat} {env : Dq.Env} {i : Nat} {tt : dT} {te : dE} {Q : List D → Mu → Prop} (W : Mu → Prop) : ∀ (ds : List D) (m : Mu), W m → (∀ x ∈ ds, ∀ m1, W m1 → ∀ Q' : Bool → Mu → Prop, (∀ m2, W m2 → Q' false m2) → tt ((wipeD env vs).set i (some x)) m1 Q') → (∀ m2, W m2 → Q [] m2) → lcD vs env (hName i) tt te Q ds [] m
  | [], m, hm, _, q => q m hm
  | x :: ds, m, hm, h, q => by
    refine h x List.mem_cons_self m hm _ fun m2 h2 => ?_
    rw [if_neg (by decide)]
    exact lcR_all W ds m2 h2 (fun y hy => h y (List.mem_cons_of_mem _ hy)) q
/-- the list of those that are not refused is empty -/
theorem lcR_run {LK : LamT → List Str → PreX → Prop} {N cn : List Str} {cells : List (Str × Addr)} {cs : List Addr} {i : Nat} {di : dE} {da : dA} {de : dE} {env : Dq.Env} {m : Mu} {Q : D → Mu → Prop} (W : Mu → Prop) (ds : List D) (hd : ∀ Q' : D → Mu → Prop, Q' (.list ds) m → di env m Q') (hm : W m)
    (h : ∀ x ∈ ds, ∀ m1, W m1 → ∀ Q' : D → Mu → Prop, (∀ m2, W m2 → Q' (.bl true) m2) → da ((wipeD env [i]).set i (some x)) m1 fun ds m1 => RefD LK (DOwn N cells cn env) cs ds m1 Q') (q : ∀ m2, W m2 → Q (.list []) m2) : dLcR LK N cells cn cs false i di da de env m Q := by
  refine hd _ ⟨ds, rfl, lcR_all W ds m hm (fun x hx m1 h1 Q' q' => ?_) fun m2 h2 => q m2 h2⟩
  exact h x hx m1 h1 _ fun m2 h2 => ⟨true, rfl, q' m2 h2⟩
theorem match_deed {a1 a2 a3 a4 a5 a6 : Addr} {n : Int} : MatchX [a1, a2, a3, a4, a5, a6] (Str.ofString "deed") n a4 (some (("number" : Str), n)) := ⟨3, rfl, rfl, .inr (.inr ⟨rfl, rfl⟩)⟩
theorem match_pattern {a1 a2 a3 a4 a5 a6 : Addr} {n : Int} : MatchX [a1, a2, a3, a4, a5, a6] (Str.ofString "pattern") n a3 (some (("at" : Str), n)) := ⟨2, rfl, rfl, .inr (.inl ⟨rfl, rfl⟩)⟩
theorem match_width {a1 a2 a3 a4 a5 a6 : Addr} {n : Int} : MatchX [a1, a2, a3, a4, a5, a6] (Str.ofString "width") n a1 none := ⟨0, rfl, rfl, .inl ⟨rfl, by decide, by decide⟩⟩
theorem match_rule {a1 a2 a3 a4 a5 a6 : Addr} {n : Int} : MatchX [a1, a2, a3, a4, a5, a6] (Str.ofString "rule") n a2 none := ⟨1, rfl, rfl, .inl ⟨rfl, by decide, by decide⟩⟩
theorem match_key {a1 a2 a3 a4 a5 a6 : Addr} {n : Int} : MatchX [a1, a2, a3, a4, a5, a6] (Str.ofString "key") n a5 none := ⟨4, rfl, rfl, .inl ⟨rfl, by decide, by decide⟩⟩
theorem match_number {a1 a2 a3 a4 a5 a6 : Addr} {n : Int} : MatchX [a1, a2, a3, a4, a5, a6] (Str.ofString "number") n a6 none := ⟨5, rfl, rfl, .inl ⟨rfl, by decide, by decide⟩⟩
theorem mne {m : Mu} {x y : Addr} {o : MO} (h1 : m x = some o) (h2 : m y = none) : x ≠ y := by
  rintro rfl
  rw [h1] at h2
  cases h2
theorem nil_eq {m : Mu} {Q : D → Mu → Prop} (q : Q (.bl true) m) : eqP true (.list []) (.list []) m Q := by
  refine eq_cod (α := List Bool) [] [] (by decide) ?_
  exact q
theorem nil_ne {m : Mu} {Q : D → Mu → Prop} (q : Q (.bl false) m) : eqP false (.list []) (.list []) m Q := by
  refine eq_cod (α := List Bool) [] [] (by decide) ?_
  exact q
theorem Grow.del {m m1 : Mu} {p : Addr} (g : Grow m m1) (h : m p = none) : Grow m (Dq.del m1 p) := fun b u e => by
  unfold Dq.del
  rw [if_neg]
  · exact g b u e
  · rintro rfl
    rw [h] at e
    cases e
end Ls
namespace Ls
open PySem PySem.Spec L2 Dq PyProof.Rows
theorem evens_succ (i : Nat) : evens (i + 1) = evens i ++ [2 * (i : Int)] := by
  unfold evens
  rw [List.range_succ, List.map_append]
  rfl
theorem evens_next (i : Nat) : 2 * (i : Int) ∉ evens i := fun z => by
  obtain ⟨j, hj, e⟩ := List.mem_map.mp z
  have := List.mem_range.mp hj
  omega
theorem evens_put (i : Nat) : insAt (evens i) (rankM (evens i) (2 * (i : Int))) (2 * (i : Int)) = evens (i + 1) := by
  have e : rankM (evens i) (2 * (i : Int)) = (evens i).length := by
    unfold rankM
    rw [List.filter_eq_self.mpr]
    intro x hx
    obtain ⟨j, hj, rfl⟩ := List.mem_map.mp hx
    have := List.mem_range.mp hj
    exact decide_eq_true (by omega)
  rw [e, evens_succ]
  unfold insAt
  rw [List.take_length, List.drop_length, List.append_nil]
theorem eq_adrs {α : Type} [DecidableEq α] [Cod α] {t : Bool} {m : Mu} {Q : D → Mu → Prop} {a b : Addr} (l k : List α) (hm : m a = some (.lst (l.map Cod.enc))) (hn : m b = some (.lst (k.map Cod.enc))) (h : Cod.dep α + 1 ≤ 64) (q : Q (.bl (t == decide (l = k))) m) : eqP t (.adr a) (.adr b) m Q :=
  ⟨_, _, .adr hm (cod_isPs m l), .adr hn (cod_isPs m k), cod_shaped (α := List α) l h, cod_shaped (α := List α) k h, by rw [show PyData.list (l.map Cod.py) = Cod.py l from rfl, show PyData.list (k.map Cod.py) = Cod.py k from rfl, Cod.eqv (α := List α)]; exact q⟩
theorem Grow.keep {m m1 m2 : Mu} {a b b' : Addr} (g : Grow m m1) (k : Keep m1 m2 a b b') (ha : m a = none) (hb : m b = none) : Grow m m2 ∧ m b' = none := by
  refine ⟨fun q o e => (k q o (g q o e) ?_ ?_).1, ?_⟩
  · rintro rfl
    rw [ha] at e
    cases e
  · rintro rfl
    rw [hb] at e
    cases e
  · by_cases n1 : b' = a
    · rw [n1]
      exact ha
    by_cases n2 : b' = b
    · rw [n2]
      exact hb
    cases e : m b' with
    | none => rfl
    | some o => exact absurd rfl (k b' o (g b' o e) n1 n2).2
theorem ShAt.grow {C a b : Addr} {m m' : Mu} {S : Sh} (h : ShAt C m a b S) (g : Grow m m') : ShAt C m' a b S := ⟨h.ok, g _ _ h.ha, g _ _ h.hb, h.ne⟩
theorem none_mem1 {S : Sh} (ok : S.Ok) (h : none ∈ S.row) : S.ks.length < S.p.length := by
  have e := rowOf_some ok.w6 ok.len
  have hl : S.row.length = S.p.length := rowOf_len _
  have h2 : (S.row.filter Option.isSome).length < S.row.length := by
    rcases Nat.lt_or_ge (S.row.filter Option.isSome).length S.row.length with g | g
    · exact g
    · have := List.length_filter_le Option.isSome S.row
      have e2 : S.row.filter Option.isSome = S.row := List.filter_eq_self.mpr (List.length_filter_eq_length_iff.mp (by omega))
      have := List.filter_eq_self.mp e2 _ h
      cases this
  have e' : S.row.filter Option.isSome = S.ks.map some := e
  rw [e', List.length_map] at h2
  omega
theorem full_in {S : Sh} (ok : S.Ok) (h : S.ks.length = S.p.length) : none ∉ S.row := fun z => by
  have := none_mem1 ok z
  omega
end Ls
namespace Ls
open PySem PySem.Spec L2 Dq PyProof.Rows
theorem Grow.glue {m m' : Mu} {L : List Addr} (g : Grow (cutM L m) m') : Grow m (glueM L m m') := fun b o e => by
  unfold glueM
  by_cases h : b ∈ L
  · rw [if_pos h]
    exact e
  · rw [if_neg h]
    refine g b o ?_
    unfold cutM
    rw [if_neg h]
    exact e
/-- the cells that _law_works leaves -/
theorem works_ref {LK : LamT → List Str → PreX → Prop} {DOW : Addr → D → Prop} {cs : List Addr} {word : Str} {val : Int} {T : LamT} {preT : PreX} {d1 d2 : D} {m : Mu} {Q : D → Mu → Prop} {p a1 a2 : Addr} {cl : List (Str × Addr)} (hp : m p = some (.clo T cl)) (clo : CloF [("_law_rule_here", a1), ("_law_wide", a2)] ["_law_rule_here", "_law_wide"] cl) (h1 : m a1 = some (.cel d1)) (h2 : m a2 = some (.cel d2))
    (lk : LK T ["_law_rule_here", "_law_wide"] preT) (h : ∀ m1, (∀ m', Grow m1 m' → Grow m (glueM [a1, a2] m m')) → preT [d1, d2] m1 (fun _ _ => False) (fun C fo m' => MatchX cs word val C fo ∧ Q (.bl true) (glueM [a1, a2] m m'))) : RefD LK DOW cs [.adr p, .str word, .int val] m Q := by
  refine refD_left (T := T) (us := [d1, d2]) [a1, a2] hp clo rfl (fun a ha => ?_) (fun i y d a g1 g2 g3 => ?_) lk (h _ fun m' g => g.glue)
  · simp only [List.mem_cons, List.not_mem_nil, or_false] at ha
    rcases ha with rfl | rfl
    · exact ⟨_, h1⟩
    · exact ⟨_, h2⟩
  · match i, g1, g2 with
    | 0, g1, g2 =>
      cases g1
      cases g2
      cases g3
      exact ⟨by simp, h1⟩
    | 1, g1, g2 =>
      cases g1
      cases g2
      cases g3
      exact ⟨by simp, h2⟩
theorem none_ix (r : Nat) (h : r < 4) : ∃ s : Str, ([.str "", .str "Near", .str "nearest", .str "right"] : List D)[r]? = some (.str s) ∧ noRule s := by
  have : r = 0 ∨ r = 1 ∨ r = 2 ∨ r = 3 := by omega
  rcases this with rfl | rfl | rfl | rfl
  all_goals refine ⟨_, rfl, fun r => ?_⟩
  all_goals cases r <;> decide +kernel
theorem wide_ix {f : Nat} (r : Nat) (h : r < 4) : ∃ w : Int, ([.int 0, .int 7, .int (-1 - (f : Int)), .int (7 + (f : Int))] : List D)[r]? = some (.int w) ∧ badWide w := by
  have : r = 0 ∨ r = 1 ∨ r = 2 ∨ r = 3 := by omega
  rcases this with rfl | rfl | rfl | rfl
  all_goals refine ⟨_, rfl, ?_⟩
  all_goals unfold badWide; omega
def longM : List (Wd × Nat) := (List.replicate 7 [(Wd.put, 0), (Wd.take, 0)]).flatten
theorem long_play : ∀ r ∈ rls, ∀ w ∈ [1, 2, 3, 4, 5, 6], ∃ ns, playM r (List.replicate w false) longM = some (ns, List.replicate w false) := by
  have h : (rls.all fun r => [1, 2, 3, 4, 5, 6].all fun w => (playM r (List.replicate w false) longM).map (·.2) == some (List.replicate w false)) = true := by decide +kernel
  intro r hr w hw
  have := List.all_eq_true.mp (List.all_eq_true.mp h r hr) w hw
  have := beq_iff_eq.mp this
  obtain ⟨⟨ns, q⟩, h1, h2⟩ := Option.map_eq_some_iff.mp this
  cases h2
  exact ⟨ns, h1⟩
end Ls
namespace Dq
open PySem L2
theorem q_asgGP {DD : dEnds} {env : Dq.Env} {m : Mu} {te : dE} {g : dG} {u : dS} {P : D → Mu → Prop} (h : ∀ Q : D → Mu → Prop, (∀ d m1, P d m1 → Q d m1) → te env m Q) (k : ∀ d m1, P d m1 → g d env m1 fun e m2 => u DD e m2) : dSeq (dAsgG te g) u DD env m := h _ k
end Dq
namespace Ls
open PySem PySem.Spec L2 Dq PyProof.Rows
/-- captured names and where they stand in the frame -/
def InF (cn N : List Str) (env : Dq.Env) (y : Str) (d : D) (j : Nat) : Prop := y ∈ cn ∧ N[j]? = some y ∧ env[j]? = some (some d)
theorem own1 {cn N : List Str} {env : Dq.Env} {y1 : Str} {d1 : D} (j1 : Nat) (h1 : InF cn N env y1 d1 j1) :
    ∀ (i : Nat) (y : Str) (d : D), [y1][i]? = some y → [d1][i]? = some d → ∃ j : Nat, y ∈ cn ∧ N[j]? = some y ∧ env[j]? = some (some d)
  | 0, _, _, e1, e2 => by
    cases e1
    cases e2
    exact ⟨j1, h1⟩
theorem own2 {cn N : List Str} {env : Dq.Env} {y1 y2 : Str} {d1 d2 : D} (j1 j2 : Nat) (h1 : InF cn N env y1 d1 j1) (h2 : InF cn N env y2 d2 j2) :
    ∀ (i : Nat) (y : Str) (d : D), [y1, y2][i]? = some y → [d1, d2][i]? = some d → ∃ j : Nat, y ∈ cn ∧ N[j]? = some y ∧ env[j]? = some (some d)
  | 0, _, _, e1, e2 => by
    cases e1
    cases e2
    exact ⟨j1, h1⟩
  | 1, _, _, e1, e2 => by
    cases e1
    cases e2
    exact ⟨j2, h2⟩
theorem own3 {cn N : List Str} {env : Dq.Env} {y1 y2 y3 : Str} {d1 d2 d3 : D} (j1 j2 j3 : Nat) (h1 : InF cn N env y1 d1 j1) (h2 : InF cn N env y2 d2 j2) (h3 : InF cn N env y3 d3 j3) :
    ∀ (i : Nat) (y : Str) (d : D), [y1, y2, y3][i]? = some y → [d1, d2, d3][i]? = some d → ∃ j : Nat, y ∈ cn ∧ N[j]? = some y ∧ env[j]? = some (some d)
  | 0, _, _, e1, e2 => by
    cases e1
    cases e2
    exact ⟨j1, h1⟩
  | 1, _, _, e1, e2 => by
    cases e1
    cases e2
    exact ⟨j2, h2⟩
  | 2, _, _, e1, e2 => by
    cases e1
    cases e2
    exact ⟨j3, h3⟩
end Ls

/-! the end of the row: tables of code objects -/
namespace Dq
open PySem PySem.Spec L2 PyProof.Rows
def mT (l : List (Addr × Str)) : Mu := fun b => (l.lookup b).map MO.tab
theorem mem_look {b : Addr} {q : Str} : ∀ {l : List (Addr × Str)}, l.lookup b = some q → (b, q) ∈ l
  | [], h => by cases h
  | (c, r) :: l, h => by
    unfold List.lookup at h
    cases e : b == c with
    | true =>
      rw [e] at h
      cases h
      rw [beq_iff_eq.mp e]
      exact List.mem_cons_self
    | false =>
      rw [e] at h
      exact List.mem_cons_of_mem _ (mem_look h)
theorem mT_mem {l : List (Addr × Str)} {b : Addr} {o : MO} (h : mT l b = some o) : ∃ q, o = .tab q ∧ (b, q) ∈ l := by
  unfold mT at h
  obtain ⟨q, h1, rfl⟩ := Option.map_eq_some_iff.mp h
  exact ⟨q, rfl, mem_look h1⟩
theorem mT_at : ∀ {l : List (Addr × Str)} {ks : List Addr} {i : Nat} {b : Addr} {q : Str}, ks.Nodup → l.map (·.1) = ks → l[i]? = some (b, q) → mT l b = some (.tab q)
  | [], _, _, _, _, _, _, h => by simp at h
  | (c, r) :: l, _, 0, b, q, _, _, h => by
    simp only [List.getElem?_cons_zero, Option.some.injEq, Prod.mk.injEq] at h
    obtain ⟨rfl, rfl⟩ := h
    unfold mT List.lookup
    simp
  | (c, r) :: l, _, i + 1, b, q, nd, rfl, h => by
    rw [List.map_cons, List.nodup_cons] at nd
    rw [List.getElem?_cons_succ] at h
    have e := mT_at (l := l) (i := i) nd.2 rfl h
    have hb : b ∈ l.map (·.1) := List.mem_map.mpr ⟨(b, q), List.mem_of_getElem? h, rfl⟩
    have ne : (b == c) = false := by
      rw [beq_eq_false_iff_ne]
      rintro rfl
      exact nd.1 hb
    unfold mT List.lookup
    rw [ne]
    exact e
theorem mT_stt {K : PySem.W.Frag} {H : Hp} {l : List (Addr × Str)} (h : ∀ p ∈ l, H p.1 = some (.tbl #[])) : Stt K (fun _ => none) H (mT l) := by
  refine ⟨nofun, fun b o e => ?_, nofun⟩
  obtain ⟨q, rfl, hm⟩ := mT_mem e
  refine ⟨#[], h _ hm, trivial, fun pos cv hc => ?_⟩
  have z : codeAmong pos [] = some cv := hc
  simp [codeAmong] at z
theorem law_inT {K : PySem.W.Frag} {pre : Pre} {H : Hp} {a : Addr} {ns : List Int} {l : List (Addr × Str)} (h : ∀ p ∈ l, H p.1 = some (.tbl #[])) (hp : ∀ Q : D → Mu → Prop, (∀ m', Q (.bl true) m') → pre [.seq (ns.map D.int)] (mT l) Q) (hS : SqL K H a (ns.map V.int)) (E : XK) :
    spD K pre [.ref a] H (fun v _ => v = .bl true) E := by
  have st := mT_stt (K := K) h
  have sq : SqL K (hide (fun _ => none) H (mT l)) a (ns.map V.int) := by
    refine hS.imp (fun r => ?_) id
    have na : mT l a = none := by
      cases e : mT l a with
      | none => rfl
      | some o =>
        obtain ⟨q, _, hm⟩ := mT_mem e
        have z := h _ hm
        rcases r with r | ⟨o, r⟩ <;> (rw [z] at r; cases r)
    have e : hide (fun _ => none) H (mT l) a = H a := hide_at na rfl
    unfold Rd at r ⊢
    rw [e]
    exact r
  refine ⟨fun _ => none, [.seq (ns.map D.int)], mT l, fun d _ => d = .bl true, st, .cons (.seq sq (reps_intsL ns)) .nil, hp _ fun _ => rfl, ?_⟩
  rintro v H' d m' _ _ r rfl
  cases r
  rfl
/-- the table of a code object -/
def tabOf (K : PySem.W.Frag) (c : Addr) : Addr := match K.lookup c with
  | some ⟨_, _, .fields vs, _⟩ => (match (vs[11]? : Option Value) with | some (.ref P) => P | _ => 0)
  | _ => 0
def tabsOk (K : PySem.W.Frag) (ts cs : List Addr) : Bool := cs.all (fun c => PySem.W.codeHdIn K c (tabOf K c) && ts.contains (tabOf K c) && (K.lookup (tabOf K c)).isNone) && decide ((cs.map (tabOf K)).Nodup)
theorem tabs_ok {K : PySem.W.Frag} {ts cs : List Addr} (h : tabsOk K ts cs = true) : (∀ c ∈ cs, PySem.W.codeHdIn K c (tabOf K c) = true ∧ tabOf K c ∈ ts ∧ K.lookup (tabOf K c) = none) ∧ (cs.map (tabOf K)).Nodup := by
  unfold tabsOk at h
  rw [Bool.and_eq_true, decide_eq_true_eq] at h
  refine ⟨fun c hc => ?_, h.2⟩
  have z := List.all_eq_true.mp h.1 c hc
  simp only [Bool.and_eq_true, List.contains_iff_mem, Option.isNone_iff_eq_none] at z
  exact ⟨z.1.1, z.1.2, z.2⟩
/-- isinstance among own classes -/
def onesOk (K : PySem.W.Frag) (cs : List Addr) (E : Addr) : Bool := cs.all (fun c => PySem.W.exmOne K (.ref c) (.ref E) == some true && PySem.W.kitOne K (.ref c) (.type "ValueError") == some true) &&
  (List.range cs.length).all fun i => (List.range cs.length).all fun j => PySem.W.kitOne K (.ref (cs.getD i 0)) (.ref (cs.getD j 0)) == some (decide (i = j))
theorem ones_ok {K : PySem.W.Frag} {cs : List Addr} {E : Addr} (h : onesOk K cs E = true) : (∀ c ∈ cs, PySem.W.exmOne K (.ref c) (.ref E) = some true ∧ PySem.W.kitOne K (.ref c) (.type "ValueError") = some true) ∧
    ∀ (i j : Nat) (Ci Cj : Addr), cs[i]? = some Ci → cs[j]? = some Cj → PySem.W.kitOne K (.ref Ci) (.ref Cj) = some (decide (i = j)) := by
  unfold onesOk at h
  rw [Bool.and_eq_true] at h
  refine ⟨fun c hc => ?_, fun i j Ci Cj hi hj => ?_⟩
  · have z := List.all_eq_true.mp h.1 c hc
    simp only [Bool.and_eq_true, beq_iff_eq] at z
    exact z
  · have li := (List.getElem?_eq_some_iff.mp hi).1
    have lj := (List.getElem?_eq_some_iff.mp hj).1
    have z := List.all_eq_true.mp (List.all_eq_true.mp h.2 i (List.mem_range.mpr li)) j (List.mem_range.mpr lj)
    simp only [beq_iff_eq, List.getD_eq_getElem?_getD, hi, hj, Option.getD_some] at z
    exact z
theorem funC_mk {K : PySem.W.Frag} {x qual : Str} {st : Stmt} {c f : Addr} {oc : Value} {od : Option Addr} {kV doc pm : Value} {an : Option Addr} {ct : Value} {sl : Array (Option Value)} (l : K.lookup f = some ⟨oc, od, .func (PySem.W.fnOf x qual (defArgs st) (defBody st) (defScope st) .none kV doc pm an (.ref c) ct), sl⟩) (hc : PySem.W.codeIn K (.ref c) qual = true) (k : PySem.W.keepIn K (.ref f) = true) :
    FunC K x qual st c f (PySem.W.fnOf x qual (defArgs st) (defBody st) (defScope st) .none kV doc pm an (.ref c) ct) := ⟨⟨_, _, _, _, _, _, _, _, rfl, l, hc⟩, k⟩
theorem askC_mk {K : PySem.W.Frag} {C : Addr} (h1 : PySem.W.isClsIn K C = true) (h2 : PySem.W.findIn K (.ref C) "__getattribute__" = some (some (.builtin "BaseException.__getattribute__"))) (h3 : PySem.W.findIn K (.ref C) "__getattr__" = some none) (h4 : PySem.W.subIn K (.ref C) (.type "BaseException") = some true)
    (h5 : PySem.W.findIn K (.ref C) "__class__" = some (some (.builtin "object.__class__"))) (h6 : PySem.W.specialIn K (.builtin "object.__class__") "__get__" = some (some (.builtin "getset_descriptor.__get__"))) (h7 : PySem.W.takesIn K (.builtin "object.__class__") = some true) (h8 : PySem.W.mroIn K C (.type "object") = some true) : AskC K C := ⟨h1, h2, h3, h4, h5, h6, h7, h8⟩
end Dq

set_option maxHeartbeats 2000000
namespace Ls
open PySem L2 Dq
def top (i : Nat) : Stmt := PySem.Challenge.pw_looseshelf_k01_what_is_none.main.body.getD i (.Pass ⟨0, 0, 0, 0⟩)
abbrev s_ShelfError : Stmt := top 1
abbrev s_BadWidth : Stmt := top 2
abbrev s_BadRule : Stmt := top 3
abbrev s_BadPattern : Stmt := top 4
abbrev s_BadDeed : Stmt := top 5
abbrev s_BadKey : Stmt := top 6
abbrev s_BadNumber : Stmt := top 7
abbrev s_need_width : Stmt := top 13
abbrev s_need_rule : Stmt := top 14
abbrev s_need_pattern : Stmt := top 15
abbrev s_places_of : Stmt := top 16
abbrev s_pattern_of : Stmt := top 17
abbrev s_even_places : Stmt := top 18
abbrev s_shifted : Stmt := top 19
abbrev s_places_behind : Stmt := top 20
abbrev s_moved : Stmt := top 21
abbrev s_step : Stmt := top 22
abbrev s_done : Stmt := top 23
abbrev s_played : Stmt := top 24
abbrev s_all_deeds : Stmt := top 25
abbrev s_reached : Stmt := top 26
abbrev s_layings : Stmt := top 29
abbrev s_many_behind : Stmt := top 30
abbrev s_fewest : Stmt := top 31
abbrev s_edges_of : Stmt := top 33
abbrev s_is_more : Stmt := top 34
abbrev s_lowest : Stmt := top 35
abbrev s_most_of : Stmt := top 36
abbrev s_heights_of : Stmt := top 37
abbrev s_round_of : Stmt := top 38
abbrev s_walk_round : Stmt := top 39
abbrev s_worst : Stmt := top 40
abbrev s_purse : Stmt := top 42
abbrev s_shows : Stmt := top 43
abbrev s_Shelf : Stmt := top 45
abbrev s__law_dice : Stmt := top 47
abbrev s__law_off : Stmt := top 48
abbrev s__law_alike : Stmt := top 49
abbrev s__law_refused : Stmt := top 50
abbrev s__law_rule : Stmt := top 51
abbrev s__law_put : Stmt := top 52
abbrev s__law_take : Stmt := top 53
abbrev s__law_moves : Stmt := top 54
abbrev s__law_pattern : Stmt := top 55
abbrev s__law_row : Stmt := top 56
abbrev s__law_step : Stmt := top 57
abbrev s__law_drawn : Stmt := top 58
abbrev s__law_bad_pattern : Stmt := top 59
abbrev s__law_bad_deed : Stmt := top 60
abbrev s__law_shelf : Stmt := top 61
abbrev s__law_works : Stmt := top 62
abbrev s__law_is_found : Stmt := top 63
abbrev s_law : Stmt := top 64
abbrev s_Shelf___init__ : Stmt := inClass (top 45) 0
abbrev s_Shelf_put_in : Stmt := inClass (top 45) 1
abbrev s_Shelf_take_out : Stmt := inClass (top 45) 2
abbrev s_Shelf_standing : Stmt := inClass (top 45) 3
abbrev s_Shelf_moved : Stmt := inClass (top 45) 4
abbrev s_BadPattern___init__ : Stmt := inClass (top 4) 0
abbrev s_BadDeed___init__ : Stmt := inClass (top 5) 0
local macro_rules | `(tactic| walk_at "dx") => `(tactic| simp only [dFld, dSFld, dMeth, dMake, shF_rule, shF_wide, shF_row, shF_many, shF_put_in, shF_take_out, shF_standing, shF_moved, put_row, put_many, shF_len, MO.ins.injEq, jZip, hUnl, hCons, hNil, hName, dSetS, max3D, sumD, popAtD, xDrop, xAsg, xIfS, xRaise0, xRaise1, xCall, xMeth, xMake, dNext, dAsg, dDrop, dRet, dRetN, dIfS, dAsgG, dPar, dFor, dC, dVar, dOp, dTest, dChain, dChain3, dAnd, dOr, dNot, dVal, dAndV, dOrV, dNotV, dIf, dNil, dCons, dTup, dLst, dLc, dPart, dNoPart, dSl, dCall, dCB, dBM, dBM0, negD, dYes, iiD, cmpD, isNoneD, isN, eqD, addD, mulD, ixD, strIx, lenD, lenOf, absD, max2D, min2D, intD, sortedD, listD, isiD, tyOf, sliceD, inD, appD, popD, popAtD, insD, joinD, countD, isL, isS, dSetS, hName, hNil, hCons, hTup, jList, jTup, jRange1, jRange2, jStr, jEnum, jEnumS, jZip, vwL, vwS, vwI, mkL, startD, wipeD, List.length_cons, List.length_nil, List.map_cons, List.map_nil, List.replicate, List.cons_append, List.nil_append, List.getElem?_cons_zero, List.getElem?_cons_succ, List.set_cons_zero, List.set_cons_succ, Option.some.injEq, exists_eq_left', exists_eq_left, exists_eq_right', exists_and_left, exists_and_right, Nat.sub_self, Nat.reduceAdd, Nat.reduceSub, List.replicate_zero, List.append_nil, List.cons.injEq, and_true, true_and, and_assoc, D.int.injEq, D.str.injEq, D.bl.injEq, D.list.injEq, D.tuple.injEq, D.adr.injEq, D.ty.injEq, MO.lst.injEq, MO.dK.injEq, ups_same, ups_ups, at0, at1, at2, at3, ix0, ix1, Option.isSome_some, Bool.true_beq, Bool.false_beq, Bool.not_true, Bool.not_false, if_true, if_false, Bool.false_eq_true, reduceCtorEq, false_and, and_false, or_false, false_or, exists_false, exists_const, decide_eq_true_eq, Bool.not_eq_true', decide_eq_false_iff_not])
local macro_rules | `(tactic| walk_at "dxs") => `(tactic| simp only [dFld, dSFld, dMeth, dMake, shF_rule, shF_wide, shF_row, shF_many, shF_put_in, shF_take_out, shF_standing, shF_moved, put_row, put_many, shF_len, MO.ins.injEq, jZip, hUnl, hCons, hNil, hName, dSetS, max3D, sumD, popAtD, xDrop, xAsg, xIfS, xRaise0, xRaise1, xCall, xMeth, xMake, xSeq, dNext, dSeq, dAsg, dDrop, dRet, dRetN, dIfS, dAsgG, dPar, dFor, dC, dVar, dOp, dTest, dChain, dChain3, dAnd, dOr, dNot, dVal, dAndV, dOrV, dNotV, dIf, dNil, dCons, dTup, dLst, dLc, dPart, dNoPart, dSl, dCall, dCB, dBM, dBM0, negD, dYes, iiD, cmpD, isNoneD, isN, eqD, addD, mulD, ixD, strIx, lenD, lenOf, absD, max2D, min2D, intD, sortedD, listD, isiD, tyOf, sliceD, inD, appD, popD, popAtD, insD, joinD, countD, isL, isS, dSetS, hName, hNil, hCons, hTup, jList, jTup, jRange1, jRange2, jStr, jEnum, jEnumS, jZip, vwL, vwS, vwI, mkL, startD, wipeD, List.length_cons, List.length_nil, List.map_cons, List.map_nil, List.replicate, List.cons_append, List.nil_append, List.getElem?_cons_zero, List.getElem?_cons_succ, List.set_cons_zero, List.set_cons_succ, Option.some.injEq, exists_eq_left', exists_eq_left, exists_eq_right', exists_and_left, exists_and_right, Nat.sub_self, Nat.reduceAdd, Nat.reduceSub, List.replicate_zero, List.append_nil, List.cons.injEq, and_true, true_and, and_assoc, D.int.injEq, D.str.injEq, D.bl.injEq, D.list.injEq, D.tuple.injEq, D.adr.injEq, D.ty.injEq, MO.lst.injEq, MO.dK.injEq, ups_same, ups_ups, at0, at1, at2, at3, ix0, ix1, Option.isSome_some, Bool.true_beq, Bool.false_beq, Bool.not_true, Bool.not_false, if_true, if_false, Bool.false_eq_true, reduceCtorEq, false_and, and_false, or_false, false_or, exists_false, exists_const, decide_eq_true_eq, Bool.not_eq_true', decide_eq_false_iff_not])

local macro_rules | `(tactic| walk_at "dg") => `(tactic| simp only [hName, hNil, hCons, hTup, List.length_cons, List.length_nil, Option.some.injEq, exists_eq_left', exists_eq_left, exists_eq_right', exists_and_left, exists_and_right, Nat.reduceAdd, List.cons.injEq, and_true, true_and, and_assoc, D.tuple.injEq, D.list.injEq, reduceCtorEq, List.set_cons_zero, List.set_cons_succ])

local macro_rules | `(tactic| walk_at "dk") => `(tactic| simp only [k_NoneType_bool, k_NoneType_int, k_NoneType_str, k_NoneType_tuple, k_NoneType_list, k_bool_bool, k_bool_int, k_bool_str, k_bool_tuple, k_bool_list, k_int_bool, k_int_int, k_int_str, k_int_tuple, k_int_list, k_str_bool, k_str_int, k_str_str, k_str_tuple, k_str_list, k_list_bool, k_list_int, k_list_str, k_list_tuple, k_list_list, k_tuple_bool, k_tuple_int, k_tuple_str, k_tuple_tuple, k_tuple_list, Option.some.injEq, exists_eq_left', exists_eq_left, if_true, if_false, Bool.false_eq_true, Bool.true_eq_false, not_true, not_false_iff, ne_eq, decide_true, decide_false, reduceCtorEq])

local macro_rules | `(tactic| walk_at "xs") => `(tactic| simp only [xSeq, xDrop, xAsg, xIfS, xFor])
structure Ad where
  (C CE CW CR CP CD CK CN cL pL cW pW cF pF cS pS : Addr)
/-- what the top has left -/
structure TX (P : Program) (w : World) (K : PySem.W.Frag) (mg : Str → Option Value) (base : Heap) (a : Ad) : Prop where
  b_abs : mg "abs" = none
  b_all : mg "all" = none
  b_bool : mg "bool" = none
  b_dict : mg "dict" = none
  b_enumerate : mg "enumerate" = none
  b_int : mg "int" = none
  b_isinstance : mg "isinstance" = none
  b_len : mg "len" = none
  b_list : mg "list" = none
  b_max : mg "max" = none
  b_min : mg "min" = none
  b_range : mg "range" = none
  b_sorted : mg "sorted" = none
  b_str : mg "str" = none
  b_tuple : mg "tuple" = none
  b_zip : mg "zip" = none
  c_MOST_WIDE : GlobC K mg "MOST_WIDE" (.int 6) (.int 6)
  c_RULES : ∃ a, GlobC K mg "RULES" (.ref a) (.tseq [.str "near", .str "left", .str "even"])
  c_FREE : GlobC K mg "FREE" (.str "0") (.str "0")
  c_TAKEN : GlobC K mg "TAKEN" (.str "1") (.str "1")
  c_MOST_DEEDS : GlobC K mg "MOST_DEEDS" (.int 12) (.int 12)
  cl : Cls K a.C
  mgC : mg "Shelf" = some (.ref a.C)
  na_rule : NoAttr K a.C "rule"
  na_wide : NoAttr K a.C "wide"
  na_row : NoAttr K a.C "row"
  na_many : NoAttr K a.C "many"
  h_Shelf___init__ : HasI K a.C "Shelf.__init__" s_Shelf___init__
  h_Shelf_put_in : HasM K a.C "put_in" "Shelf.put_in" s_Shelf_put_in
  h_Shelf_take_out : HasM K a.C "take_out" "Shelf.take_out" s_Shelf_take_out
  h_Shelf_standing : HasM K a.C "standing" "Shelf.standing" s_Shelf_standing
  h_Shelf_moved : HasM K a.C "moved" "Shelf.moved" s_Shelf_moved
  h_need_width : Has K mg "need_width" s_need_width
  h_need_rule : Has K mg "need_rule" s_need_rule
  h_need_pattern : Has K mg "need_pattern" s_need_pattern
  h_places_of : Has K mg "places_of" s_places_of
  h_pattern_of : Has K mg "pattern_of" s_pattern_of
  h_even_places : Has K mg "even_places" s_even_places
  h_shifted : Has K mg "shifted" s_shifted
  h_places_behind : Has K mg "places_behind" s_places_behind
  h_moved : Has K mg "moved" s_moved
  h_step : Has K mg "step" s_step
  h_done : Has K mg "done" s_done
  h_played : Has K mg "played" s_played
  h_all_deeds : Has K mg "all_deeds" s_all_deeds
  h_reached : Has K mg "reached" s_reached
  h_layings : Has K mg "layings" s_layings
  h_many_behind : Has K mg "many_behind" s_many_behind
  h_fewest : Has K mg "fewest" s_fewest
  h_edges_of : Has K mg "edges_of" s_edges_of
  h_is_more : Has K mg "is_more" s_is_more
  h_lowest : Has K mg "lowest" s_lowest
  h_most_of : Has K mg "most_of" s_most_of
  h_heights_of : Has K mg "heights_of" s_heights_of
  h_round_of : Has K mg "round_of" s_round_of
  h_walk_round : Has K mg "walk_round" s_walk_round
  h_worst : Has K mg "worst" s_worst
  h_purse : Has K mg "purse" s_purse
  h_shows : Has K mg "shows" s_shows
  h__law_dice : Has K mg "_law_dice" s__law_dice
  h__law_off : Has K mg "_law_off" s__law_off
  h__law_alike : Has K mg "_law_alike" s__law_alike
  h__law_refused : Has K mg "_law_refused" s__law_refused
  h__law_rule : Has K mg "_law_rule" s__law_rule
  h__law_put : Has K mg "_law_put" s__law_put
  h__law_take : Has K mg "_law_take" s__law_take
  h__law_moves : Has K mg "_law_moves" s__law_moves
  h__law_pattern : Has K mg "_law_pattern" s__law_pattern
  h__law_row : Has K mg "_law_row" s__law_row
  h__law_step : Has K mg "_law_step" s__law_step
  h__law_drawn : Has K mg "_law_drawn" s__law_drawn
  h__law_bad_pattern : Has K mg "_law_bad_pattern" s__law_bad_pattern
  h__law_bad_deed : Has K mg "_law_bad_deed" s__law_bad_deed
  h__law_shelf : HasC K mg "_law_shelf" s__law_shelf a.cS
  h__law_works : HasC K mg "_law_works" s__law_works a.cW
  h__law_is_found : HasC K mg "_law_is_found" s__law_is_found a.cF
  h_law : HasC K mg "law" s_law a.cL
  t_L : LamX.TabB base mg a.cL a.pL
  t_W : LamX.TabB base mg a.cW a.pW
  t_F : LamX.TabB base mg a.cF a.pF
  t_S : LamX.TabB base mg a.cS a.pS
  e_BadWidth : Exc0 K mg "BadWidth" a.CW
  g_BadWidth : GlobC K mg "BadWidth" (.ref a.CW) (.adr a.CW)
  e_BadRule : Exc0 K mg "BadRule" a.CR
  g_BadRule : GlobC K mg "BadRule" (.ref a.CR) (.adr a.CR)
  e_BadPattern : Exc1 P w K mg base "BadPattern" a.CP "at" 1
  g_BadPattern : GlobC K mg "BadPattern" (.ref a.CP) (.adr a.CP)
  e_BadDeed : Exc1 P w K mg base "BadDeed" a.CD "number" 1
  g_BadDeed : GlobC K mg "BadDeed" (.ref a.CD) (.adr a.CD)
  e_BadKey : Exc0 K mg "BadKey" a.CK
  g_BadKey : GlobC K mg "BadKey" (.ref a.CK) (.adr a.CK)
  e_BadNumber : Exc0 K mg "BadNumber" a.CN
  g_BadNumber : GlobC K mg "BadNumber" (.ref a.CN) (.adr a.CN)
  b_ValueError : mg "ValueError" = none
  g_ShelfError : mg "ShelfError" = some (.ref a.CE)
  ask : ∀ C ∈ [a.CW, a.CR, a.CP, a.CD, a.CK, a.CN], AskC K C ∧ PySem.W.exmOne K (.ref C) (.ref a.CE) = some true ∧ PySem.W.kitOne K (.ref C) (.type "ValueError") = some true
  one : ∀ (i j : Nat) (Ci Cj : Addr), [a.CW, a.CR, a.CP, a.CD, a.CK, a.CN][i]? = some Ci → [a.CW, a.CR, a.CP, a.CD, a.CK, a.CN][j]? = some Cj → PySem.W.kitOne K (.ref Ci) (.ref Cj) = some (decide (i = j))
  xfP : XfC K a.CP
  xfD : XfC K a.CD
  noP : PySem.W.findIn K (.ref a.CP) "at" = some none
  noD : PySem.W.findIn K (.ref a.CD) "number" = some none
abbrev classes (a : Ad) : List Addr := [a.CW, a.CR, a.CP, a.CD, a.CK, a.CN]
def lam_0 : LamT := lamOf ((("law" : Str) ++ ".<locals>.") ++ "<lambda>") [] (argE 0 (argE 1 (valOf ((defBody s_law).getD 9 (.Pass ⟨0, 0, 0, 0⟩)))))
theorem ln_0 : LamN lam_0 ["_law_bad", "_law_deed", "_law_none"] (defScope s_law) := ⟨by decide +kernel, by decide +kernel, by decide +kernel⟩
theorem ls_0 : LamSc lam_0 ["_law_bad", "_law_deed", "_law_none"] := ⟨by decide +kernel, by decide +kernel, by decide +kernel, by decide +kernel, by decide +kernel⟩
def lam_1 : LamT := lamOf ((("law" : Str) ++ ".<locals>.") ++ "<lambda>") [] (argE 0 (argE 1 (valOf ((defBody s_law).getD 11 (.Pass ⟨0, 0, 0, 0⟩)))))
theorem ln_1 : LamN lam_1 ["_law_wide"] (defScope s_law) := ⟨by decide +kernel, by decide +kernel, by decide +kernel⟩
theorem ls_1 : LamSc lam_1 ["_law_wide"] := ⟨by decide +kernel, by decide +kernel, by decide +kernel, by decide +kernel, by decide +kernel⟩
def lam_2 : LamT := lamOf ((("law" : Str) ++ ".<locals>.") ++ "<lambda>") [] (argE 0 (argE 0 (valOf ((defBody s_law).getD 13 (.Pass ⟨0, 0, 0, 0⟩)))))
theorem ln_2 : LamN lam_2 ["_law_bad", "_law_deed", "_law_rule_here"] (defScope s_law) := ⟨by decide +kernel, by decide +kernel, by decide +kernel⟩
theorem ls_2 : LamSc lam_2 ["_law_bad", "_law_deed", "_law_rule_here"] := ⟨by decide +kernel, by decide +kernel, by decide +kernel, by decide +kernel, by decide +kernel⟩
def lam_3 : LamT := lamOf ((("law" : Str) ++ ".<locals>.") ++ "<lambda>") [] (argE 0 (argE 0 (argE 0 (valOf ((defBody s_law).getD 14 (.Pass ⟨0, 0, 0, 0⟩))))))
theorem ln_3 : LamN lam_3 ["_law_deed", "_law_pattern_here", "_law_rule_here"] (defScope s_law) := ⟨by decide +kernel, by decide +kernel, by decide +kernel⟩
theorem ls_3 : LamSc lam_3 ["_law_deed", "_law_pattern_here", "_law_rule_here"] := ⟨by decide +kernel, by decide +kernel, by decide +kernel, by decide +kernel, by decide +kernel⟩
def lam_4 : LamT := lamOf ((("law" : Str) ++ ".<locals>.") ++ "<lambda>") [] (argE 0 (argE 0 (argE 0 (valOf ((defBody s_law).getD 16 (.Pass ⟨0, 0, 0, 0⟩))))))
theorem ln_4 : LamN lam_4 ["_law_good", "_law_long"] (defScope s_law) := ⟨by decide +kernel, by decide +kernel, by decide +kernel⟩
theorem ls_4 : LamSc lam_4 ["_law_good", "_law_long"] := ⟨by decide +kernel, by decide +kernel, by decide +kernel, by decide +kernel, by decide +kernel⟩
def lam_5 : LamT := lamOf ((("law" : Str) ++ ".<locals>.") ++ "<lambda>") [] (argE 0 (valOf ((defBody s_law).getD 17 (.Pass ⟨0, 0, 0, 0⟩))))
theorem ln_5 : LamN lam_5 ["_law_far", "_law_good", "_law_rule_here"] (defScope s_law) := ⟨by decide +kernel, by decide +kernel, by decide +kernel⟩
theorem ls_5 : LamSc lam_5 ["_law_far", "_law_good", "_law_rule_here"] := ⟨by decide +kernel, by decide +kernel, by decide +kernel, by decide +kernel, by decide +kernel⟩
def lam_6 : LamT := lamOf ((("law" : Str) ++ ".<locals>.") ++ "<lambda>") [0] (argE 1 (valOf ((defBody s_law).getD 17 (.Pass ⟨0, 0, 0, 0⟩))))
theorem ln_6 : LamN lam_6 ["_law_far", "_law_good", "_law_rule_here"] (defScope s_law) := ⟨by decide +kernel, by decide +kernel, by decide +kernel⟩
theorem ls_6 : LamSc lam_6 ["_law_far", "_law_good", "_law_rule_here"] := ⟨by decide +kernel, by decide +kernel, by decide +kernel, by decide +kernel, by decide +kernel⟩
def lam_7 : LamT := lamOf ((("_law_works" : Str) ++ ".<locals>.") ++ "<lambda>") [] (argE 0 (valOf ((defBody s__law_works).getD 0 (.Pass ⟨0, 0, 0, 0⟩))))
theorem ln_7 : LamN lam_7 ["_law_rule_here", "_law_wide"] (defScope s__law_works) := ⟨by decide +kernel, by decide +kernel, by decide +kernel⟩
theorem ls_7 : LamSc lam_7 ["_law_rule_here", "_law_wide"] := ⟨by decide +kernel, by decide +kernel, by decide +kernel, by decide +kernel, by decide +kernel⟩
def lam_8 : LamT := lamOf ((("_law_works" : Str) ++ ".<locals>.") ++ "<lambda>") [] (argE 0 (valOf ((defBody s__law_works).getD 1 (.Pass ⟨0, 0, 0, 0⟩))))
theorem ln_8 : LamN lam_8 ["_law_rule_here", "_law_wide"] (defScope s__law_works) := ⟨by decide +kernel, by decide +kernel, by decide +kernel⟩
theorem ls_8 : LamSc lam_8 ["_law_rule_here", "_law_wide"] := ⟨by decide +kernel, by decide +kernel, by decide +kernel, by decide +kernel, by decide +kernel⟩
def lam_9 : LamT := lamOf ((("_law_works" : Str) ++ ".<locals>.") ++ "<lambda>") [] (argE 0 (valOf ((defBody s__law_works).getD 2 (.Pass ⟨0, 0, 0, 0⟩))))
theorem ln_9 : LamN lam_9 ["_law_rule_here", "_law_wide"] (defScope s__law_works) := ⟨by decide +kernel, by decide +kernel, by decide +kernel⟩
theorem ls_9 : LamSc lam_9 ["_law_rule_here", "_law_wide"] := ⟨by decide +kernel, by decide +kernel, by decide +kernel, by decide +kernel, by decide +kernel⟩
def lam_10 : LamT := lamOf ((("_law_works" : Str) ++ ".<locals>.") ++ "<lambda>") [] (argE 0 (valOf ((defBody s__law_works).getD 3 (.Pass ⟨0, 0, 0, 0⟩))))
theorem ln_10 : LamN lam_10 ["_law_rule_here", "_law_wide"] (defScope s__law_works) := ⟨by decide +kernel, by decide +kernel, by decide +kernel⟩
theorem ls_10 : LamSc lam_10 ["_law_rule_here", "_law_wide"] := ⟨by decide +kernel, by decide +kernel, by decide +kernel, by decide +kernel, by decide +kernel⟩
def lam_11 : LamT := lamOf ((("_law_works" : Str) ++ ".<locals>.") ++ "<lambda>") [] (argE 0 (valOf ((defBody s__law_works).getD 4 (.Pass ⟨0, 0, 0, 0⟩))))
theorem ln_11 : LamN lam_11 ["_law_rule_here", "_law_wide"] (defScope s__law_works) := ⟨by decide +kernel, by decide +kernel, by decide +kernel⟩
theorem ls_11 : LamSc lam_11 ["_law_rule_here", "_law_wide"] := ⟨by decide +kernel, by decide +kernel, by decide +kernel, by decide +kernel, by decide +kernel⟩
def lam_12 : LamT := lamOf ((("_law_is_found" : Str) ++ ".<locals>.") ++ "<lambda>") [] (argE 0 (valOf ((defBody s__law_is_found).getD 5 (.Pass ⟨0, 0, 0, 0⟩))))
theorem ln_12 : LamN lam_12 ["_law_deeds", "_law_good", "_law_rule_here"] (defScope s__law_is_found) := ⟨by decide +kernel, by decide +kernel, by decide +kernel⟩
theorem ls_12 : LamSc lam_12 ["_law_deeds", "_law_good", "_law_rule_here"] := ⟨by decide +kernel, by decide +kernel, by decide +kernel, by decide +kernel, by decide +kernel⟩
def lam_13 : LamT := lamOf ((("_law_is_found" : Str) ++ ".<locals>.") ++ "<lambda>") [] (argE 0 (valOf ((defBody s__law_is_found).getD 6 (.Pass ⟨0, 0, 0, 0⟩))))
theorem ln_13 : LamN lam_13 ["_law_deeds", "_law_good"] (defScope s__law_is_found) := ⟨by decide +kernel, by decide +kernel, by decide +kernel⟩
theorem ls_13 : LamSc lam_13 ["_law_deeds", "_law_good"] := ⟨by decide +kernel, by decide +kernel, by decide +kernel, by decide +kernel, by decide +kernel⟩
def lam_14 : LamT := lamOf ((("_law_shelf" : Str) ++ ".<locals>.") ++ "<lambda>") [] (argE 0 (argE 0 (valOf ((defBody s__law_shelf).getD 3 (.Pass ⟨0, 0, 0, 0⟩)))))
theorem ln_14 : LamN lam_14 ["_law_d", "_law_shelf_here", "_law_wide"] (defScope s__law_shelf) := ⟨by decide +kernel, by decide +kernel, by decide +kernel⟩
theorem ls_14 : LamSc lam_14 ["_law_d", "_law_shelf_here", "_law_wide"] := ⟨by decide +kernel, by decide +kernel, by decide +kernel, by decide +kernel, by decide +kernel⟩
def lam_15 : LamT := lamOf ((("_law_shelf" : Str) ++ ".<locals>.") ++ "<lambda>") [] (argE 0 (argE 0 (valOf ((defBody s__law_shelf).getD 4 (.Pass ⟨0, 0, 0, 0⟩)))))
theorem ln_15 : LamN lam_15 ["_law_d", "_law_shelf_here", "_law_wide"] (defScope s__law_shelf) := ⟨by decide +kernel, by decide +kernel, by decide +kernel⟩
theorem ls_15 : LamSc lam_15 ["_law_d", "_law_shelf_here", "_law_wide"] := ⟨by decide +kernel, by decide +kernel, by decide +kernel, by decide +kernel, by decide +kernel⟩
def lam_16 : LamT := lamOf ((("_law_shelf" : Str) ++ ".<locals>.") ++ "<lambda>") [] (argE 0 (argE 0 (valOf ((defBody s__law_shelf).getD 5 (.Pass ⟨0, 0, 0, 0⟩)))))
theorem ln_16 : LamN lam_16 ["_law_d", "_law_shelf_here", "_law_wide"] (defScope s__law_shelf) := ⟨by decide +kernel, by decide +kernel, by decide +kernel⟩
theorem ls_16 : LamSc lam_16 ["_law_d", "_law_shelf_here", "_law_wide"] := ⟨by decide +kernel, by decide +kernel, by decide +kernel, by decide +kernel, by decide +kernel⟩
abbrev cn_law : List Str := ["_law_bad", "_law_deed", "_law_none", "_law_wide", "_law_rule_here", "_law_pattern_here", "_law_good", "_law_long", "_law_far"]
theorem cc_law : ∀ y ∈ cn_law, (defScope s_law).names.lookup y = some .cell := by decide +kernel
abbrev cn__law_works : List Str := ["_law_rule_here", "_law_wide"]
theorem cc__law_works : ∀ y ∈ cn__law_works, (defScope s__law_works).names.lookup y = some .cell := by decide +kernel
abbrev cn__law_is_found : List Str := ["_law_deeds", "_law_good", "_law_rule_here"]
theorem cc__law_is_found : ∀ y ∈ cn__law_is_found, (defScope s__law_is_found).names.lookup y = some .cell := by decide +kernel
abbrev cn__law_shelf : List Str := ["_law_d", "_law_shelf_here", "_law_wide"]
theorem cc__law_shelf : ∀ y ∈ cn__law_shelf, (defScope s__law_shelf).names.lookup y = some .cell := by decide +kernel

section
variable {P : Program} {w : World} {K : PySem.W.Frag} {mg : Str → Option Value} {base : Heap} {a : Ad}
theorem init_BadPattern {f S : Addr} {fd : FuncData} (F : Fun K "__init__" "BadPattern.__init__" s_BadPattern___init__ f fd) (B : BaseInit K mg "ShelfError" S) : FnOk P w K mg base CX0 1 f fd ["self", "at"] (spInit K "at") :=
  init_ok F ⟨rfl, rfl, rfl, by decide +kernel, rfl, by decide +kernel, by decide +kernel⟩ B rfl rfl rfl rfl (by decide) (by decide) (by decide) (by decide) (by decide) (fun env => ⟨_, rfl⟩)
theorem init_BadDeed {f S : Addr} {fd : FuncData} (F : Fun K "__init__" "BadDeed.__init__" s_BadDeed___init__ f fd) (B : BaseInit K mg "ShelfError" S) : FnOk P w K mg base CX0 1 f fd ["self", "number"] (spInit K "number") :=
  init_ok F ⟨rfl, rfl, rfl, by decide +kernel, rfl, by decide +kernel, by decide +kernel⟩ B rfl rfl rfl rfl (by decide) (by decide) (by decide) (by decide) (by decide) (fun env => ⟨_, rfl⟩)
abbrev n_need_rule : List Str := ["rule"]
theorem sc_need_rule : FnScope n_need_rule ["rule"] (defScope s_need_rule) := ⟨rfl, rfl, rfl, by decide +kernel, rfl, by decide +kernel, by decide +kernel⟩
def preX_need_rule (a : Ad) : PreX := fun ds m Q xd => (∃ r : Rl, ds = [.str (rt r)] ∧ Q .non m) ∨ ∃ s : Str, ds = [.str s] ∧ noRule s ∧ xd a.CR none m
theorem lenX_need_rule (a : Ad) : ∀ ds m Q xd, preX_need_rule a ds m Q xd → ds.length = 1 := by
  rintro ds m Q xd (⟨_, rfl, _⟩ | ⟨_, rfl, _⟩)
  all_goals rfl
theorem defX_need_rule (T : TX P w K mg base a) : DefX P w K mg base "need_rule" 3 (preX_need_rule a) := by
  refine DefX.of (ps := ["rule"]) T.h_need_rule (fun _ _ _ _ _ _ us hl => match us, hl with | [_], _ => rfl) fun f fd F => ok_defX F sc_need_rule (lenX_need_rule a) fun cdv A outer s H E hr tk hp => ⟨_, _, xx_one (x_if (t_cmp op_notInAll (opd_in true) (d_v 0) (d_glob T.c_RULES.choose_spec) rfl)
    (xx_one (x_raise0 T.e_BadRule tk))
    (DSs.x ss_nil)), ?_⟩
  rintro ds m Q xd (⟨r, rfl, q⟩ | ⟨s, rfl, hs, q⟩)
  · walk_at "dxs"
    refine ⟨rfl, rfl, ?_⟩
    rw [show inV (toV (.str (rt r))) [toV (.str "near"), toV (.str "left"), toV (.str "even")] = true by cases r <;> decide +kernel]
    exact q
  · walk_at "dxs"
    refine ⟨rfl, rfl, ?_⟩
    rw [if_pos (noRule_in hs)]
    exact q
abbrev n_need_pattern : List Str := ["pattern", "at", "sign"]
theorem sc_need_pattern : FnScope n_need_pattern ["pattern"] (defScope s_need_pattern) := ⟨rfl, rfl, rfl, by decide +kernel, rfl, by decide +kernel, by decide +kernel⟩
def preX_need_pattern (a : Ad) : PreX := fun ds m Q xd => (∃ p : List Bool, ds = [.str (ps p)] ∧ p.length ≤ 6 ∧ p ≠ [] ∧ Q .non m) ∨ ∃ (s : Str) (k : Nat), ds = [.str s] ∧ BadAt s k ∧ s.length ≤ 100 ∧ xd a.CP (some ("at", k)) m
theorem lenX_need_pattern (a : Ad) : ∀ ds m Q xd, preX_need_pattern a ds m Q xd → ds.length = 1 := by
  rintro ds m Q xd (⟨_, rfl, _⟩ | ⟨_, _, rfl, _⟩)
  all_goals rfl
theorem defX_need_pattern (T : TX P w K mg base a) : DefX P w K mg base "need_pattern" 3 (preX_need_pattern a) := by
  refine DefX.of (ps := ["pattern"]) T.h_need_pattern (fun _ _ _ _ _ _ us hl => match us, hl with | [_], _ => rfl) fun f fd F => ok_defX F sc_need_pattern (lenX_need_pattern a) fun cdv A outer s H E hr tk hp => ⟨_, _, xx_cons (x_for hp (i_enumS T.b_enumerate (a_cons (d_v 0) (a_nil))) (g_tup (n := 2) (gs_cons (g_name (i := 1) sc_need_pattern.nd) (gs_cons (g_name (i := 2) sc_need_pattern.nd) (gs_nil))))
    (xx_one (x_if (DW.t (w_or (t_cmp o_ge opd_cmp (d_v 1) (d_glob T.c_MOST_WIDE) (nomark _)) (w_or1 (t_cmp op_notInAll (opd_in true) (d_v 2) (d_tup (a_cons (d_glob T.c_FREE) (a_cons (d_glob T.c_TAKEN) (a_nil)))) rfl))))
    (xx_one (x_raise1 T.e_BadPattern (hr.mono (by decide)) tk (d_v 1)))
    (DSs.x ss_nil))))
    (xx_one (x_if (t_cmp (op_eqAll (u64 hr)) opd_eq (d_v 0) (d_str) (nomark _))
    (xx_one (x_raise1 T.e_BadPattern (hr.mono (by decide)) tk (d_int)))
    (DSs.x ss_nil))), ?_⟩
  rintro ds m Q xd (⟨p, rfl, h1, h2, q⟩ | ⟨s, k, rfl, hs, hl, q⟩)
  · walk_at "xs"
    unfold dSeq dFor
    walk_at "dx"
    refine forD_inv (fun i env m' => m' = m ∧ ∃ a b, env = [some (.str (ps p)), a, b]) _ 0 ?_ ?_ _ _ ⟨rfl, _, _, rfl⟩
    · rintro i d hd env m' ⟨rfl, a1, b, rfl⟩ nx hn
      rw [enumD_get] at hd
      obtain ⟨x, hx, rfl⟩ := Option.map_eq_some_iff.mp hd
      obtain ⟨c, hc, rfl⟩ := by
        rw [List.getElem?_map] at hx
        exact Option.map_eq_some_iff.mp hx
      have hi : i < p.length := by
        have := (List.getElem?_eq_some_iff.mp hc).1
        simpa [ps] using this
      walk_at "dx"
      rw [if_neg (by omega)]
      exact ⟨by decide, rfl, rfl, by rw [sign_in hc]; exact hn _ _ ⟨rfl, _, _, rfl⟩⟩
    · rintro env m' ⟨rfl, a1, b, rfl⟩
      walk_at "dx"
      rw [if_neg ?_]
      · exact q
      · intro e
        have := congrArg Str.length e
        rw [ps_len] at this
        cases p
        · exact h2 rfl
        · cases this
  walk_at "xs"
  rcases hs with ⟨rfl, rfl⟩ | ⟨p, c, rest, hp, hk, hs, hc⟩
  · refine q_for (enumD 0 []) (fun Q q => ?_) (fun i e m' => i = 0 ∧ m' = m ∧ ∃ x y, e = [some (.str ""), x, y]) ⟨rfl, rfl, _, _, rfl⟩ ?_ ?_
    · walk_at "dx"
      rw [show (Str.ofString "").cps.toList = [] by decide +kernel]
      exact q
    · rintro i d hd
      simp [enumD] at hd
    · rintro e m' ⟨_, rfl, x, y, rfl⟩
      walk_at "dx"
      exact q
  · have pl : (ps p).cps.toList.length = k := by rw [← hp]; simp [ps]
    refine q_for (enumD 0 (s.cps.toList.map fun c => .str ⟨#[c]⟩)) (fun Q q => ?_) (fun i e m' => i ≤ k ∧ m' = m ∧ ∃ x y, e = [some (.str s), x, y]) ⟨Nat.zero_le _, rfl, _, _, rfl⟩ ?_ ?_
    · walk_at "dx"
      exact q
    · rintro i d hd e m' ⟨hi, rfl, x, y, rfl⟩ nx hn
      rw [enumD_get] at hd
      obtain ⟨t, ht, rfl⟩ := Option.map_eq_some_iff.mp hd
      rw [List.getElem?_map] at ht
      obtain ⟨cc, hcc, rfl⟩ := Option.map_eq_some_iff.mp ht
      rw [hs] at hcc
      walk_at "dx"
      rw [Nat.zero_add]
      by_cases hik : i < k
      · rw [List.getElem?_append_left (by omega)] at hcc
        rw [if_neg (by omega)]
        exact ⟨by decide, rfl, rfl, by rw [sign_in hcc]; exact hn _ _ ⟨by omega, rfl, _, _, rfl⟩⟩
      · have e : i = k := by omega
        subst e
        rw [List.getElem?_append_right (by omega), pl, Nat.sub_self] at hcc
        cases hcc
        split
        · exact q
        · rename_i h6
          rcases hc with rfl | ⟨c1, c2⟩
          · exact absurd (by omega) h6
          · exact ⟨by decide, rfl, rfl, by rw [sign_out c1 c2]; exact q⟩
    · rintro e m' ⟨hle, rfl, x, y, rfl⟩
      rw [enumD_length, List.length_map, hs, List.length_append, List.length_cons] at hle
      omega
def pre_places_of : Pre := fun ds m Q => ∃ p : List Bool, ds = [.str (ps p)] ∧ p.length ≤ 6 ∧ Q (.list (nums (placesOf p))) m
theorem len_places_of : ∀ ds m Q, pre_places_of ds m Q → ds.length = 1 := by
  rintro ds m Q ⟨w, rfl, _⟩
  rfl
abbrev n_places_of : List Str := ["pattern", "at"]
theorem sc_places_of : FnScope n_places_of ["pattern"] (defScope s_places_of) := ⟨rfl, rfl, rfl, by decide +kernel, rfl, by decide +kernel, by decide +kernel⟩
theorem def_places_of (T : TX P w K mg base a) : Def P w K mg base "places_of" 1 pre_places_of := by
  refine Def.of (ps := ["pattern"]) T.h_places_of (fun _ _ _ _ _ _ us hl => match us, hl with | [_], _ => rfl) fun f fd F => ok_def F sc_places_of len_places_of fun cdv A outer s H E hr => ⟨_, _, ss_one (s_ret (d_lc false sc_places_of.nd (own := [("at", 1)]) (i_range1 T.b_range (a_cons (d_callB cr_lenAll cd_len T.b_len (by decide +kernel) (a_cons (d_v 0) (a_nil))) (a_nil))) (blkOk_by (own := [("at", 1)]) (N := n_places_of) (sc := defScope s_places_of) (by decide +kernel)) (fun _ _ _ _ _ => g_name (i := 1) sc_places_of.nd) (fun _ _ _ _ _ => ts_one (t_cmp (op_eqAll (u64 hr)) opd_eq (d_ix (d_v 0) (d_v 1)) (d_glob T.c_TAKEN) (nomark _))) (fun _ _ _ _ _ => d_v 1) (keeps_name (by decide)))), ?_⟩
  rintro ds m Q ⟨p, rfl, hp, q⟩
  walk_at "dxs"
  rw [ps_len]
  refine ⟨Nat.le_trans hp (by decide), by omega, by omega, ?_⟩
  rw [Int.toNat_natCast]
  refine lc_range (fun i => p[i]?.getD false) (fun i => .int (i : Nat)) (fun i hi Q' q' => ?_) (fun i hi hc Q' q' => ?_) (small_line (by omega)) q
  · walk_at "dx"
    rw [ps_len]
    refine ⟨Nat.le_trans hp (by decide), _, ps_at (List.getElem?_eq_getElem hi), ?_⟩
    rw [List.getElem?_eq_getElem hi] at q'
    revert q'
    cases p[i] <;> exact fun q => q
  · walk_at "dx"
    exact q' 
def pre_shifted : Pre := fun ds m Q => ∃ (r : Rl) (w : Nat) (pl : List Nat) (k : Nat), ds = [.str (rt r), .int w, .list (nums pl), .int k] ∧ w ≤ 6 ∧ k ≤ pl.length ∧ pl.length ≤ 6 ∧ (goesM r w pl k = false → behindM w pl k ≠ []) ∧ Q (.list (nums (shiftM r w pl k))) m
theorem len_shifted : ∀ ds m Q, pre_shifted ds m Q → ds.length = 4 := by
  rintro ds m Q ⟨r, w, pl, k, rfl, _⟩
  rfl
abbrev n_shifted : List Str := ["rule", "wide", "places", "rank", "free", "before", "behind", "goes_left", "at"]
theorem sc_shifted : FnScope n_shifted ["rule", "wide", "places", "rank"] (defScope s_shifted) := ⟨rfl, rfl, rfl, by decide +kernel, rfl, by decide +kernel, by decide +kernel⟩
theorem def_shifted (T : TX P w K mg base a) : Def P w K mg base "shifted" 1 pre_shifted := by
  refine Def.of (ps := ["rule", "wide", "places", "rank"]) T.h_shifted (fun _ _ _ _ _ _ us hl => match us, hl with | [_, _, _, _], _ => rfl) fun f fd F => ok_def F sc_shifted len_shifted fun cdv A outer s H E hr => ⟨_, _, ss_cons (s_setLc false (i := 4) sc_shifted.nd (own := [("at", 8)]) (i_range1 T.b_range (a_cons (d_v 1) (a_nil))) (blkOk_by (own := [("at", 8)]) (N := n_shifted) (sc := defScope s_shifted) (by decide +kernel)) (fun _ _ _ _ _ => g_name (i := 8) sc_shifted.nd) (fun _ _ _ _ _ => ts_one (t_cmp op_notInAll (opd_in true) (d_v 8) (d_v 2) rfl)) (fun _ _ _ _ _ => d_v 8) (keeps_name (by decide)) (sw_true rfl rfl rfl (by decide +kernel)))
    (ss_cons (s_setLc false (i := 5) sc_shifted.nd (own := [("at", 8)]) (i_list (d_v 4)) (blkOk_by (own := [("at", 8)]) (N := n_shifted) (sc := defScope s_shifted) (by decide +kernel)) (fun _ _ _ _ _ => g_name (i := 8) sc_shifted.nd) (fun _ _ _ _ _ => ts_one (DW.t (w_and (t_cmp o_gt opd_cmp (d_v 3) (d_int) (nomark _)) (w_and1 (t_cmp o_lt opd_cmp (d_v 8) (d_ix (d_v 2) (d_sub (d_v 3) (d_int))) (nomark _)))))) (fun _ _ _ _ _ => d_v 8) (keeps_name (by decide)) (sw_true rfl rfl rfl (by decide +kernel)))
    (ss_cons (s_setLc false (i := 6) sc_shifted.nd (own := [("at", 8)]) (i_list (d_v 4)) (blkOk_by (own := [("at", 8)]) (N := n_shifted) (sc := defScope s_shifted) (by decide +kernel)) (fun _ _ _ _ _ => g_name (i := 8) sc_shifted.nd) (fun _ _ _ _ _ => ts_one (DW.t (w_and (t_cmp o_lt opd_cmp (d_v 3) (d_callB cr_lenAll cd_len T.b_len (by decide +kernel) (a_cons (d_v 2) (a_nil))) (nomark _)) (w_and1 (t_cmp o_gt opd_cmp (d_v 8) (d_ix (d_v 2) (d_v 3)) (nomark _)))))) (fun _ _ _ _ _ => d_v 8) (keeps_name (by decide)) (sw_true rfl rfl rfl (by decide +kernel)))
    (ss_cons (s_set (i := 7) sc_shifted.nd (d_cmp (op_neAll (u64 hr)) opd_ne (d_v 5) (d_lst false (a_nil)) (nomark _)))
    (ss_cons (s_if (DW.t (w_and (t_cmp (op_eqAll (u64 hr)) opd_eq (d_v 0) (d_str) (nomark _)) (w_and (t_cmp (op_neAll (u64 hr)) opd_ne (d_v 5) (d_lst false (a_nil)) (nomark _)) (w_and1 (t_cmp (op_neAll (u64 hr)) opd_ne (d_v 6) (d_lst false (a_nil)) (nomark _))))))
    (ss_one (s_set (i := 7) sc_shifted.nd (d_cmp o_le opd_cmp (d_sub (d_ix (d_v 2) (d_sub (d_v 3) (d_int))) (d_ix (d_v 5) (d_neg (d_int)))) (d_sub (d_ix (d_v 6) (d_int)) (d_ix (d_v 2) (d_v 3))) (nomark _))))
    (ss_nil))
    (ss_cons (s_if (t_val (d_v 7))
    (ss_one (s_ret (d_callB c_sorted (cd_sorted false) T.b_sorted (by decide +kernel) (a_cons (d_add false (d_v 2) (d_lst false (a_cons (d_ix (d_v 5) (d_neg (d_int))) (a_nil)))) (a_nil)))))
    (ss_nil))
    (ss_one (s_ret (d_callB c_sorted (cd_sorted false) T.b_sorted (by decide +kernel) (a_cons (d_add false (d_v 2) (d_lst false (a_cons (d_ix (d_v 6) (d_int)) (a_nil)))) (a_nil)))))))))), ?_⟩
  rintro ds m Q ⟨r, w, pl, k, rfl, h1, h2, h3, h4, q⟩
  have hfl : (freeM w pl).length ≤ w := by
    unfold freeM
    exact Nat.le_trans (List.length_filter_le _ _) (by rw [List.length_range]; exact Nat.le_refl _)
  refine q_asg (.list (nums (freeM w pl))) (fun Q q => ?_) ?_
  · walk_at "dx"
    rw [Int.toNat_natCast]
    refine ⟨by omega, by omega, lc_range (fun i => !decide (i ∈ pl)) (fun i => .int (i : Nat)) (fun i hi Q' q' => ?_) (fun i hi hc Q' q' => ?_) (small_line (by omega)) q⟩
    · walk_at "dx"
      refine ⟨rfl, nums_flat pl, ?_⟩
      rw [show toV (.int (i : Nat)) = .int (i : Nat) from rfl, nums_in]
      exact q'
    · walk_at "dx"
      exact q'
  refine q_asg (.list (nums (beforeM w pl k))) (fun Q q => ?_) ?_
  · walk_at "dx"
    refine lc_nums (fun i => decide (0 < k) && decide (i < pl[k - 1]?.getD 0)) (fun i hi Q' q' => ?_) (small_line (by omega)) (by exact q)
    walk_at "dx"
    by_cases hk : 0 < k
    · rw [if_pos (by omega)]
      rw [decide_eq_true hk] at q'
      have hk' : k - 1 < pl.length := by omega
      refine ⟨_, by rw [show ((k : Int) - 1) = ((k - 1 : Nat) : Int) by omega]; exact nums_atN hk', ?_⟩
      walk_at "dx"
      rw [List.getElem?_eq_getElem hk'] at q'
      simpa using q'
    · rw [if_neg (by omega)]
      rw [decide_eq_false hk] at q'
      exact q'
  refine q_asg (.list (nums (behindM w pl k))) (fun Q q => ?_) ?_
  · walk_at "dx"
    refine lc_nums (fun i => decide (k < pl.length) && decide (pl[k]?.getD 0 < i)) (fun i hi Q' q' => ?_) (small_line (by omega)) (by exact q)
    walk_at "dx"
    rw [nums_len]
    by_cases hk : k < pl.length
    · rw [if_pos (by omega)]
      rw [decide_eq_true hk] at q'
      refine ⟨_, nums_atN hk, ?_⟩
      walk_at "dx"
      rw [List.getElem?_eq_getElem hk] at q'
      simpa using q'
    · rw [if_neg (by omega)]
      rw [decide_eq_false hk] at q'
      exact q'
  refine q_asg (.bl (!decide (beforeM w pl k = []))) (fun Q q => ?_) ?_
  · walk_at "dx"
    exact ⟨Nat.zero_le _, eq_nats _ [] (by simpa using q)⟩
  have last := @nums_last (beforeM w pl k)
  have first := @nums_first (behindM w pl k)
  refine q_ifAsg (decide (r = .near) && (!decide (beforeM w pl k = []) && !decide (behindM w pl k = []))) (.bl (goesM r w pl k)) (fun Q q => ?_) (fun hb Q q => ?_) (fun hb => ?_) ?_
  · walk_at "dx"
    simp only [rt_near]
    by_cases hr : r = .near
    · rw [decide_eq_true hr] at q
      rw [if_pos hr]
      refine ⟨Nat.zero_le _, eq_nats _ [] ?_⟩
      walk_at "dx"
      by_cases hx : beforeM w pl k = []
      · rw [if_neg (by simp [hx])]
        simpa [hx] using q
      · rw [if_pos (by simp [hx])]
        refine ⟨Nat.zero_le _, eq_nats _ [] ?_⟩
        walk_at "dx"
        simpa [hx] using q
    · rw [decide_eq_false hr] at q
      rw [if_neg hr]
      exact q
  · simp only [Bool.and_eq_true, decide_eq_true_eq, Bool.not_eq_true', decide_eq_false_iff_not] at hb
    obtain ⟨hr, hx, hy⟩ := hb
    have hk : 0 < k := by
      refine Nat.pos_of_ne_zero fun e => hx ?_
      subst e
      simp [beforeM]
    have hk2 : k < pl.length := by
      refine Nat.lt_of_not_le fun e => hy ?_
      have : ¬ k < pl.length := by omega
      simp [behindM, this]
    walk_at "dx"
    refine ⟨_, by rw [show ((k : Int) - 1) = ((k - 1 : Nat) : Int) by omega]; exact nums_atN (show k - 1 < pl.length by omega), _, last hx, ?_⟩
    walk_at "dx"
    refine ⟨_, first hy, _, nums_atN hk2, ?_⟩
    walk_at "dx"
    unfold goesM at q
    rw [if_pos ⟨hr, hx, hy⟩, List.getElem?_eq_getElem hk2, List.getElem?_eq_getElem (show k - 1 < pl.length by omega)] at q
    simp only [Option.getD_some] at q
    refine (congrArg (fun b => Q (.bl b) m) (decide_eq_decide.mpr ?_)).mp q
    omega
  · simp only [startD, n_shifted, List.length_cons, List.length_nil, List.map_cons, List.map_nil, List.replicate, List.cons_append, List.nil_append, List.set_cons_succ, List.set_cons_zero, List.getElem?_cons_succ, List.getElem?_cons_zero]
    refine congrArg (fun b => some (some (D.bl b))) ?_
    unfold goesM
    rw [if_neg]
    rintro ⟨h, hx, hy⟩
    simp [h, hx, hy] at hb
  refine q_when (goesM r w pl k) (fun Q q => ?_) (fun hb => ?_) (fun hb => ?_)
  · walk_at "dx"
    exact q
  · have hx : beforeM w pl k ≠ [] := by
      intro e
      unfold goesM at hb
      rw [if_neg (fun h => h.2.1 e), e] at hb
      simp at hb
    unfold shiftM at q
    rw [if_pos hb] at q
    walk_at "dx"
    refine ⟨_, last hx, by decide, ?_⟩
    rw [nums_len]
    refine ⟨Nat.le_trans (by omega : _ ≤ 100) (by decide), _, (by rw [nums_append, nums_ints]), ?_, ?_⟩
    · rw [List.length_map, List.length_append]
      simp
      omega
    · rw [isortN_ints, ← nums_ints]
      exact q
  · have hy : behindM w pl k ≠ [] := h4 hb
    unfold shiftM at q
    rw [if_neg (by rw [hb]; decide)] at q
    walk_at "dx"
    refine ⟨_, first hy, by decide, ?_⟩
    rw [nums_len]
    refine ⟨Nat.le_trans (by omega : _ ≤ 100) (by decide), _, (by rw [nums_append, nums_ints]), ?_, ?_⟩
    · rw [List.length_map, List.length_append]
      simp
      omega
    · rw [isortN_ints, ← nums_ints]
      exact q
def pre_even_places : Pre := fun ds m Q => ∃ (w n : Nat), ds = [.int w, .int n] ∧ w ≤ 6 ∧ n ≤ 6 ∧ Q (.list (nums (evenPl w n))) m
theorem len_even_places : ∀ ds m Q, pre_even_places ds m Q → ds.length = 2 := by
  rintro ds m Q ⟨w, pl, rfl, _⟩
  rfl
abbrev n_even_places : List Str := ["wide", "many", "number"]
theorem sc_even_places : FnScope n_even_places ["wide", "many"] (defScope s_even_places) := ⟨rfl, rfl, rfl, by decide +kernel, rfl, by decide +kernel, by decide +kernel⟩
theorem def_even_places (T : TX P w K mg base a) : Def P w K mg base "even_places" 1 pre_even_places := by
  refine Def.of (ps := ["wide", "many"]) T.h_even_places (fun _ _ _ _ _ _ us hl => match us, hl with | [_, _], _ => rfl) fun f fd F => ok_def F sc_even_places len_even_places fun cdv A outer s H E hr => ⟨_, _, ss_one (s_ret (d_lc false sc_even_places.nd (own := [("number", 2)]) (i_range1 T.b_range (a_cons (d_v 1) (a_nil))) (blkOk_by (own := [("number", 2)]) (N := n_even_places) (sc := defScope s_even_places) (by decide +kernel)) (fun _ _ _ _ _ => g_name (i := 2) sc_even_places.nd) (fun _ _ _ _ _ => ts_nil) (fun _ _ _ _ _ => d_fdiv (d_mul false (d_v 2) (d_v 0)) (d_v 1)) (keeps_name (by decide)))), ?_⟩
  rintro ds m Q ⟨w, n, rfl, hw, hn, q⟩
  walk_at "dxs"
  refine ⟨by omega, by omega, ?_⟩
  rw [Int.toNat_natCast]
  refine lc_rangeAll (fun i => .int (i * w / n : Nat)) (fun i hi Q' q' => ?_) (small_line (by omega)) ?_
  · walk_at "dx"
    refine ⟨.inl ⟨by omega, by omega⟩, ⟨by omega, by omega⟩, ?_⟩
    simpa using q'
  · rw [show nums (evenPl w n) = (List.range n).map (fun i => D.int (i * w / n : Nat)) by unfold nums evenPl; rw [List.map_map]; rfl] at q
    exact q
def pre_places_behind : Pre := fun ds m Q => ∃ (r : Rl) (p : List Bool) (k : Nat), ds = [.str (rt r), .int p.length, .list (nums (placesOf p)), .int k] ∧ p.length ≤ 6 ∧ k ≤ (placesOf p).length ∧ (placesOf p).length < p.length ∧ Q (.list (nums (pbM r p.length (placesOf p) k))) m
theorem len_places_behind : ∀ ds m Q, pre_places_behind ds m Q → ds.length = 4 := by
  rintro ds m Q ⟨r, w, k, rfl, _⟩
  rfl
abbrev n_places_behind : List Str := ["rule", "wide", "places", "rank", "low", "high"]
theorem sc_places_behind : FnScope n_places_behind ["rule", "wide", "places", "rank"] (defScope s_places_behind) := ⟨rfl, rfl, rfl, by decide +kernel, rfl, by decide +kernel, by decide +kernel⟩
theorem def_places_behind (T : TX P w K mg base a) : Def P w K mg base "places_behind" 2 pre_places_behind := by
  refine Def.of (ps := ["rule", "wide", "places", "rank"]) T.h_places_behind (fun _ _ _ _ _ _ us hl => match us, hl with | [_, _, _, _], _ => rfl) fun f fd F => ok_def F sc_places_behind len_places_behind fun cdv A outer s H E hr => ⟨_, _, ss_cons (s_set (i := 4) sc_places_behind.nd (d_ifx (t_cmp o_gt opd_cmp (d_v 3) (d_int) (nomark _)) (d_ix (d_v 2) (d_sub (d_v 3) (d_int))) (d_neg (d_int))))
    (ss_cons (s_set (i := 5) sc_places_behind.nd (d_ifx (t_cmp o_lt opd_cmp (d_v 3) (d_callB cr_lenAll cd_len T.b_len (by decide +kernel) (a_cons (d_v 2) (a_nil))) (nomark _)) (d_ix (d_v 2) (d_v 3)) (d_v 1)))
    (ss_cons (s_if (t_cmp o_gt opd_cmp (d_sub (d_v 5) (d_v 4)) (d_int) (nomark _))
    (ss_one (s_ret (d_callB c_sorted (cd_sorted false) T.b_sorted (by decide +kernel) (a_cons (d_add false (d_v 2) (d_lst false (a_cons (d_fdiv (d_add false (d_v 4) (d_v 5)) (d_int)) (a_nil)))) (a_nil)))))
    (ss_nil))
    (ss_cons (s_if (t_cmp (op_eqAll (u64 hr)) opd_eq (d_v 0) (d_str) (nomark _))
    (ss_one (s_ret (d_call (def_even_places T) (hr.mono (by decide)) (a_cons (d_v 1) (a_cons (d_add false (d_callB cr_lenAll cd_len T.b_len (by decide +kernel) (a_cons (d_v 2) (a_nil))) (d_int)) (a_nil))))))
    (ss_nil))
    (ss_one (s_ret (d_call (def_shifted T) (hr.mono (by decide)) (a_cons (d_v 0) (a_cons (d_v 1) (a_cons (d_v 2) (a_cons (d_v 3) (a_nil))))))))))), ?_⟩
  rintro ds m Q ⟨r, p, k, rfl, h1, h2, h3, q⟩
  have hok := (pb_ok h1 r h2 h3).2
  rw [pbM_eq] at q
  refine q_asg (.int (lowM (placesOf p) k)) (fun Q q => ?_) ?_
  · walk_at "dx"
    unfold lowM at q
    by_cases hk : 0 < k
    · rw [if_pos hk] at q
      rw [if_pos (by omega)]
      have hk' : k - 1 < (placesOf p).length := by omega
      rw [List.getElem?_eq_getElem hk'] at q
      exact ⟨_, by rw [show ((k : Int) - 1) = ((k - 1 : Nat) : Int) by omega]; exact nums_atN hk', q⟩
    · rw [if_neg hk] at q
      rw [if_neg (by omega)]
      exact q
  refine q_asg (.int (highM p.length (placesOf p) k)) (fun Q q => ?_) ?_
  · walk_at "dx"
    rw [nums_len]
    unfold highM at q
    by_cases hk : k < (placesOf p).length
    · rw [if_pos hk, List.getElem?_eq_getElem hk] at q
      rw [if_pos (by omega)]
      exact ⟨_, nums_atN hk, q⟩
    · rw [if_neg hk] at q
      rw [if_neg (by omega)]
      exact q
  have hlow : -1 ≤ lowM (placesOf p) k := by
    unfold lowM
    split <;> omega
  refine q_when (decide (highM p.length (placesOf p) k - lowM (placesOf p) k > 1)) (fun Q q => ?_) (fun hb => ?_) (fun hb => ?_)
  · walk_at "dx"
    exact q
  · rw [decide_eq_true_eq] at hb
    rw [if_pos hb] at q
    walk_at "dx"
    refine ⟨⟨by decide, by decide⟩, by decide, ?_⟩
    rw [nums_len]
    refine ⟨Nat.le_trans (by omega : _ ≤ 100) (by decide), ((placesOf p ++ [((lowM (placesOf p) k + highM p.length (placesOf p) k) / 2).toNat]).map fun n : Nat => (n : Int)), ?_, ?_, ?_⟩
    · rw [← nums_ints, ← nums_append]
      congr 3
      omega
    · rw [List.length_map, List.length_append]
      simp
      omega
    · rw [isortN_ints, ← nums_ints]
      exact q
  · rw [decide_eq_false_iff_not] at hb
    rw [if_neg hb] at q
    refine q_when (decide (r = .even)) (fun Q q => ?_) (fun hc => ?_) (fun hc => ?_)
    · walk_at "dx"
      simp only [rt_even]
      exact q
    · rw [decide_eq_true_eq] at hc
      rw [if_pos hc] at q
      walk_at "dx"
      rw [nums_len]
      exact ⟨p.length, (placesOf p).length + 1, rfl, h1, by omega, q⟩
    · rw [decide_eq_false_iff_not] at hc
      rw [if_neg hc] at q
      walk_at "dx"
      exact ⟨r, p.length, placesOf p, k, rfl, h1, h2, by omega, hok hb, q⟩
def pre_pattern_of : Pre := fun ds m Q => ∃ (w : Nat) (pl : List Nat), ds = [.int w, .list (nums pl)] ∧ w ≤ 6 ∧ Q (.str (ps (patOf w pl))) m
theorem len_pattern_of : ∀ ds m Q, pre_pattern_of ds m Q → ds.length = 2 := by
  rintro ds m Q ⟨w, pl, rfl, _⟩
  rfl
abbrev n_pattern_of : List Str := ["wide", "places", "at"]
theorem sc_pattern_of : FnScope n_pattern_of ["wide", "places"] (defScope s_pattern_of) := ⟨rfl, rfl, rfl, by decide +kernel, rfl, by decide +kernel, by decide +kernel⟩
theorem def_pattern_of (T : TX P w K mg base a) : Def P w K mg base "pattern_of" 1 pre_pattern_of := by
  refine Def.of (ps := ["wide", "places"]) T.h_pattern_of (fun _ _ _ _ _ _ us hl => match us, hl with | [_, _], _ => rfl) fun f fd F => ok_def F sc_pattern_of len_pattern_of fun cdv A outer s H E hr => ⟨_, _, ss_one (s_ret (d_bm PySem.F.plainAttrs_str PySem.F.slot_str_join PySem.F.type_str_join m_join md_join tyS' (d_str) (a_cons (d_lc false sc_pattern_of.nd (own := [("at", 2)]) (i_range1 T.b_range (a_cons (d_v 0) (a_nil))) (blkOk_by (own := [("at", 2)]) (N := n_pattern_of) (sc := defScope s_pattern_of) (by decide +kernel)) (fun _ _ _ _ _ => g_name (i := 2) sc_pattern_of.nd) (fun _ _ _ _ _ => ts_nil) (fun _ _ _ _ _ => d_ifx (t_cmp op_inAll (opd_in false) (d_v 2) (d_v 1) rfl) (d_glob T.c_TAKEN) (d_glob T.c_FREE)) (keeps_name (by decide))) (a_nil)))), ?_⟩
  rintro ds m Q ⟨w, pl, rfl, hw, q⟩
  walk_at "dxs"
  refine ⟨⟨_, rfl⟩, by omega, by omega, ?_⟩
  rw [Int.toNat_natCast]
  refine lc_rangeAll (fun i => .str (if decide (i ∈ pl) then "1" else "0")) (fun i hi Q' q' => ?_) (small_line (by omega)) ?_
  · walk_at "dx"
    refine ⟨rfl, nums_flat pl, ?_⟩
    rw [show toV (.int (i : Nat)) = .int (i : Nat) from rfl, nums_in]
    revert q'
    cases decide (i ∈ pl) <;> exact fun q => q
  · refine ⟨(patOf w pl).map fun b => if b then ("1" : Str) else "0", ?_, ?_, ?_⟩
    · unfold patOf
      rw [List.map_map, List.map_map]
      rfl
    · rw [signs_sum]
      simp only [patOf, List.length_map, List.length_range]
      have : ("" : Str).length = 0 := by decide +kernel
      rw [this]
      omega
    · rw [join_signs]
      exact q
def pre_moved : Pre := fun ds m Q => ∃ (pl ot : List Nat) (k : Nat), ds = [.list (nums pl), .list (nums ot), .int k] ∧ ot.length = pl.length + 1 ∧ k ≤ pl.length ∧ pl.length ≤ 100 ∧ Q (.int (movedM pl ot k : Nat)) m
theorem len_moved : ∀ ds m Q, pre_moved ds m Q → ds.length = 3 := by
  rintro ds m Q ⟨w, pl, k, rfl, _⟩
  rfl
abbrev n_moved : List Str := ["places", "others", "rank", "rest", "at"]
theorem sc_moved : FnScope n_moved ["places", "others", "rank"] (defScope s_moved) := ⟨rfl, rfl, rfl, by decide +kernel, rfl, by decide +kernel, by decide +kernel⟩
theorem def_moved (T : TX P w K mg base a) : Def P w K mg base "moved" 1 pre_moved := by
  refine Def.of (ps := ["places", "others", "rank"]) T.h_moved (fun _ _ _ _ _ _ us hl => match us, hl with | [_, _, _], _ => rfl) fun f fd F => ok_def F sc_moved len_moved fun cdv A outer s H E hr => ⟨_, _, ss_cons (s_set (i := 3) sc_moved.nd (d_add false (d_slice false (d_v 1) (o_none) (o_some (d_v 2))) (d_slice false (d_v 1) (o_some (d_add false (d_v 2) (d_int))) (o_none))))
    (ss_one (s_ret (d_callB cr_lenAll cd_len T.b_len (by decide +kernel) (a_cons (d_lc false sc_moved.nd (own := [("at", 4)]) (i_range1 T.b_range (a_cons (d_callB cr_lenAll cd_len T.b_len (by decide +kernel) (a_cons (d_v 0) (a_nil))) (a_nil))) (blkOk_by (own := [("at", 4)]) (N := n_moved) (sc := defScope s_moved) (by decide +kernel)) (fun _ _ _ _ _ => g_name (i := 4) sc_moved.nd) (fun _ _ _ _ _ => ts_one (t_cmp (op_neAll (u64 hr)) opd_ne (d_ix (d_v 0) (d_v 4)) (d_ix (d_v 3) (d_v 4)) (nomark _))) (fun _ _ _ _ _ => d_v 4) (keeps_name (by decide))) (a_nil))))), ?_⟩
  rintro ds m Q ⟨pl, ot, k, rfl, h1, h2, h3, q⟩
  refine q_asg (.list (nums (ot.eraseIdx k))) (fun Q q => ?_) ?_
  · walk_at "dx"
    rw [cut_take, cut_drop1, take_drop_erase, nums_erase]
    refine ⟨?_, q⟩
    simp only [List.length_take, List.length_drop, nums_len]
    exact Nat.le_trans (by omega : _ ≤ 300) (by decide)
  · walk_at "dx"
    rw [nums_len, Int.toNat_natCast]
    refine ⟨by omega, by omega, ?_⟩
    have hel : (ot.eraseIdx k).length = pl.length := by
      rw [List.length_eraseIdx, if_pos (by omega)]
      omega
    refine lc_range (fun i => !decide (pl[i]? = (ot.eraseIdx k)[i]?)) (fun i => .int (i : Nat)) (fun i hi Q' q' => ?_) (fun i hi hc Q' q' => ?_) (small_line (by omega)) ?_
    · walk_at "dx"
      refine ⟨_, nums_atN hi, _, nums_atN (hel.symm ▸ hi), ?_⟩
      rw [List.getElem?_eq_getElem hi, List.getElem?_eq_getElem (hel.symm ▸ hi)] at q'
      simpa [Int.ofNat_inj] using q'
    · walk_at "dx"
      exact q'
    · rw [List.length_map]
      exact q
def pre_step : Pre := fun ds m Q => ∃ (r : Rl) (p : List Bool) (word : Str) (k : Int), ds = [.str (rt r), .str (ps p), .tuple [.str word, .int k]] ∧ p.length ≤ 6 ∧ Q (stepD (stepM r p word k)) m
theorem len_step : ∀ ds m Q, pre_step ds m Q → ds.length = 3 := by
  rintro ds m Q ⟨r, w, k, _, rfl, _⟩
  rfl
abbrev n_step : List Str := ["rule", "pattern", "deed", "places", "word", "rank", "others"]
theorem sc_step : FnScope n_step ["rule", "pattern", "deed"] (defScope s_step) := ⟨rfl, rfl, rfl, by decide +kernel, rfl, by decide +kernel, by decide +kernel⟩
theorem def_step (T : TX P w K mg base a) : Def P w K mg base "step" 3 pre_step := by
  refine Def.of (ps := ["rule", "pattern", "deed"]) T.h_step (fun _ _ _ _ _ _ us hl => match us, hl with | [_, _, _], _ => rfl) fun f fd F => ok_def F sc_step len_step fun cdv A outer s H E hr => ⟨_, _, ss_cons (s_set (i := 3) sc_step.nd (d_call (def_places_of T) (hr.mono (by decide)) (a_cons (d_v 1) (a_nil))))
    (ss_cons (s_asg (d_v 2) (g_tup (n := 2) (gs_cons (g_name (i := 4) sc_step.nd) (gs_cons (g_name (i := 5) sc_step.nd) (gs_nil)))))
    (ss_cons (s_if (DW.t (w_and (t_cmp (op_eqAll (u64 hr)) opd_eq (d_v 4) (d_str) (nomark _)) (w_and1 (t_chain o_le o_lt opd_cmp opd_cmp (d_int) (d_v 5) (d_callB cr_lenAll cd_len T.b_len (by decide +kernel) (a_cons (d_v 3) (a_nil)))))))
    (ss_one (s_ret (d_tup (a_cons (d_int) (a_cons (d_call (def_pattern_of T) (hr.mono (by decide)) (a_cons (d_callB cr_lenAll cd_len T.b_len (by decide +kernel) (a_cons (d_v 1) (a_nil))) (a_cons (d_add false (d_slice false (d_v 3) (o_none) (o_some (d_v 5))) (d_slice false (d_v 3) (o_some (d_add false (d_v 5) (d_int))) (o_none))) (a_nil)))) (a_nil))))))
    (ss_nil))
    (ss_cons (s_if (DW.t (w_and (t_cmp (op_eqAll (u64 hr)) opd_eq (d_v 4) (d_str) (nomark _)) (w_and1 (t_chain3 o_le o_le o_lt opd_cmp opd_cmp opd_cmp (d_int) (d_v 5) (d_callB cr_lenAll cd_len T.b_len (by decide +kernel) (a_cons (d_v 3) (a_nil))) (d_callB cr_lenAll cd_len T.b_len (by decide +kernel) (a_cons (d_v 1) (a_nil)))))))
    (ss_cons (s_set (i := 6) sc_step.nd (d_call (def_places_behind T) (hr.mono (by decide)) (a_cons (d_v 0) (a_cons (d_callB cr_lenAll cd_len T.b_len (by decide +kernel) (a_cons (d_v 1) (a_nil))) (a_cons (d_v 3) (a_cons (d_v 5) (a_nil)))))))
    (ss_one (s_ret (d_tup (a_cons (d_call (def_moved T) (hr.mono (by decide)) (a_cons (d_v 3) (a_cons (d_v 6) (a_cons (d_v 5) (a_nil))))) (a_cons (d_call (def_pattern_of T) (hr.mono (by decide)) (a_cons (d_callB cr_lenAll cd_len T.b_len (by decide +kernel) (a_cons (d_v 1) (a_nil))) (a_cons (d_v 6) (a_nil)))) (a_nil)))))))
    (ss_nil))
    (ss_one (s_ret (d_non)))))), ?_⟩
  rintro ds m Q ⟨r, p, word, k, rfl, h1, q⟩
  have hpl := pl_len p
  refine q_asg (.list (nums (placesOf p))) (fun Q q => ?_) ?_
  · walk_at "dx"
    exact ⟨p, rfl, h1, q⟩
  refine q_asgG (e1 := [some (.str (rt r)), some (.str (ps p)), some (.tuple [.str word, .int k]), some (.list (nums (placesOf p))), some (.str word), some (.int k), none]) (fun Q q => ?_) ?_
  · walk_at "dx"
    exact q
  have e1 : (placesOf p).length ≤ 6 := by omega
  unfold stepM at q
  refine q_when (decide (word = "take" ∧ 0 ≤ k ∧ k < (placesOf p).length)) (fun Q q => ?_) (fun hb => ?_) (fun hb => ?_)
  · walk_at "dx"
    rw [nums_len]
    by_cases h : word = "take"
    · rw [if_pos h]
      by_cases h0 : 0 ≤ k
      · rw [if_pos h0]
        simpa [h, h0] using q
      · rw [if_neg h0]
        simpa [h, h0] using q
    · rw [if_neg h]
      simpa [h] using q
  · rw [decide_eq_true_eq] at hb
    rw [if_pos hb] at q
    obtain ⟨k, rfl⟩ := Int.eq_ofNat_of_zero_le hb.2.1
    walk_at "dx"
    rw [ps_len, cut_take, cut_drop1, take_drop_erase, nums_erase]
    simp only [List.length_take, List.length_drop, nums_len]
    refine ⟨Nat.le_trans h1 (by decide), Nat.le_trans (by omega : _ ≤ 100) (by decide), p.length, _, rfl, h1, by decide, ?_⟩
    exact q
  · rw [decide_eq_false_iff_not] at hb
    rw [if_neg hb] at q
    refine q_when (decide (word = "put" ∧ 0 ≤ k ∧ k ≤ (placesOf p).length ∧ (placesOf p).length < p.length)) (fun Q q => ?_) (fun hc => ?_) (fun hc => ?_)
    · walk_at "dx"
      rw [nums_len, ps_len]
      by_cases h : word = "put"
      · rw [if_pos h]
        by_cases h0 : 0 ≤ k
        · rw [if_pos h0]
          by_cases h2 : k ≤ (placesOf p).length
          · rw [if_pos h2]
            refine ⟨Nat.le_trans h1 (by decide), ?_⟩
            simpa [h, h0, h2] using q
          · rw [if_neg h2]
            simpa [h, h0, h2] using q
        · rw [if_neg h0]
          simpa [h, h0] using q
      · rw [if_neg h]
        simpa [h] using q
    · rw [decide_eq_true_eq] at hc
      rw [if_pos hc] at q
      obtain ⟨hw, h0, h2, h3⟩ := hc
      obtain ⟨k, rfl⟩ := Int.eq_ofNat_of_zero_le h0
      have hk : k ≤ (placesOf p).length := by omega
      have hpb := (pb_ok h1 r hk h3).1
      refine q_asg (.list (nums (pbM r p.length (placesOf p) k))) (fun Q q => ?_) ?_
      · walk_at "dx"
        rw [ps_len]
        exact ⟨Nat.le_trans h1 (by decide), r, p, k, rfl, h1, hk, h3, q⟩
      · walk_at "dx"
        rw [ps_len]
        exact ⟨_, _, k, rfl, hpb, hk, by omega, Nat.le_trans h1 (by decide), p.length, _, rfl, h1, by decide, q⟩
    · rw [decide_eq_false_iff_not] at hc
      rw [if_neg hc] at q
      walk_at "dx"
      exact q
abbrev n_done : List Str := ["rule", "pattern", "deed", "found"]
theorem sc_done : FnScope n_done ["rule", "pattern", "deed"] (defScope s_done) := ⟨rfl, rfl, rfl, by decide +kernel, rfl, by decide +kernel, by decide +kernel⟩
def preX_done (a : Ad) : PreX := fun ds m Q xd => (∃ (s : Str) (x y : D), ds = [.str s, x, y] ∧ noRule s ∧ xd a.CR none m) ∨ (∃ (r : Rl) (s : Str) (k : Nat) (y : D), ds = [.str (rt r), .str s, y] ∧ BadAt s k ∧ s.length ≤ 100 ∧ xd a.CP (some ("at", k)) m) ∨ ∃ (r : Rl) (p : List Bool) (word : Str) (k : Int), ds = [.str (rt r), .str (ps p), .tuple [.str word, .int k]] ∧ p.length ≤ 6 ∧ p ≠ [] ∧ stepM r p word k = none ∧ xd a.CD (some ("number", 0)) m
theorem lenX_done (a : Ad) : ∀ ds m Q xd, preX_done a ds m Q xd → ds.length = 3 := by
  rintro ds m Q xd (⟨_, _, _, rfl, _⟩ | ⟨_, _, _, _, rfl, _⟩ | ⟨_, _, _, _, rfl, _⟩)
  all_goals rfl
theorem defX_done (T : TX P w K mg base a) : DefX P w K mg base "done" 4 (preX_done a) := by
  refine DefX.of (ps := ["rule", "pattern", "deed"]) T.h_done (fun _ _ _ _ _ _ us hl => match us, hl with | [_, _, _], _ => rfl) fun f fd F => ok_defX F sc_done (lenX_done a) fun cdv A outer s H E hr tk hp => ⟨_, _, xx_cons (x_expr (x_call (defX_need_rule T) (hr.mono (by decide)) tk (a_cons (d_v 0) (a_nil))))
    (xx_cons (x_expr (x_call (defX_need_pattern T) (hr.mono (by decide)) tk (a_cons (d_v 1) (a_nil))))
    (xx_cons (DS.x (s_set (i := 3) sc_done.nd (d_call (def_step T) (hr.mono (by decide)) (a_cons (d_v 0) (a_cons (d_v 1) (a_cons (d_v 2) (a_nil)))))))
    (xx_cons (x_if (t_cmp op_isN opd_isN (d_v 3) (d_non) (nomark _))
    (xx_one (x_raise1 T.e_BadDeed (hr.mono (by decide)) tk (d_int)))
    (DSs.x ss_nil))
    (DSs.x (ss_one (s_ret (d_v 3))))))), ?_⟩
  rintro ds m Q xd (⟨s, x, y, rfl, hs, q⟩ | ⟨r, s, k, y, rfl, hs, hl, q⟩ | ⟨r, p, word, k, rfl, h1, h2, h3, q⟩)
  · walk_at "dxs"
    exact .inr ⟨_, rfl, hs, q⟩
  · walk_at "dxs"
    exact .inl ⟨r, rfl, .inr ⟨s, k, rfl, hs, hl, q⟩⟩
  · walk_at "dxs"
    refine .inl ⟨r, rfl, .inl ⟨p, rfl, h1, h2, r, p, word, k, rfl, h1, ?_⟩⟩
    rw [h3]
    exact q
def preL_0 (a : Ad) : PreX := fun ds m Q xd => ∃ (s : Str) (x y : D), ds = [x, y, .str s] ∧ noRule s ∧ ∀ m', Grow m m' → xd a.CR (none) m'
theorem lok_0 (T : TX P w K mg base a) : LamOk P w K mg base 20 lam_0 ["_law_bad", "_law_deed", "_law_none"] (spX K (preL_0 a)) := by
  refine (ok_lam (k := 4) ls_0 (lamBd_nil rfl fun _ _ _ _ _ => rfl) fun A outer s H E cl f c hr tk => ⟨_, _, x_call (defX_done T) (hr.mono (by decide)) tk (a_cons (d_v 2) (a_cons (d_v 0) (a_cons (d_v 1) (a_nil)))), ?_⟩).mono (by decide)
  rintro ds m Q xd ⟨s, x, y, rfl, hs, q⟩
  walk_at "dx"
  exact .inl ⟨s, x, y, rfl, hs, q _ (Grow.refl _)⟩
abbrev n_need_width : List Str := ["wide"]
theorem sc_need_width : FnScope n_need_width ["wide"] (defScope s_need_width) := ⟨rfl, rfl, rfl, by decide +kernel, rfl, by decide +kernel, by decide +kernel⟩
def preX_need_width (a : Ad) : PreX := fun ds m Q xd => (∃ w : Int, ds = [.int w] ∧ 1 ≤ w ∧ w ≤ 6 ∧ Q .non m) ∨ ∃ w : Int, ds = [.int w] ∧ badWide w ∧ xd a.CW none m
theorem lenX_need_width (a : Ad) : ∀ ds m Q xd, preX_need_width a ds m Q xd → ds.length = 1 := by
  rintro ds m Q xd (⟨_, rfl, _⟩ | ⟨_, rfl, _⟩)
  all_goals rfl
theorem defX_need_width (T : TX P w K mg base a) : DefX P w K mg base "need_width" 3 (preX_need_width a) := by
  refine DefX.of (ps := ["wide"]) T.h_need_width (fun _ _ _ _ _ _ us hl => match us, hl with | [_], _ => rfl) fun f fd F => ok_defX F sc_need_width (lenX_need_width a) fun cdv A outer s H E hr tk hp => ⟨_, _, xx_one (x_if (t_not (t_chain o_le o_le opd_cmp opd_cmp (d_int) (d_v 0) (d_glob T.c_MOST_WIDE)))
    (xx_one (x_raise0 T.e_BadWidth tk))
    (DSs.x ss_nil)), ?_⟩
  rintro ds m Q xd (⟨w, rfl, h1, h2, q⟩ | ⟨w, rfl, hw, q⟩)
  · walk_at "dxs"
    rw [if_pos h1, if_neg (by simpa using h2)]
    exact q
  · walk_at "dxs"
    unfold badWide at hw
    by_cases h1 : 1 ≤ w
    · rw [if_pos h1, if_pos (by simpa [h1] using hw)]
      exact q
    · rw [if_neg h1]
      exact q
abbrev n_many_behind : List Str := ["wide", "deeds", "many", "found", "number", "word", "rank", "good"]
theorem sc_many_behind : FnScope n_many_behind ["wide", "deeds"] (defScope s_many_behind) := ⟨rfl, rfl, rfl, by decide +kernel, rfl, by decide +kernel, by decide +kernel⟩
def preX_many_behind (a : Ad) : PreX := fun ds m Q xd => ∃ (w : Nat) (l : List (Wd × Nat)) (n : Nat) (word : Str) (k : Int) (rest : List D), ds = [.int w, spoilt l word k rest] ∧ w ≤ 6 ∧ l.length ≤ 12 ∧ drawnOk w 0 l = some n ∧ (l.length = 12 ∨ badK w n word k) ∧ ∀ m', Grow m m' → xd a.CD (some ("number", l.length)) m'
theorem lenX_many_behind (a : Ad) : ∀ ds m Q xd, preX_many_behind a ds m Q xd → ds.length = 2 := by
  rintro ds m Q xd ⟨_, _, _, _, _, _, rfl, _⟩
  all_goals rfl
theorem defX_many_behind (T : TX P w K mg base a) : DefX P w K mg base "many_behind" 3 (preX_many_behind a) := by
  refine DefX.of (ps := ["wide", "deeds"]) T.h_many_behind (fun _ _ _ _ _ _ us hl => match us, hl with | [_, _], _ => rfl) fun f fd F => ok_defX F sc_many_behind (lenX_many_behind a) fun cdv A outer s H E hr tk hp => ⟨_, _, xx_cons (DS.x (s_set (i := 2) sc_many_behind.nd (d_int)))
    (xx_cons (DS.x (s_set (i := 3) sc_many_behind.nd (d_lst true (a_nil))))
    (xx_cons (x_for hp (i_enum T.b_enumerate (a_cons (d_v 1) (a_nil))) (g_tup (n := 2) (gs_cons (g_name (i := 4) sc_many_behind.nd) (gs_cons (g_tup (n := 2) (gs_cons (g_name (i := 5) sc_many_behind.nd) (gs_cons (g_name (i := 6) sc_many_behind.nd) (gs_nil)))) (gs_nil))))
    (xx_cons (DS.x (s_set (i := 7) sc_many_behind.nd (d_or (d_and (d_cmp (op_eqAll (u64 hr)) opd_eq (d_v 5) (d_str) (nomark _)) (d_one (d_chain3 o_le o_le o_lt opd_cmp opd_cmp opd_cmp (d_int) (d_v 6) (d_v 2) (d_v 0)))) (d_one (d_and (d_cmp (op_eqAll (u64 hr)) opd_eq (d_v 5) (d_str) (nomark _)) (d_one (d_chain o_le o_lt opd_cmp opd_cmp (d_int) (d_v 6) (d_v 2))))))))
    (xx_cons (x_if (DW.t (w_or (t_not (t_val (d_v 7))) (w_or1 (t_cmp o_ge opd_cmp (d_v 4) (d_glob T.c_MOST_DEEDS) (nomark _)))))
    (xx_one (x_raise1 T.e_BadDeed (hr.mono (by decide)) tk (d_v 4)))
    (DSs.x ss_nil))
    (DSs.x (ss_cons (s_set (i := 2) sc_many_behind.nd (d_add false (d_v 2) (d_ifx (t_cmp (op_eqAll (u64 hr)) opd_eq (d_v 5) (d_str) (nomark _)) (d_int) (d_neg (d_int)))))
    (ss_one (s_expr (d_bm PySem.F.plainAttrs_list PySem.F.slot_list_append PySem.F.type_list_append mt_append md_append tyL' (d_v 3) (a_cons (d_v 2) (a_nil))))))))))
    (DSs.x (ss_fz 3 (ss_one (s_ret (d_v 3))))))), ?_⟩
  rintro ds m Q xd ⟨w, l, n, word, k, rest, rfl, h1, h2, hok, hbad, q⟩
  walk_at "xs"
  refine q_asg (.int (0 : Nat)) (fun Q q => ?_) ?_
  · walk_at "dx"
    exact q
  refine q_new (ds := []) (fun Q q => ?_) fun c hc0 => ?_
  · walk_at "dx"
    exact ⟨Nat.zero_le _, q⟩
  refine q_for (enumD 0 (deedsD l ++ .tuple [.str word, .int k] :: rest)) (fun Q q => ?_) (fun i e m' => i ≤ l.length ∧ ∃ x4 x5 x6 x7 mn cs, e = [some (.int w), some (spoilt l word k rest), some (.int (mn : Nat)), some (.adr c), x4, x5, x6, x7] ∧ m' = ups m c (.lst (nums cs)) ∧ drawnOk w mn (l.drop i) = some n ∧ cs.length = i)
    ⟨Nat.zero_le _, _, _, _, _, 0, [], rfl, rfl, hok, rfl⟩ ?_ ?_
  · unfold spoilt
    walk_at "dx"
    exact q
  · rintro i d hd e m' ⟨hle, x4, x5, x6, x7, mn, cs, rfl, rfl, hd2, hl⟩ nx hnx
    rw [enumD_get] at hd
    obtain ⟨t, ht, rfl⟩ := Option.map_eq_some_iff.mp hd
    by_cases hi : i < l.length
    · rw [List.getElem?_append_left (by rw [deedsD, List.length_map]; exact hi)] at ht
      unfold deedsD at ht
      rw [List.getElem?_map] at ht
      obtain ⟨⟨wd, rk⟩, hc, rfl⟩ := Option.map_eq_some_iff.mp ht
      have hdr : l.drop i = (wd, rk) :: l.drop (i + 1) := by
        rw [← (List.getElem?_eq_some_iff.mp hc).2, List.getElem_cons_drop]
      rw [hdr] at hd2
      unfold deedD
      walk_at "dg"
      obtain ⟨⟨y1, y2⟩, y3⟩ := drawn_step hd2
      refine q_asg (.bl true) (fun Q q => ?_) ?_
      · walk_at "dx"
        cases wd with
        | put =>
          obtain ⟨g1, g2⟩ := y1 rfl
          rw [if_pos ((wt_put _).mpr rfl), if_pos (by omega), if_pos (by omega), if_pos (by omega)]
          exact q
        | take =>
          have g1 := y2 rfl
          rw [if_neg wt_np, if_pos ((wt_take _).mpr rfl), if_pos (by omega), decide_eq_true (by omega)]
          exact q
      refine q_when false (fun Q q => ?_) nofun (fun _ => ?_)
      · walk_at "dx"
        rw [decide_eq_false (by omega)]
        exact q
      refine q_asg (.int (goesN mn (wd, rk) : Nat)) (fun Q q => ?_) ?_
      · walk_at "dx"
        cases wd with
        | put =>
          rw [if_pos ((wt_put _).mpr rfl)]
          exact q
        | take =>
          have g1 := y2 rfl
          rw [if_neg wt_np, show ((mn : Nat) : Int) + -1 = ((mn - 1 : Nat) : Int) by omega]
          exact q
      refine s_dropM (m1 := ups m c (.lst (nums (cs ++ [goesN mn (wd, rk)])))) (fun Q q => ?_) ?_
      · walk_at "dx"
        rw [nums_len, nums_snoc]
        exact ⟨small_line (by omega), q _⟩
      · exact hnx _ _ ⟨by omega, _, _, _, _, _, _, rfl, rfl, y3, by rw [List.length_append, hl]; rfl⟩
    · have hie : i = l.length := by omega
      subst hie
      rw [List.getElem?_append_right (by rw [deedsD, List.length_map]; exact Nat.le_refl _), show l.length - (deedsD l).length = 0 by rw [deedsD, List.length_map]; omega] at ht
      cases ht
      rw [List.drop_length] at hd2
      cases hd2
      walk_at "dg"
      refine q_asg (.bl (decide ((word = Str.ofString "put" ∧ 0 ≤ k ∧ k ≤ n ∧ n < w) ∨ (word = Str.ofString "take" ∧ 0 ≤ k ∧ k < n)))) (fun Q q => ?_) ?_
      · walk_at "dx"
        by_cases hp : word = Str.ofString "put"
        · rw [if_pos hp]
          subst hp
          have hpt : ¬ (Str.ofString "put" = Str.ofString "take") := by decide +kernel
          by_cases h0 : 0 ≤ k
          · by_cases hk : k ≤ n
            · by_cases hw : n < w
              · simpa [hpt, h0, hk, hw] using q
              · simpa [hpt, h0, hk, hw] using q
            · simpa [hpt, h0, hk] using q
          · simpa [hpt, h0] using q
        · rw [if_neg hp]
          by_cases ht : word = Str.ofString "take"
          · have htp : ¬ (Str.ofString "take" = Str.ofString "put") := by decide +kernel
            by_cases h0 : 0 ≤ k
            · simpa [htp, ht, h0] using q
            · simpa [htp, ht, h0] using q
          · simpa [hp, ht] using q
      refine q_when true (fun Q q => ?_) (fun _ => ?_) nofun
      · walk_at "dx"
        split
        · exact q
        · rename_i hg
          rcases hbad with h12 | ⟨b1, b2⟩
          · rw [decide_eq_true (by omega)]
            exact q
          · exact (hg fun z => z.elim b2 b1).elim
      · walk_at "dx"
        rw [Nat.zero_add]
        exact q _ (Grow.new hc0)
  · rintro env m' ⟨hle, _⟩
    rw [enumD_length, List.length_append, deedsD, List.length_map, List.length_cons] at hle
    omega
abbrev n_fewest : List Str := ["wide", "deeds", "counts", "level", "number", "word", "rank", "behind", "places", "total", "told", "others", "other", "many", "key", "row"]
theorem sc_fewest : FnScope n_fewest ["wide", "deeds"] (defScope s_fewest) := ⟨rfl, rfl, rfl, by decide +kernel, rfl, by decide +kernel, by decide +kernel⟩
def preX_fewest (a : Ad) : PreX := fun ds m Q xd => (∃ (w : Int) (x : D), ds = [.int w, x] ∧ badWide w ∧ xd a.CW none m) ∨ ∃ (w : Nat) (l : List (Wd × Nat)) (n : Nat) (word : Str) (k : Int) (rest : List D), ds = [.int w, spoilt l word k rest] ∧ 1 ≤ w ∧ w ≤ 6 ∧ l.length ≤ 12 ∧ drawnOk w 0 l = some n ∧ (l.length = 12 ∨ badK w n word k) ∧ ∀ m', Grow m m' → xd a.CD (some ("number", l.length)) m'
theorem lenX_fewest (a : Ad) : ∀ ds m Q xd, preX_fewest a ds m Q xd → ds.length = 2 := by
  rintro ds m Q xd (⟨_, _, rfl, _⟩ | ⟨_, _, _, _, _, _, rfl, _⟩)
  all_goals rfl
theorem defX_fewest (T : TX P w K mg base a) : DefX P w K mg base "fewest" 4 (preX_fewest a) := by
  refine DefX.of (ps := ["wide", "deeds"]) T.h_fewest (fun _ _ _ _ _ _ us hl => match us, hl with | [_, _], _ => rfl) fun f fd F => ok_defX F sc_fewest (lenX_fewest a) fun cdv A outer s H E hr tk hp => ⟨_, _, xx_cons (x_expr (x_call (defX_need_width T) (hr.mono (by decide)) tk (a_cons (d_v 0) (a_nil))))
    (xx_cons (x_set (i := 2) sc_fewest.nd (x_call (defX_many_behind T) (hr.mono (by decide)) tk (a_cons (d_v 0) (a_cons (d_v 1) (a_nil)))))
    (DSs.x ss_never)), ?_⟩
  rintro ds m Q xd (⟨w, x, rfl, hw, q⟩ | ⟨w, l, n, word, k, rest, rfl, h1, h2, h3, h4, h5, q⟩)
  · walk_at "dxs"
    exact .inr ⟨_, rfl, hw, q⟩
  · walk_at "dxs"
    exact .inl ⟨w, rfl, by omega, by omega, w, l, n, word, k, rest, rfl, h2, h3, h4, h5, q⟩
def preL_1 (a : Ad) : PreX := fun ds m Q xd => ∃ (w : Int), ds = [.int w] ∧ badWide w ∧ ∀ m', Grow m m' → xd a.CW (none) m'
theorem lok_1 (T : TX P w K mg base a) : LamOk P w K mg base 20 lam_1 ["_law_wide"] (spX K (preL_1 a)) := by
  refine (ok_lam (k := 4) ls_1 (lamBd_nil rfl fun _ _ _ _ _ => rfl) fun A outer s H E cl f c hr tk => ⟨_, _, x_call (defX_fewest T) (hr.mono (by decide)) tk (a_cons (d_v 0) (a_cons (d_lst false (a_cons (d_tup (a_cons (d_str) (a_cons (d_int) (a_nil)))) (a_nil))) (a_nil))), ?_⟩).mono (by decide)
  rintro ds m Q xd ⟨w, rfl, hw, q⟩
  walk_at "dx"
  refine ⟨by decide, by decide, ?_⟩
  exact .inl ⟨w, _, rfl, hw, q _ (Grow.refl _)⟩
def preL_2 (a : Ad) : PreX := fun ds m Q xd => ∃ (r : Rl) (s : Str) (k : Nat) (y : D), ds = [.str s, y, .str (rt r)] ∧ BadAt s k ∧ s.length ≤ 100 ∧ ∀ m', Grow m m' → xd a.CP (some ("at", (k : Int))) m'
theorem lok_2 (T : TX P w K mg base a) : LamOk P w K mg base 20 lam_2 ["_law_bad", "_law_deed", "_law_rule_here"] (spX K (preL_2 a)) := by
  refine (ok_lam (k := 4) ls_2 (lamBd_nil rfl fun _ _ _ _ _ => rfl) fun A outer s H E cl f c hr tk => ⟨_, _, x_call (defX_done T) (hr.mono (by decide)) tk (a_cons (d_v 2) (a_cons (d_v 0) (a_cons (d_v 1) (a_nil)))), ?_⟩).mono (by decide)
  rintro ds m Q xd ⟨r, s, k, y, rfl, hs, hl, q⟩
  walk_at "dx"
  exact .inr (.inl ⟨r, s, k, y, rfl, hs, hl, q _ (Grow.refl _)⟩)
def preL_3 (a : Ad) : PreX := fun ds m Q xd => ∃ (r : Rl) (p : List Bool) (word : Str) (k : Int), ds = [.tuple [.str word, .int k], .str (ps p), .str (rt r)] ∧ p.length ≤ 6 ∧ p ≠ [] ∧ badK p.length (placesOf p).length word k ∧ ∀ m', Grow m m' → xd a.CD (some ("number", 0)) m'
theorem lok_3 (T : TX P w K mg base a) : LamOk P w K mg base 20 lam_3 ["_law_deed", "_law_pattern_here", "_law_rule_here"] (spX K (preL_3 a)) := by
  refine (ok_lam (k := 4) ls_3 (lamBd_nil rfl fun _ _ _ _ _ => rfl) fun A outer s H E cl f c hr tk => ⟨_, _, x_call (defX_done T) (hr.mono (by decide)) tk (a_cons (d_v 2) (a_cons (d_v 1) (a_cons (d_v 0) (a_nil)))), ?_⟩).mono (by decide)
  rintro ds m Q xd ⟨r, p, word, k, rfl, h1, h2, h3, q⟩
  walk_at "dx"
  exact .inr (.inr ⟨r, p, word, k, rfl, h1, h2, badK_step h3, q _ (Grow.refl _)⟩)
def preL_4 (a : Ad) : PreX := fun ds m Q xd => ∃ (w : Nat) (l : List (Wd × Nat)) (n : Nat) (word : Str) (k : Int) (rest : List D), ds = [.int w, spoilt l word k rest] ∧ 1 ≤ w ∧ w ≤ 6 ∧ l.length ≤ 12 ∧ drawnOk w 0 l = some n ∧ (l.length = 12 ∨ badK w n word k) ∧ ∀ m', Grow m m' → xd a.CD (some ("number", (l.length : Int))) m'
theorem lok_4 (T : TX P w K mg base a) : LamOk P w K mg base 20 lam_4 ["_law_good", "_law_long"] (spX K (preL_4 a)) := by
  refine (ok_lam (k := 4) ls_4 (lamBd_nil rfl fun _ _ _ _ _ => rfl) fun A outer s H E cl f c hr tk => ⟨_, _, x_call (defX_fewest T) (hr.mono (by decide)) tk (a_cons (d_v 0) (a_cons (d_v 1) (a_nil))), ?_⟩).mono (by decide)
  rintro ds m Q xd ⟨w, l, n, word, k, rest, rfl, h1, h2, h3, h4, h5, q⟩
  walk_at "dx"
  exact .inr ⟨w, l, n, word, k, rest, rfl, h1, h2, h3, h4, h5, q⟩
abbrev n_shows : List Str := ["rule", "wide", "moves", "deeds", "told", "coins", "pattern", "deed", "many", "other", "sign"]
theorem sc_shows : FnScope n_shows ["rule", "wide", "moves", "deeds", "told"] (defScope s_shows) := ⟨rfl, rfl, rfl, by decide +kernel, rfl, by decide +kernel, by decide +kernel⟩
def preX_shows (a : Ad) : PreX := fun ds m Q xd => (∃ (s : Str) (x y z u : D), ds = [.str s, x, y, z, u] ∧ noRule s ∧ xd a.CR none m) ∨ (∃ (r : Rl) (w : Int) (y z u : D), ds = [.str (rt r), .int w, y, z, u] ∧ badWide w ∧ xd a.CW none m) ∨ ∃ (r : Rl) (w mv dd : Int) (u : D), ds = [.str (rt r), .int w, .int mv, .int dd, u] ∧ 1 ≤ w ∧ w ≤ 6 ∧ (mv < 0 ∨ dd < 1) ∧ xd a.CN none m
theorem lenX_shows (a : Ad) : ∀ ds m Q xd, preX_shows a ds m Q xd → ds.length = 5 := by
  rintro ds m Q xd (⟨_, _, _, _, _, rfl, _⟩ | ⟨_, _, _, _, _, rfl, _⟩ | ⟨_, _, _, _, _, rfl, _⟩)
  all_goals rfl
theorem defX_shows (T : TX P w K mg base a) : DefX P w K mg base "shows" 4 (preX_shows a) := by
  refine DefX.of (ps := ["rule", "wide", "moves", "deeds", "told"]) T.h_shows (fun _ _ _ _ _ _ us hl => match us, hl with | [_, _, _, _, _], _ => rfl) fun f fd F => ok_defX F sc_shows (lenX_shows a) fun cdv A outer s H E hr tk hp => ⟨_, _, xx_cons (x_expr (x_call (defX_need_rule T) (hr.mono (by decide)) tk (a_cons (d_v 0) (a_nil))))
    (xx_cons (x_expr (x_call (defX_need_width T) (hr.mono (by decide)) tk (a_cons (d_v 1) (a_nil))))
    (xx_cons (x_if (DW.t (w_or (t_cmp o_lt opd_cmp (d_v 2) (d_int) (nomark _)) (w_or1 (t_cmp o_lt opd_cmp (d_v 3) (d_int) (nomark _)))))
    (xx_one (x_raise0 T.e_BadNumber tk))
    (DSs.x ss_nil))
    (DSs.x ss_never))), ?_⟩
  rintro ds m Q xd (⟨s, x, y, z, u, rfl, hs, q⟩ | ⟨r, w, y, z, u, rfl, hw, q⟩ | ⟨r, w, mv, dd, u, rfl, h1, h2, h3, q⟩)
  · walk_at "dxs"
    exact .inr ⟨_, rfl, hs, q⟩
  · walk_at "dxs"
    refine .inl ⟨r, rfl, .inr ⟨_, rfl, hw, q⟩⟩
  · walk_at "dxs"
    refine .inl ⟨r, rfl, .inl ⟨w, rfl, h1, h2, ?_⟩⟩
    show if mv < 0 then _ else _
    by_cases h4 : mv < 0
    · rw [if_pos h4]
      exact q
    · rw [if_neg h4, if_pos (by omega)]
      exact q
def preL_5 (a : Ad) : PreX := fun ds m Q xd => ∃ (r : Rl) (w f : Nat), ds = [.int f, .int w, .str (rt r)] ∧ 1 ≤ w ∧ w ≤ 6 ∧ ∀ m', Grow m m' → xd a.CN (none) m'
theorem lok_5 (T : TX P w K mg base a) : LamOk P w K mg base 20 lam_5 ["_law_far", "_law_good", "_law_rule_here"] (spX K (preL_5 a)) := by
  refine (ok_lam (k := 4) ls_5 (lamBd_nil rfl fun _ _ _ _ _ => rfl) fun A outer s H E cl f c hr tk => ⟨_, _, x_call (defX_shows T) (hr.mono (by decide)) tk (a_cons (d_v 2) (a_cons (d_v 1) (a_cons (d_sub (d_neg (d_int)) (d_v 0)) (a_cons (d_int) (a_cons (d_lst false (a_nil)) (a_nil)))))), ?_⟩).mono (by decide)
  rintro ds m Q xd ⟨r, w, f, rfl, h1, h2, q⟩
  walk_at "dx"
  refine ⟨by decide, ?_⟩
  exact .inr (.inr ⟨r, w, _, _, _, rfl, by omega, by omega, by omega, q _ (Grow.refl _)⟩)
def preL_6 (a : Ad) : PreX := fun ds m Q xd => ∃ (r : Rl) (w f : Nat), ds = [.int f, .int w, .str (rt r)] ∧ 1 ≤ w ∧ w ≤ 6 ∧ ∀ m', Grow m m' → xd a.CN (none) m'
theorem lb_6 : LamBd lam_6 ["_law_far", "_law_good", "_law_rule_here"] := fun cl pm cv ct dV doc us s q => by
  rcases q with ⟨h, _⟩ | ⟨t, rfl, h1, h2, _⟩
  · exact absurd h (by decide +kernel)
  · have e : lam_6.dv = [0] := by decide +kernel
    rw [e] at h2
    obtain ⟨u, rfl⟩ : ∃ u, us = [u] := by
      cases h2 with
      | cons r t => cases t; exact ⟨_, rfl⟩
    refine ⟨[("_law_a", u)], BindsTo.of_defaults rfl h1 rfl rfl rfl, fun y hy => ?_⟩
    rcases List.mem_cons.mp hy with rfl | hy
    · show lam_6.scope.names.lookup ("_law_a" : Str) = some NameKind.local
      decide +kernel
    · cases hy
theorem lok_6 (T : TX P w K mg base a) : LamOk P w K mg base 20 lam_6 ["_law_far", "_law_good", "_law_rule_here"] (spX K (preL_6 a)) := by
  refine (ok_lam (k := 4) ls_6 lb_6 fun A outer s H E cl f c hr tk => ⟨_, _, x_call (defX_shows T) (hr.mono (by decide)) tk (a_cons (d_v 2) (a_cons (d_v 1) (a_cons (d_int) (a_cons (d_sub (d_int) (d_v 0)) (a_cons (d_lst false (a_nil)) (a_nil)))))), ?_⟩).mono (by decide)
  rintro ds m Q xd ⟨r, w, f, rfl, h1, h2, q⟩
  walk_at "dx"
  refine ⟨by decide, ?_⟩
  exact .inr (.inr ⟨r, w, _, _, _, rfl, by omega, by omega, by omega, q _ (Grow.refl _)⟩)
def pre__law_dice : Pre := fun ds m Q => ∃ (ns : List Int), ds = [.seq (ns.map D.int), .int 0] ∧ ns.length ≤ 63 ∧ ∀ a, m a = none → Q (.adr a) (ups m a (.any Dice))
theorem len__law_dice : ∀ ds m Q, pre__law_dice ds m Q → ds.length = 2 := by
  rintro ds m Q ⟨w, rfl, _⟩
  rfl
abbrev n__law_dice : List Str := ["_law_script", "_law_k", "_law_found", "_law_cell"]
theorem sc__law_dice : FnScope n__law_dice ["_law_script", "_law_k"] (defScope s__law_dice) := ⟨rfl, rfl, rfl, by decide +kernel, rfl, by decide +kernel, by decide +kernel⟩
def pre'_law_dice : Pre := fun ds m Q => ∃ (ns : List Int), ds = [.seq (ns.map D.int), .int 0] ∧ ns.length ≤ 63 ∧ ∀ a xs, m a = none → Dice xs → Q (.adr a) (ups m a (.lst xs))
theorem len'_law_dice : ∀ ds m Q, pre'_law_dice ds m Q → ds.length = 2 := by
  rintro ds m Q ⟨w, rfl, _⟩
  rfl
theorem def'_law_dice (T : TX P w K mg base a) : Def P w K mg base "_law_dice" 1 pre'_law_dice := by
  refine Def.of (ps := ["_law_script", "_law_k"]) T.h__law_dice (fun _ _ _ _ _ _ us hl => match us, hl with | [_, _], _ => rfl) fun f fd F => ok_def F sc__law_dice len'_law_dice fun cdv A outer s H E hr => ⟨_, _, ss_cons (s_set (i := 2) sc__law_dice.nd (d_v 1))
    (ss_cons (s_for (i_list (d_v 0)) (g_name (i := 3) sc__law_dice.nd)
    (ss_one (s_set (i := 2) sc__law_dice.nd (d_mod (d_add false (d_mul false (d_v 2) (d_int)) (d_callB call_abs cd_abs T.b_abs (by decide +kernel) (a_cons (d_v 3) (a_nil)))) (d_int)))))
    (ss_one (s_ret (d_add true (d_lst false (a_cons (d_v 2) (a_cons (d_int) (a_nil)))) (d_lc false sc__law_dice.nd (own := [("_law_cell", 3)]) (i_list (d_v 0)) (blkOk_by (own := [("_law_cell", 3)]) (N := n__law_dice) (sc := defScope s__law_dice) (by decide +kernel)) (fun _ _ _ _ _ => g_name (i := 3) sc__law_dice.nd) (fun _ _ _ _ _ => ts_one (t_cmp o_ge opd_cmp (d_v 3) (d_pow (d_int) (d_int)) (nomark _))) (fun _ _ _ _ _ => d_v 3) (keeps_name (by decide))))))), ?_⟩
  rintro ds m Q ⟨ns, rfl, h1, q⟩
  refine q_asg (.int 0) (fun Q q => ?_) ?_
  · walk_at "dx"
    exact q
  refine q_for (ns.map D.int) (fun Q q => ?_) (fun i env m' => m' = m ∧ ∃ (f : Int) (x : Option D), 0 ≤ f ∧ f < 2147483647 ∧ env = [some (.seq (ns.map D.int)), some (.int 0), some (.int f), x]) ⟨rfl, 0, none, by decide, by decide, rfl⟩ ?_ ?_
  · walk_at "dx"
    exact q
  · rintro i d hd env m' ⟨rfl, f, x, h3, h4, rfl⟩ nx hn
    rw [List.getElem?_map] at hd
    obtain ⟨c, hc, rfl⟩ := Option.map_eq_some_iff.mp hd
    walk_at "dg"
    refine s_asg' (.int ((f * 31 + (if c < 0 then -c else c)) % 2147483647)) (fun Q q => ?_) ?_
    · walk_at "dx"
      exact ⟨.inl ⟨by omega, by omega⟩, by decide, q⟩
    · exact hn _ _ ⟨rfl, _, _, Int.emod_nonneg _ (by decide), Int.emod_lt_of_pos _ (by decide), rfl⟩
  · rintro env m' ⟨rfl, f, x, h3, h4, rfl⟩
    have hfl : (ns.filter fun c => decide (10 ^ 18 ≤ c)).length ≤ ns.length := List.length_filter_le _ _
    walk_at "dx"
    refine ⟨by decide, lc_ints (fun c => decide (10 ^ 18 ≤ c)) (fun c hc Q' q' => ?_) (small_line (by omega)) ?_⟩
    · walk_at "dx"
      exact ⟨⟨by decide, by decide, by decide⟩, q'⟩
    · rw [List.length_map]
      refine ⟨Nat.le_trans (by omega : _ ≤ 100) (by decide), fun a ha => q a _ ha ⟨f, 0, _, rfl, h3, h4, by decide, fun x hx => ?_, by omega⟩⟩
      have := (List.mem_filter.mp hx).2
      simp only [decide_eq_true_eq] at this
      omega
theorem def__law_dice (T : TX P w K mg base a) : Def P w K mg base "_law_dice" 1 pre__law_dice := by
  refine (def'_law_dice T).weak (spD_newAny (A := Dice) ?_)
  rintro ds m Q ⟨ns, rfl, h1, q⟩
  exact ⟨ns, rfl, h1, fun a xs ha hd => ⟨a, xs, ha, rfl, hd, rfl, q a ha⟩⟩
def pre__law_off : Pre := fun ds m Q => ∃ (p : Addr) (n : Nat), ds = [.adr p, .int n] ∧ m p = some (.any Dice) ∧ 0 < n ∧ n < 1073741824 ∧ ∀ r : Nat, r < n → Q (.int r) m
theorem len__law_off : ∀ ds m Q, pre__law_off ds m Q → ds.length = 2 := by
  rintro ds m Q ⟨w, n, rfl, _⟩
  rfl
abbrev n__law_off : List Str := ["_law_d", "_law_most", "_law_found"]
theorem sc__law_off : FnScope n__law_off ["_law_d", "_law_most"] (defScope s__law_off) := ⟨rfl, rfl, rfl, by decide +kernel, rfl, by decide +kernel, by decide +kernel⟩
def pre'_law_off : Pre := fun ds m Q => ∃ (p : Addr) (n : Nat) (xs : List D), ds = [.adr p, .int n] ∧ m p = some (.lst xs) ∧ Dice xs ∧ 0 < n ∧ n < 1073741824 ∧ ∀ (r : Nat) xs', r < n → Dice xs' → Q (.int r) (ups m p (.lst xs'))
theorem len'_law_off : ∀ ds m Q, pre'_law_off ds m Q → ds.length = 2 := by
  rintro ds m Q ⟨w, n, xs, rfl, _⟩
  rfl
theorem def'_law_off (T : TX P w K mg base a) : Def P w K mg base "_law_off" 1 pre'_law_off := by
  refine Def.of (ps := ["_law_d", "_law_most"]) T.h__law_off (fun _ _ _ _ _ _ us hl => match us, hl with | [_, _], _ => rfl) fun f fd F => ok_def F sc__law_off len'_law_off fun cdv A outer s H E hr => ⟨_, _, ss_cons (s_if (DW.t (w_and (t_cmp (op_eqAll (u64 hr)) opd_eq (d_ix (d_v 0) (d_int)) (d_int) (nomark _)) (w_and1 (t_cmp o_gt opd_cmp (d_callB cr_lenAll cd_len T.b_len (by decide +kernel) (a_cons (d_v 0) (a_nil))) (d_int) (nomark _)))))
    (ss_one (s_setL (d_bm PySem.F.plainAttrs_list PySem.F.slot_list_pop PySem.F.type_list_pop mt_popAt md_popAt tyL' (d_v 0) (a_cons (d_int) (a_nil))) (d_v 0) (d_int)))
    (ss_nil))
    (ss_cons (s_if (t_cmp o_gt opd_cmp (d_ix (d_v 0) (d_int)) (d_int) (nomark _))
    (ss_cons (s_set (i := 2) sc__law_off.nd (d_mod (d_ix (d_v 0) (d_int)) (d_v 1)))
    (ss_cons (s_setL (d_fdiv (d_ix (d_v 0) (d_int)) (d_v 1)) (d_v 0) (d_int))
    (ss_one (s_ret (d_v 2)))))
    (ss_nil))
    (ss_cons (s_setL (d_mod (d_add false (d_mul false (d_ix (d_v 0) (d_int)) (d_int)) (d_int)) (d_int)) (d_v 0) (d_int))
    (ss_one (s_ret (d_mod (d_fdiv (d_ix (d_v 0) (d_int)) (d_int)) (d_v 1)))))), ?_⟩
  rintro ds m Q ⟨p, n, xs, rfl, hm, ⟨a, b, l, rfl, ha1, ha2, hb, hl, hlen⟩, hn0, hn1, q⟩
  have em : m = ups m p (.lst (.int a :: .int b :: l.map D.int)) := (ups_eq hm).symm
  refine q_ifM (fun e m1 => e = [some (.adr p), some (.int n), none] ∧ ∃ (b : Int) (l : List Int), m1 = ups m p (.lst (.int a :: .int b :: l.map D.int)) ∧ 0 ≤ b ∧ (∀ x ∈ l, 0 ≤ x) ∧ l.length ≤ 63)
    (decide (b = 0) && decide (2 < l.length + 2)) (fun Q q => ?_) (fun h N hN => ?_) (fun h N hN => ?_) ?_
  · rw [em] at q ⊢
    walk_at "dx"
    by_cases hb0 : b = 0
    · rw [if_pos hb0]
      rw [decide_eq_true hb0] at q
      simp only [List.length_map]
      refine (congrArg (fun k => Q k _) (decide_eq_decide.mpr ?_)).mp q
      omega
    · rw [if_neg hb0]
      rw [decide_eq_false hb0] at q
      exact q
  · simp only [Bool.and_eq_true, decide_eq_true_eq] at h
    obtain ⟨hb0, hl2⟩ := h
    cases l with
    | nil => simp at hl2
    | cons c l =>
      rw [em]
      walk_at "dx"
      refine ⟨by decide, by decide, 2, seqIx_nat (j := 2) (by omega), _, rfl, 1, ix1, ?_⟩
      refine hN _ _ ⟨rfl, c, l, rfl, hl c List.mem_cons_self, fun x hx => hl x (List.mem_cons_of_mem _ hx), ?_⟩
      rw [List.length_cons] at hlen
      omega
  · walk_at "dx"
    exact hN _ _ ⟨rfl, b, l, em, hb, hl, hlen⟩
  rintro env m1 ⟨rfl, b, l, rfl, hb, hl, hlen⟩
  refine q_when (decide (0 < b)) (fun Q q => ?_) (fun h => ?_) (fun h => ?_)
  · walk_at "dx"
    exact q
  · refine q_asg (.int (b % n)) (fun Q q => ?_) ?_
    · walk_at "dx"
      exact ⟨by omega, q⟩
    · unfold dSeq
      walk_at "dx"
      refine ⟨⟨by omega, by omega⟩, ?_⟩
      have h1 := Int.emod_nonneg b (show (n : Int) ≠ 0 by omega)
      have h2 := Int.emod_lt_of_pos b (show (0 : Int) < n by omega)
      obtain ⟨r, hr⟩ := Int.eq_ofNat_of_zero_le h1
      rw [hr]
      exact q r _ (by omega) ⟨a, b / n, l, rfl, ha1, ha2, Int.ediv_nonneg hb (by omega), hl, hlen⟩
  · unfold dSeq
    walk_at "dx"
    refine ⟨.inl ⟨by omega, by omega⟩, by decide, ⟨by decide, by decide⟩, by omega, ?_⟩
    have h0 : 0 ≤ (a * 48271 + 11) % 2147483647 := Int.emod_nonneg _ (by decide)
    have h1 : 0 ≤ (a * 48271 + 11) % 2147483647 / 64 % n := Int.emod_nonneg _ (by omega)
    have h2 := Int.emod_lt_of_pos ((a * 48271 + 11) % 2147483647 / 64) (show (0 : Int) < n by omega)
    obtain ⟨r, hr⟩ := Int.eq_ofNat_of_zero_le h1
    rw [hr]
    exact q r _ (by omega) ⟨_, b, l, rfl, h0, Int.emod_lt_of_pos _ (by decide), hb, hl, hlen⟩
theorem def__law_off (T : TX P w K mg base a) : Def P w K mg base "_law_off" 1 pre__law_off := by
  refine (def'_law_off T).weak (spD_any (A := Dice) ?_)
  rintro ds m Q ⟨p, n, rfl, h1, h2, h3, q⟩
  refine ⟨p, h1, fun xs hx => ⟨p, n, xs, rfl, ups_same, hx, h2, h3, fun r xs' hr hx' => ⟨xs', hx', ups_ups, q r hr⟩⟩⟩
def pre__law_rule : Pre := fun ds m Q => ∃ (p : Addr), ds = [.adr p] ∧ m p = some (.any Dice) ∧ ∀ r : Rl, Q (.str (rt r)) m
theorem len__law_rule : ∀ ds m Q, pre__law_rule ds m Q → ds.length = 1 := by
  rintro ds m Q ⟨w, rfl, _⟩
  rfl
abbrev n__law_rule : List Str := ["_law_d"]
theorem sc__law_rule : FnScope n__law_rule ["_law_d"] (defScope s__law_rule) := ⟨rfl, rfl, rfl, by decide +kernel, rfl, by decide +kernel, by decide +kernel⟩
theorem def__law_rule (T : TX P w K mg base a) : Def P w K mg base "_law_rule" 2 pre__law_rule := by
  refine Def.of (ps := ["_law_d"]) T.h__law_rule (fun _ _ _ _ _ _ us hl => match us, hl with | [_], _ => rfl) fun f fd F => ok_def F sc__law_rule len__law_rule fun cdv A outer s H E hr => ⟨_, _, ss_one (s_ret (d_ix (d_lst false (a_cons (d_str) (a_cons (d_str) (a_cons (d_str) (a_nil))))) (d_call (def__law_off T) (hr.mono (by decide)) (a_cons (d_v 0) (a_cons (d_int) (a_nil)))))), ?_⟩
  rintro ds m Q ⟨p, rfl, hm, q⟩
  walk_at "dxs"
  refine ⟨by decide, p, 3, rfl, hm, by decide, by decide, fun r hr => ?_⟩
  obtain ⟨x, hx⟩ := rule_ix r hr
  exact ⟨_, rfl, _, atI_nat hx, q x⟩
def pre__law_bad_pattern : Pre := fun ds m Q => ∃ (d : Addr) (p : List Bool), ds = [.adr d, .str (ps p)] ∧ m d = some (.any Dice) ∧ p.length ≤ 6 ∧ ∀ (s : Str) (k : Nat), BadAt s k → s.length ≤ 100 → Q (.tuple [.str s, .int k]) m
theorem len__law_bad_pattern : ∀ ds m Q, pre__law_bad_pattern ds m Q → ds.length = 2 := by
  rintro ds m Q ⟨_, _, rfl, _⟩
  rfl
abbrev n__law_bad_pattern : List Str := ["_law_d", "_law_pattern_here", "_law_at"]
theorem sc__law_bad_pattern : FnScope n__law_bad_pattern ["_law_d", "_law_pattern_here"] (defScope s__law_bad_pattern) := ⟨rfl, rfl, rfl, by decide +kernel, rfl, by decide +kernel, by decide +kernel⟩
theorem def__law_bad_pattern (T : TX P w K mg base a) : Def P w K mg base "_law_bad_pattern" 2 pre__law_bad_pattern := by
  refine Def.of (ps := ["_law_d", "_law_pattern_here"]) T.h__law_bad_pattern (fun _ _ _ _ _ _ us hl => match us, hl with | [_, _], _ => rfl) fun f fd F => ok_def F sc__law_bad_pattern len__law_bad_pattern fun cdv A outer s H E hr => ⟨_, _, ss_cons (s_set (i := 2) sc__law_bad_pattern.nd (d_call (def__law_off T) (hr.mono (by decide)) (a_cons (d_v 0) (a_cons (d_add false (d_callB cr_lenAll cd_len T.b_len (by decide +kernel) (a_cons (d_v 1) (a_nil))) (d_int)) (a_nil)))))
    (ss_cons (s_if (t_cmp (op_eqAll (u64 hr)) opd_eq (d_call (def__law_off T) (hr.mono (by decide)) (a_cons (d_v 0) (a_cons (d_int) (a_nil)))) (d_int) (nomark _))
    (ss_one (s_ret (d_ix (d_lst false (a_cons (d_tup (a_cons (d_str) (a_cons (d_int) (a_nil)))) (a_cons (d_tup (a_cons (d_add false (d_v 1) (d_str)) (a_cons (d_int) (a_nil)))) (a_nil)))) (d_call (def__law_off T) (hr.mono (by decide)) (a_cons (d_v 0) (a_cons (d_int) (a_nil)))))))
    (ss_nil))
    (ss_one (s_ret (d_tup (a_cons (d_add false (d_add false (d_slice false (d_v 1) (o_none) (o_some (d_v 2))) (d_ix (d_str) (d_call (def__law_off T) (hr.mono (by decide)) (a_cons (d_v 0) (a_cons (d_int) (a_nil)))))) (d_slice false (d_v 1) (o_some (d_v 2)) (o_none))) (a_cons (d_v 2) (a_nil))))))), ?_⟩
  rintro ds m Q ⟨d, p, rfl, hd, h6, q⟩
  walk_at "dxs"
  have hl : (ps p).length = p.length := ps_len p
  have sl : (ps p).length ≤ sizeLine := by rw [hl]; exact Nat.le_trans h6 (by decide)
  refine ⟨sl, d, (ps p).length + 1, rfl, hd, by omega, by rw [hl]; omega, fun k hk => ?_⟩
  refine ⟨d, 3, rfl, hd, by decide, by decide, fun z hz => ?_⟩
  simp only
  split
  · refine ⟨by decide, ?_, by decide, by decide, d, 2, rfl, hd, by decide, by decide, fun i hi => ⟨_, rfl, _, atI_nat (List.getElem?_eq_getElem (by simpa using hi)), ?_⟩⟩
    · rw [hl]
      exact Nat.le_trans (Nat.add_le_add h6 (Nat.le_refl _)) (by decide +kernel)
    · have : i = 0 ∨ i = 1 := by omega
      rcases this with rfl | rfl
      · exact q _ 0 (.inl ⟨rfl, rfl⟩) (by decide +kernel)
      · refine q _ 6 (bad_long h6) ?_
        rw [app_len, hl, show (Str.ofString "0000000").length = 7 by decide +kernel]
        omega
  · refine ⟨_, rfl, sl, d, 4, rfl, hd, by decide, by decide, fun i hi => ?_⟩
    obtain ⟨c, hc, c1, c2⟩ := wrong_sign hi
    have hkp : k ≤ p.length := by omega
    obtain ⟨l1, l2⟩ := cut_len1 hkp h6
    have l3 : ({ cps := #[c] } : Str).length = 1 := rfl
    refine ⟨_, rfl, by decide, c, atI_nat hc, Nat.le_trans (Nat.add_le_add l1 (Nat.le_of_eq l3)) (by decide), _, rfl, sl, ?_, by decide, q _ _ (bad_mid hkp h6 c1 c2) ?_⟩
    · rw [app_len]
      exact Nat.le_trans (Nat.add_le_add (Nat.add_le_add l1 (Nat.le_of_eq l3)) l2) (by decide)
    · rw [app_len, app_len]
      omega
def pre__law_bad_deed : Pre := fun ds m Q => ∃ (d : Addr) (p : List Bool), ds = [.adr d, .str (ps p)] ∧ m d = some (.any Dice) ∧ p.length ≤ 6 ∧ ∀ (word : Str) (k : Int), badK p.length (placesOf p).length word k → Q (.tuple [.str word, .int k]) m
theorem len__law_bad_deed : ∀ ds m Q, pre__law_bad_deed ds m Q → ds.length = 2 := by
  rintro ds m Q ⟨_, _, rfl, _⟩
  rfl
abbrev n__law_bad_deed : List Str := ["_law_d", "_law_pattern_here", "_law_many", "_law_far", "_law_some"]
theorem sc__law_bad_deed : FnScope n__law_bad_deed ["_law_d", "_law_pattern_here"] (defScope s__law_bad_deed) := ⟨rfl, rfl, rfl, by decide +kernel, rfl, by decide +kernel, by decide +kernel⟩
theorem def__law_bad_deed (T : TX P w K mg base a) : Def P w K mg base "_law_bad_deed" 2 pre__law_bad_deed := by
  refine Def.of (ps := ["_law_d", "_law_pattern_here"]) T.h__law_bad_deed (fun _ _ _ _ _ _ us hl => match us, hl with | [_, _], _ => rfl) fun f fd F => ok_def F sc__law_bad_deed len__law_bad_deed fun cdv A outer s H E hr => ⟨_, _, ss_cons (s_set (i := 2) sc__law_bad_deed.nd (d_bm PySem.F.plainAttrs_str PySem.F.slot_str_count PySem.F.type_str_count mt_count md_count tyS' (d_v 1) (a_cons (d_str) (a_nil))))
    (ss_cons (s_set (i := 3) sc__law_bad_deed.nd (d_add false (d_add false (d_v 2) (d_int)) (d_call (def__law_off T) (hr.mono (by decide)) (a_cons (d_v 0) (a_cons (d_pow (d_int) (d_int)) (a_nil))))))
    (ss_cons (s_set (i := 4) sc__law_bad_deed.nd (d_lst false (a_cons (d_tup (a_cons (d_str) (a_cons (d_v 2) (a_nil)))) (a_cons (d_tup (a_cons (d_str) (a_cons (d_neg (d_int)) (a_nil)))) (a_cons (d_tup (a_cons (d_str) (a_cons (d_v 3) (a_nil)))) (a_cons (d_tup (a_cons (d_str) (a_cons (d_v 3) (a_nil)))) (a_cons (d_tup (a_cons (d_str) (a_cons (d_neg (d_int)) (a_nil)))) (a_cons (d_tup (a_cons (d_str) (a_cons (d_int) (a_nil)))) (a_cons (d_tup (a_cons (d_str) (a_cons (d_int) (a_nil)))) (a_nil))))))))))
    (ss_cons (s_if (t_cmp (op_eqAll (u64 hr)) opd_eq (d_v 2) (d_callB cr_lenAll cd_len T.b_len (by decide +kernel) (a_cons (d_v 1) (a_nil))) (nomark _))
    (ss_one (s_set (i := 4) sc__law_bad_deed.nd (d_add false (d_v 4) (d_lst false (a_cons (d_tup (a_cons (d_str) (a_cons (d_int) (a_nil)))) (a_cons (d_tup (a_cons (d_str) (a_cons (d_v 2) (a_nil)))) (a_nil)))))))
    (ss_nil))
    (ss_one (s_ret (d_ix (d_v 4) (d_call (def__law_off T) (hr.mono (by decide)) (a_cons (d_v 0) (a_cons (d_callB cr_lenAll cd_len T.b_len (by decide +kernel) (a_cons (d_v 4) (a_nil))) (a_nil)))))))))), ?_⟩
  rintro ds m Q ⟨d, p, rfl, hd, h6, q⟩
  walk_at "dxs"
  rw [count_ps h6, ps_len]
  have hp6 := pl_len p
  refine ⟨⟨_, rfl⟩, ⟨by decide, by decide⟩, d, 1000000, rfl, hd, by decide, by decide, fun j _ => ⟨_, rfl, by decide, by decide, by decide, by decide, by decide, by decide, by decide, by decide, Nat.le_trans h6 (by decide), ?_⟩⟩
  generalize hn : (placesOf p).length = n at *
  have bt : ∀ k : Int, (k < 0 ∨ (n : Int) ≤ k) → badK p.length n (Str.ofString "take") k := fun k h => ⟨fun z => by omega, fun z => absurd z.1 (by decide +kernel)⟩
  have bp : ∀ k : Int, (k < 0 ∨ (n : Int) < k ∨ p.length ≤ n) → badK p.length n (Str.ofString "put") k := fun k h => ⟨fun z => absurd z.1 (by decide +kernel), fun z => by omega⟩
  have bo : ∀ (w : Str) (k : Int), w ≠ Str.ofString "take" → w ≠ Str.ofString "put" → badK p.length n w k := fun w k h1 h2 => ⟨fun z => h1 z.1, fun z => h2 z.1⟩
  have all : ∀ x ∈ [D.tuple [.str "take", .int (n : Nat)], .tuple [.str "take", .int (-1)], .tuple [.str "take", .int ((n : Nat) + 1 + (j : Nat))], .tuple [.str "put", .int ((n : Nat) + 1 + (j : Nat))], .tuple [.str "put", .int (-1)], .tuple [.str "Put", .int 0], .tuple [.str "", .int 0]], Q x m := by
    intro x hx
    simp only [List.mem_cons, List.not_mem_nil, or_false] at hx
    rcases hx with rfl | rfl | rfl | rfl | rfl | rfl | rfl
    · exact q _ _ (bt _ (by omega))
    · exact q _ _ (bt _ (by omega))
    · exact q _ _ (bt _ (by omega))
    · exact q _ _ (bp _ (by omega))
    · exact q _ _ (bp _ (by omega))
    · exact q _ _ (bo _ _ (by decide +kernel) (by decide +kernel))
    · exact q _ _ (bo _ _ (by decide +kernel) (by decide +kernel))
  split
  · rename_i hf
    refine ⟨by decide, by decide, by decide, by decide, d, 9, rfl, hd, by decide, by decide, fun i hi => ⟨_, rfl, _, atI_nat (List.getElem?_eq_getElem (by simpa using hi)), ?_⟩⟩
    have mem := List.getElem_mem (l := [D.tuple [.str "take", .int (n : Nat)], .tuple [.str "take", .int (-1)], .tuple [.str "take", .int ((n : Nat) + 1 + (j : Nat))], .tuple [.str "put", .int ((n : Nat) + 1 + (j : Nat))], .tuple [.str "put", .int (-1)], .tuple [.str "Put", .int 0], .tuple [.str "", .int 0]] ++ [.tuple [.str "put", .int 0], .tuple [.str "put", .int (n : Nat)]]) (n := i) (by simpa using hi)
    rcases List.mem_append.mp mem with h | h
    · exact all _ h
    · simp only [List.mem_cons, List.not_mem_nil, or_false] at h
      have g0 := q _ _ (bp 0 (by omega))
      have g1 := q _ _ (bp n (by omega))
      rcases h with h | h
      · exact h.symm ▸ g0
      · exact h.symm ▸ g1
  · refine ⟨d, 7, rfl, hd, by decide, by decide, fun i hi => ⟨_, rfl, _, atI_nat (List.getElem?_eq_getElem (by simpa using hi)), ?_⟩⟩
    exact all _ (List.getElem_mem _)
abbrev n_Shelf_put_in : List Str := ["self", "key", "places", "keys", "rank", "others", "before", "at", "one", "found"]
theorem sc_Shelf_put_in : FnScope n_Shelf_put_in ["self", "key"] (defScope s_Shelf_put_in) := ⟨rfl, rfl, rfl, by decide +kernel, rfl, by decide +kernel, by decide +kernel⟩
def preX_Shelf_put_in (a : Ad) : PreX := fun ds m Q xd => ∃ (p b : Addr) (S : Sh) (key : Int), ds = [.adr p, .int key] ∧ ShAt a.C m p b S ∧ (key ∈ S.ks ∧ xd a.CK none m ∨ key ∉ S.ks ∧ S.ks.length = S.p.length ∧ xd a.CD (some ("number", 0)) m)
theorem lenX_Shelf_put_in (a : Ad) : ∀ ds m Q xd, preX_Shelf_put_in a ds m Q xd → ds.length = 2 := by
  rintro ds m Q xd ⟨_, _, _, _, rfl, _⟩
  all_goals rfl
theorem mdefX_put_in (T : TX P w K mg base a) : MDefX P w K mg base a.C "put_in" 3 (preX_Shelf_put_in a) := by
  refine MDefX.of (ps := ["self", "key"]) T.h_Shelf_put_in (fun _ _ _ _ _ _ us hl => match us, hl with | [_, _], _ => rfl) fun f fd F => ok_defX F sc_Shelf_put_in (lenX_Shelf_put_in a) fun cdv A outer s H E hr tk hp => ⟨_, _, xx_cons (x_if (t_cmp op_inAll (opd_in false) (d_v 1) (d_fld T.cl T.na_row (d_v 0)) rfl)
    (xx_one (x_raise0 T.e_BadKey tk))
    (DSs.x ss_nil))
    (xx_cons (DS.x (s_setLc false (i := 2) sc_Shelf_put_in.nd (own := [("at", 7)]) (i_range1 T.b_range (a_cons (d_fld T.cl T.na_wide (d_v 0)) (a_nil))) (blkOk_by (own := [("at", 7)]) (N := n_Shelf_put_in) (sc := defScope s_Shelf_put_in) (by decide +kernel)) (fun _ _ _ _ _ => g_name (i := 7) sc_Shelf_put_in.nd) (fun _ _ _ _ _ => ts_one (t_cmp op_notN opd_notN (d_ix (d_fld T.cl T.na_row (d_v 0)) (d_v 7)) (d_non) (nomark _))) (fun _ _ _ _ _ => d_v 7) (keeps_name (by decide)) (sw_true rfl rfl rfl (by decide +kernel))))
    (xx_cons (x_if (t_cmp (op_eqAll (u64 hr)) opd_eq (d_callB cr_lenAll cd_len T.b_len (by decide +kernel) (a_cons (d_v 2) (a_nil))) (d_fld T.cl T.na_wide (d_v 0)) (nomark _))
    (xx_one (x_raise1 T.e_BadDeed (hr.mono (by decide)) tk (d_int)))
    (DSs.x ss_nil))
    (DSs.x ss_never))), ?_⟩
  rintro ds m Q xd ⟨p, b, S, key, rfl, ⟨ok, ha, hb, nab⟩, h⟩
  have hlen : S.row.length = S.p.length := rowOf_len _
  have h6 := ok.w6
  have hkl := ok.len
  have hpat : lawPat S.row = S.p := rowOf_pat h6 _
  walk_at "xs"
  refine q_when (decide (key ∈ S.ks)) (fun Q q => ?_) (fun hk => ?_) (fun hk => ?_)
  · walk_at "dx"
    refine ⟨_, ha, _, shF_row, rowD S.row, ?_, rfl, row_flat _, ?_⟩
    · simp only [hb]
    · rw [show (D.int key) = Cod.enc (some key) from rfl, row_in, show decide (some key ∈ S.row) = decide (key ∈ S.ks) from decide_eq_decide.mpr (rowOf_mem h6 hkl key)]
      exact q
  · rw [decide_eq_true_eq] at hk
    rcases h with ⟨_, q⟩ | ⟨n, _⟩
    · exact q
    · exact absurd hk n
  rw [decide_eq_false_iff_not] at hk
  obtain ⟨_, hl, q⟩ := h.resolve_left fun z => hk z.1
  refine q_asg (.list (nums (placesOf S.p))) (fun Q q => ?_) ?_
  · walk_at "dx"
    refine ⟨_, ha, _, shF_wide, _, rfl, by omega, by omega, ?_⟩
    rw [Int.toNat_natCast, ← hlen]
    rw [← hpat] at q
    refine lc_taken (by omega) (fun i hi Q' q' => ?_) (by simp only [wipeD, List.length_set, List.length_cons, List.length_nil]; decide) q
    walk_at "dx"
    refine ⟨_, ha, _, shF_row, ?_⟩
    simp only [hb, Option.some.injEq, exists_eq_left']
    refine ⟨_, rowD_at hi, ?_⟩
    revert q'
    cases S.row[i] <;> exact fun q => q
  refine q_when true (fun Q q => ?_) (fun _ => ?_) nofun
  · walk_at "dx"
    refine ⟨_, ha, _, shF_wide, ?_⟩
    rw [nums_len]
    simp only
    rw [decide_eq_true (by omega)]
    exact q
  · walk_at "dx"
    exact q
def preL_14 (a : Ad) : PreX := fun ds m Q xd => ∃ (p b d : Addr) (S : Sh) (w : Nat), ds = [.adr d, .adr p, .int w] ∧ ShAt a.C m p b S ∧ m d = some (.any Dice) ∧ S.p.length = w ∧ S.ks = evens w ∧ ∀ m', Grow m m' → xd a.CK (none) m'
theorem lok_14 (T : TX P w K mg base a) : LamOk P w K mg base 20 lam_14 ["_law_d", "_law_shelf_here", "_law_wide"] (spX K (preL_14 a)) := by
  refine (ok_lam (k := 3) ls_14 (lamBd_nil rfl fun _ _ _ _ _ => rfl) fun A outer s H E cl f c hr tk => ⟨_, _, x_meth (mdefX_put_in T) T.cl (hr.mono (by decide)) tk (d_v 1) (a_cons (d_mul false (d_int) (d_call (def__law_off T) (hr.mono (by decide)) (a_cons (d_v 0) (a_cons (d_v 2) (a_nil))))) (a_nil)), ?_⟩).mono (by decide)
  rintro ds m Q xd ⟨p, b, d, S, w, rfl, hS, hd, hw, hk, q⟩
  have h1 := hS.ok.w1
  have h6 := hS.ok.w6
  walk_at "dx"
  refine ⟨_, hS.ha, shF_put_in, d, w, rfl, hd, by omega, by omega, fun r hr => ?_⟩
  refine ⟨_, rfl, ?_, p, b, S, _, rfl, hS, .inl ⟨?_, q _ (Grow.refl _)⟩⟩
  · exact .inl ⟨by decide, by decide⟩
  · rw [hk]
    exact evens_in hr
def preL_15 (a : Ad) : PreX := fun ds m Q xd => ∃ (p b d : Addr) (S : Sh) (w : Nat), ds = [.adr d, .adr p, .int w] ∧ ShAt a.C m p b S ∧ m d = some (.any Dice) ∧ S.p.length = w ∧ S.ks = evens w ∧ ∀ m', Grow m m' → xd a.CD (some ("number", 0)) m'
theorem lok_15 (T : TX P w K mg base a) : LamOk P w K mg base 20 lam_15 ["_law_d", "_law_shelf_here", "_law_wide"] (spX K (preL_15 a)) := by
  refine (ok_lam (k := 3) ls_15 (lamBd_nil rfl fun _ _ _ _ _ => rfl) fun A outer s H E cl f c hr tk => ⟨_, _, x_meth (mdefX_put_in T) T.cl (hr.mono (by decide)) tk (d_v 1) (a_cons (d_sub (d_mul false (d_int) (d_call (def__law_off T) (hr.mono (by decide)) (a_cons (d_v 0) (a_cons (d_v 2) (a_nil))))) (d_int)) (a_nil)), ?_⟩).mono (by decide)
  rintro ds m Q xd ⟨p, b, d, S, w, rfl, hS, hd, hw, hk, q⟩
  have h1 := hS.ok.w1
  have h6 := hS.ok.w6
  walk_at "dx"
  refine ⟨_, hS.ha, shF_put_in, d, w, rfl, hd, by omega, by omega, fun r hr => ?_⟩
  refine ⟨_, rfl, ?_, p, b, S, _, rfl, hS, .inr ⟨?_, by rw [hk, evens_len, hw], q _ (Grow.refl _)⟩⟩
  · exact .inl ⟨by decide, by decide⟩
  · rw [hk]
    exact fun z => evens_out (k := r) 1 (by omega) z
abbrev n_Shelf_take_out : List Str := ["self", "key", "one"]
theorem sc_Shelf_take_out : FnScope n_Shelf_take_out ["self", "key"] (defScope s_Shelf_take_out) := ⟨rfl, rfl, rfl, by decide +kernel, rfl, by decide +kernel, by decide +kernel⟩
def preX_Shelf_take_out (a : Ad) : PreX := fun ds m Q xd => ∃ (p b : Addr) (S : Sh) (key : Int), ds = [.adr p, .int key] ∧ ShAt a.C m p b S ∧ key ∉ S.ks ∧ xd a.CK none m
theorem lenX_Shelf_take_out (a : Ad) : ∀ ds m Q xd, preX_Shelf_take_out a ds m Q xd → ds.length = 2 := by
  rintro ds m Q xd ⟨_, _, _, _, rfl, _⟩
  all_goals rfl
theorem mdefX_take_out (T : TX P w K mg base a) : MDefX P w K mg base a.C "take_out" 3 (preX_Shelf_take_out a) := by
  refine MDefX.of (ps := ["self", "key"]) T.h_Shelf_take_out (fun _ _ _ _ _ _ us hl => match us, hl with | [_, _], _ => rfl) fun f fd F => ok_defX F sc_Shelf_take_out (lenX_Shelf_take_out a) fun cdv A outer s H E hr tk hp => ⟨_, _, xx_cons (x_if (t_cmp op_notInAll (opd_in true) (d_v 1) (d_fld T.cl T.na_row (d_v 0)) rfl)
    (xx_one (x_raise0 T.e_BadKey tk))
    (DSs.x ss_nil))
    (DSs.x ss_never), ?_⟩
  rintro ds m Q xd ⟨p, b, S, key, rfl, ⟨ok, ha, hb, nab⟩, hn, q⟩
  have h6 := ok.w6
  have hkl := ok.len
  walk_at "xs"
  refine q_when true (fun Q q => ?_) (fun _ => ?_) nofun
  · walk_at "dx"
    refine ⟨_, ha, _, shF_row, rowD S.row, ?_, rfl, row_flat _, ?_⟩
    · simp only [hb]
    · rw [show (D.int key) = Cod.enc (some key) from rfl, row_in, show decide (some key ∈ S.row) = false from decide_eq_false (fun z => hn ((rowOf_mem h6 hkl key).mp z))]
      exact q
  · exact q
def preL_16 (a : Ad) : PreX := fun ds m Q xd => ∃ (p b d : Addr) (S : Sh) (w : Nat), ds = [.adr d, .adr p, .int w] ∧ ShAt a.C m p b S ∧ m d = some (.any Dice) ∧ S.p.length = w ∧ S.ks = evens w ∧ ∀ m', Grow m m' → xd a.CK (none) m'
theorem lok_16 (T : TX P w K mg base a) : LamOk P w K mg base 20 lam_16 ["_law_d", "_law_shelf_here", "_law_wide"] (spX K (preL_16 a)) := by
  refine (ok_lam (k := 3) ls_16 (lamBd_nil rfl fun _ _ _ _ _ => rfl) fun A outer s H E cl f c hr tk => ⟨_, _, x_meth (mdefX_take_out T) T.cl (hr.mono (by decide)) tk (d_v 1) (a_cons (d_add false (d_mul false (d_int) (d_call (def__law_off T) (hr.mono (by decide)) (a_cons (d_v 0) (a_cons (d_v 2) (a_nil))))) (d_int)) (a_nil)), ?_⟩).mono (by decide)
  rintro ds m Q xd ⟨p, b, d, S, w, rfl, hS, hd, hw, hk, q⟩
  have h1 := hS.ok.w1
  have h6 := hS.ok.w6
  walk_at "dx"
  refine ⟨_, hS.ha, shF_take_out, d, w, rfl, hd, by omega, by omega, fun r hr => ?_⟩
  refine ⟨_, rfl, ?_, p, b, S, _, rfl, hS, ?_, q _ (Grow.refl _)⟩
  · exact .inl ⟨by decide, by decide⟩
  · rw [hk]
    exact fun z => evens_out (k := r) (-1) (by omega) z
def pre_need_rule : Pre := fun ds m Q => ∃ r : Rl, ds = [.str (rt r)] ∧ Q .non m
theorem len_need_rule : ∀ ds m Q, pre_need_rule ds m Q → ds.length = 1 := by
  rintro ds m Q ⟨w, rfl, _⟩
  rfl
theorem def_need_rule (T : TX P w K mg base a) : Def P w K mg base "need_rule" 1 pre_need_rule := by
  refine Def.of (ps := ["rule"]) T.h_need_rule (fun _ _ _ _ _ _ us hl => match us, hl with | [_], _ => rfl) fun f fd F => ok_def F sc_need_rule len_need_rule fun cdv A outer s H E hr => ⟨_, _, ss_one (s_if (t_cmp op_notInAll (opd_in true) (d_v 0) (d_glob T.c_RULES.choose_spec) rfl)
    (ss_one (s_never))
    (ss_nil)), ?_⟩
  rintro ds m Q ⟨r, rfl, q⟩
  walk_at "dxs"
  refine ⟨rfl, rfl, ?_⟩
  rw [show inV (toV (.str (rt r))) [toV (.str "near"), toV (.str "left"), toV (.str "even")] = true by cases r <;> decide +kernel]
  exact q
def pre_need_width : Pre := fun ds m Q => ∃ w : Int, ds = [.int w] ∧ 1 ≤ w ∧ w ≤ 6 ∧ Q .non m
theorem len_need_width : ∀ ds m Q, pre_need_width ds m Q → ds.length = 1 := by
  rintro ds m Q ⟨w, rfl, _⟩
  rfl
theorem def_need_width (T : TX P w K mg base a) : Def P w K mg base "need_width" 1 pre_need_width := by
  refine Def.of (ps := ["wide"]) T.h_need_width (fun _ _ _ _ _ _ us hl => match us, hl with | [_], _ => rfl) fun f fd F => ok_def F sc_need_width len_need_width fun cdv A outer s H E hr => ⟨_, _, ss_one (s_if (t_not (t_chain o_le o_le opd_cmp opd_cmp (d_int) (d_v 0) (d_glob T.c_MOST_WIDE)))
    (ss_one (s_never))
    (ss_nil)), ?_⟩
  rintro ds m Q ⟨w, rfl, h1, h2, q⟩
  walk_at "dxs"
  rw [if_pos h1, if_neg (by simpa using h2)]
  exact q
def pre_Shelf___init__ (C : Addr) : Pre := fun ds m Q => ∃ (a : Addr) (r : Rl) (w : Nat), ds = [.adr a, .str (rt r), .int w] ∧ m a = some (.ins C []) ∧ 1 ≤ w ∧ w ≤ 6 ∧ ∀ m' b', ShAt C m' a b' ⟨r, List.replicate w false, [], 0⟩ → Keep m m' a a b' → Q .non m'
theorem len_Shelf___init__ (C : Addr) : ∀ ds m Q, pre_Shelf___init__ C ds m Q → ds.length = 3 := by
  rintro ds m Q ⟨a, r, w, rfl, _⟩
  rfl
abbrev n_Shelf___init__ : List Str := ["self", "rule", "wide"]
theorem sc_Shelf___init__ : FnScope n_Shelf___init__ ["self", "rule", "wide"] (defScope s_Shelf___init__) := ⟨rfl, rfl, rfl, by decide +kernel, rfl, by decide +kernel, by decide +kernel⟩
theorem idef_Shelf (T : TX P w K mg base a) : IDef P w K mg base a.C 2 (pre_Shelf___init__ a.C) := by
  refine IDef.of (ps := ["self", "rule", "wide"]) T.h_Shelf___init__ (fun _ _ _ _ _ _ us hl => match us, hl with | [_, _, _], _ => rfl) fun f fd F => ok_def F sc_Shelf___init__ (len_Shelf___init__ a.C) fun cdv A outer s H E hr => ⟨_, _, ss_cons (s_expr (d_call (def_need_rule T) (hr.mono (by decide)) (a_cons (d_v 1) (a_nil))))
    (ss_cons (s_expr (d_call (def_need_width T) (hr.mono (by decide)) (a_cons (d_v 2) (a_nil))))
    (ss_cons (s_fld T.cl T.na_rule (d_v 1) (d_v 0))
    (ss_cons (s_fld T.cl T.na_wide (d_v 2) (d_v 0))
    (ss_cons (s_fld T.cl T.na_row (d_mul true (d_lst false (a_cons (d_non) (a_nil))) (d_v 2)) (d_v 0))
    (ss_one (s_fld T.cl T.na_many (d_int) (d_v 0))))))), ?_⟩
  rintro ds m Q ⟨a, r, w, rfl, h1, h2, h3, q⟩
  refine q_drop (fun Q q => ?_) ?_
  · walk_at "dx"
    exact ⟨r, rfl, q _⟩
  refine q_drop (fun Q q => ?_) ?_
  · walk_at "dx"
    exact ⟨w, rfl, by omega, by omega, q _⟩
  walk_at "dxs"
  rw [Int.toNat_natCast]
  refine ⟨_, h1, by decide, Nat.lt_of_le_of_lt (putD_len (n := 0) (l := []) (Nat.le_refl 0)) (by decide), by decide, by omega, by omega, Nat.le_trans (by omega : _ ≤ 100) (by decide), fun b hb => ?_⟩
  have nab : a ≠ b := by
    rintro rfl
    rw [ups_same] at hb
    cases hb
  refine ⟨_, by rw [ups_ne nab, ups_same], Nat.lt_of_le_of_lt (putD_len (putD_len (n := 0) (l := []) (Nat.le_refl 0))) (by decide), Nat.lt_of_le_of_lt (putD_len (putD_len (putD_len (n := 0) (l := []) (Nat.le_refl 0)))) (by decide), ?_⟩
  rw [rep_none, show D.int 0 = D.int ((0 : Nat) : Int) from rfl, put_init]
  rw [ups_ne nab.symm] at hb
  refine q _ b ⟨⟨?_, ?_, ?_, .nil⟩, by rw [ups_same]; simp, ?_, nab⟩ fun x o hx h2 h3 => ⟨?_, ?_⟩
  · show 1 ≤ (List.replicate w false).length
    rw [List.length_replicate]
    exact h2
  · show (List.replicate w false).length ≤ 6
    rw [List.length_replicate]
    exact h3
  · exact (zeros_places h2 h3).symm
  · rw [ups_ne nab.symm, ups_same, zeros_row h2 h3]
  · rw [ups_ne h2, ups_ne, ups_ne h2, hx]
    rintro rfl
    rw [hx] at hb
    cases hb
  · rintro rfl
    rw [hx] at hb
    cases hb
def pre_Shelf_standing (C : Addr) : Pre := fun ds m Q => ∃ (a b : Addr) (S : Sh), ds = [.adr a] ∧ ShAt C m a b S ∧ ∀ c, m c = none → Q (.adr c) (ups m c (.lst (rowD S.row)))
theorem len_Shelf_standing (C : Addr) : ∀ ds m Q, pre_Shelf_standing C ds m Q → ds.length = 1 := by
  rintro ds m Q ⟨a, b, S, rfl, _⟩
  rfl
abbrev n_Shelf_standing : List Str := ["self"]
theorem sc_Shelf_standing : FnScope n_Shelf_standing ["self"] (defScope s_Shelf_standing) := ⟨rfl, rfl, rfl, by decide +kernel, rfl, by decide +kernel, by decide +kernel⟩
theorem mdef_standing (T : TX P w K mg base a) : MDef P w K mg base a.C "standing" 1 (pre_Shelf_standing a.C) := by
  refine MDef.of (ps := ["self"]) T.h_Shelf_standing (fun _ _ _ _ _ _ us hl => match us, hl with | [_], _ => rfl) fun f fd F => ok_def F sc_Shelf_standing (len_Shelf_standing a.C) fun cdv A outer s H E hr => ⟨_, _, ss_one (s_ret (d_callTy c_list (cd_list true) T.b_list (by decide +kernel) (a_cons (d_fld T.cl T.na_row (d_v 0)) (a_nil)))), ?_⟩
  rintro ds m Q ⟨a, b, S, rfl, ⟨ok, ha, hb, nab⟩, q⟩
  walk_at "dxs"
  refine ⟨_, ha, _, shF_row, rowD S.row, ?_, q⟩
  simp only [hb]
def pre_Shelf_put_in (C : Addr) : Pre := fun ds m Q => ∃ (a b : Addr) (S : Sh) (key : Int), ds = [.adr a, .int key] ∧ ShAt C m a b S ∧ key ∉ S.ks ∧ S.ks.length < S.p.length ∧ ∀ m' b', ShAt C m' a b' (S.put key) → Keep m m' a b b' → Q (.int (S.found key)) m'
theorem len_Shelf_put_in (C : Addr) : ∀ ds m Q, pre_Shelf_put_in C ds m Q → ds.length = 2 := by
  rintro ds m Q ⟨a, b, S, k, rfl, _⟩
  rfl
theorem mdef_put_in (T : TX P w K mg base a) : MDef P w K mg base a.C "put_in" 3 (pre_Shelf_put_in a.C) := by
  refine MDef.of (ps := ["self", "key"]) T.h_Shelf_put_in (fun _ _ _ _ _ _ us hl => match us, hl with | [_, _], _ => rfl) fun f fd F => ok_def F sc_Shelf_put_in (len_Shelf_put_in a.C) fun cdv A outer s H E hr => ⟨_, _, ss_cons (s_if (t_cmp op_inAll (opd_in false) (d_v 1) (d_fld T.cl T.na_row (d_v 0)) rfl)
    (ss_one (s_never))
    (ss_nil))
    (ss_cons (s_setLc false (i := 2) sc_Shelf_put_in.nd (own := [("at", 7)]) (i_range1 T.b_range (a_cons (d_fld T.cl T.na_wide (d_v 0)) (a_nil))) (blkOk_by (own := [("at", 7)]) (N := n_Shelf_put_in) (sc := defScope s_Shelf_put_in) (by decide +kernel)) (fun _ _ _ _ _ => g_name (i := 7) sc_Shelf_put_in.nd) (fun _ _ _ _ _ => ts_one (t_cmp op_notN opd_notN (d_ix (d_fld T.cl T.na_row (d_v 0)) (d_v 7)) (d_non) (nomark _))) (fun _ _ _ _ _ => d_v 7) (keeps_name (by decide)) (sw_true rfl rfl rfl (by decide +kernel)))
    (ss_cons (s_if (t_cmp (op_eqAll (u64 hr)) opd_eq (d_callB cr_lenAll cd_len T.b_len (by decide +kernel) (a_cons (d_v 2) (a_nil))) (d_fld T.cl T.na_wide (d_v 0)) (nomark _))
    (ss_one (s_never))
    (ss_nil))
    (ss_cons (s_setLc false (i := 3) sc_Shelf_put_in.nd (own := [("at", 7)]) (i_list (d_v 2)) (blkOk_by (own := [("at", 7)]) (N := n_Shelf_put_in) (sc := defScope s_Shelf_put_in) (by decide +kernel)) (fun _ _ _ _ _ => g_name (i := 7) sc_Shelf_put_in.nd) (fun _ _ _ _ _ => ts_nil) (fun _ _ _ _ _ => d_ix (d_fld T.cl T.na_row (d_v 0)) (d_v 7)) (keeps_name (by decide)) (sw_true rfl rfl rfl (by decide +kernel)))
    (ss_cons (s_set (i := 4) sc_Shelf_put_in.nd (d_callB cr_lenAll cd_len T.b_len (by decide +kernel) (a_cons (d_lc false sc_Shelf_put_in.nd (own := [("one", 8)]) (i_list (d_v 3)) (blkOk_by (own := [("one", 8)]) (N := n_Shelf_put_in) (sc := defScope s_Shelf_put_in) (by decide +kernel)) (fun _ _ _ _ _ => g_name (i := 8) sc_Shelf_put_in.nd) (fun _ _ _ _ _ => ts_one (t_cmp o_lt opd_cmp (d_v 8) (d_v 1) (nomark _))) (fun _ _ _ _ _ => d_v 8) (keeps_name (by decide))) (a_nil))))
    (ss_cons (s_set (i := 5) sc_Shelf_put_in.nd (d_call (def_places_behind T) (hr.mono (by decide)) (a_cons (d_fld T.cl T.na_rule (d_v 0)) (a_cons (d_fld T.cl T.na_wide (d_v 0)) (a_cons (d_v 2) (a_cons (d_v 4) (a_nil)))))))
    (ss_cons (s_set (i := 6) sc_Shelf_put_in.nd (d_fld T.cl T.na_row (d_v 0)))
    (ss_cons (s_fld T.cl T.na_row (d_mul true (d_lst false (a_cons (d_non) (a_nil))) (d_fld T.cl T.na_wide (d_v 0))) (d_v 0))
    (ss_cons (s_for (i_zip T.b_zip (a_cons (d_v 5) (a_cons (d_add false (d_add false (d_slice false (d_v 3) (o_none) (o_some (d_v 4))) (d_lst false (a_cons (d_v 1) (a_nil)))) (d_slice false (d_v 3) (o_some (d_v 4)) (o_none))) (a_nil)))) (g_tup (n := 2) (gs_cons (g_name (i := 7) sc_Shelf_put_in.nd) (gs_cons (g_name (i := 8) sc_Shelf_put_in.nd) (gs_nil))))
    (ss_one (s_setL (d_v 8) (d_fld T.cl T.na_row (d_v 0)) (d_v 7))))
    (ss_cons (s_set (i := 9) sc_Shelf_put_in.nd (d_callB cr_lenAll cd_len T.b_len (by decide +kernel) (a_cons (d_lc false sc_Shelf_put_in.nd (own := [("at", 7)]) (i_list (d_v 2)) (blkOk_by (own := [("at", 7)]) (N := n_Shelf_put_in) (sc := defScope s_Shelf_put_in) (by decide +kernel)) (fun _ _ _ _ _ => g_name (i := 7) sc_Shelf_put_in.nd) (fun _ _ _ _ _ => ts_one (t_cmp (op_neAll (u64 hr)) opd_ne (d_ix (d_fld T.cl T.na_row (d_v 0)) (d_v 7)) (d_ix (d_v 6) (d_v 7)) (nomark _))) (fun _ _ _ _ _ => d_v 7) (keeps_name (by decide))) (a_nil))))
    (ss_cons (s_fld T.cl T.na_many (d_add false (d_fld T.cl T.na_many (d_v 0)) (d_v 9)) (d_v 0))
    (ss_one (s_ret (d_v 9))))))))))))), ?_⟩
  generalize a.C = C
  rintro ds m Q ⟨a, b, S, key, rfl, ⟨ok, ha, hb, nab⟩, hn, hl, q⟩
  have hlen : S.row.length = S.p.length := rowOf_len _
  have h6 := ok.w6
  have hkl := ok.len
  have hpat : lawPat S.row = S.p := rowOf_pat h6 _
  have hrk := rank_le S.ks key
  have hpa := put_all h6 S.r (k := rankM S.ks key) (by omega) (by omega)
  refine q_when false (fun Q q => ?_) nofun (fun _ => ?_)
  · walk_at "dx"
    refine ⟨_, ha, _, shF_row, rowD S.row, ?_, rfl, row_flat _, ?_⟩
    · simp only [hb]
    · rw [show (D.int key) = Cod.enc (some key) from rfl, row_in, show decide (some key ∈ S.row) = false from decide_eq_false (fun z => hn ((rowOf_mem h6 hkl key).mp z))]
      exact q
  refine q_asg (.list (nums (placesOf S.p))) (fun Q q => ?_) ?_
  · walk_at "dx"
    refine ⟨_, ha, _, shF_wide, _, rfl, by omega, by omega, ?_⟩
    rw [Int.toNat_natCast, ← hlen]
    rw [← hpat] at q
    refine lc_taken (by omega) (fun i hi Q' q' => ?_) (by simp only [wipeD, List.length_set, List.length_cons, List.length_nil]; decide) q
    walk_at "dx"
    refine ⟨_, ha, _, shF_row, ?_⟩
    simp only [hb, Option.some.injEq, exists_eq_left']
    refine ⟨_, rowD_at hi, ?_⟩
    revert q'
    cases S.row[i] <;> exact fun q => q
  refine q_when false (fun Q q => ?_) nofun (fun _ => ?_)
  · walk_at "dx"
    refine ⟨_, ha, _, shF_wide, ?_⟩
    rw [nums_len]
    simp only
    rw [decide_eq_false (by omega)]
    exact q
  refine q_asg (.list (S.ks.map D.int)) (fun Q q => ?_) ?_
  · walk_at "dx"
    unfold nums
    refine lc_mapAll (fun i => Cod.enc (S.row[i]?.getD none)) (fun i hi Q' q' => ?_) (small_line (by omega)) ?_
    · walk_at "dx"
      have hi' : i < S.row.length := by
        have := pl_lt hi
        omega
      refine ⟨_, ha, _, shF_row, ?_⟩
      simp only [hb, Option.some.injEq, exists_eq_left']
      rw [List.getElem?_eq_getElem hi'] at q'
      exact ⟨_, rowD_at hi', q'⟩
    · have e := rowOf_keys h6 hkl
      have e2 : (placesOf S.p).map (fun i => Cod.enc (S.row[i]?.getD none)) = S.ks.map D.int := by
        rw [show (fun i => Cod.enc (S.row[i]?.getD none)) = Cod.enc ∘ (fun i => S.row[i]?.getD none) from rfl, ← List.map_map]
        unfold Sh.row
        rw [e, List.map_map]
        rfl
      rw [e2]
      exact q
  refine q_asg (.int (rankM S.ks key)) (fun Q q => ?_) ?_
  · walk_at "dx"
    refine lc_ints (fun x => decide (x < key)) (fun x hx Q' q' => ?_) (small_line (by omega)) ?_
    · walk_at "dx"
      exact q'
    · rw [List.length_map]
      exact q
  refine q_asg (.list (nums (S.pb key))) (fun Q q => ?_) ?_
  · walk_at "dx"
    refine ⟨_, ha, _, shF_rule, _, ha, _, shF_wide, ?_⟩
    exact ⟨S.r, S.p, rankM S.ks key, rfl, h6, by omega, by omega, q⟩
  refine q_asg (.adr b) (fun Q q => ?_) ?_
  · walk_at "dx"
    exact ⟨_, ha, _, shF_row, q⟩
  refine q_sfldNew (ds := rowD (List.replicate S.p.length none)) (a := a) (fun Q q => ?_) (fun m1 Q q => ?_) ha (Nat.lt_of_le_of_lt (Nat.le_of_eq shF_len) (by decide)) (fun c hc nac => ?_)
  · walk_at "dx"
    refine ⟨by decide, _, ha, _, shF_wide, _, rfl, by omega, by omega, ?_⟩
    rw [Int.toNat_natCast, rep_none]
    exact ⟨Nat.le_trans (by omega : _ ≤ 100) (by decide), q⟩
  · walk_at "dx"
    exact q
  rw [put_row]
  have hbc : b ≠ c := by
    rintro rfl
    rw [hb] at hc
    cases hc
  have hol : (S.pb key).length = (insAt S.ks (rankM S.ks key) key).length := by rw [insAt_len, Sh.pb, hpa.2.1, hkl]
  refine q_for (((S.pb key).zip (insAt S.ks (rankM S.ks key) key)).map fun x => .tuple [.int (x.1 : Nat), .int x.2]) (fun Q q => ?_) (fun i e m' => ∃ x7 x8, e = [some (.adr a), some (.int key), some (.list (nums (placesOf S.p))), some (.list (S.ks.map D.int)), some (.int (rankM S.ks key)), some (.list (nums (S.pb key))), some (.adr b), x7, x8, none]
      ∧ m' a = some (.ins C (shF S.r S.p.length (.adr c) S.n)) ∧ m' c = some (.lst (rowD (fillR S.p.length (((S.pb key).zip (insAt S.ks (rankM S.ks key) key)).take i)))) ∧ ∀ q o, m q = some o → q ≠ a → m' q = some o) ⟨_, _, rfl, ups_same, by rw [ups_ne nac.symm, ups_same]; rfl, fun q o h1 h2 => ?_⟩ ?_ ?_
  · walk_at "dx"
    rw [cut_take, cut_drop]
    have e : zipD (nums (S.pb key)) ((S.ks.map D.int).take (rankM S.ks key) ++ [.int key] ++ (S.ks.map D.int).drop (rankM S.ks key)) = ((S.pb key).zip (insAt S.ks (rankM S.ks key) key)).map fun x => .tuple [.int (x.1 : Nat), .int x.2] := by
      have e0 : (S.ks.map D.int).take (rankM S.ks key) ++ [.int key] ++ (S.ks.map D.int).drop (rankM S.ks key) = (insAt S.ks (rankM S.ks key) key).map D.int := by
        unfold insAt
        rw [List.map_append, List.map_append, List.map_take, List.map_drop]
        rfl
      rw [e0]
      exact zipD_map _ _ _ _
    rw [e]
    refine ⟨by decide, ?_, ?_, q⟩
    · rw [List.length_take, List.length_map]
      exact Nat.le_trans (by omega : _ ≤ 100) (by decide)
    · rw [List.length_append, List.length_take, List.length_drop, List.length_map, List.length_cons, List.length_nil]
      exact Nat.le_trans (by omega : _ ≤ 100) (by decide)
  · rw [ups_ne h2, ups_ne, h1]
    rintro rfl
    rw [h1] at hc
    cases hc
  · rintro i d hd e m' ⟨x7, x8, rfl, g1, g2, g3⟩ nx hnx
    rw [List.getElem?_map] at hd
    obtain ⟨x, hx, rfl⟩ := Option.map_eq_some_iff.mp hd
    walk_at "dg"
    walk_at "dx"
    obtain ⟨hil, hix⟩ := List.getElem?_eq_some_iff.mp hx
    have hx1 : x.1 ∈ S.pb key := (List.of_mem_zip (hix ▸ List.getElem_mem hil)).1
    have hxl : x.1 < S.p.length := by
      have hx2 : x.1 ∈ placesOf (patOf S.p.length (S.pb key)) := by
        unfold Sh.pb
        rw [hpa.1]
        exact hx1
      have := pl_lt hx2
      rwa [patOf_len] at this
    have hfl : ∀ l : List (Nat × Int), (fillR S.p.length l).length = S.p.length := by
      have : ∀ (l : List (Nat × Int)) (f : Row), (l.foldl (fun f x => f.set x.1 (some x.2)) f).length = f.length := by
        intro l
        induction l with
        | nil => intro f; rfl
        | cons j l ih => intro f; rw [List.foldl_cons, ih, List.length_set]
      intro l
      unfold fillR
      rw [this, List.length_replicate]
    refine ⟨_, g1, _, shF_row, _, rfl, _, g2, x.1, ?_, hnx _ _ ⟨_, _, rfl, by rw [ups_ne nac]; exact g1, ?_, fun q o h1 h2 => ?_⟩⟩
    · rw [rowD_len, hfl]
      exact ixN_nat hxl
    · rw [ups_same, show D.int x.2 = Cod.enc (some x.2) from rfl, rowD_set, List.take_succ, hx]
      unfold fillR
      rw [List.foldl_append]
      rfl
    · rw [ups_ne, g3 q o h1 h2]
      rintro rfl
      rw [h1] at hc
      cases hc
  rintro e m' ⟨x7, x8, rfl, g1, g2, g3⟩
  rw [List.length_map, List.take_length, fill_row hol hpa.2.2.1] at g2
  have hrow : rowOf (patOf S.p.length (S.pb key)) (insAt S.ks (rankM S.ks key) key) = (S.put key).row := rfl
  have g4 := g3 b _ hb nab.symm
  refine q_asg (.int (S.found key)) (fun Q q => ?_) ?_
  · walk_at "dx"
    unfold nums
    refine lc_map (fun i => !decide ((S.put key).row[i]?.getD none = S.row[i]?.getD none)) (fun i => .int (i : Nat)) (fun i hi Q' q' => ?_) (fun i hi hc Q' q' => ?_) (small_line (by omega)) ?_
    · have hi0 := pl_lt hi
      have hi1 : i < S.row.length := by omega
      have hi2 : i < (S.put key).row.length := by
        show i < (rowOf _ _).length
        rw [rowOf_len]
        show i < (patOf _ _).length
        rw [patOf_len]
        exact hi0
      walk_at "dx"
      refine ⟨_, g1, _, shF_row, ?_⟩
      simp only [g2, g4, Option.some.injEq, exists_eq_left']
      refine ⟨_, rowD_at hi2, _, rowD_at hi1, ?_⟩
      rw [List.getElem?_eq_getElem hi1, List.getElem?_eq_getElem hi2] at q'
      simp only [Option.getD_some] at q'
      generalize (S.put key).row[i] = x at q' ⊢
      generalize S.row[i] = y at q' ⊢
      exact cell_ne q'
    · walk_at "dx"
      exact q'
    · rw [List.length_map]
      have e : ((placesOf S.p).filter fun i => !decide ((S.put key).row[i]?.getD none = S.row[i]?.getD none)).length = S.found key := by
        unfold Sh.found Sh.pb
        rw [← hpa.2.2.2.1]
        refine congrArg List.length (List.filter_congr fun i hi => ?_)
        have := same_thing (key := key) h6 S.r hkl hrk (by omega) (ins_incr ok.inc hn).nodup i
        exact congrArg not (decide_eq_decide.mpr this)
      rw [e]
      exact q
  refine q_sfld (a := a) (.int ((S.n + S.found key : Nat) : Int)) (fun Q q => ?_) (fun Q q => ?_) g1 (Nat.lt_of_le_of_lt (Nat.le_of_eq shF_len) (by decide)) ?_
  · walk_at "dx"
    refine ⟨_, g1, _, shF_many, ?_⟩
    rw [show ((S.n + S.found key : Nat) : Int) = (S.n : Int) + (S.found key : Nat) by omega] at q
    exact q
  · walk_at "dx"
    exact q
  rw [put_many]
  walk_at "dx"
  have hpp : S.p.length = (S.put key).p.length := (patOf_len _ _).symm
  refine q _ c ⟨Sh.put_ok ok hn hl, ?_, ?_, nac⟩ fun x o h1 h2 h3 => ⟨?_, ?_⟩
  · rw [ups_same, hpp]
    rfl
  · rw [ups_ne nac.symm]
    exact g2
  · rw [ups_ne h2]
    exact g3 x o h1 h2
  · rintro rfl
    rw [h1] at hc
    cases hc
abbrev n__law_refused : List Str := ["_law_work", "_law_word", "_law_value", "e", "_law_kinds", "_law_words", "_law_one"]
theorem sc__law_refused : FnScope n__law_refused ["_law_work", "_law_word", "_law_value"] (defScope s__law_refused) := ⟨rfl, rfl, rfl, by decide +kernel, rfl, by decide +kernel, by decide +kernel⟩
abbrev n__law_alike : List Str := ["_law_found", "_law_due", "_law_k"]
theorem sc__law_alike : FnScope n__law_alike ["_law_found", "_law_due"] (defScope s__law_alike) := ⟨rfl, rfl, rfl, by decide +kernel, rfl, by decide +kernel, by decide +kernel⟩
def pre_alikeH : Pre := fun ds m Q => ∃ i j : Int, ds = [.int i, .int j] ∧ Q (.bl (decide (i = j))) m
theorem len_alikeH : ∀ ds m Q, pre_alikeH ds m Q → ds.length = 2 := by
  rintro ds m Q ⟨_, _, rfl, _⟩
  rfl
theorem hdef_alike (T : TX P w K mg base a) : HDef P w K mg base "_law_alike" 2 pre_alikeH := by
  obtain ⟨f, fd, F, hm⟩ := T.h__law_alike.ex
  refine ⟨f, fd, ["_law_found", "_law_due"], ok_defH F sc__law_alike len_alikeH fun cdv A outer s H E p hr => ⟨_, _, ss_cons (s_if (t_cmp op_isN opd_isN (d_v 1) (d_non) (nomark _))
    (ss_one (s_ret (d_cmp op_isN opd_isN (d_v 0) (d_non) (nomark _))))
    (ss_nil))
    (ss_cons (s_if (t_val (d_callB c_isi cd_isi T.b_isinstance (by decide +kernel) (a_cons (d_v 1) (a_cons (d_type (T := "bool") T.b_bool (by decide +kernel)) (a_nil)))))
    (ss_one (s_ret (d_and (d_callB c_isi cd_isi T.b_isinstance (by decide +kernel) (a_cons (d_v 0) (a_cons (d_type (T := "bool") T.b_bool (by decide +kernel)) (a_nil)))) (d_one (d_cmp (op_eqAll (u64H hr)) opd_eq (d_v 0) (d_v 1) (nomark _))))))
    (ss_nil))
    (ss_cons (s_if (t_val (d_callB c_isi cd_isi T.b_isinstance (by decide +kernel) (a_cons (d_v 1) (a_cons (d_type (T := "int") T.b_int (by decide +kernel)) (a_nil)))))
    (ss_one (s_ret (d_and (d_callB c_isi cd_isi T.b_isinstance (by decide +kernel) (a_cons (d_v 0) (a_cons (d_type (T := "int") T.b_int (by decide +kernel)) (a_nil)))) (d_and (d_not (d_callB c_isi cd_isi T.b_isinstance (by decide +kernel) (a_cons (d_v 0) (a_cons (d_type (T := "bool") T.b_bool (by decide +kernel)) (a_nil))))) (d_one (d_cmp (op_eqAll (u64H hr)) opd_eq (d_v 0) (d_v 1) (nomark _)))))))
    (ss_nil))
    (ss_never))), ?_⟩, hm, F.kp, F.binds (fun _ _ _ _ _ _ us hl => match us, hl with | [_, _], _ => rfl)⟩
  rintro ds m Q ⟨i, j, rfl, q⟩
  walk_at "dxs"
  walk_at "dk"
  exact q
theorem kinds_eq {i : Nat} {word : Str} (hi : i < 6) (h : refWords[i]? = some word) : [decide (i = 0), decide (i = 1), decide (i = 2), decide (i = 3), decide (i = 4), decide (i = 5)] = [decide (word = "width"), decide (word = "rule"), decide (word = "pattern"), decide (word = "deed"), decide (word = "key"), decide (word = "number")] := by
  have : i = 0 ∨ i = 1 ∨ i = 2 ∨ i = 3 ∨ i = 4 ∨ i = 5 := by omega
  rcases this with rfl | rfl | rfl | rfl | rfl | rfl <;> (cases h; decide +kernel)
theorem word_pattern {i : Nat} {word : Str} (hi : i < 6) (h : refWords[i]? = some word) (e : word = Str.ofString "pattern") : i = 2 := by
  subst e
  have : i = 0 ∨ i = 1 ∨ i = 2 ∨ i = 3 ∨ i = 4 ∨ i = 5 := by omega
  rcases this with rfl | rfl | rfl | rfl | rfl | rfl
  case inr.inr.inl => rfl
  all_goals exact absurd h (by decide +kernel)
theorem word_deed {i : Nat} {word : Str} (hi : i < 6) (h : refWords[i]? = some word) (e : word = Str.ofString "deed") : i = 3 := by
  subst e
  have : i = 0 ∨ i = 1 ∨ i = 2 ∨ i = 3 ∨ i = 4 ∨ i = 5 := by omega
  rcases this with rfl | rfl | rfl | rfl | rfl | rfl
  case inr.inr.inr.inl => rfl
  all_goals exact absurd h (by decide +kernel)
theorem ref_ok (T : TX P w K mg base a) : RefOk P w K mg base (classes a) "_law_refused" 20 := by
  refine ref_of (k := 20) (j := 3) (N := n__law_refused) (ps := ["_law_work", "_law_word", "_law_value"]) T.h__law_refused sc__law_refused rfl rfl rfl (fun _ _ _ _ _ _ us hl => match us, hl with | [_, _, _], _ => rfl) rfl (.inl rfl) rfl rfl rfl T.g_ShelfError (fun C hC => (T.ask C hC).2.1) (by decide) (by decide) (by decide) (by decide)
    (fun f cdv A outer s H hr => ⟨_, _, fun a0 oe cls d pn hz hf hot => ss_cons (s_set (i := 4) sc__law_refused.nd (d_lst false (a_cons (d_callB (call_ask hz.zc hf) cd_ask T.b_isinstance (by decide +kernel) (a_cons (d_v 3) (a_cons (d_glob T.g_BadWidth) a_nil))) (a_cons (d_callB (call_ask hz.zc hf) cd_ask T.b_isinstance (by decide +kernel) (a_cons (d_v 3) (a_cons (d_glob T.g_BadRule) a_nil))) (a_cons (d_callB (call_ask hz.zc hf) cd_ask T.b_isinstance (by decide +kernel) (a_cons (d_v 3) (a_cons (d_glob T.g_BadPattern) a_nil))) (a_cons (d_callB (call_ask hz.zc hf) cd_ask T.b_isinstance (by decide +kernel) (a_cons (d_v 3) (a_cons (d_glob T.g_BadDeed) a_nil))) (a_nil)))))))
    (ss_cons (s_set (i := 4) sc__law_refused.nd (d_add false (d_v 4) (d_lst false (a_cons (d_callB (call_ask hz.zc hf) cd_ask T.b_isinstance (by decide +kernel) (a_cons (d_v 3) (a_cons (d_glob T.g_BadKey) a_nil))) (a_cons (d_callB (call_ask hz.zc hf) cd_ask T.b_isinstance (by decide +kernel) (a_cons (d_v 3) (a_cons (d_glob T.g_BadNumber) a_nil))) (a_nil))))))
    (ss_cons (s_set (i := 5) sc__law_refused.nd (d_lst false (a_cons (d_str) (a_cons (d_str) (a_cons (d_str) (a_cons (d_str) (a_cons (d_str) (a_cons (d_str) (a_nil)))))))))
    (ss_cons (s_if (DW.t (w_or (t_not (t_val (d_callB (call_ask hz.zc hf) cd_ask T.b_isinstance (by decide +kernel) (a_cons (d_v 3) (a_cons (d_type (T := "ValueError") T.b_ValueError (by decide +kernel)) a_nil))))) (w_or1 (t_cmp (op_neAll (u64H (roomMark hr))) opd_ne (d_v 4) (d_lcH false (i := 6) (.inr hot) sc__law_refused.nd (d_v 5) (blkOk_by (own := [("_law_one", 6)]) (N := n__law_refused) (sc := defScope s__law_refused) (by decide +kernel)) (fun _ _ _ _ _ => DG.p (K := K) (g_name (i := 6) sc__law_refused.nd)) (fun _ _ _ _ _ => ts_nil) (fun _ _ _ _ _ => d_cmp (op_eqAll (u64H (roomMark hr))) opd_eq (d_v 1) (d_v 6) (nomark _))) (nomark _)))))
    (ss_one (s_ret (d_bl)))
    (ss_nil))
    (ss_cons (s_if (t_cmp (op_eqAll (u64H (roomMark hr))) opd_eq (d_v 1) (d_str) (nomark _))
    (ss_one (s_ret (d_callH (hdef_alike T) ((roomMark hr).mono (j := 2) (by decide)) hot (a_cons (d_xf T.xfP T.noP hz.zc hf (d_v 3)) (a_cons (d_v 2) (a_nil))))))
    (ss_nil))
    (ss_one (s_ret (d_or (d_cmp (op_neAll (u64H (roomMark hr))) opd_ne (d_v 1) (d_str) (nomark _)) (d_one (d_callH (hdef_alike T) ((roomMark hr).mono (j := 2) (by decide)) hot (a_cons (d_xf T.xfD T.noD hz.zc hf (d_v 3)) (a_cons (d_v 2) (a_nil)))))))))))), ?_⟩)
  rintro a0 p C d fo word val m RT ⟨i, hi, hw, hfo⟩ d1 d2 q
  have mem : C ∈ classes a := List.mem_of_getElem? hi
  have dd : d = none ∨ ∃ dd fs, d = some dd ∧ m dd = some (.raw (.xd fs)) := by
    rcases hfo with ⟨e, _⟩ | ⟨e, _⟩ | ⟨e, _⟩
    · exact .inl (d1 e)
    · obtain ⟨x, h1, h2⟩ := d2 _ _ e
      exact .inr ⟨x, _, h1, h2⟩
    · obtain ⟨x, h1, h2⟩ := d2 _ _ e
      exact .inr ⟨x, _, h1, h2⟩
  have kq : ∀ (j : Nat) (Cj : Addr), (classes a)[j]? = some Cj → ∀ Q : D → Mu → Prop, Q (.bl (decide (i = j))) m → askD K a0 (.ref C) d [.adr a0, .adr Cj] m Q := fun j Cj hj Q q => ⟨C, _, _, rfl, (T.ask C mem).1, rfl, .inl ⟨Cj, rfl, T.one i j C Cj hi hj⟩, dd, q⟩
  refine q_asg (.list ([decide (i = 0), decide (i = 1), decide (i = 2), decide (i = 3)].map D.bl)) (fun Q q => ?_) ?_
  · walk_at "dx"
    refine kq 0 a.CW rfl _ (kq 1 a.CR rfl _ (kq 2 a.CP rfl _ (kq 3 a.CD rfl _ ⟨by decide, q⟩)))
  refine q_asg (.list ([decide (i = 0), decide (i = 1), decide (i = 2), decide (i = 3), decide (i = 4), decide (i = 5)].map D.bl)) (fun Q q => ?_) ?_
  · walk_at "dx"
    refine kq 4 a.CK rfl _ (kq 5 a.CN rfl _ ⟨by decide, ?_⟩)
    exact ⟨by decide, q⟩
  refine q_asg (.list (refWords.map D.str)) (fun Q q => ?_) ?_
  · walk_at "dx"
    exact ⟨by decide, q⟩
  have hi6 : i < 6 := by
    have := (List.getElem?_eq_some_iff.mp hi).1
    simpa [classes] using this
  refine q_when false (fun Q q => ?_) nofun (fun _ => ?_)
  · walk_at "dx"
    refine ⟨C, _, _, rfl, (T.ask C mem).1, rfl, .inr ⟨_, rfl, (T.ask C mem).2.2⟩, dd, ?_⟩
    refine ⟨true, rfl, ?_⟩
    rw [if_neg (by decide)]
    refine ⟨_, rfl, _, rfl, ?_⟩
    refine lc_mapAll (en := D.str) (l := refWords) (fun x => .bl (decide (word = x))) (fun x hx Q' q' => ?_) (by decide) ?_
    · walk_at "dx"
      exact q'
    refine bl_ne (Q := fun d m1 => ∃ k, d = .bl k ∧ Q k m1) [decide (i = 0), decide (i = 1), decide (i = 2), decide (i = 3), decide (i = 4), decide (i = 5)] [decide (word = "width"), decide (word = "rule"), decide (word = "pattern"), decide (word = "deed"), decide (word = "key"), decide (word = "number")] ?_ ⟨_, rfl, q⟩
    exact kinds_eq hi6 hw
  refine q_when (decide (word = Str.ofString "pattern")) (fun Q q => ?_) (fun hp => ?_) (fun hp => ?_)
  · walk_at "dx"
    exact q
  · rw [decide_eq_true_eq] at hp
    have h2 := word_pattern hi6 hw hp
    subst h2
    have hC : C = a.CP := by
      have : a.CP = C := Option.some.inj hi
      exact this.symm
    have e : fo = some (("at" : Str), val) := by
      rcases hfo with ⟨_, h, _⟩ | ⟨e, _⟩ | ⟨_, h⟩
      · exact absurd rfl h
      · exact e
      · cases h
    obtain ⟨x, h1, h3⟩ := d2 _ _ e
    walk_at "dx"
    refine ⟨_, rfl, rfl, by rw [hC], x, _, val, h1, h3, rfl, val, val, rfl, ?_⟩
    rw [decide_eq_true rfl]
    exact q
  · rw [decide_eq_false_iff_not] at hp
    walk_at "dx"
    by_cases hd : word = Str.ofString "deed"
    · rw [if_neg (fun z => z hd)]
      have h2 := word_deed hi6 hw hd
      subst h2
      have hC : C = a.CD := by
        have : a.CD = C := Option.some.inj hi
        exact this.symm
      have e : fo = some (("number" : Str), val) := by
        rcases hfo with ⟨_, _, h⟩ | ⟨_, h⟩ | ⟨e, _⟩
        · exact absurd rfl h
        · cases h
        · exact e
      obtain ⟨x, h1, h3⟩ := d2 _ _ e
      refine ⟨_, rfl, rfl, by rw [hC], x, _, val, h1, h3, rfl, val, val, rfl, ?_⟩
      rw [decide_eq_true rfl]
      exact q
    · rw [if_pos hd]
      exact q
def pre_Shelf_take_out (C : Addr) : Pre := fun ds m Q => ∃ (a b : Addr) (S : Sh) (key : Int), ds = [.adr a, .int key] ∧ ShAt C m a b S ∧ key ∈ S.ks ∧ ∀ m' b', ShAt C m' a b' (S.take key) → Keep m m' a b b' → Q .non m'
theorem len_Shelf_take_out (C : Addr) : ∀ ds m Q, pre_Shelf_take_out C ds m Q → ds.length = 2 := by
  rintro ds m Q ⟨a, b, S, k, rfl, _⟩
  rfl
theorem mdef_take_out (T : TX P w K mg base a) : MDef P w K mg base a.C "take_out" 1 (pre_Shelf_take_out a.C) := by
  refine MDef.of (ps := ["self", "key"]) T.h_Shelf_take_out (fun _ _ _ _ _ _ us hl => match us, hl with | [_, _], _ => rfl) fun f fd F => ok_def F sc_Shelf_take_out (len_Shelf_take_out a.C) fun cdv A outer s H E hr => ⟨_, _, ss_cons (s_if (t_cmp op_notInAll (opd_in true) (d_v 1) (d_fld T.cl T.na_row (d_v 0)) rfl)
    (ss_one (s_never))
    (ss_nil))
    (ss_fzF "row" (ss_one (s_fld T.cl T.na_row (d_lc true sc_Shelf_take_out.nd (own := [("one", 2)]) (i_list (d_fld T.cl T.na_row (d_v 0))) (blkOk_by (own := [("one", 2)]) (N := n_Shelf_take_out) (sc := defScope s_Shelf_take_out) (by decide +kernel)) (fun _ _ _ _ _ => g_name (i := 2) sc_Shelf_take_out.nd) (fun _ _ _ _ _ => ts_nil) (fun _ _ _ _ _ => d_ifx (t_cmp (op_eqAll (u64 hr)) opd_eq (d_v 2) (d_v 1) (nomark _)) (d_non) (d_v 2)) (keeps_name (by decide))) (d_v 0)))), ?_⟩
  generalize a.C = C
  rintro ds m Q ⟨a, b, S, key, rfl, ⟨ok, ha, hb, nab⟩, hn, q⟩
  have hlen : S.row.length = S.p.length := rowOf_len _
  have h6 := ok.w6
  have hkl := ok.len
  refine q_when false (fun Q q => ?_) nofun (fun _ => ?_)
  · walk_at "dx"
    refine ⟨_, ha, _, shF_row, rowD S.row, ?_, rfl, row_flat _, ?_⟩
    · simp only [hb]
    · rw [show (D.int key) = Cod.enc (some key) from rfl, row_in, show decide (some key ∈ S.row) = true from decide_eq_true ((rowOf_mem h6 hkl key).mpr hn)]
      exact q
  refine ⟨a, b, _, _, _, ha, shF_row, hb, nab, ?_⟩
  rw [put_row]
  obtain ⟨i1, i2, i3⟩ := rank_mem ok.inc hn
  refine s_sfldNew (ds := rowD (S.take key).row) (a := a) (fun Q q => ?_) (fun m1 Q q => ?_) ups_same (Nat.lt_of_le_of_lt (Nat.le_of_eq shF_len) (by decide)) (fun c hc nac => ?_)
  · walk_at "dx"
    unfold rowD
    refine lc_mapAll (fun x => Cod.enc (if x = some key then none else x)) (fun x hx Q' q' => ?_) (small_line (by omega)) ?_
    · walk_at "dx"
      cases x with
      | none => exact eq_cod (α := Option Int) none (some key) (by decide) ⟨_, rfl, q'⟩
      | some v =>
        simp only [Option.some.injEq] at q'
        show if v = key then _ else _
        split
        · rename_i hv
          rw [if_pos hv] at q'
          exact q'
        · rename_i hv
          rw [if_neg hv] at q'
          exact q'
    · have e := take_row h6 hkl i1 ok.inc.nodup
      rw [i2] at e
      have e2 : S.row.map (fun x => (Cod.enc (if x = some key then none else x) : D)) = rowD (S.take key).row := by
        unfold rowD Sh.take Sh.row
        simp only
        rw [i3, ← e, List.map_map]
        rfl
      rw [e2]
      exact q
  · walk_at "dx"
    exact q
  · rw [put_row]
    have hmb : ∀ x o, m x = some o → x ≠ a → x ≠ b → (ups (Dq.del m b) a (.ins C (shF S.r S.p.length (.list (rowD S.row)) S.n))) x = some o := fun x o h1 h2 h3 => by
      rw [ups_ne h2]
      unfold Dq.del
      rw [if_neg h3]
      exact h1
    have hpp : S.p.length = (S.take key).p.length := (patOf_len _ _).symm
    refine q _ c ⟨Sh.take_ok ok hn, ?_, by rw [ups_ne nac.symm, ups_same], nac⟩ fun x o h1 h2 h3 => ⟨?_, ?_⟩
    · rw [ups_same, hpp]
      rfl
    · rw [ups_ne h2, ups_ne, hmb x o h1 h2 h3]
      rintro rfl
      rw [hmb x o h1 h2 h3] at hc
      cases hc
    · rintro rfl
      rw [hmb x o h1 h2 h3] at hc
      cases hc
abbrev n__law_shelf : List Str := ["_law_d", "_law_rule_here", "_law_wide", "_law_shelf_here", "_law_key", "_law_ahead"]
theorem sc__law_shelf : FnScope n__law_shelf ["_law_d", "_law_rule_here", "_law_wide"] (defScope s__law_shelf) := ⟨rfl, rfl, rfl, by decide +kernel, rfl, by decide +kernel, by decide +kernel⟩
def pre__law_shelf (a : Ad) : Pre := fun ds m Q => ∃ (d : Addr) (r : Rl) (w : Nat), ds = [.adr d, .str (rt r), .int w] ∧ m d = some (.any Dice) ∧ 1 ≤ w ∧ w ≤ 6 ∧ m a.pS = some (.tab lam_14.qual) ∧ ∀ m', Q (.bl true) m'
theorem len__law_shelf (a : Ad) : ∀ ds m Q, pre__law_shelf a ds m Q → ds.length = 3 := by
  rintro ds m Q ⟨_, _, _, rfl, _⟩
  rfl
theorem def__law_shelf (T : TX P w K mg base a) : Def P w K mg base "_law_shelf" 22 (pre__law_shelf a) := by
  refine Def.ofC (ps := ["_law_d", "_law_rule_here", "_law_wide"]) T.h__law_shelf (fun _ _ _ _ _ _ us hl => match us, hl with | [_, _, _], _ => rfl) fun f fd F => ok_defC F sc__law_shelf (len__law_shelf a) fun A outer s H E hr => ⟨_, _, ss_cons (s_set (i := 3) sc__law_shelf.nd (d_make (idef_Shelf T) (hr.mono (by decide)) T.mgC (a_cons (d_v 1) (a_cons (d_v 2) (a_nil)))))
    (ss_cons (s_for (i_range1 T.b_range (a_cons (d_v 2) (a_nil))) (g_name (i := 4) sc__law_shelf.nd)
    (ss_one (s_expr (d_meth (mdef_put_in T) T.cl (hr.mono (by decide)) (d_v 3) (a_cons (d_mul false (d_v 4) (d_int)) (a_nil))))))
    (ss_cons (s_set (i := 5) sc__law_shelf.nd (d_meth0 (mdef_standing T) T.cl (hr.mono (by decide)) (d_v 3)))
    (ss_cons (s_if (t_not (t_val (d_ref (cn := cn__law_shelf) (ref_ok T) (hr.mono (by decide)) (fun _ _ _ h => h) (fun y hy => ⟨rfl, cc__law_shelf y hy⟩) (a_cons (d_lam lam_14 ["_law_d", "_law_shelf_here", "_law_wide"] T.t_S ln_14) (a_cons (d_str) (a_cons (d_int) (a_nil)))))))
    (ss_one (s_ret (d_bl)))
    (ss_nil))
    (ss_cons (s_if (t_not (t_val (d_ref (cn := cn__law_shelf) (ref_ok T) (hr.mono (by decide)) (fun _ _ _ h => h) (fun y hy => ⟨rfl, cc__law_shelf y hy⟩) (a_cons (d_lam lam_15 ["_law_d", "_law_shelf_here", "_law_wide"] T.t_S ln_15) (a_cons (d_str) (a_cons (d_int) (a_nil)))))))
    (ss_one (s_ret (d_bl)))
    (ss_nil))
    (ss_cons (s_if (t_not (t_val (d_ref (cn := cn__law_shelf) (ref_ok T) (hr.mono (by decide)) (fun _ _ _ h => h) (fun y hy => ⟨rfl, cc__law_shelf y hy⟩) (a_cons (d_lam lam_16 ["_law_d", "_law_shelf_here", "_law_wide"] T.t_S ln_16) (a_cons (d_str) (a_cons (d_int) (a_nil)))))))
    (ss_one (s_ret (d_bl)))
    (ss_nil))
    (ss_one (s_ret (d_and (d_cmp (op_eqAll (u64 hr)) opd_eq (d_meth0 (mdef_standing T) T.cl (hr.mono (by decide)) (d_v 3)) (d_v 5) (nomark _)) (d_one (d_cmp op_notInAll (opd_in true) (d_non) (d_v 5) rfl)))))))))), ?_⟩
  rintro ds m Q ⟨d, r, w, rfl, hd, h1, h6, tab, q⟩
  refine q_asg' (P := fun x m1 => Grow m m1 ∧ ∃ s b, x = .adr s ∧ m s = none ∧ m b = none ∧ ShAt a.C m1 s b ⟨r, List.replicate w false, [], 0⟩) (fun Q q => ?_) ?_
  · walk_at "dx"
    intro s hs
    refine ⟨s, r, w, rfl, ups_same, h1, h6, fun m' b' hS kp => ⟨rfl, q _ _ ?_⟩⟩
    have gm := Grow.new (o := .ins a.C []) hs
    have g1 : Grow m m' := fun x o e => (kp x o (gm x o e) (mne e hs) (mne e hs)).1
    refine ⟨g1, s, b', rfl, hs, ?_, hS⟩
    cases e : m b' with
    | none => rfl
    | some o => exact absurd rfl (kp b' o (gm b' o e) (mne e hs) (mne e hs)).2
  rintro _ m1 ⟨gm1, s, b0, rfl, hs, hb0, hS0⟩
  refine q_for ((List.range w).map fun i : Nat => .int (i : Nat)) (fun Q q => ?_) (fun i e m' => Grow m m' ∧ ∃ b S x4, e = [some (.adr d), some (.str (rt r)), some (.int w), some (.adr s), x4, none] ∧ m b = none ∧ ShAt a.C m' s b S ∧ S.p.length = w ∧ S.ks = evens i) ⟨gm1, b0, _, none, rfl, hb0, hS0, by simp, rfl⟩ ?_ ?_
  · walk_at "dx"
    exact ⟨by omega, by omega, by rw [Int.toNat_natCast]; exact q⟩
  · rintro i x hx e m' ⟨gm, b, S, x4, rfl, hb, hS, hSw, hSk⟩ nx hnx
    rw [List.getElem?_map] at hx
    obtain ⟨j, hj, rfl⟩ := Option.map_eq_some_iff.mp hx
    obtain ⟨hi, rfl⟩ := List.getElem?_eq_some_iff.mp hj
    rw [List.length_range] at hi
    rw [List.getElem_range]
    walk_at "dg"
    refine s_dropP (fun m2 => Grow m m2 ∧ ∃ b' , m b' = none ∧ ShAt a.C m2 s b' (S.put (2 * (i : Int)))) (fun Q q => ?_) ?_
    · walk_at "dx"
      refine ⟨_, hS.ha, shF_put_in, .inl ⟨by omega, by omega⟩, s, b, S, 2 * (i : Int), by rw [Int.mul_comm], hS, by rw [hSk]; exact evens_next i, by rw [hSk, evens_len, hSw]; exact hi, fun m2 b2 hS2 kp => q _ _ ?_⟩
      obtain ⟨g1, g2⟩ := gm.keep kp hs hb
      exact ⟨g1, b2, g2, hS2⟩
    · rintro m2 ⟨g2, b2, hb2, hS2⟩
      refine hnx _ _ ⟨g2, b2, _, _, rfl, hb2, hS2, ?_, ?_⟩
      · show (patOf _ _).length = w
        rw [patOf_len, hSw]
      · show insAt S.ks (rankM S.ks _) _ = _
        rw [hSk, evens_put]
  rintro e m2 ⟨gm2, b, S, x4, rfl, hb, hS, hSw, hSk⟩
  rw [List.length_map, List.length_range] at hSk
  clear hS0 gm1 hb0
  refine q_asg' (P := fun x m3 => Grow m2 m3 ∧ ∃ c, x = .adr c ∧ m3 c = some (.lst (rowD S.row))) (fun Q q => ?_) ?_
  · walk_at "dx"
    exact ⟨_, hS.ha, shF_standing, s, b, S, rfl, hS, fun c hc => q _ _ ⟨Grow.new hc, c, rfl, ups_same⟩⟩
  rintro _ m3 ⟨g3, c, rfl, hc⟩
  have gm3 := gm2.trans g3
  have hS3 := hS.grow g3
  refine q_whenP (Grow m3) (fun Q q => ?_) ?_
  · unfold dRef
    walk_at "dx"
    refine ⟨gm3 _ _ tab, fun f0 c0 clo n0 => ?_⟩
    have gf := Grow.new (o := .clo lam_14 c0) n0
    refine refD_own (T := lam_14) (us := [.adr d, .adr s, .int w]) ups_same clo rfl ?_ (lok_14 T) ?_
    · exact own3 0 3 2 ⟨by simp, rfl, rfl⟩ ⟨by simp, rfl, rfl⟩ ⟨by simp, rfl, rfl⟩
    · exact ⟨s, b, d, S, w, rfl, hS3.grow gf, gf _ _ (gm3 _ _ hd), hSw, hSk, fun m2 g2 => ⟨match_key, ⟨true, rfl, q _ (gf.trans g2)⟩⟩⟩
  rintro m4 g4
  have gm4 := gm3.trans g4
  have hS4 := hS3.grow g4
  refine q_whenP (Grow m4) (fun Q q => ?_) ?_
  · unfold dRef
    walk_at "dx"
    refine ⟨gm4 _ _ tab, fun f0 c0 clo n0 => ?_⟩
    have gf := Grow.new (o := .clo lam_15 c0) n0
    refine refD_own (T := lam_15) (us := [.adr d, .adr s, .int w]) ups_same clo rfl ?_ (lok_15 T) ?_
    · exact own3 0 3 2 ⟨by simp, rfl, rfl⟩ ⟨by simp, rfl, rfl⟩ ⟨by simp, rfl, rfl⟩
    · exact ⟨s, b, d, S, w, rfl, hS4.grow gf, gf _ _ (gm4 _ _ hd), hSw, hSk, fun m2 g2 => ⟨match_deed, ⟨true, rfl, q _ (gf.trans g2)⟩⟩⟩
  rintro m5 g5
  have gm5 := gm4.trans g5
  have hS5 := hS4.grow g5
  refine q_whenP (Grow m5) (fun Q q => ?_) ?_
  · unfold dRef
    walk_at "dx"
    refine ⟨gm5 _ _ tab, fun f0 c0 clo n0 => ?_⟩
    have gf := Grow.new (o := .clo lam_16 c0) n0
    refine refD_own (T := lam_16) (us := [.adr d, .adr s, .int w]) ups_same clo rfl ?_ (lok_16 T) ?_
    · exact own3 0 3 2 ⟨by simp, rfl, rfl⟩ ⟨by simp, rfl, rfl⟩ ⟨by simp, rfl, rfl⟩
    · exact ⟨s, b, d, S, w, rfl, hS5.grow gf, gf _ _ (gm5 _ _ hd), hSw, hSk, fun m2 g2 => ⟨match_key, ⟨true, rfl, q _ (gf.trans g2)⟩⟩⟩
  rintro m6 g6
  have hS6 := hS5.grow g6
  have hc6 := g6 _ _ (g5 _ _ (g4 _ _ hc))
  walk_at "dx"
  refine ⟨_, hS6.ha, shF_standing, s, b, S, rfl, hS6, fun c2 hc2 => ?_⟩
  refine eq_adrs (α := Option Int) S.row S.row ups_same ((ups_ne (mne hc6 hc2)).trans hc6) (by decide) ?_
  rw [decide_eq_true rfl]
  refine ⟨true, rfl, ?_⟩
  rw [if_pos rfl]
  refine ⟨rowD S.row, ?_, rfl, row_flat _, ?_⟩
  · rw [ups_ne (mne hc6 hc2), hc6]
  · rw [show (D.non : D) = Cod.enc (none : Option Int) from rfl, row_in, decide_eq_false (full_in hS6.ok (by rw [hSk, evens_len, hSw]))]
    exact q _
abbrev n_played : List Str := ["rule", "wide", "deeds", "pattern", "found", "number", "deed", "told"]
theorem sc_played : FnScope n_played ["rule", "wide", "deeds"] (defScope s_played) := ⟨rfl, rfl, rfl, by decide +kernel, rfl, by decide +kernel, by decide +kernel⟩
def preX_played (a : Ad) : PreX := fun ds m Q xd => (∃ (s : Str) (x y : D), ds = [.str s, x, y] ∧ noRule s ∧ xd a.CR none m) ∨ (∃ (r : Rl) (w : Int) (y : D), ds = [.str (rt r), .int w, y] ∧ badWide w ∧ xd a.CW none m) ∨ ∃ (r : Rl) (w : Nat) (l : List (Wd × Nat)) (o : List Nat × List Bool) (word : Str) (k : Int) (rest : List D), ds = [.str (rt r), .int w, spoilt l word k rest] ∧ 1 ≤ w ∧ w ≤ 6 ∧ l.length ≤ 200 ∧ playM r (List.replicate w false) l = some o ∧ stepM r o.2 word k = none ∧ ∀ m', Grow m m' → xd a.CD (some ("number", l.length)) m'
theorem lenX_played (a : Ad) : ∀ ds m Q xd, preX_played a ds m Q xd → ds.length = 3 := by
  rintro ds m Q xd (⟨_, _, _, rfl, _⟩ | ⟨_, _, _, rfl, _⟩ | ⟨_, _, _, _, _, _, _, rfl, _⟩)
  all_goals rfl
theorem defX_played (T : TX P w K mg base a) : DefX P w K mg base "played" 4 (preX_played a) := by
  refine DefX.of (ps := ["rule", "wide", "deeds"]) T.h_played (fun _ _ _ _ _ _ us hl => match us, hl with | [_, _, _], _ => rfl) fun f fd F => ok_defX F sc_played (lenX_played a) fun cdv A outer s H E hr tk hp => ⟨_, _, xx_cons (x_expr (x_call (defX_need_rule T) (hr.mono (by decide)) tk (a_cons (d_v 0) (a_nil))))
    (xx_cons (x_expr (x_call (defX_need_width T) (hr.mono (by decide)) tk (a_cons (d_v 1) (a_nil))))
    (xx_cons (DS.x (s_set (i := 3) sc_played.nd (d_mul false (d_glob T.c_FREE) (d_v 1))))
    (xx_cons (DS.x (s_set (i := 4) sc_played.nd (d_lst true (a_nil))))
    (xx_cons (x_for hp (i_enum T.b_enumerate (a_cons (d_v 2) (a_nil))) (g_tup (n := 2) (gs_cons (g_name (i := 5) sc_played.nd) (gs_cons (g_name (i := 6) sc_played.nd) (gs_nil))))
    (xx_cons (DS.x (s_set (i := 7) sc_played.nd (d_call (def_step T) (hr.mono (by decide)) (a_cons (d_v 0) (a_cons (d_v 3) (a_cons (d_v 6) (a_nil)))))))
    (xx_cons (x_if (t_cmp op_isN opd_isN (d_v 7) (d_non) (nomark _))
    (xx_one (x_raise1 T.e_BadDeed (hr.mono (by decide)) tk (d_v 5)))
    (DSs.x ss_nil))
    (DSs.x (ss_cons (s_expr (d_bm PySem.F.plainAttrs_list PySem.F.slot_list_append PySem.F.type_list_append mt_append md_append tyL' (d_v 4) (a_cons (d_ix (d_v 7) (d_int)) (a_nil))))
    (ss_one (s_set (i := 3) sc_played.nd (d_ix (d_v 7) (d_int)))))))))
    (DSs.x (ss_one (s_ret (d_tup (a_cons (d_v 4) (a_cons (d_v 3) (a_nil))))))))))), ?_⟩
  rintro ds m Q xd (⟨s, x, y, rfl, hs, q⟩ | ⟨r, w, y, rfl, hw, q⟩ | ⟨r, w, l, o, word, k, rest, rfl, h1, h2, h3, ho, hbad, q⟩)
  · walk_at "dxs"
    exact .inr ⟨_, rfl, hs, q⟩
  · walk_at "dxs"
    exact .inl ⟨r, rfl, .inr ⟨_, rfl, hw, q⟩⟩
  walk_at "xs"
  refine q_drop (fun Q q => ?_) ?_
  · walk_at "dx"
    exact .inl ⟨r, rfl, q _⟩
  refine q_drop (fun Q q => ?_) ?_
  · walk_at "dx"
    exact .inl ⟨w, rfl, by omega, by omega, q _⟩
  refine q_asg (.str (ps (List.replicate w false))) (fun Q q => ?_) ?_
  · walk_at "dx"
    refine ⟨zeros_ok h1 h2, ?_⟩
    rw [zeros_eq h1 h2]
    exact q
  refine q_new (ds := []) (fun Q q => ?_) fun c hc0 => ?_
  · walk_at "dx"
    exact ⟨Nat.zero_le _, q⟩
  refine q_for (enumD 0 (deedsD l ++ .tuple [.str word, .int k] :: rest)) (fun Q q => ?_) (fun i env m' => i ≤ l.length ∧ ∃ ns p' x y z, m' = ups m c (.lst (nums ns)) ∧ ns.length = i ∧ p'.length = w ∧ env = [some (.str (rt r)), some (.int w), some (spoilt l word k rest), some (.str (ps p')), some (.adr c), x, y, z] ∧ ∃ o', playM r p' (l.drop i) = some o' ∧ o = (ns ++ o'.1, o'.2))
    ⟨Nat.zero_le _, [], List.replicate w false, _, _, _, rfl, rfl, by simp, rfl, o, ho, by simp⟩ ?_ ?_
  · unfold spoilt
    walk_at "dx"
    exact q
  · rintro i d hd env m' ⟨hle, ns, p', x, y, z, rfl, hl, hp, rfl, o', ho', e⟩ nx hn
    rw [enumD_get] at hd
    obtain ⟨t, ht, rfl⟩ := Option.map_eq_some_iff.mp hd
    by_cases hi : i < l.length
    · rw [List.getElem?_append_left (by rw [deedsD, List.length_map]; exact hi)] at ht
      unfold deedsD at ht
      rw [List.getElem?_map] at ht
      obtain ⟨⟨wd, kk⟩, hc, rfl⟩ := Option.map_eq_some_iff.mp ht
      have hdr : l.drop i = (wd, kk) :: l.drop (i + 1) := by
        rw [← (List.getElem?_eq_some_iff.mp hc).2, List.getElem_cons_drop]
      rw [hdr, playM] at ho'
      cases hs : stepW r p' (wd, kk) with
      | none =>
        rw [hs] at ho'
        cases ho'
      | some nq =>
        obtain ⟨n, q'⟩ := nq
        rw [hs] at ho'
        simp only at ho'
        cases hpl : playM r q' (l.drop (i + 1)) with
        | none =>
          rw [hpl] at ho'
          cases ho'
        | some o2 =>
          rw [hpl] at ho'
          cases ho'
          have hq' : q'.length = w := by rw [← hp]; exact stepM_len hs
          walk_at "dg"
          refine q_asg (stepD (some (n, q'))) (fun Q q => ?_) ?_
          · walk_at "dx"
            refine ⟨r, p', wt wd, (kk : Nat), rfl, by omega, ?_⟩
            rw [show stepM r p' (wt wd) (kk : Nat) = some (n, q') from hs]
            exact q
          refine q_when false (fun Q q => ?_) (fun hb => by cases hb) (fun _ => ?_)
          · walk_at "dx"
            exact q
          refine q_dropM (m1 := ups m c (.lst (nums (ns ++ [n])))) (fun Q q => ?_) ?_
          · unfold stepD
            walk_at "dx"
            rw [nums_len, nums_append]
            exact ⟨small_line (by omega), q _⟩
          refine s_asg' (.str (ps q')) (fun Q q => ?_) ?_
          · unfold stepD
            walk_at "dx"
            exact q
          refine hn _ _ ⟨by omega, ns ++ [n], q', _, _, _, rfl, by simp [hl], hq', rfl, o2, hpl, ?_⟩
          rw [e]
          simp
    · have hie : i = l.length := by omega
      subst hie
      rw [List.getElem?_append_right (by rw [deedsD, List.length_map]; exact Nat.le_refl _), show l.length - (deedsD l).length = 0 by rw [deedsD, List.length_map]; omega] at ht
      cases ht
      rw [List.drop_length] at ho'
      cases ho'
      have ep : o.2 = p' := by rw [e]
      rw [ep] at hbad
      walk_at "dg"
      refine q_asg .non (fun Q q => ?_) ?_
      · walk_at "dx"
        refine ⟨r, p', word, k, rfl, by omega, ?_⟩
        rw [hbad]
        exact q
      refine q_when true (fun Q q => ?_) (fun _ => ?_) (fun hb => by cases hb)
      · walk_at "dx"
        exact q
      · walk_at "dx"
        rw [Nat.zero_add]
        exact q _ (Grow.new hc0)
  · rintro env m' ⟨hle, _⟩
    rw [enumD_length, List.length_append, deedsD, List.length_map, List.length_cons] at hle
    omega
def preL_7 (a : Ad) : PreX := fun ds m Q xd => (∃ (s : Str) (w : Int), ds = [.str s, .int w] ∧ noRule s ∧ ∀ m', Grow m m' → xd a.CR (none) m') ∨ ∃ (r : Rl) (w : Int), ds = [.str (rt r), .int w] ∧ badWide w ∧ ∀ m', Grow m m' → xd a.CW (none) m'
theorem lok_7 (T : TX P w K mg base a) : LamOk P w K mg base 20 lam_7 ["_law_rule_here", "_law_wide"] (spX K (preL_7 a)) := by
  refine (ok_lam (k := 4) ls_7 (lamBd_nil rfl fun _ _ _ _ _ => rfl) fun A outer s H E cl f c hr tk => ⟨_, _, x_call (defX_played T) (hr.mono (by decide)) tk (a_cons (d_v 0) (a_cons (d_v 1) (a_cons (d_lst false (a_cons (d_tup (a_cons (d_str) (a_cons (d_int) (a_nil)))) (a_nil))) (a_nil)))), ?_⟩).mono (by decide)
  rintro ds m Q xd (⟨s, w, rfl, hs, q⟩ | ⟨r, w, rfl, hw, q⟩)
  · walk_at "dx"
    refine ⟨by decide, by decide, ?_⟩
    exact .inl ⟨s, _, _, rfl, hs, q _ (Grow.refl _)⟩
  · walk_at "dx"
    refine ⟨by decide, by decide, ?_⟩
    exact .inr (.inl ⟨r, w, _, rfl, hw, q _ (Grow.refl _)⟩)
def preX_Shelf___init__ (a : Ad) : PreX := fun ds m Q xd => (∃ (s : Str) (s0 x : D), ds = [s0, .str s, x] ∧ noRule s ∧ xd a.CR none m) ∨ (∃ (r : Rl) (w : Int) (s0 : D), ds = [s0, .str (rt r), .int w] ∧ badWide w ∧ xd a.CW none m)
theorem lenX_Shelf___init__ (a : Ad) : ∀ ds m Q xd, preX_Shelf___init__ a ds m Q xd → ds.length = 3 := by
  rintro ds m Q xd (⟨_, _, _, rfl, _⟩ | ⟨_, _, _, rfl, _⟩)
  all_goals rfl
theorem idefX_Shelf (T : TX P w K mg base a) : IDefX P w K mg base a.C 4 (preX_Shelf___init__ a) := by
  refine IDefX.of (ps := ["self", "rule", "wide"]) T.h_Shelf___init__ (fun _ _ _ _ _ _ us hl => match us, hl with | [_, _, _], _ => rfl) fun f fd F => ok_defX F sc_Shelf___init__ (lenX_Shelf___init__ a) fun cdv A outer s H E hr tk hp => ⟨_, _, xx_cons (x_expr (x_call (defX_need_rule T) (hr.mono (by decide)) tk (a_cons (d_v 1) (a_nil))))
    (xx_cons (x_expr (x_call (defX_need_width T) (hr.mono (by decide)) tk (a_cons (d_v 2) (a_nil))))
    (DSs.x ss_never)), ?_⟩
  rintro ds m Q xd (⟨s, s0, x, rfl, hs, q⟩ | ⟨r, w, s0, rfl, hw, q⟩)
  · walk_at "dxs"
    exact .inr ⟨_, rfl, hs, q⟩
  · walk_at "dxs"
    refine .inl ⟨r, rfl, .inr ⟨_, rfl, hw, q⟩⟩
def preL_8 (a : Ad) : PreX := fun ds m Q xd => (∃ (s : Str) (w : Int), ds = [.str s, .int w] ∧ noRule s ∧ ∀ m', Grow m m' → xd a.CR (none) m') ∨ ∃ (r : Rl) (w : Int), ds = [.str (rt r), .int w] ∧ badWide w ∧ ∀ m', Grow m m' → xd a.CW (none) m'
theorem lok_8 (T : TX P w K mg base a) : LamOk P w K mg base 20 lam_8 ["_law_rule_here", "_law_wide"] (spX K (preL_8 a)) := by
  refine (ok_lam (k := 5) ls_8 (lamBd_nil rfl fun _ _ _ _ _ => rfl) fun A outer s H E cl f c hr tk => ⟨_, _, x_make (idefX_Shelf T) (hr.mono (by decide)) tk T.mgC (a_cons (d_v 0) (a_cons (d_v 1) (a_nil))), ?_⟩).mono (by decide)
  rintro ds m Q xd (⟨s, w, rfl, hs, q⟩ | ⟨r, w, rfl, hw, q⟩)
  · walk_at "dx"
    intro c hc
    exact .inl ⟨s, _, _, rfl, hs, q _ (Grow.new hc)⟩
  · walk_at "dx"
    intro c hc
    exact .inr ⟨r, w, _, rfl, hw, q _ (Grow.new hc)⟩
abbrev n_worst : List Str := ["rule", "wide", "most", "pattern", "deeds"]
theorem sc_worst : FnScope n_worst ["rule", "wide"] (defScope s_worst) := ⟨rfl, rfl, rfl, by decide +kernel, rfl, by decide +kernel, by decide +kernel⟩
def preX_worst (a : Ad) : PreX := fun ds m Q xd => (∃ (s : Str) (x : D), ds = [.str s, x] ∧ noRule s ∧ xd a.CR none m) ∨ (∃ (r : Rl) (w : Int), ds = [.str (rt r), .int w] ∧ badWide w ∧ xd a.CW none m)
theorem lenX_worst (a : Ad) : ∀ ds m Q xd, preX_worst a ds m Q xd → ds.length = 2 := by
  rintro ds m Q xd (⟨_, _, rfl, _⟩ | ⟨_, _, rfl, _⟩)
  all_goals rfl
theorem defX_worst (T : TX P w K mg base a) : DefX P w K mg base "worst" 4 (preX_worst a) := by
  refine DefX.of (ps := ["rule", "wide"]) T.h_worst (fun _ _ _ _ _ _ us hl => match us, hl with | [_, _], _ => rfl) fun f fd F => ok_defX F sc_worst (lenX_worst a) fun cdv A outer s H E hr tk hp => ⟨_, _, xx_cons (x_expr (x_call (defX_need_rule T) (hr.mono (by decide)) tk (a_cons (d_v 0) (a_nil))))
    (xx_cons (x_expr (x_call (defX_need_width T) (hr.mono (by decide)) tk (a_cons (d_v 1) (a_nil))))
    (DSs.x ss_never)), ?_⟩
  rintro ds m Q xd (⟨s, x, rfl, hs, q⟩ | ⟨r, w, rfl, hw, q⟩)
  · walk_at "dxs"
    exact .inr ⟨_, rfl, hs, q⟩
  · walk_at "dxs"
    refine .inl ⟨r, rfl, .inr ⟨_, rfl, hw, q⟩⟩
def preL_9 (a : Ad) : PreX := fun ds m Q xd => (∃ (s : Str) (w : Int), ds = [.str s, .int w] ∧ noRule s ∧ ∀ m', Grow m m' → xd a.CR (none) m') ∨ ∃ (r : Rl) (w : Int), ds = [.str (rt r), .int w] ∧ badWide w ∧ ∀ m', Grow m m' → xd a.CW (none) m'
theorem lok_9 (T : TX P w K mg base a) : LamOk P w K mg base 20 lam_9 ["_law_rule_here", "_law_wide"] (spX K (preL_9 a)) := by
  refine (ok_lam (k := 4) ls_9 (lamBd_nil rfl fun _ _ _ _ _ => rfl) fun A outer s H E cl f c hr tk => ⟨_, _, x_call (defX_worst T) (hr.mono (by decide)) tk (a_cons (d_v 0) (a_cons (d_v 1) (a_nil))), ?_⟩).mono (by decide)
  rintro ds m Q xd (⟨s, w, rfl, hs, q⟩ | ⟨r, w, rfl, hw, q⟩)
  · walk_at "dx"
    exact .inl ⟨s, _, rfl, hs, q _ (Grow.refl _)⟩
  · walk_at "dx"
    exact .inr ⟨r, w, rfl, hw, q _ (Grow.refl _)⟩
abbrev n_purse : List Str := ["rule", "wide", "most", "heights", "top", "pattern"]
theorem sc_purse : FnScope n_purse ["rule", "wide"] (defScope s_purse) := ⟨rfl, rfl, rfl, by decide +kernel, rfl, by decide +kernel, by decide +kernel⟩
def preX_purse (a : Ad) : PreX := fun ds m Q xd => (∃ (s : Str) (x : D), ds = [.str s, x] ∧ noRule s ∧ xd a.CR none m) ∨ (∃ (r : Rl) (w : Int), ds = [.str (rt r), .int w] ∧ badWide w ∧ xd a.CW none m)
theorem lenX_purse (a : Ad) : ∀ ds m Q xd, preX_purse a ds m Q xd → ds.length = 2 := by
  rintro ds m Q xd (⟨_, _, rfl, _⟩ | ⟨_, _, rfl, _⟩)
  all_goals rfl
theorem defX_purse (T : TX P w K mg base a) : DefX P w K mg base "purse" 4 (preX_purse a) := by
  refine DefX.of (ps := ["rule", "wide"]) T.h_purse (fun _ _ _ _ _ _ us hl => match us, hl with | [_, _], _ => rfl) fun f fd F => ok_defX F sc_purse (lenX_purse a) fun cdv A outer s H E hr tk hp => ⟨_, _, xx_cons (x_expr (x_call (defX_need_rule T) (hr.mono (by decide)) tk (a_cons (d_v 0) (a_nil))))
    (xx_cons (x_expr (x_call (defX_need_width T) (hr.mono (by decide)) tk (a_cons (d_v 1) (a_nil))))
    (DSs.x ss_never)), ?_⟩
  rintro ds m Q xd (⟨s, x, rfl, hs, q⟩ | ⟨r, w, rfl, hw, q⟩)
  · walk_at "dxs"
    exact .inr ⟨_, rfl, hs, q⟩
  · walk_at "dxs"
    refine .inl ⟨r, rfl, .inr ⟨_, rfl, hw, q⟩⟩
def preL_10 (a : Ad) : PreX := fun ds m Q xd => (∃ (s : Str) (w : Int), ds = [.str s, .int w] ∧ noRule s ∧ ∀ m', Grow m m' → xd a.CR (none) m') ∨ ∃ (r : Rl) (w : Int), ds = [.str (rt r), .int w] ∧ badWide w ∧ ∀ m', Grow m m' → xd a.CW (none) m'
theorem lok_10 (T : TX P w K mg base a) : LamOk P w K mg base 20 lam_10 ["_law_rule_here", "_law_wide"] (spX K (preL_10 a)) := by
  refine (ok_lam (k := 4) ls_10 (lamBd_nil rfl fun _ _ _ _ _ => rfl) fun A outer s H E cl f c hr tk => ⟨_, _, x_call (defX_purse T) (hr.mono (by decide)) tk (a_cons (d_v 0) (a_cons (d_v 1) (a_nil))), ?_⟩).mono (by decide)
  rintro ds m Q xd (⟨s, w, rfl, hs, q⟩ | ⟨r, w, rfl, hw, q⟩)
  · walk_at "dx"
    exact .inl ⟨s, _, rfl, hs, q _ (Grow.refl _)⟩
  · walk_at "dx"
    exact .inr ⟨r, w, rfl, hw, q _ (Grow.refl _)⟩
def preL_11 (a : Ad) : PreX := fun ds m Q xd => (∃ (s : Str) (w : Int), ds = [.str s, .int w] ∧ noRule s ∧ ∀ m', Grow m m' → xd a.CR (none) m') ∨ ∃ (r : Rl) (w : Int), ds = [.str (rt r), .int w] ∧ badWide w ∧ ∀ m', Grow m m' → xd a.CW (none) m'
theorem lok_11 (T : TX P w K mg base a) : LamOk P w K mg base 20 lam_11 ["_law_rule_here", "_law_wide"] (spX K (preL_11 a)) := by
  refine (ok_lam (k := 4) ls_11 (lamBd_nil rfl fun _ _ _ _ _ => rfl) fun A outer s H E cl f c hr tk => ⟨_, _, x_call (defX_shows T) (hr.mono (by decide)) tk (a_cons (d_v 0) (a_cons (d_v 1) (a_cons (d_neg (d_int)) (a_cons (d_int) (a_cons (d_lst false (a_nil)) (a_nil)))))), ?_⟩).mono (by decide)
  rintro ds m Q xd (⟨s, w, rfl, hs, q⟩ | ⟨r, w, rfl, hw, q⟩)
  · walk_at "dx"
    refine ⟨by decide, ?_⟩
    exact .inl ⟨s, _, _, _, _, rfl, hs, q _ (Grow.refl _)⟩
  · walk_at "dx"
    refine ⟨by decide, ?_⟩
    exact .inr (.inl ⟨r, w, _, _, _, rfl, hw, q _ (Grow.refl _)⟩)
abbrev n__law_works : List Str := ["_law_rule_here", "_law_wide", "_law_works_here"]
theorem sc__law_works : FnScope n__law_works ["_law_rule_here", "_law_wide"] (defScope s__law_works) := ⟨rfl, rfl, rfl, by decide +kernel, rfl, by decide +kernel, by decide +kernel⟩
def pre__law_works (a : Ad) : Pre := fun ds m Q => ∃ d1 d2, ds = [d1, d2] ∧ m a.pW = some (.tab lam_7.qual) ∧ ∀ (l a1 a2 f0 f1 f2 f3 f4 : Addr) (c0 c1 c2 c3 c4 : List (Str × Addr)) (m' : Mu), Grow m m' → m' l = some (.lst [.adr f0, .adr f1, .adr f2, .adr f3, .adr f4]) → m' a1 = some (.cel d1) → m' a2 = some (.cel d2) → (m' f0 = some (.clo lam_7 c0) ∧ CloF [("_law_rule_here", a1), ("_law_wide", a2)] ["_law_rule_here", "_law_wide"] c0) → (m' f1 = some (.clo lam_8 c1) ∧ CloF [("_law_rule_here", a1), ("_law_wide", a2)] ["_law_rule_here", "_law_wide"] c1) → (m' f2 = some (.clo lam_9 c2) ∧ CloF [("_law_rule_here", a1), ("_law_wide", a2)] ["_law_rule_here", "_law_wide"] c2) → (m' f3 = some (.clo lam_10 c3) ∧ CloF [("_law_rule_here", a1), ("_law_wide", a2)] ["_law_rule_here", "_law_wide"] c3) → (m' f4 = some (.clo lam_11 c4) ∧ CloF [("_law_rule_here", a1), ("_law_wide", a2)] ["_law_rule_here", "_law_wide"] c4) → Q (.adr l) m'
theorem clo_to2 {cells : List (Str × Addr)} {a1 a2 : Addr} {c : List (Str × Addr)} (h : CloF cells ["_law_rule_here", "_law_wide"] c) (e1 : cells.lookup ("_law_rule_here" : Str) = some a1) (e2 : cells.lookup ("_law_wide" : Str) = some a2) : CloF [("_law_rule_here", a1), ("_law_wide", a2)] ["_law_rule_here", "_law_wide"] c := by
  refine ⟨h.inj, h.dom, fun y hy => ?_⟩
  obtain ⟨b, h1, h2⟩ := h.all y hy
  refine ⟨b, h1, ?_⟩
  rcases List.mem_cons.mp hy with rfl | hy
  · rw [e1] at h2
    cases h2
    rfl
  · rcases List.mem_cons.mp hy with rfl | hy
    · rw [e2] at h2
      cases h2
      rfl
    · cases hy
theorem len__law_works (a : Ad) : ∀ ds m Q, pre__law_works a ds m Q → ds.length = 2 := by
  rintro ds m Q ⟨_, _, rfl, _⟩
  rfl
theorem def__law_works (T : TX P w K mg base a) : Def P w K mg base "_law_works" 22 (pre__law_works a) := by
  refine def_left (k := 21) (ps := ["_law_rule_here", "_law_wide"]) T.h__law_works sc__law_works (y1 := "_law_rule_here") (y2 := "_law_wide") rfl rfl (cc__law_works _ (by simp)) (cc__law_works _ (by simp)) (by decide) (len__law_works a) (fun _ _ _ _ _ _ us hl => match us, hl with | [_, _], _ => rfl) fun f A outer s H hr => ⟨_, _, r_cons (s_set (i := 2) sc__law_works.nd (d_lst true (a_cons (d_lam lam_7 ["_law_rule_here", "_law_wide"] T.t_W ln_7) (a_nil))))
    (r_cons (s_expr (d_bm PySem.F.plainAttrs_list PySem.F.slot_list_append PySem.F.type_list_append mt_append md_append tyL' (d_v 2) (a_cons (d_lam lam_8 ["_law_rule_here", "_law_wide"] T.t_W ln_8) (a_nil))))
    (r_cons (s_expr (d_bm PySem.F.plainAttrs_list PySem.F.slot_list_append PySem.F.type_list_append mt_append md_append tyL' (d_v 2) (a_cons (d_lam lam_9 ["_law_rule_here", "_law_wide"] T.t_W ln_9) (a_nil))))
    (r_cons (s_expr (d_bm PySem.F.plainAttrs_list PySem.F.slot_list_append PySem.F.type_list_append mt_append md_append tyL' (d_v 2) (a_cons (d_lam lam_10 ["_law_rule_here", "_law_wide"] T.t_W ln_10) (a_nil))))
    (r_cons (s_expr (d_bm PySem.F.plainAttrs_list PySem.F.slot_list_append PySem.F.type_list_append mt_append md_append tyL' (d_v 2) (a_cons (d_lam lam_11 ["_law_rule_here", "_law_wide"] T.t_W ln_11) (a_nil))))
    (r_ret (d_v 2)))))), ?_⟩
  rintro ds m Q ⟨d1, d2, rfl, tab, q⟩
  simp only [rSeq, rRet]
  walk_at "dxs"
  have g0 := Grow.refl m
  refine ⟨tab, fun f0 c0 h0 n0 => ⟨by decide, fun l nl => ?_⟩⟩
  simp only [ups_none] at nl
  have g1 := (g0.set (o := .clo lam_7 c0) n0).set (o := .lst [.adr f0]) nl.2
  refine ⟨g1 _ _ tab, fun f1 c1 h1 n1 => ?_⟩
  simp only [ups_none] at n1
  refine ⟨_, by rw [ups_ne (Ne.symm n1.1), ups_same], by show 1 < sizeLine; decide, ?_⟩
  have g2 := (g1.set (o := .clo lam_8 c1) n1.2.2).set (o := .lst ([.adr f0] ++ [.adr f1])) nl.2
  refine ⟨g2 _ _ tab, fun f2 c2 h2 n2 => ?_⟩
  simp only [ups_none] at n2
  refine ⟨_, by rw [ups_ne (Ne.symm n2.1), ups_same], by show 2 < sizeLine; decide, ?_⟩
  have g3 := (g2.set (o := .clo lam_9 c2) n2.2.2.2.2).set (o := .lst (([.adr f0] ++ [.adr f1]) ++ [.adr f2])) nl.2
  refine ⟨g3 _ _ tab, fun f3 c3 h3 n3 => ?_⟩
  simp only [ups_none] at n3
  refine ⟨_, by rw [ups_ne (Ne.symm n3.1), ups_same], by show 3 < sizeLine; decide, ?_⟩
  have g4 := (g3.set (o := .clo lam_10 c3) n3.2.2.2.2.2.2).set (o := .lst ((([.adr f0] ++ [.adr f1]) ++ [.adr f2]) ++ [.adr f3])) nl.2
  refine ⟨g4 _ _ tab, fun f4 c4 h4 n4 => ?_⟩
  simp only [ups_none] at n4
  refine ⟨_, by rw [ups_ne (Ne.symm n4.1), ups_same], by show 4 < sizeLine; decide, ?_⟩
  have g5 := (g4.set (o := .clo lam_11 c4) n4.2.2.2.2.2.2.2.2).set (o := .lst (((([.adr f0] ++ [.adr f1]) ++ [.adr f2]) ++ [.adr f3]) ++ [.adr f4])) nl.2
  refine ⟨d1, d2, rfl, rfl, fun a1 a2 e1 e2 a12 na1 na2 => ?_⟩
  simp only [ups_none] at na1 na2
  have g6 := (g5.set (o := .cel d1) na1.2.2.2.2.2.2.2.2.2.2).set (o := .cel d2) na2.2.2.2.2.2.2.2.2.2.2
  have cl : ∀ {T : LamT} {c : List (Str × Addr)}, CloF (PyProof.Rows.envOfC (Str.ofString "_law_works") (defScope s__law_works) s.heap.objs.size f (.ref a.cW)).cells ["_law_rule_here", "_law_wide"] c → CloF [("_law_rule_here", a1), ("_law_wide", a2)] ["_law_rule_here", "_law_wide"] c := fun h => clo_to2 h e1 e2
  refine q l a1 a2 f0 f1 f2 f3 f4 c0 c1 c2 c3 c4 _ g6 ?_ ?_ ?_ ⟨?_, cl (T := lam_7) h0⟩ ⟨?_, cl (T := lam_7) h1⟩ ⟨?_, cl (T := lam_7) h2⟩ ⟨?_, cl (T := lam_7) h3⟩ ⟨?_, cl (T := lam_7) h4⟩
  all_goals clear q g0 g1 g2 g3 g4 g5 g6 cl h0 h1 h2 h3 h4 tab
  all_goals (simp only [ups]; grind)
def preL_12 (a : Ad) : PreX := fun ds m Q xd => ∃ (r : Rl) (w : Nat) (l : List (Wd × Nat)) (o : List Nat × List Bool) (word : Str) (k : Int) (rest : List D), ds = [spoilt l word k rest, .int w, .str (rt r)] ∧ 1 ≤ w ∧ w ≤ 6 ∧ l.length ≤ 200 ∧ playM r (List.replicate w false) l = some o ∧ stepM r o.2 word k = none ∧ ∀ m', Grow m m' → xd a.CD (some ("number", (l.length : Int))) m'
theorem lok_12 (T : TX P w K mg base a) : LamOk P w K mg base 20 lam_12 ["_law_deeds", "_law_good", "_law_rule_here"] (spX K (preL_12 a)) := by
  refine (ok_lam (k := 4) ls_12 (lamBd_nil rfl fun _ _ _ _ _ => rfl) fun A outer s H E cl f c hr tk => ⟨_, _, x_call (defX_played T) (hr.mono (by decide)) tk (a_cons (d_v 2) (a_cons (d_v 1) (a_cons (d_v 0) (a_nil)))), ?_⟩).mono (by decide)
  rintro ds m Q xd ⟨r, w, l, o, word, k, rest, rfl, h1, h2, h3, h4, h5, q⟩
  walk_at "dx"
  exact .inr (.inr ⟨r, w, l, o, word, k, rest, rfl, h1, h2, h3, h4, h5, q⟩)
def preL_13 (a : Ad) : PreX := fun ds m Q xd => ∃ (w : Nat) (l : List (Wd × Nat)) (n : Nat) (word : Str) (k : Int) (rest : List D), ds = [spoilt l word k rest, .int w] ∧ 1 ≤ w ∧ w ≤ 6 ∧ l.length ≤ 12 ∧ drawnOk w 0 l = some n ∧ (l.length = 12 ∨ badK w n word k) ∧ ∀ m', Grow m m' → xd a.CD (some ("number", (l.length : Int))) m'
theorem lok_13 (T : TX P w K mg base a) : LamOk P w K mg base 20 lam_13 ["_law_deeds", "_law_good"] (spX K (preL_13 a)) := by
  refine (ok_lam (k := 4) ls_13 (lamBd_nil rfl fun _ _ _ _ _ => rfl) fun A outer s H E cl f c hr tk => ⟨_, _, x_call (defX_fewest T) (hr.mono (by decide)) tk (a_cons (d_v 1) (a_cons (d_v 0) (a_nil))), ?_⟩).mono (by decide)
  rintro ds m Q xd ⟨w, l, n, word, k, rest, rfl, h1, h2, h3, h4, h5, q⟩
  walk_at "dx"
  exact .inr ⟨w, l, n, word, k, rest, rfl, h1, h2, h3, h4, h5, q⟩
def pre__law_drawn : Pre := fun ds m Q => ∃ (a : Addr) (wide most : Nat), ds = [.adr a, .int wide, .int most] ∧ m a = some (.any Dice) ∧ 1 ≤ wide ∧ wide ≤ 6 ∧ most ≤ 100 ∧ ∀ l : List (Wd × Nat), l.length ≤ most → (∃ n, drawnOk wide 0 l = some n) → Q (.list (deedsD l)) m
theorem len__law_drawn : ∀ ds m Q, pre__law_drawn ds m Q → ds.length = 3 := by
  rintro ds m Q ⟨a, w, most, rfl, _⟩
  rfl
abbrev n__law_drawn : List Str := ["_law_d", "_law_wide", "_law_most", "_law_many", "_law_found", "_law_turn", "_law_is_put"]
theorem sc__law_drawn : FnScope n__law_drawn ["_law_d", "_law_wide", "_law_most"] (defScope s__law_drawn) := ⟨rfl, rfl, rfl, by decide +kernel, rfl, by decide +kernel, by decide +kernel⟩
theorem def__law_drawn (T : TX P w K mg base a) : Def P w K mg base "_law_drawn" 2 pre__law_drawn := by
  refine Def.of (ps := ["_law_d", "_law_wide", "_law_most"]) T.h__law_drawn (fun _ _ _ _ _ _ us hl => match us, hl with | [_, _, _], _ => rfl) fun f fd F => ok_def F sc__law_drawn len__law_drawn fun cdv A outer s H E hr => ⟨_, _, ss_cons (s_set (i := 3) sc__law_drawn.nd (d_int))
    (ss_cons (s_set (i := 4) sc__law_drawn.nd (d_lst true (a_nil)))
    (ss_cons (s_for (i_range1 T.b_range (a_cons (d_call (def__law_off T) (hr.mono (by decide)) (a_cons (d_v 0) (a_cons (d_add false (d_v 2) (d_int)) (a_nil)))) (a_nil))) (g_name (i := 5) sc__law_drawn.nd)
    (ss_cons (s_set (i := 6) sc__law_drawn.nd (d_or (d_cmp (op_eqAll (u64 hr)) opd_eq (d_v 3) (d_int) (nomark _)) (d_one (d_and (d_cmp o_lt opd_cmp (d_v 3) (d_v 1) (nomark _)) (d_one (d_cmp o_gt opd_cmp (d_call (def__law_off T) (hr.mono (by decide)) (a_cons (d_v 0) (a_cons (d_int) (a_nil)))) (d_int) (nomark _)))))))
    (ss_one (s_if (t_val (d_v 6))
    (ss_cons (s_expr (d_bm PySem.F.plainAttrs_list PySem.F.slot_list_append PySem.F.type_list_append mt_append md_append tyL' (d_v 4) (a_cons (d_tup (a_cons (d_str) (a_cons (d_ix (d_lst false (a_cons (d_int) (a_cons (d_v 3) (a_cons (d_call (def__law_off T) (hr.mono (by decide)) (a_cons (d_v 0) (a_cons (d_add false (d_v 3) (d_int)) (a_nil)))) (a_nil))))) (d_call (def__law_off T) (hr.mono (by decide)) (a_cons (d_v 0) (a_cons (d_int) (a_nil))))) (a_nil)))) (a_nil))))
    (ss_one (s_set (i := 3) sc__law_drawn.nd (d_add false (d_v 3) (d_int)))))
    (ss_cons (s_expr (d_bm PySem.F.plainAttrs_list PySem.F.slot_list_append PySem.F.type_list_append mt_append md_append tyL' (d_v 4) (a_cons (d_tup (a_cons (d_str) (a_cons (d_call (def__law_off T) (hr.mono (by decide)) (a_cons (d_v 0) (a_cons (d_v 3) (a_nil)))) (a_nil)))) (a_nil))))
    (ss_one (s_set (i := 3) sc__law_drawn.nd (d_sub (d_v 3) (d_int)))))))))
    (ss_fz 4 (ss_one (s_ret (d_v 4)))))), ?_⟩
  rintro ds m Q ⟨a, wide, most, rfl, h1, h2, h3, h4, q⟩
  refine q_asg (.int 0) (fun Q q => ?_) ?_
  · walk_at "dx"
    exact q
  refine q_new (ds := []) (fun Q q => ?_) fun b hb => ?_
  · walk_at "dx"
    exact ⟨by decide, q⟩
  have ne : a ≠ b := by
    rintro rfl
    rw [hb] at h1
    cases h1
  refine q_forN (fun n => n ≤ most) (fun Q q => ?_) (fun _ i e m' => ∃ (many : Nat) (l : List (Wd × Nat)) (x y : Option D), e = [some (.adr a), some (.int wide), some (.int most), some (.int many), some (.adr b), x, y] ∧ m' = ups m b (.lst (deedsD l)) ∧ l.length = i ∧ drawnOk wide 0 l = some many ∧ many ≤ wide) (fun n hn => ⟨0, [], none, none, rfl, rfl, rfl, rfl, by omega⟩) ?_ ?_
  · walk_at "dx"
    refine ⟨a, most + 1, rfl, by rw [ups_ne ne]; exact h1, by omega, by omega, fun r hr => ?_⟩
    refine ⟨_, rfl, by omega, by omega, ?_⟩
    rw [Int.toNat_natCast]
    exact q r (by omega)
  · rintro n i hn hi e m' ⟨many, l, x, y, rfl, rfl, hl, hok, hm⟩ nx hnx
    walk_at "dg"
    refine q_asg' (P := fun d m1 => m1 = ups m b (.lst (deedsD l)) ∧ ∃ c, d = .bl c ∧ (c = true → many < wide) ∧ (c = false → 0 < many)) (fun Q q => ?_) ?_
    · walk_at "dx"
      have hma : (ups m b (.lst (deedsD l))) a = some (.any Dice) := by rw [ups_ne ne]; exact h1
      split
      · exact q _ _ ⟨rfl, true, rfl, fun _ => by omega, nofun⟩
      · split
        · exact ⟨a, 3, rfl, hma, by decide, by decide, fun r hr => ⟨_, rfl, q _ _ ⟨rfl, _, rfl, fun _ => by omega, fun _ => by omega⟩⟩⟩
        · exact q _ _ ⟨rfl, false, rfl, nofun, fun _ => by omega⟩
    · rintro d m1 ⟨rfl, c, rfl, hb1, hb2⟩
      refine s_if' c (fun Q q => ?_) (fun hc => ?_) (fun hc => ?_)
      · walk_at "dx"
        exact q
      · walk_at "dxs"
        have hma : (ups m b (.lst (deedsD l))) a = some (.any Dice) := by rw [ups_ne ne]; exact h1
        refine ⟨a, many + 1, rfl, hma, by omega, by omega, fun k hk => ⟨by decide, a, 3, rfl, hma, by decide, by decide, fun r hr => ⟨_, rfl, ?_⟩⟩⟩
        have key : ∀ k' : Nat, k' ≤ many → nx [some (.adr a), some (.int wide), some (.int most), some (.int ((many : Int) + 1)), some (.adr b), some (.int i), some (.bl true)] (ups (ups m b (.lst (deedsD l))) b (.lst (deedsD l ++ [.tuple [.str "put", .int (k' : Nat)]]))) := by
          intro k' hk'
          refine hnx _ _ ⟨many + 1, l ++ [(.put, k')], some (.int i), some (.bl true), ?_, ?_, by rw [List.length_append, hl]; rfl, ?_, hb1 hc⟩
          · rw [show (((many + 1 : Nat)) : Int) = (many : Int) + 1 by omega]
          · rw [ups_ups]
            unfold deedsD
            rw [List.map_append]
            rfl
          · rw [drawnOk_append hok, drawnOk_put, if_pos ⟨hk', hb1 hc⟩]
            rfl
        have hlen : (deedsD l).length < sizeLine := small_line (by unfold deedsD; rw [List.length_map]; omega)
        cases hc
        have : r = 0 ∨ r = 1 ∨ r = 2 := by omega
        rcases this with rfl | rfl | rfl
        · exact ⟨_, at0, by decide, _, ups_same, hlen, key 0 (by omega)⟩
        · exact ⟨_, at1, by decide, _, ups_same, hlen, key many (by omega)⟩
        · exact ⟨_, at2, by decide, _, ups_same, hlen, key k (by omega)⟩
      · walk_at "dxs"
        have hma : (ups m b (.lst (deedsD l))) a = some (.any Dice) := by rw [ups_ne ne]; exact h1
        have h0 := hb2 hc
        have hlen : (deedsD l).length < sizeLine := small_line (by unfold deedsD; rw [List.length_map]; omega)
        refine ⟨a, many, rfl, hma, by omega, by omega, fun k hk => ⟨by decide, _, ups_same, hlen, hnx _ _ ⟨many - 1, l ++ [(.take, k)], some (.int i), some (.bl c), ?_, ?_, by rw [List.length_append, hl]; rfl, ?_, by omega⟩⟩⟩
        · rw [show (((many - 1 : Nat)) : Int) = (many : Int) - 1 by omega]
        · rw [ups_ups]
          unfold deedsD
          rw [List.map_append]
          rfl
        · rw [drawnOk_append hok, drawnOk_take, if_pos hk]
          rfl
  · rintro n hn e m' ⟨many, l, x, y, rfl, rfl, hl, hok, hm⟩
    refine fz_list rfl ups_same ?_
    rw [del_ups hb]
    walk_at "dx"
    exact q l (by omega) ⟨_, hok⟩
def pre__law_row : Pre := fun ds m Q => ∃ (p : List Bool), ds = [.str (ps p)] ∧ p.length ≤ 100 ∧ Q (.list (rowD (lawRow p))) m
theorem len__law_row : ∀ ds m Q, pre__law_row ds m Q → ds.length = 1 := by
  rintro ds m Q ⟨w, rfl, _⟩
  rfl
abbrev n__law_row : List Str := ["_law_pattern_here", "_law_at"]
theorem sc__law_row : FnScope n__law_row ["_law_pattern_here"] (defScope s__law_row) := ⟨rfl, rfl, rfl, by decide +kernel, rfl, by decide +kernel, by decide +kernel⟩
theorem def__law_row (T : TX P w K mg base a) : Def P w K mg base "_law_row" 1 pre__law_row := by
  refine Def.of (ps := ["_law_pattern_here"]) T.h__law_row (fun _ _ _ _ _ _ us hl => match us, hl with | [_], _ => rfl) fun f fd F => ok_def F sc__law_row len__law_row fun cdv A outer s H E hr => ⟨_, _, ss_one (s_ret (d_lc false sc__law_row.nd (own := [("_law_at", 1)]) (i_range1 T.b_range (a_cons (d_callB cr_lenAll cd_len T.b_len (by decide +kernel) (a_cons (d_v 0) (a_nil))) (a_nil))) (blkOk_by (own := [("_law_at", 1)]) (N := n__law_row) (sc := defScope s__law_row) (by decide +kernel)) (fun _ _ _ _ _ => g_name (i := 1) sc__law_row.nd) (fun _ _ _ _ _ => ts_nil) (fun _ _ _ _ _ => d_ifx (t_cmp (op_eqAll (u64 hr)) opd_eq (d_ix (d_v 0) (d_v 1)) (d_str) (nomark _)) (d_v 1) (d_non)) (keeps_name (by decide)))), ?_⟩
  rintro ds m Q ⟨p, rfl, h1, q⟩
  walk_at "dxs"
  rw [ps_len, Int.toNat_natCast]
  refine ⟨Nat.le_trans h1 (by decide), by omega, by omega, lc_rangeAll (fun i => Cod.enc (if p[i]?.getD false then some (i : Int) else none)) (fun i hi Q' q' => ?_) (small_line (by omega)) ?_⟩
  · walk_at "dx"
    rw [ps_len]
    refine ⟨Nat.le_trans h1 (by decide), _, ps_at (List.getElem?_eq_getElem hi), ?_⟩
    rw [List.getElem?_eq_getElem hi] at q'
    revert q'
    cases p[i] <;> exact fun q => q
  · unfold lawRow rowD at q
    rw [List.map_map] at q
    exact q
def pre__law_put : Pre := fun ds m Q => ∃ (r : Rl) (row : Row) (k : Nat) (new : Int), ds = [.str (rt r), .list (rowD row), .int k, .int new] ∧ row.length ≤ 6 ∧ k ≤ (placesOf (lawPat row)).length ∧ (placesOf (lawPat row)).length < row.length ∧ Q (.list (rowD (lawPut r row k new))) m
theorem len__law_put : ∀ ds m Q, pre__law_put ds m Q → ds.length = 4 := by
  rintro ds m Q ⟨r, w, k, _, rfl, _⟩
  rfl
abbrev n__law_put : List Str := ["_law_rule_here", "_law_row_here", "_law_rank", "_law_new", "_law_wide", "_law_places", "_law_low", "_law_high", "_law_found", "_law_things", "_law_k", "_law_left", "_law_right", "_law_is_less", "_law_at"]
theorem sc__law_put : FnScope n__law_put ["_law_rule_here", "_law_row_here", "_law_rank", "_law_new"] (defScope s__law_put) := ⟨rfl, rfl, rfl, by decide +kernel, rfl, by decide +kernel, by decide +kernel⟩
theorem def__law_put (T : TX P w K mg base a) : Def P w K mg base "_law_put" 1 pre__law_put := by
  refine Def.of (ps := ["_law_rule_here", "_law_row_here", "_law_rank", "_law_new"]) T.h__law_put (fun _ _ _ _ _ _ us hl => match us, hl with | [_, _, _, _], _ => rfl) fun f fd F => ok_def F sc__law_put len__law_put fun cdv A outer s H E hr => ⟨_, _, ss_cons (s_set (i := 4) sc__law_put.nd (d_callB cr_lenAll cd_len T.b_len (by decide +kernel) (a_cons (d_v 1) (a_nil))))
    (ss_cons (s_setLc false (i := 5) sc__law_put.nd (own := [("_law_at", 14)]) (i_range1 T.b_range (a_cons (d_v 4) (a_nil))) (blkOk_by (own := [("_law_at", 14)]) (N := n__law_put) (sc := defScope s__law_put) (by decide +kernel)) (fun _ _ _ _ _ => g_name (i := 14) sc__law_put.nd) (fun _ _ _ _ _ => ts_one (t_cmp op_notN opd_notN (d_ix (d_v 1) (d_v 14)) (d_non) (nomark _))) (fun _ _ _ _ _ => d_v 14) (keeps_name (by decide)) (sw_true rfl rfl rfl (by decide +kernel)))
    (ss_cons (s_set (i := 6) sc__law_put.nd (d_ix (d_add false (d_lst false (a_cons (d_neg (d_int)) (a_nil))) (d_v 5)) (d_v 2)))
    (ss_cons (s_set (i := 7) sc__law_put.nd (d_ix (d_add false (d_v 5) (d_lst false (a_cons (d_v 4) (a_nil)))) (d_v 2)))
    (ss_cons (s_set (i := 8) sc__law_put.nd (d_callTy c_list (cd_list true) T.b_list (by decide +kernel) (a_cons (d_v 1) (a_nil))))
    (ss_cons (s_if (t_cmp o_gt opd_cmp (d_v 7) (d_add false (d_v 6) (d_int)) (nomark _))
    (ss_cons (s_setL (d_v 3) (d_v 8) (d_fdiv (d_add false (d_v 6) (d_v 7)) (d_int)))
    (ss_fz 8 (ss_gc (ss_one (s_ret (d_v 8))))))
    (ss_nil))
    (ss_cons (s_if (t_cmp (op_eqAll (u64 hr)) opd_eq (d_v 0) (d_str) (nomark _))
    (ss_cons (s_setLc true (i := 9) sc__law_put.nd (own := [("_law_at", 14)]) (i_list (d_v 5)) (blkOk_by (own := [("_law_at", 14)]) (N := n__law_put) (sc := defScope s__law_put) (by decide +kernel)) (fun _ _ _ _ _ => g_name (i := 14) sc__law_put.nd) (fun _ _ _ _ _ => ts_nil) (fun _ _ _ _ _ => d_ix (d_v 1) (d_v 14)) (keeps_name (by decide)) (sw_true rfl rfl rfl (by decide +kernel)))
    (ss_cons (s_expr (d_bm PySem.F.plainAttrs_list PySem.F.slot_list_insert PySem.F.type_list_insert mt_insert md_insert tyL' (d_v 9) (a_cons (d_v 2) (a_cons (d_v 3) (a_nil)))))
    (ss_cons (s_set (i := 8) sc__law_put.nd (d_mul true (d_lst false (a_cons (d_non) (a_nil))) (d_v 4)))
    (ss_cons (s_for (i_range1 T.b_range (a_cons (d_callB cr_lenAll cd_len T.b_len (by decide +kernel) (a_cons (d_v 9) (a_nil))) (a_nil))) (g_name (i := 10) sc__law_put.nd)
    (ss_one (s_setL (d_ix (d_v 9) (d_v 10)) (d_v 8) (d_fdiv (d_mul false (d_v 10) (d_v 4)) (d_callB cr_lenAll cd_len T.b_len (by decide +kernel) (a_cons (d_v 9) (a_nil)))))))
    (ss_fz 8 (ss_gc (ss_one (s_ret (d_v 8)))))))))
    (ss_nil))
    (ss_cons (s_set (i := 11) sc__law_put.nd (d_v 6))
    (ss_cons (s_while (DW.t (w_and (t_cmp o_ge opd_cmp (d_v 11) (d_int) (nomark _)) (w_and1 (t_cmp op_notN opd_notN (d_ix (d_v 1) (d_v 11)) (d_non) (nomark _)))))
    (ss_one (s_set (i := 11) sc__law_put.nd (d_sub (d_v 11) (d_int)))))
    (ss_cons (s_set (i := 12) sc__law_put.nd (d_v 7))
    (ss_cons (s_while (DW.t (w_and (t_cmp o_lt opd_cmp (d_v 12) (d_v 4) (nomark _)) (w_and1 (t_cmp op_notN opd_notN (d_ix (d_v 1) (d_v 12)) (d_non) (nomark _)))))
    (ss_one (s_set (i := 12) sc__law_put.nd (d_add false (d_v 12) (d_int)))))
    (ss_cons (s_set (i := 13) sc__law_put.nd (d_or (d_cmp (op_eqAll (u64 hr)) opd_eq (d_v 12) (d_v 4) (nomark _)) (d_one (d_cmp o_le opd_cmp (d_sub (d_v 6) (d_v 11)) (d_sub (d_v 12) (d_v 7)) (nomark _)))))
    (ss_cons (s_if (DW.t (w_and (t_cmp o_ge opd_cmp (d_v 11) (d_int) (nomark _)) (w_and1 (DW.t (w_or (t_val (d_v 13)) (w_or1 (t_cmp (op_eqAll (u64 hr)) opd_eq (d_v 0) (d_str) (nomark _))))))))
    (ss_cons (s_expr (d_bm PySem.F.plainAttrs_list PySem.F.slot_list_pop PySem.F.type_list_pop mt_popAt md_popAt tyL' (d_v 8) (a_cons (d_v 11) (a_nil))))
    (ss_cons (s_expr (d_bm PySem.F.plainAttrs_list PySem.F.slot_list_insert PySem.F.type_list_insert mt_insert md_insert tyL' (d_v 8) (a_cons (d_v 6) (a_cons (d_v 3) (a_nil)))))
    (ss_fz 8 (ss_gc (ss_one (s_ret (d_v 8)))))))
    (ss_nil))
    (ss_cons (s_expr (d_bm PySem.F.plainAttrs_list PySem.F.slot_list_pop PySem.F.type_list_pop mt_popAt md_popAt tyL' (d_v 8) (a_cons (d_v 12) (a_nil))))
    (ss_cons (s_expr (d_bm PySem.F.plainAttrs_list PySem.F.slot_list_insert PySem.F.type_list_insert mt_insert md_insert tyL' (d_v 8) (a_cons (d_v 7) (a_cons (d_v 3) (a_nil)))))
    (ss_fz 8 (ss_gc (ss_one (s_ret (d_v 8))))))))))))))))))), ?_⟩
  rintro ds m Q ⟨r, row, k, new, rfl, h1, h2, h3, q⟩
  have hpl := pat_len row
  have hok := put_ok (p := lawPat row) (by omega) r h2 (by omega)
  have hpat := pl_len (lawPat row)
  refine q_asg (.int row.length) (fun Q q => ?_) ?_
  · walk_at "dx"
    rw [rowD_len]
    exact q
  refine q_asg (.list (nums (placesOf (lawPat row)))) (fun Q q => ?_) ?_
  · walk_at "dx"
    rw [Int.toNat_natCast]
    refine ⟨by omega, by omega, lc_taken (by omega) (fun i hi Q' q' => ?_) (by simp only [wipeD, List.length_set, List.length_cons, List.length_nil]; omega) q⟩
    walk_at "dx"
    refine ⟨_, rowD_at hi, ?_⟩
    revert q'
    cases row[i] <;> exact fun q => q
  refine q_asg (.int (plow (lawPat row) k)) (fun Q q => ?_) ?_
  · walk_at "dx"
    rw [nums_len]
    refine ⟨by decide, Nat.le_trans (by omega : _ ≤ 100) (by decide), ?_⟩
    unfold plow at q
    cases k with
    | zero => exact ⟨_, at0, q⟩
    | succ k =>
      have hk : k < (placesOf (lawPat row)).length := by omega
      rw [if_pos (by omega), show k + 1 - 1 = k from rfl, List.getElem?_eq_getElem hk] at q
      exact ⟨_, atI_nat (j := k + 1) (by rw [List.getElem?_cons_succ]; exact nums_get hk), q⟩
  refine q_asg (.int (phigh (lawPat row) k)) (fun Q q => ?_) ?_
  · walk_at "dx"
    rw [nums_len]
    refine ⟨by decide, Nat.le_trans (by omega : _ ≤ 100) (by decide), ?_⟩
    unfold phigh at q
    by_cases hk : k < (placesOf (lawPat row)).length
    · rw [if_pos hk, List.getElem?_eq_getElem hk] at q
      exact ⟨_, atI_nat (j := k) (by rw [List.getElem?_append_left (by rw [nums_len]; exact hk)]; exact nums_get hk), q⟩
    · rw [if_neg hk, hpl] at q
      refine ⟨_, atI_nat (j := k) (by rw [List.getElem?_append_right (by rw [nums_len]; omega), nums_len, show k - (placesOf (lawPat row)).length = 0 by omega]; rfl), q⟩
  refine q_new (ds := rowD row) (fun Q q => ?_) fun a ha => ?_
  · walk_at "dx"
    exact q
  unfold lawPut at q
  simp only at q
  have hlow : -1 ≤ plow (lawPat row) k := by
    unfold plow
    split <;> omega
  refine q_when (decide ((phigh (lawPat row) k : Int) > plow (lawPat row) k + 1)) (fun Q q => ?_) (fun hb => ?_) (fun hb => ?_)
  · walk_at "dx"
    exact q
  · rw [decide_eq_true_eq] at hb
    rw [if_pos hb] at q
    unfold dSeq
    walk_at "dx"
    have hhi : phigh (lawPat row) k ≤ row.length := by
      unfold phigh
      split
      · rename_i hk
        rw [List.getElem?_eq_getElem hk]
        have := pat_lt (List.getElem_mem hk)
        simp only [Option.getD_some]
        omega
      · omega
    refine ⟨⟨by decide, by decide⟩, ((plow (lawPat row) k + phigh (lawPat row) k) / 2).toNat, ?_, ?_⟩
    · rw [rowD_len]
      unfold ixN
      rw [if_pos (by omega), if_pos (by omega)]
    · rw [show D.int new = Cod.enc (some new) from rfl, rowD_set]
      refine fz_list rfl ups_same ?_
      rw [del_ups ha]
      refine ⟨m, Sub.refl, ?_⟩
      walk_at "dx"
      exact q
  · rw [decide_eq_false_iff_not] at hb
    rw [if_neg hb] at q
    have hok := hok hb
    refine q_when (decide (r = .even)) (fun Q q => ?_) (fun hc => ?_) (fun hc => ?_)
    · walk_at "dx"
      simp only [rt_even]
      exact q
    · rw [decide_eq_true_eq] at hc
      rw [if_pos hc] at q
      have hth : ∀ i ∈ placesOf (lawPat row), i < row.length := fun i hi => pat_lt hi
      refine q_new (ds := rowD ((placesOf (lawPat row)).map fun i => row[i]?.getD none)) (fun Q q => ?_) fun a2 ha2 => ?_
      · walk_at "dx"
        refine lc_all (fun d => match d with | .int i => Cod.enc (row[i.toNat]?.getD none) | _ => .non) (fun x hx Q' q' => ?_) (small_line (by rw [nums_len]; omega)) ?_
        · obtain ⟨i, hi, rfl⟩ := List.mem_map.mp hx
          walk_at "dx"
          simp only [Int.toNat_natCast] at q'
          have hi' := hth i hi
          rw [List.getElem?_eq_getElem hi'] at q'
          exact ⟨_, rowD_at hi', q'⟩
        · have e : (nums (placesOf (lawPat row))).map (fun d => match d with | .int i => Cod.enc (row[i.toNat]?.getD none) | _ => .non) = rowD ((placesOf (lawPat row)).map fun i => row[i]?.getD none) := by
            unfold nums rowD
            rw [List.map_map, List.map_map]
            refine List.map_congr_left fun i _ => ?_
            simp
          rw [e]
          exact q
      have hl2 : ((placesOf (lawPat row)).map fun i => row[i]?.getD none).length = (placesOf (lawPat row)).length := List.length_map _
      generalize hT : ((placesOf (lawPat row)).map fun i => row[i]?.getD none) = things at q hl2 ⊢
      refine q_dropM (m1 := ups (ups m a (.lst (rowD row))) a2 (.lst (rowD (insAt things k (some new))))) (fun Q q => ?_) ?_
      · walk_at "dx"
        refine ⟨by rw [rowD_len]; exact small_line (by omega), by omega, by omega, ?_⟩
        rw [Int.toNat_natCast, show D.int new = Cod.enc (some new) from rfl, rowD_ins]
        exact q _
      have hl3 : (insAt things k (some new)).length = (placesOf (lawPat row)).length + 1 := by
        unfold insAt
        simp only [List.length_append, List.length_take, List.length_drop, List.length_cons, List.length_nil]
        omega
      generalize insAt things k (some new) = th at q hl3 ⊢
      refine q_new (ds := rowD (List.replicate row.length none)) (fun Q q => ?_) fun a3 ha3 => ?_
      · walk_at "dx"
        refine ⟨by decide, by omega, by omega, Nat.le_trans (by omega : _ ≤ 100) (by decide), ?_⟩
        rw [Int.toNat_natCast]
        rw [rep_none]
        exact q
      have n23 : a2 ≠ a3 := by
        rintro rfl
        rw [ups_same] at ha3
        cases ha3
      have n13 : m a3 = none := by
        have n : a3 ≠ a := by
          rintro rfl
          rw [ups_ne (fun z => n23 z.symm), ups_same] at ha3
          cases ha3
        rwa [ups_ne n23.symm, ups_ne n] at ha3
      have m2 : m a2 = none := by
        by_cases e : a2 = a
        · subst e
          rw [ups_same] at ha2
          cases ha2
        · rwa [ups_ne e] at ha2
      refine q_for (nums (List.range th.length)) (fun Q q => ?_) (fun i e m' => ∃ x, e = [some (.str (rt r)), some (.list (rowD row)), some (.int k), some (.int new), some (.int row.length), some (.list (nums (placesOf (lawPat row)))), some (.int (plow (lawPat row) k)), some (.int (phigh (lawPat row) k)), some (.adr a3), some (.adr a2), x, none, none, none, none]
          ∧ m' = ups (ups (ups m a (.lst (rowD row))) a2 (.lst (rowD th))) a3 (.lst (rowD ((List.range i).foldl (fun f j => f.set (j * row.length / th.length) (th[j]?.getD none)) (List.replicate row.length none))))) ⟨none, rfl, rfl⟩ ?_ ?_
      · walk_at "dx"
        rw [ups_ne n23]
        walk_at "dx"
        rw [rowD_len, Int.toNat_natCast]
        exact ⟨by omega, by omega, q⟩
      · rintro i d hd e m' ⟨x, rfl, rfl⟩ nx hn
        unfold nums at hd
        rw [List.getElem?_map] at hd
        obtain ⟨i', hi', rfl⟩ := Option.map_eq_some_iff.mp hd
        obtain ⟨hi, rfl⟩ := List.getElem?_eq_some_iff.mp hi'
        rw [List.length_range] at hi
        rw [List.getElem_range]
        have hfl : ∀ (l : List Nat) (f : Row), (l.foldl (fun f j => f.set (j * row.length / th.length) (th[j]?.getD none)) f).length = f.length := by
          intro l
          induction l with
          | nil => intro f; rfl
          | cons j l ih => intro f; rw [List.foldl_cons, ih, List.length_set]
        walk_at "dg"
        walk_at "dx"
        rw [ups_ne n23]
        walk_at "dx"
        refine ⟨_, rowD_at hi, ?_⟩
        rw [rowD_len, rowD_len, hfl, List.length_replicate]
        have hdiv : i * row.length / th.length < row.length := by
          refine Nat.div_lt_of_lt_mul ?_
          have := Nat.mul_lt_mul_of_pos_right hi (show 0 < row.length by omega)
          rw [Nat.mul_comm th.length] at this
          rw [Nat.mul_comm i, Nat.mul_comm th.length]
          rw [Nat.mul_comm i] at this
          omega
        refine ⟨.inl ⟨by omega, by omega⟩, ⟨by omega, by omega⟩, i * row.length / th.length, ?_, ?_⟩
        · rw [show ((i : Int) * (row.length : Int) / (th.length : Int)) = ((i * row.length / th.length : Nat) : Int) by simp]
          exact ixN_nat hdiv
        · rw [rowD_set]
          refine hn _ _ ⟨_, rfl, ?_⟩
          rw [List.range_succ, List.foldl_append, List.foldl_cons, List.foldl_nil, List.getElem?_eq_getElem hi]
          rfl
      · rintro e m' ⟨x, rfl, rfl⟩
        rw [nums_len, List.length_range]
        refine fz_list rfl ups_same ?_
        refine ⟨m, ?_, ?_⟩
        · rw [del_ups (by rw [ups_ne n23.symm, ups_ne]; exact n13; rintro rfl; rw [ups_ne n23.symm, ups_same] at ha3; cases ha3)]
          exact sub_ups m2 (sub_one ha) ha2
        · walk_at "dx"
          unfold evenPut at q
          exact q
    · rw [decide_eq_false_iff_not] at hc
      rw [if_neg hc] at q
      refine q_asg (.int (plow (lawPat row) k)) (fun Q q => ?_) ?_
      · walk_at "dx"
        exact q
      refine q_while (fun n e m' => e = [some (.str (rt r)), some (.list (rowD row)), some (.int k), some (.int new), some (.int row.length), some (.list (nums (placesOf (lawPat row)))), some (.int (plow (lawPat row) k)), some (.int (phigh (lawPat row) k)), some (.adr a), none, none, some (.int ((n : Int) - 1)), none, none, none]
          ∧ m' = ups m a (.lst (rowD row)) ∧ leftP (lawPat row) n = pleft (lawPat row) k ∧ n ≤ row.length) (plow (lawPat row) k + 1).toNat ⟨?_, rfl, rfl, by omega⟩ ?_
      · rw [show (((plow (lawPat row) k + 1).toNat : Nat) : Int) - 1 = plow (lawPat row) k by omega]
        rfl
      rintro n e m' ⟨rfl, rfl, hl, hn⟩
      refine ⟨decide (0 < n) && (row[n - 1]?.getD none).isSome, fun Q q => ?_, fun hb nx hnx => ?_, fun hb => ?_⟩
      · walk_at "dx"
        cases n with
        | zero => exact q
        | succ n =>
          rw [if_pos (by omega), show ((n + 1 : Nat) : Int) - 1 = ((n : Nat) : Int) by omega]
          refine ⟨_, rowD_at (by omega), ?_⟩
          rw [show n + 1 - 1 = n from rfl, List.getElem?_eq_getElem (show n < row.length by omega)] at q
          simp only [Nat.zero_lt_succ, decide_true, Bool.true_and, Option.getD_some] at q
          revert q
          cases row[n] <;> exact fun q => q
      · walk_at "dx"
        cases n with
        | zero => cases hb
        | succ n =>
          rw [show n + 1 - 1 = n from rfl, List.getElem?_eq_getElem (by omega)] at hb
          simp only [Nat.zero_lt_succ, decide_true, Bool.true_and, Option.getD_some] at hb
          refine hnx n _ _ (by omega) ⟨?_, rfl, ?_, by omega⟩
          · rw [show ((n + 1 : Nat) : Int) - 1 - 1 = (n : Int) - 1 by omega]
          · rw [← hl]
            rw [show leftP (lawPat row) (n + 1) = if (lawPat row)[n]?.getD false = true then leftP (lawPat row) n else n from rfl, pat_at (by omega), hb]
            rfl
      have hleft : (n : Int) - 1 = pleft (lawPat row) k := by
        rw [← hl]
        cases n with
        | zero => rfl
        | succ n =>
          rw [show n + 1 - 1 = n from rfl, List.getElem?_eq_getElem (by omega)] at hb
          simp only [Nat.zero_lt_succ, decide_true, Bool.true_and, Option.getD_some] at hb
          unfold leftP
          rw [pat_at (by omega), hb]
          simp only [Bool.false_eq_true, if_false]
          omega
      rw [hleft]
      have hlb : -1 ≤ pleft (lawPat row) k := by rw [← hleft]; omega
      have hlb2 : pleft (lawPat row) k < row.length := by rw [← hleft]; omega
      clear hleft hb hl hn
      refine q_asg (.int (phigh (lawPat row) k)) (fun Q q => ?_) ?_
      · walk_at "dx"
        exact q
      refine q_while (fun n e m' => ∃ i : Nat, e = [some (.str (rt r)), some (.list (rowD row)), some (.int k), some (.int new), some (.int row.length), some (.list (nums (placesOf (lawPat row)))), some (.int (plow (lawPat row) k)), some (.int (phigh (lawPat row) k)), some (.adr a), none, none, some (.int (pleft (lawPat row) k)), some (.int i), none, none]
          ∧ m' = ups m a (.lst (rowD row)) ∧ rightP (lawPat row) n i = pright (lawPat row) k ∧ i ≤ row.length ∧ row.length ≤ n + i) row.length ⟨_, rfl, rfl, by rw [pright, hpl], by omega, by omega⟩ ?_
      rintro n e m' ⟨i, rfl, rfl, hl, hn, hni⟩
      refine ⟨decide (i < row.length) && (row[i]?.getD none).isSome, fun Q q => ?_, fun hb nx hnx => ?_, fun hb => ?_⟩
      · walk_at "dx"
        by_cases hi : i < row.length
        · rw [if_pos (by omega)]
          refine ⟨_, rowD_at hi, ?_⟩
          rw [List.getElem?_eq_getElem hi] at q
          simp only [hi, decide_true, Bool.true_and, Option.getD_some] at q
          revert q
          cases row[i] <;> exact fun q => q
        · rw [if_neg (by omega)]
          simp only [hi, decide_false, Bool.false_and] at q
          exact q
      · walk_at "dx"
        simp only [Bool.and_eq_true, decide_eq_true_eq] at hb
        cases n with
        | zero => omega
        | succ n =>
          refine hnx n _ _ (by omega) ⟨i + 1, ?_, rfl, ?_, by omega, by omega⟩
          · rw [show ((i + 1 : Nat) : Int) = (i : Int) + 1 by omega]
          · rw [← hl]
            rw [show rightP (lawPat row) (n + 1) i = if i < (lawPat row).length ∧ (lawPat row)[i]?.getD false = true then rightP (lawPat row) n (i + 1) else i from rfl, if_pos]
            rw [hpl, pat_at hb.1]
            refine ⟨hb.1, ?_⟩
            rw [List.getElem?_eq_getElem hb.1] at hb
            exact hb.2
      have hright : i = pright (lawPat row) k := by
        rw [← hl]
        cases n with
        | zero => rfl
        | succ n =>
          unfold rightP
          by_cases hi : i < row.length
          · rw [List.getElem?_eq_getElem hi] at hb
            simp only [hi, decide_true, Bool.true_and, Option.getD_some] at hb
            rw [if_neg]
            rw [pat_at hi, hb]
            simp
          · rw [if_neg (by rw [hpl]; omega)]
      rw [hright]
      clear hright hb hl hn hni
      refine q_asg (.bl (decide (pright (lawPat row) k = row.length) || decide (plow (lawPat row) k - pleft (lawPat row) k ≤ (pright (lawPat row) k : Int) - phigh (lawPat row) k))) (fun Q q => ?_) ?_
      · walk_at "dx"
        by_cases h : pright (lawPat row) k = row.length
        · rw [if_pos (by omega)]
          rw [decide_eq_true h, Bool.true_or] at q
          exact q
        · rw [if_neg (by omega)]
          rw [decide_eq_false h, Bool.false_or] at q
          exact q
      refine q_when (pgoes r (lawPat row) k) (fun Q q => ?_) (fun hg => ?_) (fun hg => ?_)
      · walk_at "dx"
        unfold pgoes at q
        rw [hpl, show decide (r = Rl.left) = decide (rt r = Str.ofString "left") from (by cases r <;> decide +kernel)] at q
        split
        · rename_i h
          rw [decide_eq_true h, Bool.true_and] at q
          split
          · rename_i h1
            rw [h1, Bool.true_or] at q
            exact q
          · rename_i h1
            rw [Bool.not_eq_true] at h1
            rw [h1, Bool.false_or] at q
            exact q
        · rename_i h
          rw [decide_eq_false h, Bool.false_and] at q
          exact q
      · unfold dSeq
        walk_at "dx"
        obtain ⟨g1, g2, g3⟩ := hok.1 hg
        have g0 : 0 ≤ pleft (lawPat row) k := by
          unfold pgoes at hg
          simp only [Bool.and_eq_true, decide_eq_true_eq] at hg
          exact hg.1
        refine ⟨by omega, by omega, (pleft (lawPat row) k).toNat, ?_, ⟨_, List.getElem?_eq_getElem (by rw [rowD_len]; omega)⟩, by rw [rowD_erase, rowD_len]; exact small_line (by rw [List.length_eraseIdx]; split <;> omega), g1, by omega, ?_⟩
        · rw [rowD_len, PySem.seqIndex_of g0 (by omega)]
        rw [show D.int new = Cod.enc (some new) from rfl, rowD_erase, rowD_ins]
        refine fz_list rfl ups_same ?_
        rw [del_ups ha]
        refine ⟨m, Sub.refl, ?_⟩
        walk_at "dx"
        rw [if_pos hg] at q
        exact q
      · unfold dSeq
        walk_at "dx"
        have g1 := hok.2.1 hg
        rw [hpl] at g1
        refine ⟨by omega, by omega, pright (lawPat row) k, ?_, ⟨_, List.getElem?_eq_getElem (by rw [rowD_len]; omega)⟩, by rw [rowD_erase, rowD_len]; exact small_line (by rw [List.length_eraseIdx]; split <;> omega), by omega, by omega, ?_⟩
        · rw [rowD_len, seqIx_nat g1]
        rw [Int.toNat_natCast]
        rw [show D.int new = Cod.enc (some new) from rfl, rowD_erase, rowD_ins]
        refine fz_list rfl ups_same ?_
        rw [del_ups ha]
        refine ⟨m, Sub.refl, ?_⟩
        walk_at "dx"
        simp only [hg, Bool.false_eq_true, if_false] at q
        exact q
def pre__law_moves : Pre := fun ds m Q => ∃ (row other : Row), ds = [.list (rowD row), .list (rowD other)] ∧ row.length ≤ 100 ∧ other.length ≤ 100 ∧ Q (.int (lawMoves row other)) m
theorem len__law_moves : ∀ ds m Q, pre__law_moves ds m Q → ds.length = 2 := by
  rintro ds m Q ⟨w, k, rfl, _⟩
  rfl
abbrev n__law_moves : List Str := ["_law_row_here", "_law_other", "_law_some", "_law_thing"]
theorem sc__law_moves : FnScope n__law_moves ["_law_row_here", "_law_other"] (defScope s__law_moves) := ⟨rfl, rfl, rfl, by decide +kernel, rfl, by decide +kernel, by decide +kernel⟩
theorem def__law_moves (T : TX P w K mg base a) : Def P w K mg base "_law_moves" 1 pre__law_moves := by
  refine Def.of (ps := ["_law_row_here", "_law_other"]) T.h__law_moves (fun _ _ _ _ _ _ us hl => match us, hl with | [_, _], _ => rfl) fun f fd F => ok_def F sc__law_moves len__law_moves fun cdv A outer s H E hr => ⟨_, _, ss_cons (s_setLc false (i := 2) sc__law_moves.nd (own := [("_law_thing", 3)]) (i_list (d_v 0)) (blkOk_by (own := [("_law_thing", 3)]) (N := n__law_moves) (sc := defScope s__law_moves) (by decide +kernel)) (fun _ _ _ _ _ => g_name (i := 3) sc__law_moves.nd) (fun _ _ _ _ _ => ts_one (DW.t (w_and (t_cmp op_notN opd_notN (d_v 3) (d_non) (nomark _)) (w_and1 (t_cmp op_inAll (opd_in false) (d_v 3) (d_v 1) rfl))))) (fun _ _ _ _ _ => d_v 3) (keeps_name (by decide)) (sw_true rfl rfl rfl (by decide +kernel)))
    (ss_one (s_ret (d_callB cr_lenAll cd_len T.b_len (by decide +kernel) (a_cons (d_lc false sc__law_moves.nd (own := [("_law_thing", 3)]) (i_list (d_v 2)) (blkOk_by (own := [("_law_thing", 3)]) (N := n__law_moves) (sc := defScope s__law_moves) (by decide +kernel)) (fun _ _ _ _ _ => g_name (i := 3) sc__law_moves.nd) (fun _ _ _ _ _ => ts_one (t_cmp (op_neAll (u64 hr)) opd_ne (d_bm PySem.F.plainAttrs_list PySem.F.slot_list_index PySem.F.type_list_index m_index md_index tyL' (d_v 1) (a_cons (d_v 3) (a_nil))) (d_bm PySem.F.plainAttrs_list PySem.F.slot_list_index PySem.F.type_list_index m_index md_index tyL' (d_v 0) (a_cons (d_v 3) (a_nil))) (nomark _))) (fun _ _ _ _ _ => d_v 3) (keeps_name (by decide))) (a_nil))))), ?_⟩
  rintro ds m Q ⟨row, other, rfl, h1, h2, q⟩
  refine q_asg (.list (rowD (row.filter fun x => x.isSome && decide (x ∈ other)))) (fun Q q => ?_) ?_
  · walk_at "dx"
    unfold rowD at q ⊢
    refine lc_map (fun x : Option Int => x.isSome && decide (x ∈ other)) Cod.enc (fun x hx Q' q' => ?_) (fun x hx hc Q' q' => ?_) (small_line (by omega)) q
    · walk_at "dx"
      cases x with
      | none => exact q'
      | some x =>
        refine ⟨rfl, row_flat other, ?_⟩
        rw [show toV (Cod.enc (some x)) = toV (Cod.enc (some x)) from rfl]
        have e := row_in (some x) other
        unfold rowD at e
        rw [e]
        revert q'
        cases decide (some x ∈ other) <;> exact fun q => q
    · walk_at "dx"
      exact q'
  walk_at "dx"
  unfold rowD
  refine lc_map (fun x : Option Int => !decide (idxM other x = idxM row x)) Cod.enc (fun x hx Q' q' => ?_) (fun x hx hc Q' q' => ?_) (small_line (Nat.le_trans (List.length_filter_le _ _) (by omega))) ?_
  · have h3 := List.mem_filter.mp hx
    simp only [Bool.and_eq_true, decide_eq_true_eq] at h3
    walk_at "dx"
    refine row_index h3.2.2 (row_index h3.1 ?_)
    simp only
    refine (congrArg (fun k => Q' (!k) m) (decide_eq_decide.mpr ?_)).mp q'
    omega
  · walk_at "dx"
    exact q'
  · unfold lawMoves at q
    rw [List.length_map]
    exact q
def pre__law_pattern : Pre := fun ds m Q => ∃ (row : Row), ds = [.list (rowD row)] ∧ row.length ≤ 100 ∧ Q (.str (ps (lawPat row))) m
theorem len__law_pattern : ∀ ds m Q, pre__law_pattern ds m Q → ds.length = 1 := by
  rintro ds m Q ⟨w, rfl, _⟩
  rfl
abbrev n__law_pattern : List Str := ["_law_row_here", "_law_thing"]
theorem sc__law_pattern : FnScope n__law_pattern ["_law_row_here"] (defScope s__law_pattern) := ⟨rfl, rfl, rfl, by decide +kernel, rfl, by decide +kernel, by decide +kernel⟩
theorem def__law_pattern (T : TX P w K mg base a) : Def P w K mg base "_law_pattern" 1 pre__law_pattern := by
  refine Def.of (ps := ["_law_row_here"]) T.h__law_pattern (fun _ _ _ _ _ _ us hl => match us, hl with | [_], _ => rfl) fun f fd F => ok_def F sc__law_pattern len__law_pattern fun cdv A outer s H E hr => ⟨_, _, ss_one (s_ret (d_bm PySem.F.plainAttrs_str PySem.F.slot_str_join PySem.F.type_str_join m_join md_join tyS' (d_str) (a_cons (d_lc false sc__law_pattern.nd (own := [("_law_thing", 1)]) (i_list (d_v 0)) (blkOk_by (own := [("_law_thing", 1)]) (N := n__law_pattern) (sc := defScope s__law_pattern) (by decide +kernel)) (fun _ _ _ _ _ => g_name (i := 1) sc__law_pattern.nd) (fun _ _ _ _ _ => ts_nil) (fun _ _ _ _ _ => d_ix (d_str) (d_callTy call_int1 cd_int T.b_int (by decide +kernel) (a_cons (d_cmp op_notN opd_notN (d_v 1) (d_non) (nomark _)) (a_nil)))) (keeps_name (by decide))) (a_nil)))), ?_⟩
  rintro ds m Q ⟨row, rfl, h1, q⟩
  walk_at "dxs"
  refine ⟨⟨_, rfl⟩, ?_⟩
  unfold rowD
  refine lc_mapAll (fun x : Option Int => .str (if x.isSome then "1" else "0")) (fun x hx Q' q' => ?_) (small_line (by omega)) ?_
  · walk_at "dx"
    cases x with
    | none => exact ⟨by decide +kernel, 48, (by decide +kernel : atI (Str.ofString "01").cps.toList (0 : Int) = some 48), q'⟩
    | some x => exact ⟨by decide +kernel, 49, (by decide +kernel : atI (Str.ofString "01").cps.toList (1 : Int) = some 49), q'⟩
  · refine ⟨(lawPat row).map fun b => if b then ("1" : Str) else "0", ?_, ?_, ?_⟩
    · unfold lawPat
      rw [List.map_map, List.map_map]
      rfl
    · rw [signs_sum]
      simp only [lawPat, List.length_map, List.length_range]
      have : ("" : Str).length = 0 := by decide +kernel
      rw [this]
      omega
    · rw [join_signs]
      exact q
def pre__law_take : Pre := fun ds m Q => ∃ (row : Row) (k : Nat), ds = [.list (rowD row), .int k] ∧ row.length ≤ 6 ∧ k < (placesOf (lawPat row)).length ∧ Q (.list (rowD (lawTake row k))) m
theorem len__law_take : ∀ ds m Q, pre__law_take ds m Q → ds.length = 2 := by
  rintro ds m Q ⟨w, k, rfl, _⟩
  rfl
abbrev n__law_take : List Str := ["_law_row_here", "_law_rank", "_law_places", "_law_at"]
theorem sc__law_take : FnScope n__law_take ["_law_row_here", "_law_rank"] (defScope s__law_take) := ⟨rfl, rfl, rfl, by decide +kernel, rfl, by decide +kernel, by decide +kernel⟩
theorem def__law_take (T : TX P w K mg base a) : Def P w K mg base "_law_take" 1 pre__law_take := by
  refine Def.of (ps := ["_law_row_here", "_law_rank"]) T.h__law_take (fun _ _ _ _ _ _ us hl => match us, hl with | [_, _], _ => rfl) fun f fd F => ok_def F sc__law_take len__law_take fun cdv A outer s H E hr => ⟨_, _, ss_cons (s_setLc false (i := 2) sc__law_take.nd (own := [("_law_at", 3)]) (i_range1 T.b_range (a_cons (d_callB cr_lenAll cd_len T.b_len (by decide +kernel) (a_cons (d_v 0) (a_nil))) (a_nil))) (blkOk_by (own := [("_law_at", 3)]) (N := n__law_take) (sc := defScope s__law_take) (by decide +kernel)) (fun _ _ _ _ _ => g_name (i := 3) sc__law_take.nd) (fun _ _ _ _ _ => ts_one (t_cmp op_notN opd_notN (d_ix (d_v 0) (d_v 3)) (d_non) (nomark _))) (fun _ _ _ _ _ => d_v 3) (keeps_name (by decide)) (sw_true rfl rfl rfl (by decide +kernel)))
    (ss_one (s_ret (d_add false (d_add false (d_slice false (d_v 0) (o_none) (o_some (d_ix (d_v 2) (d_v 1)))) (d_lst false (a_cons (d_non) (a_nil)))) (d_slice false (d_v 0) (o_some (d_add false (d_ix (d_v 2) (d_v 1)) (d_int))) (o_none))))), ?_⟩
  rintro ds m Q ⟨row, k, rfl, h1, h2, q⟩
  have hk : (placesOf (lawPat row))[k] < row.length := pat_lt (List.getElem_mem h2)
  unfold lawTake at q
  rw [List.getElem?_eq_getElem h2] at q
  simp only [Option.getD_some] at q
  refine q_asg (.list (nums (placesOf (lawPat row)))) (fun Q q => ?_) ?_
  · walk_at "dx"
    rw [rowD_len, Int.toNat_natCast]
    refine ⟨by omega, by omega, lc_taken (by omega) (fun i hi Q' q' => ?_) (by simp only [wipeD, List.length_set, List.length_cons, List.length_nil]; omega) q⟩
    walk_at "dx"
    refine ⟨_, rowD_at hi, ?_⟩
    revert q'
    cases row[i] <;> exact fun q => q
  walk_at "dx"
  refine ⟨_, nums_atN h2, _, rfl, by decide, ?_, _, nums_atN h2, ?_⟩
  · rw [cut_take, List.length_take, rowD_len]
    exact Nat.le_trans (by omega : _ ≤ 100) (by decide)
  · simp only
    rw [cut_take, cut_drop1]
    refine ⟨?_, ?_⟩
    · rw [List.length_append, List.length_take, List.length_drop, rowD_len, List.length_cons, List.length_nil]
      exact Nat.le_trans (by omega : _ ≤ 100) (by decide)
    · unfold rowD at q ⊢
      rw [List.map_append, List.map_append, List.map_take, List.map_drop] at q
      exact q
def pre__law_step : Pre := fun ds m Q => ∃ (r : Rl) (p : List Bool) (d : Wd × Nat), ds = [.str (rt r), .str (ps p), deedD d] ∧ p.length ≤ 6 ∧ okD p d = true ∧ Q (stepD (some (lawStep r p d))) m
theorem len__law_step : ∀ ds m Q, pre__law_step ds m Q → ds.length = 3 := by
  rintro ds m Q ⟨r, p, d, rfl, _⟩
  rfl
abbrev n__law_step : List Str := ["_law_rule_here", "_law_pattern_here", "_law_deed", "_law_row_here", "_law_other"]
theorem sc__law_step : FnScope n__law_step ["_law_rule_here", "_law_pattern_here", "_law_deed"] (defScope s__law_step) := ⟨rfl, rfl, rfl, by decide +kernel, rfl, by decide +kernel, by decide +kernel⟩
theorem def__law_step (T : TX P w K mg base a) : Def P w K mg base "_law_step" 2 pre__law_step := by
  refine Def.of (ps := ["_law_rule_here", "_law_pattern_here", "_law_deed"]) T.h__law_step (fun _ _ _ _ _ _ us hl => match us, hl with | [_, _, _], _ => rfl) fun f fd F => ok_def F sc__law_step len__law_step fun cdv A outer s H E hr => ⟨_, _, ss_cons (s_set (i := 3) sc__law_step.nd (d_call (def__law_row T) (hr.mono (by decide)) (a_cons (d_v 1) (a_nil))))
    (ss_cons (s_if (t_cmp (op_eqAll (u64 hr)) opd_eq (d_ix (d_v 2) (d_int)) (d_str) (nomark _))
    (ss_one (s_ret (d_tup (a_cons (d_int) (a_cons (d_call (def__law_pattern T) (hr.mono (by decide)) (a_cons (d_call (def__law_take T) (hr.mono (by decide)) (a_cons (d_v 3) (a_cons (d_ix (d_v 2) (d_int)) (a_nil)))) (a_nil))) (a_nil))))))
    (ss_nil))
    (ss_cons (s_set (i := 4) sc__law_step.nd (d_call (def__law_put T) (hr.mono (by decide)) (a_cons (d_v 0) (a_cons (d_v 3) (a_cons (d_ix (d_v 2) (d_int)) (a_cons (d_int) (a_nil)))))))
    (ss_one (s_ret (d_tup (a_cons (d_call (def__law_moves T) (hr.mono (by decide)) (a_cons (d_v 3) (a_cons (d_v 4) (a_nil)))) (a_cons (d_call (def__law_pattern T) (hr.mono (by decide)) (a_cons (d_v 4) (a_nil))) (a_nil)))))))), ?_⟩
  rintro ds m Q ⟨r, p, ⟨wd, k⟩, rfl, h1, h2, q⟩
  have hl : (lawRow p).length = p.length := by simp [lawRow]
  have hp : lawPat (lawRow p) = p := by
    refine List.ext_getElem (by simp [lawPat, lawRow]) fun i h3 h4 => ?_
    simp only [lawPat, lawRow, List.getElem_map, List.getElem_range]
    rw [List.getElem?_eq_getElem h4]
    simp only [Option.getD_some]
    cases p[i] <;> rfl
  refine q_asg (.list (rowD (lawRow p))) (fun Q q => ?_) ?_
  · walk_at "dx"
    exact ⟨p, rfl, by omega, q⟩
  unfold deedD
  cases wd with
  | take =>
    simp only [okD, decide_eq_true_eq] at h2
    refine q_when true (fun Q q => ?_) (fun _ => ?_) nofun
    · walk_at "dx"
      exact q
    · walk_at "dx"
      refine ⟨lawRow p, k, rfl, by omega, by rw [hp]; exact h2, lawTake (lawRow p) k, rfl, ?_, ?_⟩
      · have := lawTake_len (lawRow p) k
        omega
      · exact ⟨by decide, q⟩
  | put =>
    simp only [okD, Bool.and_eq_true, decide_eq_true_eq] at h2
    refine q_when false (fun Q q => ?_) nofun (fun _ => ?_)
    · walk_at "dx"
      exact q
    · refine q_asg (.list (rowD (lawPut r (lawRow p) k 99))) (fun Q q => ?_) ?_
      · walk_at "dx"
        exact ⟨r, lawRow p, k, 99, rfl, by omega, by rw [hp]; omega, by rw [hp]; omega, q⟩
      walk_at "dx"
      have := lawPut_len r (lawRow p) k 99
      exact ⟨lawRow p, lawPut r (lawRow p) k 99, rfl, by omega, by omega, _, rfl, by omega, by decide, q⟩
abbrev n__law_is_found : List Str := ["_law_d", "_law_rule_here", "_law_good", "_law_deeds", "_law_place", "_law_here", "_law_one", "_law_works_here", "_law_work"]
theorem sc__law_is_found : FnScope n__law_is_found ["_law_d", "_law_rule_here", "_law_good"] (defScope s__law_is_found) := ⟨rfl, rfl, rfl, by decide +kernel, rfl, by decide +kernel, by decide +kernel⟩
def pre__law_is_found (a : Ad) : Pre := fun ds m Q => ∃ (d : Addr) (r : Rl) (w : Nat), ds = [.adr d, .str (rt r), .int w] ∧ m d = some (.any Dice) ∧ 1 ≤ w ∧ w ≤ 6 ∧ m a.pF = some (.tab lam_12.qual) ∧ ∀ m', Grow m m' → Q (.bl true) m'
theorem len__law_is_found (a : Ad) : ∀ ds m Q, pre__law_is_found a ds m Q → ds.length = 3 := by
  rintro ds m Q ⟨_, _, _, rfl, _⟩
  rfl
theorem def__law_is_found (T : TX P w K mg base a) : Def P w K mg base "_law_is_found" 22 (pre__law_is_found a) := by
  refine Def.ofC (ps := ["_law_d", "_law_rule_here", "_law_good"]) T.h__law_is_found (fun _ _ _ _ _ _ us hl => match us, hl with | [_, _, _], _ => rfl) fun f fd F => ok_defC F sc__law_is_found (len__law_is_found a) fun A outer s H E hr => ⟨_, _, ss_cons (s_set (i := 3) sc__law_is_found.nd (d_call (def__law_drawn T) (hr.mono (by decide)) (a_cons (d_v 0) (a_cons (d_v 2) (a_cons (d_int) (a_nil))))))
    (ss_cons (s_set (i := 4) sc__law_is_found.nd (d_call (def__law_off T) (hr.mono (by decide)) (a_cons (d_v 0) (a_cons (d_add false (d_callB cr_lenAll cd_len T.b_len (by decide +kernel) (a_cons (d_v 3) (a_nil))) (d_int)) (a_nil)))))
    (ss_cons (s_set (i := 5) sc__law_is_found.nd (d_mul false (d_str) (d_v 2)))
    (ss_cons (s_for (i_list (d_slice false (d_v 3) (o_none) (o_some (d_v 4)))) (g_name (i := 6) sc__law_is_found.nd)
    (ss_one (s_set (i := 5) sc__law_is_found.nd (d_ix (d_call (def__law_step T) (hr.mono (by decide)) (a_cons (d_v 1) (a_cons (d_v 5) (a_cons (d_v 6) (a_nil))))) (d_int)))))
    (ss_cons (s_set (i := 3) sc__law_is_found.nd (d_add false (d_add false (d_slice false (d_v 3) (o_none) (o_some (d_v 4))) (d_lst false (a_cons (d_call (def__law_bad_deed T) (hr.mono (by decide)) (a_cons (d_v 0) (a_cons (d_v 5) (a_nil)))) (a_nil)))) (d_slice false (d_v 3) (o_some (d_v 4)) (o_none))))
    (ss_cons (s_set (i := 7) sc__law_is_found.nd (d_lst true (a_cons (d_lam lam_12 ["_law_deeds", "_law_good", "_law_rule_here"] T.t_F ln_12) (a_nil))))
    (ss_cons (s_expr (d_bm PySem.F.plainAttrs_list PySem.F.slot_list_append PySem.F.type_list_append mt_append md_append tyL' (d_v 7) (a_cons (d_lam lam_13 ["_law_deeds", "_law_good"] T.t_F ln_13) (a_nil))))
    (ss_fz 7 (ss_one (s_ret (d_cmp (op_eqAll (u64 hr)) opd_eq (d_lcR (X := (cxOf CX0 P w K mg base n__law_is_found "_law_is_found" (defScope s__law_is_found) f (.ref a.cF) A outer s H E).nox) (K := K) (cn := cn__law_is_found) false (i := 8) (ref_ok T) (hr.mono (by decide)) (fun _ _ _ h => h) (fun y hy => ⟨rfl, cc__law_is_found y hy⟩) sc__law_is_found.nd (d_v 7) (blkOk_by (own := [("_law_work", 8)]) (N := n__law_is_found) (sc := defScope s__law_is_found) (by decide +kernel)) (fun _ _ _ _ _ => DG.p (K := K) (g_name (i := 8) sc__law_is_found.nd)) (fun _ _ _ _ _ => a_cons (d_v 8) (a_cons (d_str) (a_cons (d_v 4) (a_nil)))) (fun _ _ _ _ _ => d_v 8)) (d_lst false (a_nil)) (nomark _))))))))))), ?_⟩
  rintro ds m Q ⟨d, r, w, rfl, hd, h1, h6, tab, q⟩
  refine q_asg' (P := fun x m1 => m1 = m ∧ ∃ l : List (Wd × Nat), x = .list (deedsD l) ∧ l.length ≤ 11 ∧ ∃ n, drawnOk w 0 l = some n) (fun Q q => ?_) ?_
  · walk_at "dx"
    exact ⟨d, w, 11, rfl, hd, h1, h6, by decide, fun l h2 h3 => q _ _ ⟨rfl, l, rfl, h2, h3⟩⟩
  rintro _ m1 ⟨hm, l, rfl, hl, n, hn⟩
  rw [hm]
  clear hm m1
  refine q_asg' (P := fun x m1 => m1 = m ∧ ∃ k : Nat, x = .int (k : Nat) ∧ k ≤ l.length) (fun Q q => ?_) ?_
  · walk_at "dx"
    exact ⟨d, (deedsD l).length + 1, rfl, hd, by omega, by rw [deedsD, List.length_map]; omega, fun k hk => q _ _ ⟨rfl, k, rfl, by rw [deedsD, List.length_map] at hk; omega⟩⟩
  rintro _ m1 ⟨hm, k, rfl, hk⟩
  rw [hm]
  clear hm m1
  refine q_asg (.str (ps (List.replicate w false))) (fun Q q => ?_) ?_
  · walk_at "dx"
    refine ⟨zeros_ok h1 h6, ?_⟩
    rw [zeros_eq h1 h6]
    exact q
  obtain ⟨n', hn'⟩ := drawn_part hn k
  refine q_for (deedsD (l.take k)) (fun Q q => ?_) (fun i e m' => m' = m ∧ ∃ ms p x6, e = [some (.adr d), some (.str (rt r)), some (.int w), some (.list (deedsD l)), some (.int k), some (.str (ps p)), x6, none, none] ∧ p.length = w ∧ playM r (List.replicate w false) ((l.take k).take i) = some (ms, p) ∧ drawnOk w 0 ((l.take k).take i) = some (placesOf p).length) ⟨rfl, [], List.replicate w false, none, rfl, by simp, rfl, ?_⟩ ?_ ?_
  · walk_at "dx"
    rw [cut_take, show List.take k (deedsD l) = deedsD (l.take k) by unfold deedsD; rw [List.map_take]]
    exact q
  · rw [List.take_zero, zeros_places h1 h6]
    rfl
  · rintro i x hx e m' ⟨rfl, ms, p, x6, rfl, hp, hpl, hdr⟩ nx hnx
    unfold deedsD at hx
    rw [List.getElem?_map] at hx
    obtain ⟨dd, hdd, rfl⟩ := Option.map_eq_some_iff.mp hx
    obtain ⟨hi, hget⟩ := List.getElem?_eq_some_iff.mp hdd
    obtain ⟨g1, g2, g3, g4⟩ := play_step (p0 := List.replicate w false) (p := p) (n := n') (by rw [hp, List.length_replicate]) (by rw [List.length_replicate]; exact h6) (zeros_places h1 h6) (by rw [List.length_replicate]; exact hn') hi hpl (by rw [List.length_replicate]; exact hdr)
    rw [hget] at g1 g2 g3 g4
    rw [List.length_replicate] at g3 g4
    walk_at "dg"
    refine s_asg' (.str (ps (lawStep r p dd).2)) (fun Q q => ?_) ?_
    · walk_at "dx"
      refine ⟨r, p, dd, rfl, by omega, g1, ?_⟩
      exact ⟨_, rfl, _, rfl, q⟩
    · exact hnx _ _ ⟨rfl, _, _, _, rfl, g3, g2, g4⟩
  · rintro e m' ⟨hm, ms, p, x6, rfl, hp, hpl, hdr⟩
    rw [hm]
    clear hm m'
    have hlen : (deedsD (l.take k)).length = (l.take k).length := by rw [deedsD, List.length_map]
    rw [hlen, List.take_length] at hpl hdr
    refine q_asg' (P := fun x m1 => m1 = m ∧ ∃ (word : Str) (kk : Int), x = spoilt (l.take k) word kk (deedsD (l.drop k)) ∧ badK w (placesOf p).length word kk) (fun Q q => ?_) ?_
    · walk_at "dx"
      refine ⟨d, p, rfl, hd, by omega, fun word kk hb => ?_⟩
      rw [cut_take, cut_drop]
      have e1 : (deedsD l).take k = deedsD (l.take k) := by unfold deedsD; rw [List.map_take]
      have e2 : (deedsD l).drop k = deedsD (l.drop k) := by unfold deedsD; rw [List.map_drop]
      have l1 : (deedsD (l.take k)).length ≤ 11 := by rw [hlen, List.length_take]; omega
      have l2 : (deedsD (l.drop k)).length ≤ 11 := by rw [deedsD, List.length_map, List.length_drop]; omega
      rw [e1, e2]
      refine ⟨by decide, Nat.le_trans (Nat.add_le_add l1 (Nat.le_refl _)) (by decide), ?_, q _ _ ⟨rfl, word, kk, ?_, by rw [← hp]; exact hb⟩⟩
      · rw [List.length_append]
        exact Nat.le_trans (Nat.add_le_add (Nat.add_le_add l1 (Nat.le_refl 1)) l2) (by decide)
      · unfold spoilt
        rw [List.append_assoc]
        rfl
    rintro _ m1 ⟨hm, word, kk, rfl, hbad⟩
    rw [hm]
    clear hm m1
    walk_at "dxs"
    refine ⟨tab, fun f0 c0 h0 n0 => ⟨by decide, fun wl nl => ?_⟩⟩
    simp only [ups_none] at nl
    have g1 := ((Grow.refl m).set (o := .clo lam_12 c0) n0).set (o := .lst [.adr f0]) nl.2
    refine ⟨g1 _ _ tab, fun f1 c1 h1' n1 => ?_⟩
    simp only [ups_none] at n1
    refine ⟨_, by rw [ups_ne (Ne.symm n1.1), ups_same], by show 1 < sizeLine; decide, ?_⟩
    have g2 := (g1.set (o := .clo lam_13 c1) n1.2.2).set (o := .lst ([.adr f0] ++ [.adr f1])) nl.2
    refine fz_list (p := wl) (ds := [.adr f0] ++ [.adr f1]) rfl ups_same ?_
    have g3 := g2.del nl.2
    generalize hm3 : Dq.del _ wl = m3 at g3 ⊢
    have hf0 : m3 f0 = some (.clo lam_12 c0) := by
      rw [← hm3]
      clear q g1 g2 g3
      simp only [Dq.del, ups]
      grind
    have hf1 : m3 f1 = some (.clo lam_13 c1) := by
      rw [← hm3]
      clear q g1 g2 g3
      simp only [Dq.del, ups]
      grind
    clear hm3 g1 g2
    have lk : (l.take k).length = k := by rw [List.length_take]; omega
    unfold dRet dOp
    refine lcR_run (Grow m3) [.adr f0, .adr f1] (fun Q' q' => ⟨_, rfl, q'⟩) (Grow.refl m3) (fun x hx m1 gm Q' q' => ?_) fun m2 gm => ?_
    · walk_at "dx"
      simp only [List.mem_cons, List.not_mem_nil, or_false] at hx
      rcases hx with rfl | rfl
      · refine refD_own (T := lam_12) (us := [spoilt (l.take k) word kk (deedsD (l.drop k)), .int w, .str (rt r)]) (gm _ _ hf0) h0 rfl ?_ (lok_12 T) ?_
        · exact own3 3 2 1 ⟨by simp, rfl, rfl⟩ ⟨by simp, rfl, rfl⟩ ⟨by simp, rfl, rfl⟩
        · refine ⟨r, w, l.take k, (ms, p), word, kk, deedsD (l.drop k), rfl, h1, h6, by omega, hpl, badK_step (by rw [hp]; exact hbad), fun m2 g => ⟨?_, q' m2 (gm.trans g)⟩⟩
          rw [lk]
          exact match_deed
      · refine refD_own (T := lam_13) (us := [spoilt (l.take k) word kk (deedsD (l.drop k)), .int w]) (gm _ _ hf1) h1' rfl ?_ (lok_13 T) ?_
        · exact own2 3 2 ⟨by simp, rfl, rfl⟩ ⟨by simp, rfl, rfl⟩
        · refine ⟨w, l.take k, _, word, kk, deedsD (l.drop k), rfl, h1, h6, by omega, hdr, .inr hbad, fun m2 g => ⟨?_, q' m2 (gm.trans g)⟩⟩
          rw [lk]
          exact match_deed
    · walk_at "dx"
      exact ⟨Nat.zero_le _, nil_eq (q _ (g3.trans gm))⟩
def pre_played : Pre := fun ds m Q => ∃ (r : Rl) (w : Nat) (l : List (Wd × Nat)) (o : List Nat × List Bool), ds = [.str (rt r), .int w, .list (deedsD l)] ∧ 1 ≤ w ∧ w ≤ 6 ∧ l.length ≤ 200 ∧ playM r (List.replicate w false) l = some o ∧ ∀ a, m a = none → Q (.tuple [.adr a, .str (ps o.2)]) (ups m a (.lst (nums o.1)))
theorem len_played : ∀ ds m Q, pre_played ds m Q → ds.length = 3 := by
  rintro ds m Q ⟨r, w, k, _, rfl, _⟩
  rfl
theorem def_played (T : TX P w K mg base a) : Def P w K mg base "played" 4 pre_played := by
  refine Def.of (ps := ["rule", "wide", "deeds"]) T.h_played (fun _ _ _ _ _ _ us hl => match us, hl with | [_, _, _], _ => rfl) fun f fd F => ok_def F sc_played len_played fun cdv A outer s H E hr => ⟨_, _, ss_cons (s_expr (d_call (def_need_rule T) (hr.mono (by decide)) (a_cons (d_v 0) (a_nil))))
    (ss_cons (s_expr (d_call (def_need_width T) (hr.mono (by decide)) (a_cons (d_v 1) (a_nil))))
    (ss_cons (s_set (i := 3) sc_played.nd (d_mul false (d_glob T.c_FREE) (d_v 1)))
    (ss_cons (s_set (i := 4) sc_played.nd (d_lst true (a_nil)))
    (ss_cons (s_for (i_enum T.b_enumerate (a_cons (d_v 2) (a_nil))) (g_tup (n := 2) (gs_cons (g_name (i := 5) sc_played.nd) (gs_cons (g_name (i := 6) sc_played.nd) (gs_nil))))
    (ss_cons (s_set (i := 7) sc_played.nd (d_call (def_step T) (hr.mono (by decide)) (a_cons (d_v 0) (a_cons (d_v 3) (a_cons (d_v 6) (a_nil))))))
    (ss_cons (s_if (t_cmp op_isN opd_isN (d_v 7) (d_non) (nomark _))
    (ss_one (s_never))
    (ss_nil))
    (ss_cons (s_expr (d_bm PySem.F.plainAttrs_list PySem.F.slot_list_append PySem.F.type_list_append mt_append md_append tyL' (d_v 4) (a_cons (d_ix (d_v 7) (d_int)) (a_nil))))
    (ss_one (s_set (i := 3) sc_played.nd (d_ix (d_v 7) (d_int))))))))
    (ss_one (s_ret (d_tup (a_cons (d_v 4) (a_cons (d_v 3) (a_nil)))))))))), ?_⟩
  rintro ds m Q ⟨r, w, l, o, rfl, h1, h2, h3, ho, q⟩
  refine q_drop (fun Q q => ?_) ?_
  · walk_at "dx"
    exact ⟨r, rfl, q _⟩
  refine q_drop (fun Q q => ?_) ?_
  · walk_at "dx"
    exact ⟨w, rfl, by omega, by omega, q _⟩
  refine q_asg (.str (ps (List.replicate w false))) (fun Q q => ?_) ?_
  · walk_at "dx"
    refine ⟨zeros_ok h1 h2, ?_⟩
    rw [zeros_eq h1 h2]
    exact q
  refine q_new (ds := []) (fun Q q => ?_) fun a ha => ?_
  · walk_at "dx"
    exact ⟨Nat.zero_le _, q⟩
  refine q_for (enumD 0 (deedsD l)) (fun Q q => ?_) (fun i env m' => ∃ ns p' x y z, m' = ups m a (.lst (nums ns)) ∧ ns.length = i ∧ p'.length = w ∧ env = [some (.str (rt r)), some (.int w), some (.list (deedsD l)), some (.str (ps p')), some (.adr a), x, y, z] ∧ ∃ o', playM r p' (l.drop i) = some o' ∧ o = (ns ++ o'.1, o'.2))
    ⟨[], List.replicate w false, _, _, _, rfl, rfl, by simp, rfl, o, ho, by simp⟩ ?_ ?_
  · walk_at "dx"
    exact q
  · rintro i d hd env m' ⟨ns, p', x, y, z, rfl, hl, hp, rfl, o', ho', e⟩ nx hn
    rw [enumD_get] at hd
    obtain ⟨t, ht, rfl⟩ := Option.map_eq_some_iff.mp hd
    unfold deedsD at ht
    rw [List.getElem?_map] at ht
    obtain ⟨⟨wd, k⟩, hc, rfl⟩ := Option.map_eq_some_iff.mp ht
    have hi := (List.getElem?_eq_some_iff.mp hc).1
    have hdr : l.drop i = (wd, k) :: l.drop (i + 1) := by
      rw [← (List.getElem?_eq_some_iff.mp hc).2, List.getElem_cons_drop]
    rw [hdr, playM] at ho'
    cases hs : stepW r p' (wd, k) with
    | none =>
      rw [hs] at ho'
      cases ho'
    | some nq =>
      obtain ⟨n, q'⟩ := nq
      rw [hs] at ho'
      simp only at ho'
      cases hpl : playM r q' (l.drop (i + 1)) with
      | none =>
        rw [hpl] at ho'
        cases ho'
      | some o2 =>
        rw [hpl] at ho'
        cases ho'
        have hq' : q'.length = w := by rw [← hp]; exact stepM_len hs
        walk_at "dg"
        refine q_asg (stepD (some (n, q'))) (fun Q q => ?_) ?_
        · walk_at "dx"
          refine ⟨r, p', wt wd, (k : Nat), rfl, by omega, ?_⟩
          rw [show stepM r p' (wt wd) (k : Nat) = some (n, q') from hs]
          exact q
        refine q_when false (fun Q q => ?_) (fun hb => by cases hb) (fun _ => ?_)
        · walk_at "dx"
          exact q
        refine q_dropM (m1 := ups m a (.lst (nums (ns ++ [n])))) (fun Q q => ?_) ?_
        · unfold stepD
          walk_at "dx"
          rw [nums_len, nums_append]
          exact ⟨small_line (by omega), q _⟩
        refine s_asg' (.str (ps q')) (fun Q q => ?_) ?_
        · unfold stepD
          walk_at "dx"
          exact q
        refine hn _ _ ⟨ns ++ [n], q', _, _, _, rfl, by simp [hl], hq', rfl, o2, hpl, ?_⟩
        rw [e]
        simp
  · rintro env m' ⟨ns, p', x, y, z, rfl, hl, hp, rfl, o', ho', e⟩
    rw [enumD_length, deedsD, List.length_map, List.drop_length] at ho'
    cases ho'
    have q := q a ha
    rw [e] at q
    simp only [List.append_nil] at q
    walk_at "dx"
    exact ⟨by decide, q⟩
abbrev n_law : List Str := ["_law_script", "_law_d", "_law_far", "_law_wide", "_law_none", "_law_rule_here", "_law_good", "_law_pattern_here", "_law_bad", "_law_at", "_law_deed", "_law_works_here", "_law_long", "_law_work"]
theorem sc_law : FnScope n_law ["_law_script"] (defScope s_law) := ⟨rfl, rfl, rfl, by decide +kernel, rfl, by decide +kernel, by decide +kernel⟩
def pre_law (a : Ad) : Pre := fun ds m Q => ∃ ns : List Int, ds = [.seq (ns.map D.int)] ∧ ns.length ≤ 63 ∧ m a.pL = some (.tab lam_0.qual) ∧ m a.pW = some (.tab lam_7.qual) ∧ m a.pF = some (.tab lam_12.qual) ∧ m a.pS = some (.tab lam_14.qual) ∧ ∀ m', Q (.bl true) m'
theorem len_law (a : Ad) : ∀ ds m Q, pre_law a ds m Q → ds.length = 1 := by
  rintro ds m Q ⟨_, rfl, _⟩
  rfl
structure WorksAt (m : Mu) (d1 d2 : D) (f0 f1 f2 f3 f4 : Addr) : Prop where
  ex : ∃ (a1 a2 : Addr) (c0 c1 c2 c3 c4 : List (Str × Addr)), m a1 = some (.cel d1) ∧ m a2 = some (.cel d2) ∧ (m f0 = some (.clo lam_7 c0) ∧ CloF [("_law_rule_here", a1), ("_law_wide", a2)] ["_law_rule_here", "_law_wide"] c0) ∧ (m f1 = some (.clo lam_8 c1) ∧ CloF [("_law_rule_here", a1), ("_law_wide", a2)] ["_law_rule_here", "_law_wide"] c1) ∧ (m f2 = some (.clo lam_9 c2) ∧ CloF [("_law_rule_here", a1), ("_law_wide", a2)] ["_law_rule_here", "_law_wide"] c2) ∧ (m f3 = some (.clo lam_10 c3) ∧ CloF [("_law_rule_here", a1), ("_law_wide", a2)] ["_law_rule_here", "_law_wide"] c3) ∧ (m f4 = some (.clo lam_11 c4) ∧ CloF [("_law_rule_here", a1), ("_law_wide", a2)] ["_law_rule_here", "_law_wide"] c4)
theorem WorksAt.grow {m m' : Mu} {d1 d2 : D} {f0 f1 f2 f3 f4 : Addr} (W : WorksAt m d1 d2 f0 f1 f2 f3 f4) (g : Grow m m') : WorksAt m' d1 d2 f0 f1 f2 f3 f4 := by
  obtain ⟨a1, a2, c0, c1, c2, c3, c4, h1, h2, ⟨g0, k0⟩, ⟨g1, k1⟩, ⟨g2, k2⟩, ⟨g3, k3⟩, ⟨g4, k4⟩⟩ := W.ex
  exact ⟨a1, a2, c0, c1, c2, c3, c4, g _ _ h1, g _ _ h2, ⟨g _ _ g0, k0⟩, ⟨g _ _ g1, k1⟩, ⟨g _ _ g2, k2⟩, ⟨g _ _ g3, k3⟩, ⟨g _ _ g4, k4⟩⟩
theorem works_rule (T : TX P w K mg base a) {DOW : Addr → D → Prop} {m : Mu} {s : Str} {wd : Int} {f0 f1 f2 f3 f4 : Addr} {x : D} (W : WorksAt m (.str s) (.int wd) f0 f1 f2 f3 f4) (hs : noRule s) (hx : x ∈ [D.adr f0, .adr f1, .adr f2, .adr f3, .adr f4]) {Q : D → Mu → Prop} (q : ∀ m2, Grow m m2 → Q (.bl true) m2) :
    RefD (fun T N pre => LamOk P w K mg base 20 T N (spX K pre)) DOW (classes a) [x, .str (Str.ofString "rule"), .int 0] m Q := by
  obtain ⟨a1, a2, c0, c1, c2, c3, c4, h1, h2, ⟨g0, k0⟩, ⟨g1, k1⟩, ⟨g2, k2⟩, ⟨g3, k3⟩, ⟨g4, k4⟩⟩ := W.ex
  simp only [List.mem_cons, List.not_mem_nil, or_false] at hx
  rcases hx with rfl | rfl | rfl | rfl | rfl
  · exact works_ref g0 k0 h1 h2 (lok_7 T) fun m1 hg => .inl ⟨s, wd, rfl, hs, fun m' g => ⟨match_rule, q _ (hg m' g)⟩⟩
  · exact works_ref g1 k1 h1 h2 (lok_8 T) fun m1 hg => .inl ⟨s, wd, rfl, hs, fun m' g => ⟨match_rule, q _ (hg m' g)⟩⟩
  · exact works_ref g2 k2 h1 h2 (lok_9 T) fun m1 hg => .inl ⟨s, wd, rfl, hs, fun m' g => ⟨match_rule, q _ (hg m' g)⟩⟩
  · exact works_ref g3 k3 h1 h2 (lok_10 T) fun m1 hg => .inl ⟨s, wd, rfl, hs, fun m' g => ⟨match_rule, q _ (hg m' g)⟩⟩
  · exact works_ref g4 k4 h1 h2 (lok_11 T) fun m1 hg => .inl ⟨s, wd, rfl, hs, fun m' g => ⟨match_rule, q _ (hg m' g)⟩⟩
theorem works_width (T : TX P w K mg base a) {DOW : Addr → D → Prop} {m : Mu} {r : Rl} {wd : Int} {f0 f1 f2 f3 f4 : Addr} {x : D} (W : WorksAt m (.str (rt r)) (.int wd) f0 f1 f2 f3 f4) (hs : badWide wd) (hx : x ∈ [D.adr f0, .adr f1, .adr f2, .adr f3, .adr f4]) {Q : D → Mu → Prop} (q : ∀ m2, Grow m m2 → Q (.bl true) m2) :
    RefD (fun T N pre => LamOk P w K mg base 20 T N (spX K pre)) DOW (classes a) [x, .str (Str.ofString "width"), .int 0] m Q := by
  obtain ⟨a1, a2, c0, c1, c2, c3, c4, h1, h2, ⟨g0, k0⟩, ⟨g1, k1⟩, ⟨g2, k2⟩, ⟨g3, k3⟩, ⟨g4, k4⟩⟩ := W.ex
  simp only [List.mem_cons, List.not_mem_nil, or_false] at hx
  rcases hx with rfl | rfl | rfl | rfl | rfl
  · exact works_ref g0 k0 h1 h2 (lok_7 T) fun m1 hg => .inr ⟨r, wd, rfl, hs, fun m' g => ⟨match_width, q _ (hg m' g)⟩⟩
  · exact works_ref g1 k1 h1 h2 (lok_8 T) fun m1 hg => .inr ⟨r, wd, rfl, hs, fun m' g => ⟨match_width, q _ (hg m' g)⟩⟩
  · exact works_ref g2 k2 h1 h2 (lok_9 T) fun m1 hg => .inr ⟨r, wd, rfl, hs, fun m' g => ⟨match_width, q _ (hg m' g)⟩⟩
  · exact works_ref g3 k3 h1 h2 (lok_10 T) fun m1 hg => .inr ⟨r, wd, rfl, hs, fun m' g => ⟨match_width, q _ (hg m' g)⟩⟩
  · exact works_ref g4 k4 h1 h2 (lok_11 T) fun m1 hg => .inr ⟨r, wd, rfl, hs, fun m' g => ⟨match_width, q _ (hg m' g)⟩⟩
theorem ok_law (T : TX P w K mg base a) {f : Addr} {fd : FuncData} (F : FunC K "law" "law" s_law a.cL f fd) : FnOk P w K mg base CX0 23 f fd ["_law_script"] (spD K (pre_law a)) := by
  refine ok_defC F sc_law (len_law a) fun A outer s H E hr => ⟨_, _, ss_cons (s_set (i := 1) sc_law.nd (d_call (def__law_dice T) (hr.mono (by decide)) (a_cons (d_v 0) (a_cons (d_int) (a_nil)))))
    (ss_cons (s_set (i := 2) sc_law.nd (d_callB (call_max2 rfl) cd_max2 T.b_max (by decide +kernel) (a_cons (d_int) (a_cons (d_sub (d_call (def__law_off T) (hr.mono (by decide)) (a_cons (d_v 1) (a_cons (d_pow (d_int) (d_int)) (a_nil)))) (d_int)) (a_nil)))))
    (ss_cons (s_set (i := 3) sc_law.nd (d_ix (d_lst false (a_cons (d_int) (a_cons (d_int) (a_cons (d_sub (d_neg (d_int)) (d_v 2)) (a_cons (d_add false (d_int) (d_v 2)) (a_nil)))))) (d_call (def__law_off T) (hr.mono (by decide)) (a_cons (d_v 1) (a_cons (d_int) (a_nil))))))
    (ss_cons (s_set (i := 4) sc_law.nd (d_ix (d_lst false (a_cons (d_str) (a_cons (d_str) (a_cons (d_str) (a_cons (d_str) (a_nil)))))) (d_call (def__law_off T) (hr.mono (by decide)) (a_cons (d_v 1) (a_cons (d_int) (a_nil))))))
    (ss_cons (s_set (i := 5) sc_law.nd (d_call (def__law_rule T) (hr.mono (by decide)) (a_cons (d_v 1) (a_nil))))
    (ss_cons (s_set (i := 6) sc_law.nd (d_add false (d_int) (d_call (def__law_off T) (hr.mono (by decide)) (a_cons (d_v 1) (a_cons (d_int) (a_nil))))))
    (ss_cons (s_set (i := 7) sc_law.nd (d_bm PySem.F.plainAttrs_str PySem.F.slot_str_join PySem.F.type_str_join m_join md_join tyS' (d_str) (a_cons (d_lc false sc_law.nd (own := [("_law_at", 9)]) (i_range1 T.b_range (a_cons (d_v 6) (a_nil))) (blkOk_by (own := [("_law_at", 9)]) (N := n_law) (sc := defScope s_law) (by decide +kernel)) (fun _ _ _ _ _ => g_name (i := 9) sc_law.nd) (fun _ _ _ _ _ => ts_nil) (fun _ _ _ _ _ => d_ix (d_str) (d_call (def__law_off T) (hr.mono (by decide)) (a_cons (d_v 1) (a_cons (d_int) (a_nil))))) (keeps_name (by decide))) (a_nil))))
    (ss_cons (s_asg (d_call (def__law_bad_pattern T) (hr.mono (by decide)) (a_cons (d_v 1) (a_cons (d_v 7) (a_nil)))) (g_tup (n := 2) (gs_cons (g_name (i := 8) sc_law.nd) (gs_cons (g_name (i := 9) sc_law.nd) (gs_nil)))))
    (ss_cons (s_set (i := 10) sc_law.nd (d_call (def__law_bad_deed T) (hr.mono (by decide)) (a_cons (d_v 1) (a_cons (d_v 7) (a_nil)))))
    (ss_cons (s_set (i := 11) sc_law.nd (d_add false (d_call (def__law_works T) (hr.mono (by decide)) (a_cons (d_v 4) (a_cons (d_v 3) (a_nil)))) (d_lst false (a_cons (d_lam lam_0 ["_law_bad", "_law_deed", "_law_none"] T.t_L ln_0) (a_nil)))))
    (ss_cons (s_if (t_cmp (op_neAll (u64 hr)) opd_ne (d_lcR (X := (cxOf CX0 P w K mg base n_law "law" (defScope s_law) f (.ref a.cL) A outer s H E).nox) (K := K) (cn := cn_law) false (i := 13) (ref_ok T) (hr.mono (by decide)) (fun _ _ _ h => h) (fun y hy => ⟨rfl, cc_law y hy⟩) sc_law.nd (d_v 11) (blkOk_by (own := [("_law_work", 13)]) (N := n_law) (sc := defScope s_law) (by decide +kernel)) (fun _ _ _ _ _ => DG.p (K := K) (g_name (i := 13) sc_law.nd)) (fun _ _ _ _ _ => a_cons (d_v 13) (a_cons (d_str) (a_cons (d_int) (a_nil)))) (fun _ _ _ _ _ => d_v 13)) (d_lst false (a_nil)) (nomark _))
    (ss_one (s_ret (d_bl)))
    (ss_nil))
    (ss_cons (s_set (i := 11) sc_law.nd (d_add false (d_call (def__law_works T) (hr.mono (by decide)) (a_cons (d_v 5) (a_cons (d_v 3) (a_nil)))) (d_lst false (a_cons (d_lam lam_1 ["_law_wide"] T.t_L ln_1) (a_nil)))))
    (ss_cons (s_if (t_cmp (op_neAll (u64 hr)) opd_ne (d_lcR (X := (cxOf CX0 P w K mg base n_law "law" (defScope s_law) f (.ref a.cL) A outer s H E).nox) (K := K) (cn := cn_law) false (i := 13) (ref_ok T) (hr.mono (by decide)) (fun _ _ _ h => h) (fun y hy => ⟨rfl, cc_law y hy⟩) sc_law.nd (d_v 11) (blkOk_by (own := [("_law_work", 13)]) (N := n_law) (sc := defScope s_law) (by decide +kernel)) (fun _ _ _ _ _ => DG.p (K := K) (g_name (i := 13) sc_law.nd)) (fun _ _ _ _ _ => a_cons (d_v 13) (a_cons (d_str) (a_cons (d_int) (a_nil)))) (fun _ _ _ _ _ => d_v 13)) (d_lst false (a_nil)) (nomark _))
    (ss_one (s_ret (d_bl)))
    (ss_nil))
    (ss_cons (s_if (t_not (t_val (d_ref (cn := cn_law) (ref_ok T) (hr.mono (by decide)) (fun _ _ _ h => h) (fun y hy => ⟨rfl, cc_law y hy⟩) (a_cons (d_lam lam_2 ["_law_bad", "_law_deed", "_law_rule_here"] T.t_L ln_2) (a_cons (d_str) (a_cons (d_v 9) (a_nil)))))))
    (ss_one (s_ret (d_bl)))
    (ss_nil))
    (ss_cons (s_if (DW.t (w_or (t_not (t_val (d_ref (cn := cn_law) (ref_ok T) (hr.mono (by decide)) (fun _ _ _ h => h) (fun y hy => ⟨rfl, cc_law y hy⟩) (a_cons (d_lam lam_3 ["_law_deed", "_law_pattern_here", "_law_rule_here"] T.t_L ln_3) (a_cons (d_str) (a_cons (d_int) (a_nil))))))) (w_or1 (t_not (t_val (d_call (def__law_is_found T) (hr.mono (by decide)) (a_cons (d_v 1) (a_cons (d_v 5) (a_cons (d_v 6) (a_nil))))))))))
    (ss_one (s_ret (d_bl)))
    (ss_nil))
    (ss_cons (s_set (i := 12) sc_law.nd (d_mul false (d_lst false (a_cons (d_tup (a_cons (d_str) (a_cons (d_int) (a_nil)))) (a_cons (d_tup (a_cons (d_str) (a_cons (d_int) (a_nil)))) (a_nil)))) (d_int)))
    (ss_cons (s_if (DW.t (w_or (t_not (t_val (d_ref (cn := cn_law) (ref_ok T) (hr.mono (by decide)) (fun _ _ _ h => h) (fun y hy => ⟨rfl, cc_law y hy⟩) (a_cons (d_lam lam_4 ["_law_good", "_law_long"] T.t_L ln_4) (a_cons (d_str) (a_cons (d_int) (a_nil))))))) (w_or1 (t_cmp (op_neAll (u64 hr)) opd_ne (d_ix (d_call (def_played T) (hr.mono (by decide)) (a_cons (d_v 5) (a_cons (d_v 6) (a_cons (d_v 12) (a_nil))))) (d_int)) (d_mul false (d_str) (d_v 6)) (nomark _)))))
    (ss_one (s_ret (d_bl)))
    (ss_nil))
    (ss_cons (s_set (i := 11) sc_law.nd (d_lst false (a_cons (d_lam lam_5 ["_law_far", "_law_good", "_law_rule_here"] T.t_L ln_5) (a_cons (d_lam1 lam_6 ["_law_far", "_law_good", "_law_rule_here"] T.t_L ln_6 pe_int) (a_nil)))))
    (ss_cons (s_if (t_cmp (op_neAll (u64 hr)) opd_ne (d_lcR (X := (cxOf CX0 P w K mg base n_law "law" (defScope s_law) f (.ref a.cL) A outer s H E).nox) (K := K) (cn := cn_law) false (i := 13) (ref_ok T) (hr.mono (by decide)) (fun _ _ _ h => h) (fun y hy => ⟨rfl, cc_law y hy⟩) sc_law.nd (d_v 11) (blkOk_by (own := [("_law_work", 13)]) (N := n_law) (sc := defScope s_law) (by decide +kernel)) (fun _ _ _ _ _ => DG.p (K := K) (g_name (i := 13) sc_law.nd)) (fun _ _ _ _ _ => a_cons (d_v 13) (a_cons (d_str) (a_cons (d_int) (a_nil)))) (fun _ _ _ _ _ => d_v 13)) (d_lst false (a_nil)) (nomark _))
    (ss_one (s_ret (d_bl)))
    (ss_nil))
    (ss_one (s_ret (d_call (def__law_shelf T) (hr.mono (by decide)) (a_cons (d_v 1) (a_cons (d_v 5) (a_cons (d_v 6) (a_nil))))))))))))))))))))))))), ?_⟩
  rintro ds m Q ⟨ns, rfl, hns, tL, tW, tF, tS, q⟩
  refine q_newAny (A := Dice) (fun Q q => ?_) fun d hd => ?_
  · walk_at "dx"
    exact ⟨ns, rfl, hns, q⟩
  have gm := Grow.new (o := .any Dice) hd
  have tL := gm _ _ tL
  have tW := gm _ _ tW
  have tF := gm _ _ tF
  have tS := gm _ _ tS
  have hdm : ups m d (.any Dice) d = some (.any Dice) := ups_same
  generalize ups m d (.any Dice) = m1 at tL tW tF tS hdm ⊢
  clear gm hd
  refine q_asg' (P := fun x m2 => m2 = m1 ∧ ∃ far : Nat, x = .int far ∧ far < 1000000) (fun Q q => ?_) ?_
  · walk_at "dx"
    refine ⟨⟨by decide, by decide⟩, d, 1000000, rfl, hdm, by decide, by decide, fun k hk => ⟨_, rfl, ?_⟩⟩
    split
    · exact q _ _ ⟨rfl, k - 500000, congrArg D.int (by omega), by omega⟩
    · exact q _ _ ⟨rfl, 0, rfl, by decide⟩
  rintro _ m2 ⟨hm, far, rfl, hf⟩
  rw [hm]
  clear hm m2
  refine q_asg' (P := fun x m2 => m2 = m1 ∧ ∃ w : Int, x = .int w ∧ badWide w) (fun Q q => ?_) ?_
  · walk_at "dx"
    refine ⟨by decide, d, 4, rfl, hdm, by decide, by decide, fun k hk => ⟨_, rfl, ?_⟩⟩
    obtain ⟨bw, hat, hbw⟩ := wide_ix (f := far) k hk
    exact ⟨_, atI_nat hat, q _ _ ⟨rfl, bw, rfl, hbw⟩⟩
  rintro _ m2 ⟨hm, bw, rfl, hbw⟩
  rw [hm]
  clear hm m2
  refine q_asg' (P := fun x m2 => m2 = m1 ∧ ∃ s : Str, x = .str s ∧ noRule s) (fun Q q => ?_) ?_
  · walk_at "dx"
    refine ⟨by decide, d, 4, rfl, hdm, by decide, by decide, fun k hk => ⟨_, rfl, ?_⟩⟩
    obtain ⟨nr, hat, hnr⟩ := none_ix k hk
    exact ⟨_, atI_nat hat, q _ _ ⟨rfl, nr, rfl, hnr⟩⟩
  rintro _ m2 ⟨hm, nr, rfl, hnr⟩
  rw [hm]
  clear hm m2
  refine q_asg' (P := fun x m2 => m2 = m1 ∧ ∃ r : Rl, x = .str (rt r)) (fun Q q => ?_) ?_
  · walk_at "dx"
    exact ⟨d, rfl, hdm, fun r => q _ _ ⟨rfl, r, rfl⟩⟩
  rintro _ m2 ⟨hm, r, rfl⟩
  rw [hm]
  clear hm m2
  refine q_asg' (P := fun x m2 => m2 = m1 ∧ ∃ w : Nat, x = .int w ∧ 1 ≤ w ∧ w ≤ 6) (fun Q q => ?_) ?_
  · walk_at "dx"
    exact ⟨d, 6, rfl, hdm, by decide, by decide, fun k hk => ⟨_, rfl, q _ _ ⟨rfl, 1 + k, by rw [show ((1 + k : Nat) : Int) = 1 + (k : Int) by omega], by omega, by omega⟩⟩⟩
  rintro _ m2 ⟨hm, w, rfl, h1, h6⟩
  rw [hm]
  clear hm m2
  refine q_asg' (P := fun x m2 => m2 = m1 ∧ ∃ p : List Bool, x = .str (ps p) ∧ p.length ≤ 6 ∧ p ≠ []) (fun Q q => ?_) ?_
  · walk_at "dx"
    refine ⟨⟨_, rfl⟩, by omega, by omega, ?_⟩
    rw [Int.toNat_natCast]
    refine lc_drawn (β := Bool) (fun b => .str (if b then "1" else "0")) (fun x hx Q' q' => ?_) (by rw [List.length_map, List.length_range]; exact small_line (by omega)) (fun bs hbs => ?_)
    · walk_at "dx"
      refine ⟨d, 2, rfl, hdm, by decide, by decide, fun k hk => ⟨_, rfl, by decide +kernel, ?_⟩⟩
      obtain ⟨b, c, hc, e⟩ := bit_ix k hk
      refine ⟨c, hc, ?_⟩
      rw [e]
      exact q' b
    · rw [List.length_map, List.length_range] at hbs
      exact join_bits (by omega) (q _ _ ⟨rfl, bs, rfl, by omega, by rintro rfl; simp at hbs; omega⟩)
  rintro _ m2 ⟨hm, p, rfl, hp6, hpn⟩
  rw [hm]
  clear hm m2
  refine q_asgGP (P := fun x m2 => m2 = m1 ∧ ∃ (s : Str) (k : Nat), x = .tuple [.str s, .int k] ∧ BadAt s k ∧ s.length ≤ 100) (fun Q q => ?_) ?_
  · walk_at "dx"
    exact ⟨d, p, rfl, hdm, hp6, fun s k h1 h2 => q _ _ ⟨rfl, s, k, rfl, h1, h2⟩⟩
  rintro _ m2 ⟨hm, bp, bk, rfl, hbp, hbl⟩
  rw [hm]
  clear hm m2
  walk_at "dg"
  refine q_asg' (P := fun x m2 => m2 = m1 ∧ ∃ (word : Str) (k : Int), x = .tuple [.str word, .int k] ∧ badK p.length (placesOf p).length word k) (fun Q q => ?_) ?_
  · walk_at "dx"
    exact ⟨d, p, rfl, hdm, hp6, fun word k h => q _ _ ⟨rfl, word, k, rfl, h⟩⟩
  rintro _ m2 ⟨hm, word, dk, rfl, hbd⟩
  rw [hm]
  clear hm m2
  refine q_asg' (P := fun x m2 => Grow m1 m2 ∧ ∃ (f0 f1 f2 f3 f4 f5 : Addr) (c5 : List (Str × Addr)), x = .list [.adr f0, .adr f1, .adr f2, .adr f3, .adr f4, .adr f5] ∧ WorksAt m2 (.str nr) (.int bw) f0 f1 f2 f3 f4 ∧ m2 f5 = some (.clo lam_0 c5) ∧ CloF (PyProof.Rows.envOfC (Str.ofString "law") (defScope s_law) s.heap.objs.size f (.ref a.cL)).cells ["_law_bad", "_law_deed", "_law_none"] c5) (fun Q q => ?_) ?_
  · walk_at "dx"
    refine ⟨_, _, rfl, tW, fun l a1 a2 f0 f1 f2 f3 f4 c0 c1 c2 c3 c4 m2 g hl h1 h2 k0 k1 k2 k3 k4 => ?_⟩
    refine ⟨g _ _ tL, fun f5 c5 clo n5 => ?_⟩
    have gf := Grow.new (o := .clo lam_0 c5) n5
    refine ⟨by decide, [.adr f0, .adr f1, .adr f2, .adr f3, .adr f4], ?_, by show 6 ≤ sizeLine; decide, ?_⟩
    · simp only [gf _ _ hl]
    · exact q _ _ ⟨g.trans gf, f0, f1, f2, f3, f4, f5, c5, rfl, WorksAt.grow ⟨a1, a2, c0, c1, c2, c3, c4, h1, h2, k0, k1, k2, k3, k4⟩ gf, ups_same, clo⟩
  rintro _ m2 ⟨g2, f0, f1, f2, f3, f4, f5, c5, rfl, wk, h5, clo5⟩
  have tL := g2 _ _ tL
  have tW := g2 _ _ tW
  have tF := g2 _ _ tF
  have tS := g2 _ _ tS
  have hdm := g2 _ _ hdm
  refine q_whenP (Grow m2) (fun Q q => ?_) ?_
  · unfold dTest dOp
    refine lcR_run (Grow m2) [.adr f0, .adr f1, .adr f2, .adr f3, .adr f4, .adr f5] (fun Q' q' => ⟨_, rfl, q'⟩) (Grow.refl _) (fun x hx mm gm Q' q' => ?_) fun mm gm => ?_
    · walk_at "dx"
      have hx : x ∈ [D.adr f0, .adr f1, .adr f2, .adr f3, .adr f4] ++ [.adr f5] := hx
      rcases List.mem_append.mp hx with hx | hx
      · exact works_rule T (wk.grow gm) hnr hx fun m2 g => q' m2 (gm.trans g)
      · simp only [List.mem_cons, List.not_mem_nil, or_false] at hx
        subst hx
        refine refD_own (T := lam_0) (us := [.str bp, .tuple [.str word, .int dk], .str nr]) (gm _ _ h5) clo5 rfl ?_ (lok_0 T) ?_
        · exact own3 8 10 4 ⟨by simp, rfl, rfl⟩ ⟨by simp, rfl, rfl⟩ ⟨by simp, rfl, rfl⟩
        · exact ⟨nr, _, _, rfl, hnr,  fun m2 g => ⟨match_rule, q' m2 (gm.trans g)⟩⟩
    · walk_at "dx"
      exact ⟨Nat.zero_le _, nil_ne ⟨_, rfl, q _ gm⟩⟩
  rintro m3 g3
  have tL := g3 _ _ tL
  have tW := g3 _ _ tW
  have tF := g3 _ _ tF
  have tS := g3 _ _ tS
  have hdm := g3 _ _ hdm
  refine q_asg' (P := fun x m2 => Grow m3 m2 ∧ ∃ (f0 f1 f2 f3 f4 f5 : Addr) (c5 : List (Str × Addr)), x = .list [.adr f0, .adr f1, .adr f2, .adr f3, .adr f4, .adr f5] ∧ WorksAt m2 (.str (rt r)) (.int bw) f0 f1 f2 f3 f4 ∧ m2 f5 = some (.clo lam_1 c5) ∧ CloF (PyProof.Rows.envOfC (Str.ofString "law") (defScope s_law) s.heap.objs.size f (.ref a.cL)).cells ["_law_wide"] c5) (fun Q q => ?_) ?_
  · walk_at "dx"
    refine ⟨_, _, rfl, tW, fun l a1 a2 f0 f1 f2 f3 f4 c0 c1 c2 c3 c4 m2 g hl h1 h2 k0 k1 k2 k3 k4 => ?_⟩
    refine ⟨g _ _ tL, fun f5 c5 clo n5 => ?_⟩
    have gf := Grow.new (o := .clo lam_1 c5) n5
    refine ⟨by decide, [.adr f0, .adr f1, .adr f2, .adr f3, .adr f4], ?_, by show 6 ≤ sizeLine; decide, ?_⟩
    · simp only [gf _ _ hl]
    · exact q _ _ ⟨g.trans gf, f0, f1, f2, f3, f4, f5, c5, rfl, WorksAt.grow ⟨a1, a2, c0, c1, c2, c3, c4, h1, h2, k0, k1, k2, k3, k4⟩ gf, ups_same, clo⟩
  rintro _ m4 ⟨g4, f0, f1, f2, f3, f4, f5, c5, rfl, wk, h5, clo5⟩
  have tL := g4 _ _ tL
  have tW := g4 _ _ tW
  have tF := g4 _ _ tF
  have tS := g4 _ _ tS
  have hdm := g4 _ _ hdm
  refine q_whenP (Grow m4) (fun Q q => ?_) ?_
  · unfold dTest dOp
    refine lcR_run (Grow m4) [.adr f0, .adr f1, .adr f2, .adr f3, .adr f4, .adr f5] (fun Q' q' => ⟨_, rfl, q'⟩) (Grow.refl _) (fun x hx mm gm Q' q' => ?_) fun mm gm => ?_
    · walk_at "dx"
      have hx : x ∈ [D.adr f0, .adr f1, .adr f2, .adr f3, .adr f4] ++ [.adr f5] := hx
      rcases List.mem_append.mp hx with hx | hx
      · exact works_width T (wk.grow gm) hbw hx fun m2 g => q' m2 (gm.trans g)
      · simp only [List.mem_cons, List.not_mem_nil, or_false] at hx
        subst hx
        refine refD_own (T := lam_1) (us := [.int bw]) (gm _ _ h5) clo5 rfl ?_ (lok_1 T) ?_
        · exact own1 3 ⟨by simp, rfl, rfl⟩
        · exact ⟨bw, rfl, hbw,  fun m2 g => ⟨match_width, q' m2 (gm.trans g)⟩⟩
    · walk_at "dx"
      exact ⟨Nat.zero_le _, nil_ne ⟨_, rfl, q _ gm⟩⟩
  rintro m5 g5
  have tL := g5 _ _ tL
  have tW := g5 _ _ tW
  have tF := g5 _ _ tF
  have tS := g5 _ _ tS
  have hdm := g5 _ _ hdm
  refine q_whenP (Grow m5) (fun Q q => ?_) ?_
  · unfold dRef
    walk_at "dx"
    refine ⟨tL, fun f0 c0 clo n0 => ?_⟩
    have gf := Grow.new (o := .clo lam_2 c0) n0
    refine refD_own (T := lam_2) (us := [.str bp, .tuple [.str word, .int dk], .str (rt r)]) ups_same clo rfl ?_ (lok_2 T) ?_
    · exact own3 8 10 5 ⟨by simp, rfl, rfl⟩ ⟨by simp, rfl, rfl⟩ ⟨by simp, rfl, rfl⟩
    · exact ⟨r, bp, bk, _, rfl, hbp, hbl,  fun m2 g => ⟨match_pattern, ⟨true, rfl, q _ (gf.trans g)⟩⟩⟩
  rintro m6 g6
  have tL := g6 _ _ tL
  have tW := g6 _ _ tW
  have tF := g6 _ _ tF
  have tS := g6 _ _ tS
  have hdm := g6 _ _ hdm
  refine q_whenP (Grow m6) (fun Q q => ?_) ?_
  · unfold dRef
    walk_at "dx"
    refine ⟨tL, fun f0 c0 clo n0 => ?_⟩
    have gf := Grow.new (o := .clo lam_3 c0) n0
    refine refD_own (T := lam_3) (us := [.tuple [.str word, .int dk], .str (ps p), .str (rt r)]) ups_same clo rfl ?_ (lok_3 T) ?_
    · exact own3 10 7 5 ⟨by simp, rfl, rfl⟩ ⟨by simp, rfl, rfl⟩ ⟨by simp, rfl, rfl⟩
    · refine ⟨r, p, word, dk, rfl, hp6, hpn, hbd, fun m2 g => ⟨match_deed, ⟨true, rfl, ?_⟩⟩⟩
      rw [if_neg (by decide)]
      exact ⟨d, r, w, rfl, g _ _ (gf _ _ hdm), h1, h6, g _ _ (gf _ _ tF), fun m' g' => ⟨true, rfl, q _ (gf.trans (g.trans g'))⟩⟩
  rintro m7 g7
  have tL := g7 _ _ tL
  have tW := g7 _ _ tW
  have tF := g7 _ _ tF
  have tS := g7 _ _ tS
  have hdm := g7 _ _ hdm
  refine q_asg (.list (deedsD longM)) (fun Q q => ?_) ?_
  · walk_at "dx"
    exact ⟨by decide, by decide, by decide, by decide, by decide, by decide, q⟩
  refine q_whenP (Grow m7) (fun Q q => ?_) ?_
  · unfold dRef
    walk_at "dx"
    refine ⟨tL, fun f0 c0 clo n0 => ?_⟩
    have gf := Grow.new (o := .clo lam_4 c0) n0
    refine refD_own (T := lam_4) (us := [.int w, .list (deedsD longM)]) ups_same clo rfl ?_ (lok_4 T) ?_
    · exact own2 6 12 ⟨by simp, rfl, rfl⟩ ⟨by simp, rfl, rfl⟩
    · refine ⟨w, longM.take 12, 0, Str.ofString "put", 0, [.tuple [.str (Str.ofString "take"), .int 0]], rfl, h1, h6, by decide, ?_, .inl rfl, fun m2 g => ⟨match_deed, ⟨true, rfl, ?_⟩⟩⟩
      · have : w = 1 ∨ w = 2 ∨ w = 3 ∨ w = 4 ∨ w = 5 ∨ w = 6 := by omega
        rcases this with rfl | rfl | rfl | rfl | rfl | rfl <;> decide +kernel
      rw [if_neg (by decide)]
      obtain ⟨ns2, hpl⟩ := long_play r (mem_rls r) w (by simp only [List.mem_cons, List.not_mem_nil, or_false]; omega)
      refine ⟨r, w, longM, _, rfl, h1, h6, by decide, hpl, fun c hc => ⟨_, rfl, _, rfl, zeros_ok h1 h6, ?_⟩⟩
      simp only [zeros_eq h1 h6, decide_true, Bool.not_true]
      exact q _ (gf.trans (g.trans (Grow.new hc)))
  rintro m8 g8
  have tL := g8 _ _ tL
  have tW := g8 _ _ tW
  have tF := g8 _ _ tF
  have tS := g8 _ _ tS
  have hdm := g8 _ _ hdm
  refine q_asg' (P := fun x m2 => Grow m8 m2 ∧ ∃ (f0 f1 : Addr) (c0 c1 : List (Str × Addr)), x = .list [.adr f0, .adr f1] ∧ m2 f0 = some (.clo lam_5 c0) ∧ CloF (PyProof.Rows.envOfC (Str.ofString "law") (defScope s_law) s.heap.objs.size f (.ref a.cL)).cells ["_law_far", "_law_good", "_law_rule_here"] c0 ∧ m2 f1 = some (.clo lam_6 c1) ∧ CloF (PyProof.Rows.envOfC (Str.ofString "law") (defScope s_law) s.heap.objs.size f (.ref a.cL)).cells ["_law_far", "_law_good", "_law_rule_here"] c1) (fun Q q => ?_) ?_
  · walk_at "dx"
    refine ⟨tL, fun f0 c0 clo0 n0 => ?_⟩
    have gf := Grow.new (o := .clo lam_5 c0) n0
    refine ⟨gf _ _ tL, fun f1 c1 clo1 n1 => ?_⟩
    have gf1 := Grow.new (o := .clo lam_6 c1) n1
    exact ⟨by decide, q _ _ ⟨gf.trans gf1, f0, f1, c0, c1, rfl, gf1 _ _ ups_same, clo0, ups_same, clo1⟩⟩
  rintro _ m9 ⟨g9, f0, f1, c0, c1, rfl, hf0, clo0, hf1, clo1⟩
  have tL := g9 _ _ tL
  have tW := g9 _ _ tW
  have tF := g9 _ _ tF
  have tS := g9 _ _ tS
  have hdm := g9 _ _ hdm
  refine q_whenP (Grow m9) (fun Q q => ?_) ?_
  · unfold dTest dOp
    refine lcR_run (Grow m9) [.adr f0, .adr f1] (fun Q' q' => ⟨_, rfl, q'⟩) (Grow.refl _) (fun x hx mm gm Q' q' => ?_) fun mm gm => ?_
    · walk_at "dx"
      simp only [List.mem_cons, List.not_mem_nil, or_false] at hx
      rcases hx with rfl | rfl
      · refine refD_own (T := lam_5) (us := [.int far, .int w, .str (rt r)]) (gm _ _ hf0) clo0 rfl ?_ (lok_5 T) ?_
        · exact own3 2 6 5 ⟨by simp, rfl, rfl⟩ ⟨by simp, rfl, rfl⟩ ⟨by simp, rfl, rfl⟩
        · exact ⟨r, w, far, rfl, h1, h6, fun m2 g => ⟨match_number, q' m2 (gm.trans g)⟩⟩
      · refine refD_own (T := lam_6) (us := [.int far, .int w, .str (rt r)]) (gm _ _ hf1) clo1 rfl ?_ (lok_6 T) ?_
        · exact own3 2 6 5 ⟨by simp, rfl, rfl⟩ ⟨by simp, rfl, rfl⟩ ⟨by simp, rfl, rfl⟩
        · exact ⟨r, w, far, rfl, h1, h6, fun m2 g => ⟨match_number, q' m2 (gm.trans g)⟩⟩
    · walk_at "dx"
      exact ⟨Nat.zero_le _, nil_ne ⟨_, rfl, q _ gm⟩⟩
  rintro m10 g10
  have tL := g10 _ _ tL
  have tW := g10 _ _ tW
  have tF := g10 _ _ tF
  have tS := g10 _ _ tS
  have hdm := g10 _ _ hdm
  walk_at "dx"
  exact ⟨d, r, w, rfl, hdm, h1, h6, tS, fun m' => q m'⟩
end
theorem all_mk {l : PySem.W.OpenLaw} {w : World} {K : PySem.W.Frag} {h : Heap} {mg : Str → Option Value} {fa : Addr} {ts : List Addr} (X : K.In h) (G : h.Ns mainGlobals mg) (hfa : mg "law" = some (.ref fa)) (Y : ∀ P ∈ ts, h.get? P = some (PySem.W.tabObj #[]))
    {t_MOST_WIDE : Tok}
    {a_RULES : Addr} {od_RULES : Option Addr} {n_RULES : Nat} {sl_RULES : Array (Option Value)} {t_RULES_0 t_RULES_1 t_RULES_2 : Tok}
    {t_FREE : Tok}
    {t_TAKEN : Tok}
    {t_MOST_DEEDS : Tok}
    {C CE CW CR CP CD CK CN cL cW cF cS : Addr}
    {f_Shelf___init__ : Addr} {od_Shelf___init__ an_Shelf___init__ : Option Addr} {sl_Shelf___init__ : Array (Option Value)} {oc_Shelf___init__ kV_Shelf___init__ dc_Shelf___init__ pm_Shelf___init__ ct_Shelf___init__ : Value} {cd_Shelf___init__ : Value}
    {f_Shelf_put_in : Addr} {od_Shelf_put_in an_Shelf_put_in : Option Addr} {sl_Shelf_put_in : Array (Option Value)} {oc_Shelf_put_in kV_Shelf_put_in dc_Shelf_put_in pm_Shelf_put_in ct_Shelf_put_in : Value} {cd_Shelf_put_in : Value}
    {f_Shelf_take_out : Addr} {od_Shelf_take_out an_Shelf_take_out : Option Addr} {sl_Shelf_take_out : Array (Option Value)} {oc_Shelf_take_out kV_Shelf_take_out dc_Shelf_take_out pm_Shelf_take_out ct_Shelf_take_out : Value} {cd_Shelf_take_out : Value}
    {f_Shelf_standing : Addr} {od_Shelf_standing an_Shelf_standing : Option Addr} {sl_Shelf_standing : Array (Option Value)} {oc_Shelf_standing kV_Shelf_standing dc_Shelf_standing pm_Shelf_standing ct_Shelf_standing : Value} {cd_Shelf_standing : Value}
    {f_Shelf_moved : Addr} {od_Shelf_moved an_Shelf_moved : Option Addr} {sl_Shelf_moved : Array (Option Value)} {oc_Shelf_moved kV_Shelf_moved dc_Shelf_moved pm_Shelf_moved ct_Shelf_moved : Value} {cd_Shelf_moved : Value}
    {f_need_width : Addr} {od_need_width an_need_width : Option Addr} {sl_need_width : Array (Option Value)} {oc_need_width kV_need_width dc_need_width pm_need_width ct_need_width : Value} {cd_need_width : Value}
    {f_need_rule : Addr} {od_need_rule an_need_rule : Option Addr} {sl_need_rule : Array (Option Value)} {oc_need_rule kV_need_rule dc_need_rule pm_need_rule ct_need_rule : Value} {cd_need_rule : Value}
    {f_need_pattern : Addr} {od_need_pattern an_need_pattern : Option Addr} {sl_need_pattern : Array (Option Value)} {oc_need_pattern kV_need_pattern dc_need_pattern pm_need_pattern ct_need_pattern : Value} {cd_need_pattern : Value}
    {f_places_of : Addr} {od_places_of an_places_of : Option Addr} {sl_places_of : Array (Option Value)} {oc_places_of kV_places_of dc_places_of pm_places_of ct_places_of : Value} {cd_places_of : Value}
    {f_pattern_of : Addr} {od_pattern_of an_pattern_of : Option Addr} {sl_pattern_of : Array (Option Value)} {oc_pattern_of kV_pattern_of dc_pattern_of pm_pattern_of ct_pattern_of : Value} {cd_pattern_of : Value}
    {f_even_places : Addr} {od_even_places an_even_places : Option Addr} {sl_even_places : Array (Option Value)} {oc_even_places kV_even_places dc_even_places pm_even_places ct_even_places : Value} {cd_even_places : Value}
    {f_shifted : Addr} {od_shifted an_shifted : Option Addr} {sl_shifted : Array (Option Value)} {oc_shifted kV_shifted dc_shifted pm_shifted ct_shifted : Value} {cd_shifted : Value}
    {f_places_behind : Addr} {od_places_behind an_places_behind : Option Addr} {sl_places_behind : Array (Option Value)} {oc_places_behind kV_places_behind dc_places_behind pm_places_behind ct_places_behind : Value} {cd_places_behind : Value}
    {f_moved : Addr} {od_moved an_moved : Option Addr} {sl_moved : Array (Option Value)} {oc_moved kV_moved dc_moved pm_moved ct_moved : Value} {cd_moved : Value}
    {f_step : Addr} {od_step an_step : Option Addr} {sl_step : Array (Option Value)} {oc_step kV_step dc_step pm_step ct_step : Value} {cd_step : Value}
    {f_done : Addr} {od_done an_done : Option Addr} {sl_done : Array (Option Value)} {oc_done kV_done dc_done pm_done ct_done : Value} {cd_done : Value}
    {f_played : Addr} {od_played an_played : Option Addr} {sl_played : Array (Option Value)} {oc_played kV_played dc_played pm_played ct_played : Value} {cd_played : Value}
    {f_all_deeds : Addr} {od_all_deeds an_all_deeds : Option Addr} {sl_all_deeds : Array (Option Value)} {oc_all_deeds kV_all_deeds dc_all_deeds pm_all_deeds ct_all_deeds : Value} {cd_all_deeds : Value}
    {f_reached : Addr} {od_reached an_reached : Option Addr} {sl_reached : Array (Option Value)} {oc_reached kV_reached dc_reached pm_reached ct_reached : Value} {cd_reached : Value}
    {f_layings : Addr} {od_layings an_layings : Option Addr} {sl_layings : Array (Option Value)} {oc_layings kV_layings dc_layings pm_layings ct_layings : Value} {cd_layings : Value}
    {f_many_behind : Addr} {od_many_behind an_many_behind : Option Addr} {sl_many_behind : Array (Option Value)} {oc_many_behind kV_many_behind dc_many_behind pm_many_behind ct_many_behind : Value} {cd_many_behind : Value}
    {f_fewest : Addr} {od_fewest an_fewest : Option Addr} {sl_fewest : Array (Option Value)} {oc_fewest kV_fewest dc_fewest pm_fewest ct_fewest : Value} {cd_fewest : Value}
    {f_edges_of : Addr} {od_edges_of an_edges_of : Option Addr} {sl_edges_of : Array (Option Value)} {oc_edges_of kV_edges_of dc_edges_of pm_edges_of ct_edges_of : Value} {cd_edges_of : Value}
    {f_is_more : Addr} {od_is_more an_is_more : Option Addr} {sl_is_more : Array (Option Value)} {oc_is_more kV_is_more dc_is_more pm_is_more ct_is_more : Value} {cd_is_more : Value}
    {f_lowest : Addr} {od_lowest an_lowest : Option Addr} {sl_lowest : Array (Option Value)} {oc_lowest kV_lowest dc_lowest pm_lowest ct_lowest : Value} {cd_lowest : Value}
    {f_most_of : Addr} {od_most_of an_most_of : Option Addr} {sl_most_of : Array (Option Value)} {oc_most_of kV_most_of dc_most_of pm_most_of ct_most_of : Value} {cd_most_of : Value}
    {f_heights_of : Addr} {od_heights_of an_heights_of : Option Addr} {sl_heights_of : Array (Option Value)} {oc_heights_of kV_heights_of dc_heights_of pm_heights_of ct_heights_of : Value} {cd_heights_of : Value}
    {f_round_of : Addr} {od_round_of an_round_of : Option Addr} {sl_round_of : Array (Option Value)} {oc_round_of kV_round_of dc_round_of pm_round_of ct_round_of : Value} {cd_round_of : Value}
    {f_walk_round : Addr} {od_walk_round an_walk_round : Option Addr} {sl_walk_round : Array (Option Value)} {oc_walk_round kV_walk_round dc_walk_round pm_walk_round ct_walk_round : Value} {cd_walk_round : Value}
    {f_worst : Addr} {od_worst an_worst : Option Addr} {sl_worst : Array (Option Value)} {oc_worst kV_worst dc_worst pm_worst ct_worst : Value} {cd_worst : Value}
    {f_purse : Addr} {od_purse an_purse : Option Addr} {sl_purse : Array (Option Value)} {oc_purse kV_purse dc_purse pm_purse ct_purse : Value} {cd_purse : Value}
    {f_shows : Addr} {od_shows an_shows : Option Addr} {sl_shows : Array (Option Value)} {oc_shows kV_shows dc_shows pm_shows ct_shows : Value} {cd_shows : Value}
    {f__law_dice : Addr} {od__law_dice an__law_dice : Option Addr} {sl__law_dice : Array (Option Value)} {oc__law_dice kV__law_dice dc__law_dice pm__law_dice ct__law_dice : Value} {cd__law_dice : Value}
    {f__law_off : Addr} {od__law_off an__law_off : Option Addr} {sl__law_off : Array (Option Value)} {oc__law_off kV__law_off dc__law_off pm__law_off ct__law_off : Value} {cd__law_off : Value}
    {f__law_alike : Addr} {od__law_alike an__law_alike : Option Addr} {sl__law_alike : Array (Option Value)} {oc__law_alike kV__law_alike dc__law_alike pm__law_alike ct__law_alike : Value} {cd__law_alike : Value}
    {f__law_refused : Addr} {od__law_refused an__law_refused : Option Addr} {sl__law_refused : Array (Option Value)} {oc__law_refused kV__law_refused dc__law_refused pm__law_refused ct__law_refused : Value} {cd__law_refused : Value}
    {f__law_rule : Addr} {od__law_rule an__law_rule : Option Addr} {sl__law_rule : Array (Option Value)} {oc__law_rule kV__law_rule dc__law_rule pm__law_rule ct__law_rule : Value} {cd__law_rule : Value}
    {f__law_put : Addr} {od__law_put an__law_put : Option Addr} {sl__law_put : Array (Option Value)} {oc__law_put kV__law_put dc__law_put pm__law_put ct__law_put : Value} {cd__law_put : Value}
    {f__law_take : Addr} {od__law_take an__law_take : Option Addr} {sl__law_take : Array (Option Value)} {oc__law_take kV__law_take dc__law_take pm__law_take ct__law_take : Value} {cd__law_take : Value}
    {f__law_moves : Addr} {od__law_moves an__law_moves : Option Addr} {sl__law_moves : Array (Option Value)} {oc__law_moves kV__law_moves dc__law_moves pm__law_moves ct__law_moves : Value} {cd__law_moves : Value}
    {f__law_pattern : Addr} {od__law_pattern an__law_pattern : Option Addr} {sl__law_pattern : Array (Option Value)} {oc__law_pattern kV__law_pattern dc__law_pattern pm__law_pattern ct__law_pattern : Value} {cd__law_pattern : Value}
    {f__law_row : Addr} {od__law_row an__law_row : Option Addr} {sl__law_row : Array (Option Value)} {oc__law_row kV__law_row dc__law_row pm__law_row ct__law_row : Value} {cd__law_row : Value}
    {f__law_step : Addr} {od__law_step an__law_step : Option Addr} {sl__law_step : Array (Option Value)} {oc__law_step kV__law_step dc__law_step pm__law_step ct__law_step : Value} {cd__law_step : Value}
    {f__law_drawn : Addr} {od__law_drawn an__law_drawn : Option Addr} {sl__law_drawn : Array (Option Value)} {oc__law_drawn kV__law_drawn dc__law_drawn pm__law_drawn ct__law_drawn : Value} {cd__law_drawn : Value}
    {f__law_bad_pattern : Addr} {od__law_bad_pattern an__law_bad_pattern : Option Addr} {sl__law_bad_pattern : Array (Option Value)} {oc__law_bad_pattern kV__law_bad_pattern dc__law_bad_pattern pm__law_bad_pattern ct__law_bad_pattern : Value} {cd__law_bad_pattern : Value}
    {f__law_bad_deed : Addr} {od__law_bad_deed an__law_bad_deed : Option Addr} {sl__law_bad_deed : Array (Option Value)} {oc__law_bad_deed kV__law_bad_deed dc__law_bad_deed pm__law_bad_deed ct__law_bad_deed : Value} {cd__law_bad_deed : Value}
    {f__law_shelf : Addr} {od__law_shelf an__law_shelf : Option Addr} {sl__law_shelf : Array (Option Value)} {oc__law_shelf kV__law_shelf dc__law_shelf pm__law_shelf ct__law_shelf : Value}
    {f__law_works : Addr} {od__law_works an__law_works : Option Addr} {sl__law_works : Array (Option Value)} {oc__law_works kV__law_works dc__law_works pm__law_works ct__law_works : Value}
    {f__law_is_found : Addr} {od__law_is_found an__law_is_found : Option Addr} {sl__law_is_found : Array (Option Value)} {oc__law_is_found kV__law_is_found dc__law_is_found pm__law_is_found ct__law_is_found : Value}
    {f_law : Addr} {od_law an_law : Option Addr} {sl_law : Array (Option Value)} {oc_law kV_law dc_law pm_law ct_law : Value}
    {nm_BadPattern q_BadPattern : Str} {N_BadPattern : Addr} {bs_BadPattern bm_BadPattern : List Value} {sn_BadPattern : List Str} {sub_BadPattern : List Value} {ab_BadPattern : Bool} {col_BadPattern : Option Bool} {dd_BadPattern : Option Addr} {m0_BadPattern m1_BadPattern m2_BadPattern m3_BadPattern m5_BadPattern : Option Value}
    {f_BadPattern___init__ : Addr} {od_BadPattern___init__ an_BadPattern___init__ : Option Addr} {sl_BadPattern___init__ : Array (Option Value)} {oc_BadPattern___init__ kV_BadPattern___init__ dc_BadPattern___init__ pm_BadPattern___init__ ct_BadPattern___init__ : Value} {cd_BadPattern___init__ : Value}
    {nm_BadDeed q_BadDeed : Str} {N_BadDeed : Addr} {bs_BadDeed bm_BadDeed : List Value} {sn_BadDeed : List Str} {sub_BadDeed : List Value} {ab_BadDeed : Bool} {col_BadDeed : Option Bool} {dd_BadDeed : Option Addr} {m0_BadDeed m1_BadDeed m2_BadDeed m3_BadDeed m5_BadDeed : Option Value}
    {f_BadDeed___init__ : Addr} {od_BadDeed___init__ an_BadDeed___init__ : Option Addr} {sl_BadDeed___init__ : Array (Option Value)} {oc_BadDeed___init__ kV_BadDeed___init__ dc_BadDeed___init__ pm_BadDeed___init__ ct_BadDeed___init__ : Value} {cd_BadDeed___init__ : Value}
    (z_abs : PySem.W.nsIn K mainGlobals "abs" = some none)
    (z_all : PySem.W.nsIn K mainGlobals "all" = some none)
    (z_bool : PySem.W.nsIn K mainGlobals "bool" = some none)
    (z_dict : PySem.W.nsIn K mainGlobals "dict" = some none)
    (z_enumerate : PySem.W.nsIn K mainGlobals "enumerate" = some none)
    (z_int : PySem.W.nsIn K mainGlobals "int" = some none)
    (z_isinstance : PySem.W.nsIn K mainGlobals "isinstance" = some none)
    (z_len : PySem.W.nsIn K mainGlobals "len" = some none)
    (z_list : PySem.W.nsIn K mainGlobals "list" = some none)
    (z_max : PySem.W.nsIn K mainGlobals "max" = some none)
    (z_min : PySem.W.nsIn K mainGlobals "min" = some none)
    (z_range : PySem.W.nsIn K mainGlobals "range" = some none)
    (z_sorted : PySem.W.nsIn K mainGlobals "sorted" = some none)
    (z_str : PySem.W.nsIn K mainGlobals "str" = some none)
    (z_tuple : PySem.W.nsIn K mainGlobals "tuple" = some none)
    (z_zip : PySem.W.nsIn K mainGlobals "zip" = some none)
    (g_MOST_WIDE : PySem.W.nsIn K mainGlobals "MOST_WIDE" = some (some (.int 6 t_MOST_WIDE)))
    (g_RULES : PySem.W.nsIn K mainGlobals "RULES" = some (some (.ref a_RULES)))
    (l_RULES : K.lookup a_RULES = some ⟨.type "tuple", od_RULES, .seq #[.str "near" t_RULES_0, .str "left" t_RULES_1, .str "even" t_RULES_2] n_RULES, sl_RULES⟩)
    (g_FREE : PySem.W.nsIn K mainGlobals "FREE" = some (some (.str "0" t_FREE)))
    (g_TAKEN : PySem.W.nsIn K mainGlobals "TAKEN" = some (some (.str "1" t_TAKEN)))
    (g_MOST_DEEDS : PySem.W.nsIn K mainGlobals "MOST_DEEDS" = some (some (.int 12 t_MOST_DEEDS)))
    (a_cls : PySem.W.nsIn K mainGlobals "Shelf" = some (some (.ref C)))
    (pg : PySem.W.plainGet K C Str.empty = true)
    (hd : PySem.W.hasDictIn K C = true)
    (po : PySem.W.plainOver K C = true)
    (sa : PySem.W.findIn K (.ref C) "__setattr__" = some (some (.builtin "object.__setattr__")))
    (mk : PySem.W.makesIn K C = true)
    (kc : PySem.W.keepIn K (.ref C) = true)
    (na_rule : PySem.W.findIn K (.ref C) "rule" = some none)
    (na_wide : PySem.W.findIn K (.ref C) "wide" = some none)
    (na_row : PySem.W.findIn K (.ref C) "row" = some none)
    (na_many : PySem.W.findIn K (.ref C) "many" = some none)
    (a_Shelf___init__ : PySem.W.findIn K (.ref C) "__init__" = some (some (.ref f_Shelf___init__)))
    (l_Shelf___init__ : K.lookup f_Shelf___init__ = some ⟨oc_Shelf___init__, od_Shelf___init__, .func (PySem.W.fnOf "__init__" "Shelf.__init__" (defArgs s_Shelf___init__) (defBody s_Shelf___init__) (defScope s_Shelf___init__) .none kV_Shelf___init__ dc_Shelf___init__ pm_Shelf___init__ an_Shelf___init__ cd_Shelf___init__ ct_Shelf___init__), sl_Shelf___init__⟩)
    (c_Shelf___init__ : PySem.W.codeIn K cd_Shelf___init__ "Shelf.__init__" = true)
    (k_Shelf___init__ : PySem.W.keepIn K (.ref f_Shelf___init__) = true)
    (i_Shelf___init__ : PySem.W.isFn K (.ref f_Shelf___init__) = true)
    (a_Shelf_put_in : PySem.W.findIn K (.ref C) "put_in" = some (some (.ref f_Shelf_put_in)))
    (l_Shelf_put_in : K.lookup f_Shelf_put_in = some ⟨oc_Shelf_put_in, od_Shelf_put_in, .func (PySem.W.fnOf "put_in" "Shelf.put_in" (defArgs s_Shelf_put_in) (defBody s_Shelf_put_in) (defScope s_Shelf_put_in) .none kV_Shelf_put_in dc_Shelf_put_in pm_Shelf_put_in an_Shelf_put_in cd_Shelf_put_in ct_Shelf_put_in), sl_Shelf_put_in⟩)
    (c_Shelf_put_in : PySem.W.codeIn K cd_Shelf_put_in "Shelf.put_in" = true)
    (k_Shelf_put_in : PySem.W.keepIn K (.ref f_Shelf_put_in) = true)
    (i_Shelf_put_in : PySem.W.isFn K (.ref f_Shelf_put_in) = true)
    (a_Shelf_take_out : PySem.W.findIn K (.ref C) "take_out" = some (some (.ref f_Shelf_take_out)))
    (l_Shelf_take_out : K.lookup f_Shelf_take_out = some ⟨oc_Shelf_take_out, od_Shelf_take_out, .func (PySem.W.fnOf "take_out" "Shelf.take_out" (defArgs s_Shelf_take_out) (defBody s_Shelf_take_out) (defScope s_Shelf_take_out) .none kV_Shelf_take_out dc_Shelf_take_out pm_Shelf_take_out an_Shelf_take_out cd_Shelf_take_out ct_Shelf_take_out), sl_Shelf_take_out⟩)
    (c_Shelf_take_out : PySem.W.codeIn K cd_Shelf_take_out "Shelf.take_out" = true)
    (k_Shelf_take_out : PySem.W.keepIn K (.ref f_Shelf_take_out) = true)
    (i_Shelf_take_out : PySem.W.isFn K (.ref f_Shelf_take_out) = true)
    (a_Shelf_standing : PySem.W.findIn K (.ref C) "standing" = some (some (.ref f_Shelf_standing)))
    (l_Shelf_standing : K.lookup f_Shelf_standing = some ⟨oc_Shelf_standing, od_Shelf_standing, .func (PySem.W.fnOf "standing" "Shelf.standing" (defArgs s_Shelf_standing) (defBody s_Shelf_standing) (defScope s_Shelf_standing) .none kV_Shelf_standing dc_Shelf_standing pm_Shelf_standing an_Shelf_standing cd_Shelf_standing ct_Shelf_standing), sl_Shelf_standing⟩)
    (c_Shelf_standing : PySem.W.codeIn K cd_Shelf_standing "Shelf.standing" = true)
    (k_Shelf_standing : PySem.W.keepIn K (.ref f_Shelf_standing) = true)
    (i_Shelf_standing : PySem.W.isFn K (.ref f_Shelf_standing) = true)
    (a_Shelf_moved : PySem.W.findIn K (.ref C) "moved" = some (some (.ref f_Shelf_moved)))
    (l_Shelf_moved : K.lookup f_Shelf_moved = some ⟨oc_Shelf_moved, od_Shelf_moved, .func (PySem.W.fnOf "moved" "Shelf.moved" (defArgs s_Shelf_moved) (defBody s_Shelf_moved) (defScope s_Shelf_moved) .none kV_Shelf_moved dc_Shelf_moved pm_Shelf_moved an_Shelf_moved cd_Shelf_moved ct_Shelf_moved), sl_Shelf_moved⟩)
    (c_Shelf_moved : PySem.W.codeIn K cd_Shelf_moved "Shelf.moved" = true)
    (k_Shelf_moved : PySem.W.keepIn K (.ref f_Shelf_moved) = true)
    (i_Shelf_moved : PySem.W.isFn K (.ref f_Shelf_moved) = true)
    (a_need_width : PySem.W.nsIn K mainGlobals "need_width" = some (some (.ref f_need_width)))
    (l_need_width : K.lookup f_need_width = some ⟨oc_need_width, od_need_width, .func (PySem.W.fnOf "need_width" "need_width" (defArgs s_need_width) (defBody s_need_width) (defScope s_need_width) .none kV_need_width dc_need_width pm_need_width an_need_width cd_need_width ct_need_width), sl_need_width⟩)
    (c_need_width : PySem.W.codeIn K cd_need_width "need_width" = true)
    (k_need_width : PySem.W.keepIn K (.ref f_need_width) = true)
    (a_need_rule : PySem.W.nsIn K mainGlobals "need_rule" = some (some (.ref f_need_rule)))
    (l_need_rule : K.lookup f_need_rule = some ⟨oc_need_rule, od_need_rule, .func (PySem.W.fnOf "need_rule" "need_rule" (defArgs s_need_rule) (defBody s_need_rule) (defScope s_need_rule) .none kV_need_rule dc_need_rule pm_need_rule an_need_rule cd_need_rule ct_need_rule), sl_need_rule⟩)
    (c_need_rule : PySem.W.codeIn K cd_need_rule "need_rule" = true)
    (k_need_rule : PySem.W.keepIn K (.ref f_need_rule) = true)
    (a_need_pattern : PySem.W.nsIn K mainGlobals "need_pattern" = some (some (.ref f_need_pattern)))
    (l_need_pattern : K.lookup f_need_pattern = some ⟨oc_need_pattern, od_need_pattern, .func (PySem.W.fnOf "need_pattern" "need_pattern" (defArgs s_need_pattern) (defBody s_need_pattern) (defScope s_need_pattern) .none kV_need_pattern dc_need_pattern pm_need_pattern an_need_pattern cd_need_pattern ct_need_pattern), sl_need_pattern⟩)
    (c_need_pattern : PySem.W.codeIn K cd_need_pattern "need_pattern" = true)
    (k_need_pattern : PySem.W.keepIn K (.ref f_need_pattern) = true)
    (a_places_of : PySem.W.nsIn K mainGlobals "places_of" = some (some (.ref f_places_of)))
    (l_places_of : K.lookup f_places_of = some ⟨oc_places_of, od_places_of, .func (PySem.W.fnOf "places_of" "places_of" (defArgs s_places_of) (defBody s_places_of) (defScope s_places_of) .none kV_places_of dc_places_of pm_places_of an_places_of cd_places_of ct_places_of), sl_places_of⟩)
    (c_places_of : PySem.W.codeIn K cd_places_of "places_of" = true)
    (k_places_of : PySem.W.keepIn K (.ref f_places_of) = true)
    (a_pattern_of : PySem.W.nsIn K mainGlobals "pattern_of" = some (some (.ref f_pattern_of)))
    (l_pattern_of : K.lookup f_pattern_of = some ⟨oc_pattern_of, od_pattern_of, .func (PySem.W.fnOf "pattern_of" "pattern_of" (defArgs s_pattern_of) (defBody s_pattern_of) (defScope s_pattern_of) .none kV_pattern_of dc_pattern_of pm_pattern_of an_pattern_of cd_pattern_of ct_pattern_of), sl_pattern_of⟩)
    (c_pattern_of : PySem.W.codeIn K cd_pattern_of "pattern_of" = true)
    (k_pattern_of : PySem.W.keepIn K (.ref f_pattern_of) = true)
    (a_even_places : PySem.W.nsIn K mainGlobals "even_places" = some (some (.ref f_even_places)))
    (l_even_places : K.lookup f_even_places = some ⟨oc_even_places, od_even_places, .func (PySem.W.fnOf "even_places" "even_places" (defArgs s_even_places) (defBody s_even_places) (defScope s_even_places) .none kV_even_places dc_even_places pm_even_places an_even_places cd_even_places ct_even_places), sl_even_places⟩)
    (c_even_places : PySem.W.codeIn K cd_even_places "even_places" = true)
    (k_even_places : PySem.W.keepIn K (.ref f_even_places) = true)
    (a_shifted : PySem.W.nsIn K mainGlobals "shifted" = some (some (.ref f_shifted)))
    (l_shifted : K.lookup f_shifted = some ⟨oc_shifted, od_shifted, .func (PySem.W.fnOf "shifted" "shifted" (defArgs s_shifted) (defBody s_shifted) (defScope s_shifted) .none kV_shifted dc_shifted pm_shifted an_shifted cd_shifted ct_shifted), sl_shifted⟩)
    (c_shifted : PySem.W.codeIn K cd_shifted "shifted" = true)
    (k_shifted : PySem.W.keepIn K (.ref f_shifted) = true)
    (a_places_behind : PySem.W.nsIn K mainGlobals "places_behind" = some (some (.ref f_places_behind)))
    (l_places_behind : K.lookup f_places_behind = some ⟨oc_places_behind, od_places_behind, .func (PySem.W.fnOf "places_behind" "places_behind" (defArgs s_places_behind) (defBody s_places_behind) (defScope s_places_behind) .none kV_places_behind dc_places_behind pm_places_behind an_places_behind cd_places_behind ct_places_behind), sl_places_behind⟩)
    (c_places_behind : PySem.W.codeIn K cd_places_behind "places_behind" = true)
    (k_places_behind : PySem.W.keepIn K (.ref f_places_behind) = true)
    (a_moved : PySem.W.nsIn K mainGlobals "moved" = some (some (.ref f_moved)))
    (l_moved : K.lookup f_moved = some ⟨oc_moved, od_moved, .func (PySem.W.fnOf "moved" "moved" (defArgs s_moved) (defBody s_moved) (defScope s_moved) .none kV_moved dc_moved pm_moved an_moved cd_moved ct_moved), sl_moved⟩)
    (c_moved : PySem.W.codeIn K cd_moved "moved" = true)
    (k_moved : PySem.W.keepIn K (.ref f_moved) = true)
    (a_step : PySem.W.nsIn K mainGlobals "step" = some (some (.ref f_step)))
    (l_step : K.lookup f_step = some ⟨oc_step, od_step, .func (PySem.W.fnOf "step" "step" (defArgs s_step) (defBody s_step) (defScope s_step) .none kV_step dc_step pm_step an_step cd_step ct_step), sl_step⟩)
    (c_step : PySem.W.codeIn K cd_step "step" = true)
    (k_step : PySem.W.keepIn K (.ref f_step) = true)
    (a_done : PySem.W.nsIn K mainGlobals "done" = some (some (.ref f_done)))
    (l_done : K.lookup f_done = some ⟨oc_done, od_done, .func (PySem.W.fnOf "done" "done" (defArgs s_done) (defBody s_done) (defScope s_done) .none kV_done dc_done pm_done an_done cd_done ct_done), sl_done⟩)
    (c_done : PySem.W.codeIn K cd_done "done" = true)
    (k_done : PySem.W.keepIn K (.ref f_done) = true)
    (a_played : PySem.W.nsIn K mainGlobals "played" = some (some (.ref f_played)))
    (l_played : K.lookup f_played = some ⟨oc_played, od_played, .func (PySem.W.fnOf "played" "played" (defArgs s_played) (defBody s_played) (defScope s_played) .none kV_played dc_played pm_played an_played cd_played ct_played), sl_played⟩)
    (c_played : PySem.W.codeIn K cd_played "played" = true)
    (k_played : PySem.W.keepIn K (.ref f_played) = true)
    (a_all_deeds : PySem.W.nsIn K mainGlobals "all_deeds" = some (some (.ref f_all_deeds)))
    (l_all_deeds : K.lookup f_all_deeds = some ⟨oc_all_deeds, od_all_deeds, .func (PySem.W.fnOf "all_deeds" "all_deeds" (defArgs s_all_deeds) (defBody s_all_deeds) (defScope s_all_deeds) .none kV_all_deeds dc_all_deeds pm_all_deeds an_all_deeds cd_all_deeds ct_all_deeds), sl_all_deeds⟩)
    (c_all_deeds : PySem.W.codeIn K cd_all_deeds "all_deeds" = true)
    (k_all_deeds : PySem.W.keepIn K (.ref f_all_deeds) = true)
    (a_reached : PySem.W.nsIn K mainGlobals "reached" = some (some (.ref f_reached)))
    (l_reached : K.lookup f_reached = some ⟨oc_reached, od_reached, .func (PySem.W.fnOf "reached" "reached" (defArgs s_reached) (defBody s_reached) (defScope s_reached) .none kV_reached dc_reached pm_reached an_reached cd_reached ct_reached), sl_reached⟩)
    (c_reached : PySem.W.codeIn K cd_reached "reached" = true)
    (k_reached : PySem.W.keepIn K (.ref f_reached) = true)
    (a_layings : PySem.W.nsIn K mainGlobals "layings" = some (some (.ref f_layings)))
    (l_layings : K.lookup f_layings = some ⟨oc_layings, od_layings, .func (PySem.W.fnOf "layings" "layings" (defArgs s_layings) (defBody s_layings) (defScope s_layings) .none kV_layings dc_layings pm_layings an_layings cd_layings ct_layings), sl_layings⟩)
    (c_layings : PySem.W.codeIn K cd_layings "layings" = true)
    (k_layings : PySem.W.keepIn K (.ref f_layings) = true)
    (a_many_behind : PySem.W.nsIn K mainGlobals "many_behind" = some (some (.ref f_many_behind)))
    (l_many_behind : K.lookup f_many_behind = some ⟨oc_many_behind, od_many_behind, .func (PySem.W.fnOf "many_behind" "many_behind" (defArgs s_many_behind) (defBody s_many_behind) (defScope s_many_behind) .none kV_many_behind dc_many_behind pm_many_behind an_many_behind cd_many_behind ct_many_behind), sl_many_behind⟩)
    (c_many_behind : PySem.W.codeIn K cd_many_behind "many_behind" = true)
    (k_many_behind : PySem.W.keepIn K (.ref f_many_behind) = true)
    (a_fewest : PySem.W.nsIn K mainGlobals "fewest" = some (some (.ref f_fewest)))
    (l_fewest : K.lookup f_fewest = some ⟨oc_fewest, od_fewest, .func (PySem.W.fnOf "fewest" "fewest" (defArgs s_fewest) (defBody s_fewest) (defScope s_fewest) .none kV_fewest dc_fewest pm_fewest an_fewest cd_fewest ct_fewest), sl_fewest⟩)
    (c_fewest : PySem.W.codeIn K cd_fewest "fewest" = true)
    (k_fewest : PySem.W.keepIn K (.ref f_fewest) = true)
    (a_edges_of : PySem.W.nsIn K mainGlobals "edges_of" = some (some (.ref f_edges_of)))
    (l_edges_of : K.lookup f_edges_of = some ⟨oc_edges_of, od_edges_of, .func (PySem.W.fnOf "edges_of" "edges_of" (defArgs s_edges_of) (defBody s_edges_of) (defScope s_edges_of) .none kV_edges_of dc_edges_of pm_edges_of an_edges_of cd_edges_of ct_edges_of), sl_edges_of⟩)
    (c_edges_of : PySem.W.codeIn K cd_edges_of "edges_of" = true)
    (k_edges_of : PySem.W.keepIn K (.ref f_edges_of) = true)
    (a_is_more : PySem.W.nsIn K mainGlobals "is_more" = some (some (.ref f_is_more)))
    (l_is_more : K.lookup f_is_more = some ⟨oc_is_more, od_is_more, .func (PySem.W.fnOf "is_more" "is_more" (defArgs s_is_more) (defBody s_is_more) (defScope s_is_more) .none kV_is_more dc_is_more pm_is_more an_is_more cd_is_more ct_is_more), sl_is_more⟩)
    (c_is_more : PySem.W.codeIn K cd_is_more "is_more" = true)
    (k_is_more : PySem.W.keepIn K (.ref f_is_more) = true)
    (a_lowest : PySem.W.nsIn K mainGlobals "lowest" = some (some (.ref f_lowest)))
    (l_lowest : K.lookup f_lowest = some ⟨oc_lowest, od_lowest, .func (PySem.W.fnOf "lowest" "lowest" (defArgs s_lowest) (defBody s_lowest) (defScope s_lowest) .none kV_lowest dc_lowest pm_lowest an_lowest cd_lowest ct_lowest), sl_lowest⟩)
    (c_lowest : PySem.W.codeIn K cd_lowest "lowest" = true)
    (k_lowest : PySem.W.keepIn K (.ref f_lowest) = true)
    (a_most_of : PySem.W.nsIn K mainGlobals "most_of" = some (some (.ref f_most_of)))
    (l_most_of : K.lookup f_most_of = some ⟨oc_most_of, od_most_of, .func (PySem.W.fnOf "most_of" "most_of" (defArgs s_most_of) (defBody s_most_of) (defScope s_most_of) .none kV_most_of dc_most_of pm_most_of an_most_of cd_most_of ct_most_of), sl_most_of⟩)
    (c_most_of : PySem.W.codeIn K cd_most_of "most_of" = true)
    (k_most_of : PySem.W.keepIn K (.ref f_most_of) = true)
    (a_heights_of : PySem.W.nsIn K mainGlobals "heights_of" = some (some (.ref f_heights_of)))
    (l_heights_of : K.lookup f_heights_of = some ⟨oc_heights_of, od_heights_of, .func (PySem.W.fnOf "heights_of" "heights_of" (defArgs s_heights_of) (defBody s_heights_of) (defScope s_heights_of) .none kV_heights_of dc_heights_of pm_heights_of an_heights_of cd_heights_of ct_heights_of), sl_heights_of⟩)
    (c_heights_of : PySem.W.codeIn K cd_heights_of "heights_of" = true)
    (k_heights_of : PySem.W.keepIn K (.ref f_heights_of) = true)
    (a_round_of : PySem.W.nsIn K mainGlobals "round_of" = some (some (.ref f_round_of)))
    (l_round_of : K.lookup f_round_of = some ⟨oc_round_of, od_round_of, .func (PySem.W.fnOf "round_of" "round_of" (defArgs s_round_of) (defBody s_round_of) (defScope s_round_of) .none kV_round_of dc_round_of pm_round_of an_round_of cd_round_of ct_round_of), sl_round_of⟩)
    (c_round_of : PySem.W.codeIn K cd_round_of "round_of" = true)
    (k_round_of : PySem.W.keepIn K (.ref f_round_of) = true)
    (a_walk_round : PySem.W.nsIn K mainGlobals "walk_round" = some (some (.ref f_walk_round)))
    (l_walk_round : K.lookup f_walk_round = some ⟨oc_walk_round, od_walk_round, .func (PySem.W.fnOf "walk_round" "walk_round" (defArgs s_walk_round) (defBody s_walk_round) (defScope s_walk_round) .none kV_walk_round dc_walk_round pm_walk_round an_walk_round cd_walk_round ct_walk_round), sl_walk_round⟩)
    (c_walk_round : PySem.W.codeIn K cd_walk_round "walk_round" = true)
    (k_walk_round : PySem.W.keepIn K (.ref f_walk_round) = true)
    (a_worst : PySem.W.nsIn K mainGlobals "worst" = some (some (.ref f_worst)))
    (l_worst : K.lookup f_worst = some ⟨oc_worst, od_worst, .func (PySem.W.fnOf "worst" "worst" (defArgs s_worst) (defBody s_worst) (defScope s_worst) .none kV_worst dc_worst pm_worst an_worst cd_worst ct_worst), sl_worst⟩)
    (c_worst : PySem.W.codeIn K cd_worst "worst" = true)
    (k_worst : PySem.W.keepIn K (.ref f_worst) = true)
    (a_purse : PySem.W.nsIn K mainGlobals "purse" = some (some (.ref f_purse)))
    (l_purse : K.lookup f_purse = some ⟨oc_purse, od_purse, .func (PySem.W.fnOf "purse" "purse" (defArgs s_purse) (defBody s_purse) (defScope s_purse) .none kV_purse dc_purse pm_purse an_purse cd_purse ct_purse), sl_purse⟩)
    (c_purse : PySem.W.codeIn K cd_purse "purse" = true)
    (k_purse : PySem.W.keepIn K (.ref f_purse) = true)
    (a_shows : PySem.W.nsIn K mainGlobals "shows" = some (some (.ref f_shows)))
    (l_shows : K.lookup f_shows = some ⟨oc_shows, od_shows, .func (PySem.W.fnOf "shows" "shows" (defArgs s_shows) (defBody s_shows) (defScope s_shows) .none kV_shows dc_shows pm_shows an_shows cd_shows ct_shows), sl_shows⟩)
    (c_shows : PySem.W.codeIn K cd_shows "shows" = true)
    (k_shows : PySem.W.keepIn K (.ref f_shows) = true)
    (a__law_dice : PySem.W.nsIn K mainGlobals "_law_dice" = some (some (.ref f__law_dice)))
    (l__law_dice : K.lookup f__law_dice = some ⟨oc__law_dice, od__law_dice, .func (PySem.W.fnOf "_law_dice" "_law_dice" (defArgs s__law_dice) (defBody s__law_dice) (defScope s__law_dice) .none kV__law_dice dc__law_dice pm__law_dice an__law_dice cd__law_dice ct__law_dice), sl__law_dice⟩)
    (c__law_dice : PySem.W.codeIn K cd__law_dice "_law_dice" = true)
    (k__law_dice : PySem.W.keepIn K (.ref f__law_dice) = true)
    (a__law_off : PySem.W.nsIn K mainGlobals "_law_off" = some (some (.ref f__law_off)))
    (l__law_off : K.lookup f__law_off = some ⟨oc__law_off, od__law_off, .func (PySem.W.fnOf "_law_off" "_law_off" (defArgs s__law_off) (defBody s__law_off) (defScope s__law_off) .none kV__law_off dc__law_off pm__law_off an__law_off cd__law_off ct__law_off), sl__law_off⟩)
    (c__law_off : PySem.W.codeIn K cd__law_off "_law_off" = true)
    (k__law_off : PySem.W.keepIn K (.ref f__law_off) = true)
    (a__law_alike : PySem.W.nsIn K mainGlobals "_law_alike" = some (some (.ref f__law_alike)))
    (l__law_alike : K.lookup f__law_alike = some ⟨oc__law_alike, od__law_alike, .func (PySem.W.fnOf "_law_alike" "_law_alike" (defArgs s__law_alike) (defBody s__law_alike) (defScope s__law_alike) .none kV__law_alike dc__law_alike pm__law_alike an__law_alike cd__law_alike ct__law_alike), sl__law_alike⟩)
    (c__law_alike : PySem.W.codeIn K cd__law_alike "_law_alike" = true)
    (k__law_alike : PySem.W.keepIn K (.ref f__law_alike) = true)
    (a__law_refused : PySem.W.nsIn K mainGlobals "_law_refused" = some (some (.ref f__law_refused)))
    (l__law_refused : K.lookup f__law_refused = some ⟨oc__law_refused, od__law_refused, .func (PySem.W.fnOf "_law_refused" "_law_refused" (defArgs s__law_refused) (defBody s__law_refused) (defScope s__law_refused) .none kV__law_refused dc__law_refused pm__law_refused an__law_refused cd__law_refused ct__law_refused), sl__law_refused⟩)
    (c__law_refused : PySem.W.codeIn K cd__law_refused "_law_refused" = true)
    (k__law_refused : PySem.W.keepIn K (.ref f__law_refused) = true)
    (a__law_rule : PySem.W.nsIn K mainGlobals "_law_rule" = some (some (.ref f__law_rule)))
    (l__law_rule : K.lookup f__law_rule = some ⟨oc__law_rule, od__law_rule, .func (PySem.W.fnOf "_law_rule" "_law_rule" (defArgs s__law_rule) (defBody s__law_rule) (defScope s__law_rule) .none kV__law_rule dc__law_rule pm__law_rule an__law_rule cd__law_rule ct__law_rule), sl__law_rule⟩)
    (c__law_rule : PySem.W.codeIn K cd__law_rule "_law_rule" = true)
    (k__law_rule : PySem.W.keepIn K (.ref f__law_rule) = true)
    (a__law_put : PySem.W.nsIn K mainGlobals "_law_put" = some (some (.ref f__law_put)))
    (l__law_put : K.lookup f__law_put = some ⟨oc__law_put, od__law_put, .func (PySem.W.fnOf "_law_put" "_law_put" (defArgs s__law_put) (defBody s__law_put) (defScope s__law_put) .none kV__law_put dc__law_put pm__law_put an__law_put cd__law_put ct__law_put), sl__law_put⟩)
    (c__law_put : PySem.W.codeIn K cd__law_put "_law_put" = true)
    (k__law_put : PySem.W.keepIn K (.ref f__law_put) = true)
    (a__law_take : PySem.W.nsIn K mainGlobals "_law_take" = some (some (.ref f__law_take)))
    (l__law_take : K.lookup f__law_take = some ⟨oc__law_take, od__law_take, .func (PySem.W.fnOf "_law_take" "_law_take" (defArgs s__law_take) (defBody s__law_take) (defScope s__law_take) .none kV__law_take dc__law_take pm__law_take an__law_take cd__law_take ct__law_take), sl__law_take⟩)
    (c__law_take : PySem.W.codeIn K cd__law_take "_law_take" = true)
    (k__law_take : PySem.W.keepIn K (.ref f__law_take) = true)
    (a__law_moves : PySem.W.nsIn K mainGlobals "_law_moves" = some (some (.ref f__law_moves)))
    (l__law_moves : K.lookup f__law_moves = some ⟨oc__law_moves, od__law_moves, .func (PySem.W.fnOf "_law_moves" "_law_moves" (defArgs s__law_moves) (defBody s__law_moves) (defScope s__law_moves) .none kV__law_moves dc__law_moves pm__law_moves an__law_moves cd__law_moves ct__law_moves), sl__law_moves⟩)
    (c__law_moves : PySem.W.codeIn K cd__law_moves "_law_moves" = true)
    (k__law_moves : PySem.W.keepIn K (.ref f__law_moves) = true)
    (a__law_pattern : PySem.W.nsIn K mainGlobals "_law_pattern" = some (some (.ref f__law_pattern)))
    (l__law_pattern : K.lookup f__law_pattern = some ⟨oc__law_pattern, od__law_pattern, .func (PySem.W.fnOf "_law_pattern" "_law_pattern" (defArgs s__law_pattern) (defBody s__law_pattern) (defScope s__law_pattern) .none kV__law_pattern dc__law_pattern pm__law_pattern an__law_pattern cd__law_pattern ct__law_pattern), sl__law_pattern⟩)
    (c__law_pattern : PySem.W.codeIn K cd__law_pattern "_law_pattern" = true)
    (k__law_pattern : PySem.W.keepIn K (.ref f__law_pattern) = true)
    (a__law_row : PySem.W.nsIn K mainGlobals "_law_row" = some (some (.ref f__law_row)))
    (l__law_row : K.lookup f__law_row = some ⟨oc__law_row, od__law_row, .func (PySem.W.fnOf "_law_row" "_law_row" (defArgs s__law_row) (defBody s__law_row) (defScope s__law_row) .none kV__law_row dc__law_row pm__law_row an__law_row cd__law_row ct__law_row), sl__law_row⟩)
    (c__law_row : PySem.W.codeIn K cd__law_row "_law_row" = true)
    (k__law_row : PySem.W.keepIn K (.ref f__law_row) = true)
    (a__law_step : PySem.W.nsIn K mainGlobals "_law_step" = some (some (.ref f__law_step)))
    (l__law_step : K.lookup f__law_step = some ⟨oc__law_step, od__law_step, .func (PySem.W.fnOf "_law_step" "_law_step" (defArgs s__law_step) (defBody s__law_step) (defScope s__law_step) .none kV__law_step dc__law_step pm__law_step an__law_step cd__law_step ct__law_step), sl__law_step⟩)
    (c__law_step : PySem.W.codeIn K cd__law_step "_law_step" = true)
    (k__law_step : PySem.W.keepIn K (.ref f__law_step) = true)
    (a__law_drawn : PySem.W.nsIn K mainGlobals "_law_drawn" = some (some (.ref f__law_drawn)))
    (l__law_drawn : K.lookup f__law_drawn = some ⟨oc__law_drawn, od__law_drawn, .func (PySem.W.fnOf "_law_drawn" "_law_drawn" (defArgs s__law_drawn) (defBody s__law_drawn) (defScope s__law_drawn) .none kV__law_drawn dc__law_drawn pm__law_drawn an__law_drawn cd__law_drawn ct__law_drawn), sl__law_drawn⟩)
    (c__law_drawn : PySem.W.codeIn K cd__law_drawn "_law_drawn" = true)
    (k__law_drawn : PySem.W.keepIn K (.ref f__law_drawn) = true)
    (a__law_bad_pattern : PySem.W.nsIn K mainGlobals "_law_bad_pattern" = some (some (.ref f__law_bad_pattern)))
    (l__law_bad_pattern : K.lookup f__law_bad_pattern = some ⟨oc__law_bad_pattern, od__law_bad_pattern, .func (PySem.W.fnOf "_law_bad_pattern" "_law_bad_pattern" (defArgs s__law_bad_pattern) (defBody s__law_bad_pattern) (defScope s__law_bad_pattern) .none kV__law_bad_pattern dc__law_bad_pattern pm__law_bad_pattern an__law_bad_pattern cd__law_bad_pattern ct__law_bad_pattern), sl__law_bad_pattern⟩)
    (c__law_bad_pattern : PySem.W.codeIn K cd__law_bad_pattern "_law_bad_pattern" = true)
    (k__law_bad_pattern : PySem.W.keepIn K (.ref f__law_bad_pattern) = true)
    (a__law_bad_deed : PySem.W.nsIn K mainGlobals "_law_bad_deed" = some (some (.ref f__law_bad_deed)))
    (l__law_bad_deed : K.lookup f__law_bad_deed = some ⟨oc__law_bad_deed, od__law_bad_deed, .func (PySem.W.fnOf "_law_bad_deed" "_law_bad_deed" (defArgs s__law_bad_deed) (defBody s__law_bad_deed) (defScope s__law_bad_deed) .none kV__law_bad_deed dc__law_bad_deed pm__law_bad_deed an__law_bad_deed cd__law_bad_deed ct__law_bad_deed), sl__law_bad_deed⟩)
    (c__law_bad_deed : PySem.W.codeIn K cd__law_bad_deed "_law_bad_deed" = true)
    (k__law_bad_deed : PySem.W.keepIn K (.ref f__law_bad_deed) = true)
    (a__law_shelf : PySem.W.nsIn K mainGlobals "_law_shelf" = some (some (.ref f__law_shelf)))
    (l__law_shelf : K.lookup f__law_shelf = some ⟨oc__law_shelf, od__law_shelf, .func (PySem.W.fnOf "_law_shelf" "_law_shelf" (defArgs s__law_shelf) (defBody s__law_shelf) (defScope s__law_shelf) .none kV__law_shelf dc__law_shelf pm__law_shelf an__law_shelf (.ref cS) ct__law_shelf), sl__law_shelf⟩)
    (c__law_shelf : PySem.W.codeIn K (.ref cS) "_law_shelf" = true)
    (k__law_shelf : PySem.W.keepIn K (.ref f__law_shelf) = true)
    (a__law_works : PySem.W.nsIn K mainGlobals "_law_works" = some (some (.ref f__law_works)))
    (l__law_works : K.lookup f__law_works = some ⟨oc__law_works, od__law_works, .func (PySem.W.fnOf "_law_works" "_law_works" (defArgs s__law_works) (defBody s__law_works) (defScope s__law_works) .none kV__law_works dc__law_works pm__law_works an__law_works (.ref cW) ct__law_works), sl__law_works⟩)
    (c__law_works : PySem.W.codeIn K (.ref cW) "_law_works" = true)
    (k__law_works : PySem.W.keepIn K (.ref f__law_works) = true)
    (a__law_is_found : PySem.W.nsIn K mainGlobals "_law_is_found" = some (some (.ref f__law_is_found)))
    (l__law_is_found : K.lookup f__law_is_found = some ⟨oc__law_is_found, od__law_is_found, .func (PySem.W.fnOf "_law_is_found" "_law_is_found" (defArgs s__law_is_found) (defBody s__law_is_found) (defScope s__law_is_found) .none kV__law_is_found dc__law_is_found pm__law_is_found an__law_is_found (.ref cF) ct__law_is_found), sl__law_is_found⟩)
    (c__law_is_found : PySem.W.codeIn K (.ref cF) "_law_is_found" = true)
    (k__law_is_found : PySem.W.keepIn K (.ref f__law_is_found) = true)
    (a_law : PySem.W.nsIn K mainGlobals "law" = some (some (.ref f_law)))
    (l_law : K.lookup f_law = some ⟨oc_law, od_law, .func (PySem.W.fnOf "law" "law" (defArgs s_law) (defBody s_law) (defScope s_law) .none kV_law dc_law pm_law an_law (.ref cL) ct_law), sl_law⟩)
    (c_law : PySem.W.codeIn K (.ref cL) "law" = true)
    (k_law : PySem.W.keepIn K (.ref f_law) = true)
    (tabs : tabsOk K ts [cL, cW, cF, cS] = true)
    (a_ShelfError : PySem.W.nsIn K mainGlobals "ShelfError" = some (some (.ref CE)))
    (r_ShelfError : PySem.W.readsIn K CE (.type "type") = true)
    (s_ShelfErr : PySem.W.specialIn K (.ref CE) "__getattribute__" = some (some (.builtin "type.__getattribute__")))
    (f_ShelfError : PySem.W.findCls K (.ref CE) (.type "type") "__init__" = some (.val (.builtin "ValueError.__init__")))
    (ga_cls : PySem.W.specialIn K (.builtin "object.__class__") "__get__" = some (some (.builtin "getset_descriptor.__get__")))
    (tk_cls : PySem.W.takesIn K (.builtin "object.__class__") = some true)
    (a_BadWidth : PySem.W.nsIn K mainGlobals "BadWidth" = some (some (.ref CW)))
    (kC_BadWidth : PySem.W.keepIn K (.ref CW) = true)
    (eC_BadWidth : PySem.W.subIn K (.ref CW) (.type "BaseException") = some true)
    (tC_BadWidth : PySem.W.typeIn K (.ref CW) = some (.type "type"))
    (iC_BadWidth : PySem.W.isClsIn K CW = true)
    (ga_BadWidth : PySem.W.findIn K (.ref CW) "__getattribute__" = some (some (.builtin "BaseException.__getattribute__")))
    (gg_BadWidth : PySem.W.findIn K (.ref CW) "__getattr__" = some none)
    (cl_BadWidth : PySem.W.findIn K (.ref CW) "__class__" = some (some (.builtin "object.__class__")))
    (mo_BadWidth : PySem.W.mroIn K CW (.type "object") = some true)
    (x_BadWidth : PySem.W.excIn K CW [.type "ValueError", .type "Exception", .type "BaseException", .type "object"] "ValueError.__new__" = true)
    (a_BadRule : PySem.W.nsIn K mainGlobals "BadRule" = some (some (.ref CR)))
    (kC_BadRule : PySem.W.keepIn K (.ref CR) = true)
    (eC_BadRule : PySem.W.subIn K (.ref CR) (.type "BaseException") = some true)
    (tC_BadRule : PySem.W.typeIn K (.ref CR) = some (.type "type"))
    (iC_BadRule : PySem.W.isClsIn K CR = true)
    (ga_BadRule : PySem.W.findIn K (.ref CR) "__getattribute__" = some (some (.builtin "BaseException.__getattribute__")))
    (gg_BadRule : PySem.W.findIn K (.ref CR) "__getattr__" = some none)
    (cl_BadRule : PySem.W.findIn K (.ref CR) "__class__" = some (some (.builtin "object.__class__")))
    (mo_BadRule : PySem.W.mroIn K CR (.type "object") = some true)
    (x_BadRule : PySem.W.excIn K CR [.type "ValueError", .type "Exception", .type "BaseException", .type "object"] "ValueError.__new__" = true)
    (a_BadPattern : PySem.W.nsIn K mainGlobals "BadPattern" = some (some (.ref CP)))
    (kC_BadPattern : PySem.W.keepIn K (.ref CP) = true)
    (eC_BadPattern : PySem.W.subIn K (.ref CP) (.type "BaseException") = some true)
    (tC_BadPattern : PySem.W.typeIn K (.ref CP) = some (.type "type"))
    (iC_BadPattern : PySem.W.isClsIn K CP = true)
    (ga_BadPattern : PySem.W.findIn K (.ref CP) "__getattribute__" = some (some (.builtin "BaseException.__getattribute__")))
    (gg_BadPattern : PySem.W.findIn K (.ref CP) "__getattr__" = some none)
    (cl_BadPattern : PySem.W.findIn K (.ref CP) "__class__" = some (some (.builtin "object.__class__")))
    (mo_BadPattern : PySem.W.mroIn K CP (.type "object") = some true)
    (xl_BadPattern : K.lookup CP = some (excClassObj nm_BadPattern q_BadPattern CP N_BadPattern bs_BadPattern bm_BadPattern true sn_BadPattern sub_BadPattern ab_BadPattern col_BadPattern dd_BadPattern m0_BadPattern m1_BadPattern m2_BadPattern m3_BadPattern m5_BadPattern "ValueError.__new__"))
    (rv_BadPattern : PySem.HandSPX.refsVE bm_BadPattern = true)
    (sa_BadPattern : PySem.W.findIn K (.ref CP) "__setattr__" = some (some (.builtin "object.__setattr__")))
    (hd_BadPattern : PySem.W.hasDictIn K CP = true)
    (no_BadPattern : PySem.W.findIn K (.ref CP) "at" = some none)
    (in_BadPattern : PySem.W.findIn K (.ref CP) "__init__" = some (some (.ref f_BadPattern___init__)))
    (l_BadPattern___init__ : K.lookup f_BadPattern___init__ = some ⟨oc_BadPattern___init__, od_BadPattern___init__, .func (PySem.W.fnOf "__init__" "BadPattern.__init__" (defArgs s_BadPattern___init__) (defBody s_BadPattern___init__) (defScope s_BadPattern___init__) .none kV_BadPattern___init__ dc_BadPattern___init__ pm_BadPattern___init__ an_BadPattern___init__ cd_BadPattern___init__ ct_BadPattern___init__), sl_BadPattern___init__⟩)
    (c_BadPattern___init__ : PySem.W.codeIn K cd_BadPattern___init__ "BadPattern.__init__" = true)
    (k_BadPattern___init__ : PySem.W.keepIn K (.ref f_BadPattern___init__) = true)
    (tn_BadPattern : PySem.W.typeIn K (.ref f_BadPattern___init__) = some (.type "function"))
    (a_BadDeed : PySem.W.nsIn K mainGlobals "BadDeed" = some (some (.ref CD)))
    (kC_BadDeed : PySem.W.keepIn K (.ref CD) = true)
    (eC_BadDeed : PySem.W.subIn K (.ref CD) (.type "BaseException") = some true)
    (tC_BadDeed : PySem.W.typeIn K (.ref CD) = some (.type "type"))
    (iC_BadDeed : PySem.W.isClsIn K CD = true)
    (ga_BadDeed : PySem.W.findIn K (.ref CD) "__getattribute__" = some (some (.builtin "BaseException.__getattribute__")))
    (gg_BadDeed : PySem.W.findIn K (.ref CD) "__getattr__" = some none)
    (cl_BadDeed : PySem.W.findIn K (.ref CD) "__class__" = some (some (.builtin "object.__class__")))
    (mo_BadDeed : PySem.W.mroIn K CD (.type "object") = some true)
    (xl_BadDeed : K.lookup CD = some (excClassObj nm_BadDeed q_BadDeed CD N_BadDeed bs_BadDeed bm_BadDeed true sn_BadDeed sub_BadDeed ab_BadDeed col_BadDeed dd_BadDeed m0_BadDeed m1_BadDeed m2_BadDeed m3_BadDeed m5_BadDeed "ValueError.__new__"))
    (rv_BadDeed : PySem.HandSPX.refsVE bm_BadDeed = true)
    (sa_BadDeed : PySem.W.findIn K (.ref CD) "__setattr__" = some (some (.builtin "object.__setattr__")))
    (hd_BadDeed : PySem.W.hasDictIn K CD = true)
    (no_BadDeed : PySem.W.findIn K (.ref CD) "number" = some none)
    (in_BadDeed : PySem.W.findIn K (.ref CD) "__init__" = some (some (.ref f_BadDeed___init__)))
    (l_BadDeed___init__ : K.lookup f_BadDeed___init__ = some ⟨oc_BadDeed___init__, od_BadDeed___init__, .func (PySem.W.fnOf "__init__" "BadDeed.__init__" (defArgs s_BadDeed___init__) (defBody s_BadDeed___init__) (defScope s_BadDeed___init__) .none kV_BadDeed___init__ dc_BadDeed___init__ pm_BadDeed___init__ an_BadDeed___init__ cd_BadDeed___init__ ct_BadDeed___init__), sl_BadDeed___init__⟩)
    (c_BadDeed___init__ : PySem.W.codeIn K cd_BadDeed___init__ "BadDeed.__init__" = true)
    (k_BadDeed___init__ : PySem.W.keepIn K (.ref f_BadDeed___init__) = true)
    (tn_BadDeed : PySem.W.typeIn K (.ref f_BadDeed___init__) = some (.type "function"))
    (a_BadKey : PySem.W.nsIn K mainGlobals "BadKey" = some (some (.ref CK)))
    (kC_BadKey : PySem.W.keepIn K (.ref CK) = true)
    (eC_BadKey : PySem.W.subIn K (.ref CK) (.type "BaseException") = some true)
    (tC_BadKey : PySem.W.typeIn K (.ref CK) = some (.type "type"))
    (iC_BadKey : PySem.W.isClsIn K CK = true)
    (ga_BadKey : PySem.W.findIn K (.ref CK) "__getattribute__" = some (some (.builtin "BaseException.__getattribute__")))
    (gg_BadKey : PySem.W.findIn K (.ref CK) "__getattr__" = some none)
    (cl_BadKey : PySem.W.findIn K (.ref CK) "__class__" = some (some (.builtin "object.__class__")))
    (mo_BadKey : PySem.W.mroIn K CK (.type "object") = some true)
    (x_BadKey : PySem.W.excIn K CK [.type "ValueError", .type "Exception", .type "BaseException", .type "object"] "ValueError.__new__" = true)
    (a_BadNumber : PySem.W.nsIn K mainGlobals "BadNumber" = some (some (.ref CN)))
    (kC_BadNumber : PySem.W.keepIn K (.ref CN) = true)
    (eC_BadNumber : PySem.W.subIn K (.ref CN) (.type "BaseException") = some true)
    (tC_BadNumber : PySem.W.typeIn K (.ref CN) = some (.type "type"))
    (iC_BadNumber : PySem.W.isClsIn K CN = true)
    (ga_BadNumber : PySem.W.findIn K (.ref CN) "__getattribute__" = some (some (.builtin "BaseException.__getattribute__")))
    (gg_BadNumber : PySem.W.findIn K (.ref CN) "__getattr__" = some none)
    (cl_BadNumber : PySem.W.findIn K (.ref CN) "__class__" = some (some (.builtin "object.__class__")))
    (mo_BadNumber : PySem.W.mroIn K CN (.type "object") = some true)
    (x_BadNumber : PySem.W.excIn K CN [.type "ValueError", .type "Exception", .type "BaseException", .type "object"] "ValueError.__new__" = true)
    (z_ValueError : PySem.W.nsIn K mainGlobals "ValueError" = some none)
    (ones : onesOk K [CW, CR, CP, CD, CK, CN] CE = true) :
    LamX.LawAtS l w K CX0 23 63 "_law_script" mg fa h := by
  have e := hfa.symm.trans (PySem.W.mg_of X G a_law)
  cases e
  obtain ⟨tab, nd⟩ := tabs_ok tabs
  have asks : ∀ C ∈ [CW, CR, CP, CD, CK, CN], AskC K C := by
    intro C hC
    simp only [List.mem_cons, List.not_mem_nil, or_false] at hC
    rcases hC with rfl | rfl | rfl | rfl | rfl | rfl
    · exact askC_mk iC_BadWidth ga_BadWidth gg_BadWidth eC_BadWidth cl_BadWidth ga_cls tk_cls mo_BadWidth
    · exact askC_mk iC_BadRule ga_BadRule gg_BadRule eC_BadRule cl_BadRule ga_cls tk_cls mo_BadRule
    · exact askC_mk iC_BadPattern ga_BadPattern gg_BadPattern eC_BadPattern cl_BadPattern ga_cls tk_cls mo_BadPattern
    · exact askC_mk iC_BadDeed ga_BadDeed gg_BadDeed eC_BadDeed cl_BadDeed ga_cls tk_cls mo_BadDeed
    · exact askC_mk iC_BadKey ga_BadKey gg_BadKey eC_BadKey cl_BadKey ga_cls tk_cls mo_BadKey
    · exact askC_mk iC_BadNumber ga_BadNumber gg_BadNumber eC_BadNumber cl_BadNumber ga_cls tk_cls mo_BadNumber
  have BI : BaseInit K mg "ShelfError" CE := ⟨PySem.W.mg_of X G a_ShelfError, .type "type", ⟨r_ShelfError, s_ShelfErr⟩, f_ShelfError⟩
  have mem : ∀ p ∈ ([(cL, tabOf K cL), (cW, tabOf K cW), (cF, tabOf K cF), (cS, tabOf K cS)] : List (Addr × Addr)), p.1 ∈ [cL, cW, cF, cS] ∧ p.2 = tabOf K p.1 := by
    intro p hp
    simp only [List.mem_cons, List.not_mem_nil, or_false] at hp
    rcases hp with rfl | rfl | rfl | rfl <;> exact ⟨by simp, rfl⟩
  refine ⟨PySem.W.fnOf "law" "law" (defArgs s_law) (defBody s_law) (defScope s_law) .none kV_law dc_law pm_law an_law (.ref cL) ct_law, [(cL, tabOf K cL), (cW, tabOf K cW), (cF, tabOf K cF), (cS, tabOf K cS)], spD K (pre_law ⟨C, CE, CW, CR, CP, CD, CK, CN, cL, tabOf K cL, cW, tabOf K cW, cF, tabOf K cF, cS, tabOf K cS⟩), fun p hp => ?_, fun p hp => ?_, fun p hp => ?_, fun s v => .of_eq rfl, fun H a ns hl _ hT hS => ?_, fun base _ _ TB => ?_⟩
  · obtain ⟨h1, h2⟩ := mem p hp
    rw [h2]
    exact Y _ (tab _ h1).2.1
  · obtain ⟨h1, h2⟩ := mem p hp
    rw [h2]
    exact (tab _ h1).2.2
  · obtain ⟨h1, h2⟩ := mem p hp
    rw [h2]
    exact PySem.W.codeHd_of_K X (tab _ h1).1
  · refine law_inT (l := [(tabOf K cL, lam_0.qual), (tabOf K cW, lam_7.qual), (tabOf K cF, lam_12.qual), (tabOf K cS, lam_14.qual)]) (fun p hp => ?_) (fun Q q => ⟨ns, rfl, hl, ?_, ?_, ?_, ?_, q⟩) hS _
    · simp only [List.mem_cons, List.not_mem_nil, or_false] at hp
      rcases hp with rfl | rfl | rfl | rfl
      · exact hT (cL, tabOf K cL) (by simp)
      · exact hT (cW, tabOf K cW) (by simp)
      · exact hT (cF, tabOf K cF) (by simp)
      · exact hT (cS, tabOf K cS) (by simp)
    · exact mT_at (i := 0) nd rfl rfl
    · exact mT_at (i := 1) nd rfl rfl
    · exact mT_at (i := 2) nd rfl rfl
    · exact mT_at (i := 3) nd rfl rfl
  · have T : TX l.prog w K mg base ⟨C, CE, CW, CR, CP, CD, CK, CN, cL, tabOf K cL, cW, tabOf K cW, cF, tabOf K cF, cS, tabOf K cS⟩ := {
      b_abs := PySem.W.mg_none_of X G z_abs,
      b_all := PySem.W.mg_none_of X G z_all,
      b_bool := PySem.W.mg_none_of X G z_bool,
      b_dict := PySem.W.mg_none_of X G z_dict,
      b_enumerate := PySem.W.mg_none_of X G z_enumerate,
      b_int := PySem.W.mg_none_of X G z_int,
      b_isinstance := PySem.W.mg_none_of X G z_isinstance,
      b_len := PySem.W.mg_none_of X G z_len,
      b_list := PySem.W.mg_none_of X G z_list,
      b_max := PySem.W.mg_none_of X G z_max,
      b_min := PySem.W.mg_none_of X G z_min,
      b_range := PySem.W.mg_none_of X G z_range,
      b_sorted := PySem.W.mg_none_of X G z_sorted,
      b_str := PySem.W.mg_none_of X G z_str,
      b_tuple := PySem.W.mg_none_of X G z_tuple,
      b_zip := PySem.W.mg_none_of X G z_zip,
      c_MOST_WIDE := globI (PySem.W.mg_of X G g_MOST_WIDE),
      c_RULES := globT (us := [.str "near" t_RULES_0, .str "left" t_RULES_1, .str "even" t_RULES_2]) (ss := ["near", "left", "even"]) (PySem.W.mg_of X G g_RULES) l_RULES (by show 3 ≤ sizeLine; decide) (⟨⟨_, rfl⟩, ⟨⟨_, rfl⟩, ⟨⟨_, rfl⟩, trivial⟩⟩⟩),
      c_FREE := globS (PySem.W.mg_of X G g_FREE),
      c_TAKEN := globS (PySem.W.mg_of X G g_TAKEN),
      c_MOST_DEEDS := globI (PySem.W.mg_of X G g_MOST_DEEDS),
      cl := ⟨pg, hd, po, sa⟩,
      mgC := PySem.W.mg_of X G a_cls,
      na_rule := na_rule,
      na_wide := na_wide,
      na_row := na_row,
      na_many := na_many,
      h_Shelf___init__ := ⟨⟨_, _, fun_mk (st := s_Shelf___init__) l_Shelf___init__ c_Shelf___init__ k_Shelf___init__, ⟨mk, a_Shelf___init__, i_Shelf___init__, kc⟩⟩⟩,
      h_Shelf_put_in := ⟨⟨_, _, fun_mk (st := s_Shelf_put_in) l_Shelf_put_in c_Shelf_put_in k_Shelf_put_in, ⟨a_Shelf_put_in, i_Shelf_put_in, k_Shelf_put_in⟩⟩⟩,
      h_Shelf_take_out := ⟨⟨_, _, fun_mk (st := s_Shelf_take_out) l_Shelf_take_out c_Shelf_take_out k_Shelf_take_out, ⟨a_Shelf_take_out, i_Shelf_take_out, k_Shelf_take_out⟩⟩⟩,
      h_Shelf_standing := ⟨⟨_, _, fun_mk (st := s_Shelf_standing) l_Shelf_standing c_Shelf_standing k_Shelf_standing, ⟨a_Shelf_standing, i_Shelf_standing, k_Shelf_standing⟩⟩⟩,
      h_Shelf_moved := ⟨⟨_, _, fun_mk (st := s_Shelf_moved) l_Shelf_moved c_Shelf_moved k_Shelf_moved, ⟨a_Shelf_moved, i_Shelf_moved, k_Shelf_moved⟩⟩⟩,
      h_need_width := ⟨⟨_, _, fun_mk (st := s_need_width) l_need_width c_need_width k_need_width, PySem.W.mg_of X G a_need_width⟩⟩,
      h_need_rule := ⟨⟨_, _, fun_mk (st := s_need_rule) l_need_rule c_need_rule k_need_rule, PySem.W.mg_of X G a_need_rule⟩⟩,
      h_need_pattern := ⟨⟨_, _, fun_mk (st := s_need_pattern) l_need_pattern c_need_pattern k_need_pattern, PySem.W.mg_of X G a_need_pattern⟩⟩,
      h_places_of := ⟨⟨_, _, fun_mk (st := s_places_of) l_places_of c_places_of k_places_of, PySem.W.mg_of X G a_places_of⟩⟩,
      h_pattern_of := ⟨⟨_, _, fun_mk (st := s_pattern_of) l_pattern_of c_pattern_of k_pattern_of, PySem.W.mg_of X G a_pattern_of⟩⟩,
      h_even_places := ⟨⟨_, _, fun_mk (st := s_even_places) l_even_places c_even_places k_even_places, PySem.W.mg_of X G a_even_places⟩⟩,
      h_shifted := ⟨⟨_, _, fun_mk (st := s_shifted) l_shifted c_shifted k_shifted, PySem.W.mg_of X G a_shifted⟩⟩,
      h_places_behind := ⟨⟨_, _, fun_mk (st := s_places_behind) l_places_behind c_places_behind k_places_behind, PySem.W.mg_of X G a_places_behind⟩⟩,
      h_moved := ⟨⟨_, _, fun_mk (st := s_moved) l_moved c_moved k_moved, PySem.W.mg_of X G a_moved⟩⟩,
      h_step := ⟨⟨_, _, fun_mk (st := s_step) l_step c_step k_step, PySem.W.mg_of X G a_step⟩⟩,
      h_done := ⟨⟨_, _, fun_mk (st := s_done) l_done c_done k_done, PySem.W.mg_of X G a_done⟩⟩,
      h_played := ⟨⟨_, _, fun_mk (st := s_played) l_played c_played k_played, PySem.W.mg_of X G a_played⟩⟩,
      h_all_deeds := ⟨⟨_, _, fun_mk (st := s_all_deeds) l_all_deeds c_all_deeds k_all_deeds, PySem.W.mg_of X G a_all_deeds⟩⟩,
      h_reached := ⟨⟨_, _, fun_mk (st := s_reached) l_reached c_reached k_reached, PySem.W.mg_of X G a_reached⟩⟩,
      h_layings := ⟨⟨_, _, fun_mk (st := s_layings) l_layings c_layings k_layings, PySem.W.mg_of X G a_layings⟩⟩,
      h_many_behind := ⟨⟨_, _, fun_mk (st := s_many_behind) l_many_behind c_many_behind k_many_behind, PySem.W.mg_of X G a_many_behind⟩⟩,
      h_fewest := ⟨⟨_, _, fun_mk (st := s_fewest) l_fewest c_fewest k_fewest, PySem.W.mg_of X G a_fewest⟩⟩,
      h_edges_of := ⟨⟨_, _, fun_mk (st := s_edges_of) l_edges_of c_edges_of k_edges_of, PySem.W.mg_of X G a_edges_of⟩⟩,
      h_is_more := ⟨⟨_, _, fun_mk (st := s_is_more) l_is_more c_is_more k_is_more, PySem.W.mg_of X G a_is_more⟩⟩,
      h_lowest := ⟨⟨_, _, fun_mk (st := s_lowest) l_lowest c_lowest k_lowest, PySem.W.mg_of X G a_lowest⟩⟩,
      h_most_of := ⟨⟨_, _, fun_mk (st := s_most_of) l_most_of c_most_of k_most_of, PySem.W.mg_of X G a_most_of⟩⟩,
      h_heights_of := ⟨⟨_, _, fun_mk (st := s_heights_of) l_heights_of c_heights_of k_heights_of, PySem.W.mg_of X G a_heights_of⟩⟩,
      h_round_of := ⟨⟨_, _, fun_mk (st := s_round_of) l_round_of c_round_of k_round_of, PySem.W.mg_of X G a_round_of⟩⟩,
      h_walk_round := ⟨⟨_, _, fun_mk (st := s_walk_round) l_walk_round c_walk_round k_walk_round, PySem.W.mg_of X G a_walk_round⟩⟩,
      h_worst := ⟨⟨_, _, fun_mk (st := s_worst) l_worst c_worst k_worst, PySem.W.mg_of X G a_worst⟩⟩,
      h_purse := ⟨⟨_, _, fun_mk (st := s_purse) l_purse c_purse k_purse, PySem.W.mg_of X G a_purse⟩⟩,
      h_shows := ⟨⟨_, _, fun_mk (st := s_shows) l_shows c_shows k_shows, PySem.W.mg_of X G a_shows⟩⟩,
      h__law_dice := ⟨⟨_, _, fun_mk (st := s__law_dice) l__law_dice c__law_dice k__law_dice, PySem.W.mg_of X G a__law_dice⟩⟩,
      h__law_off := ⟨⟨_, _, fun_mk (st := s__law_off) l__law_off c__law_off k__law_off, PySem.W.mg_of X G a__law_off⟩⟩,
      h__law_alike := ⟨⟨_, _, fun_mk (st := s__law_alike) l__law_alike c__law_alike k__law_alike, PySem.W.mg_of X G a__law_alike⟩⟩,
      h__law_refused := ⟨⟨_, _, fun_mk (st := s__law_refused) l__law_refused c__law_refused k__law_refused, PySem.W.mg_of X G a__law_refused⟩⟩,
      h__law_rule := ⟨⟨_, _, fun_mk (st := s__law_rule) l__law_rule c__law_rule k__law_rule, PySem.W.mg_of X G a__law_rule⟩⟩,
      h__law_put := ⟨⟨_, _, fun_mk (st := s__law_put) l__law_put c__law_put k__law_put, PySem.W.mg_of X G a__law_put⟩⟩,
      h__law_take := ⟨⟨_, _, fun_mk (st := s__law_take) l__law_take c__law_take k__law_take, PySem.W.mg_of X G a__law_take⟩⟩,
      h__law_moves := ⟨⟨_, _, fun_mk (st := s__law_moves) l__law_moves c__law_moves k__law_moves, PySem.W.mg_of X G a__law_moves⟩⟩,
      h__law_pattern := ⟨⟨_, _, fun_mk (st := s__law_pattern) l__law_pattern c__law_pattern k__law_pattern, PySem.W.mg_of X G a__law_pattern⟩⟩,
      h__law_row := ⟨⟨_, _, fun_mk (st := s__law_row) l__law_row c__law_row k__law_row, PySem.W.mg_of X G a__law_row⟩⟩,
      h__law_step := ⟨⟨_, _, fun_mk (st := s__law_step) l__law_step c__law_step k__law_step, PySem.W.mg_of X G a__law_step⟩⟩,
      h__law_drawn := ⟨⟨_, _, fun_mk (st := s__law_drawn) l__law_drawn c__law_drawn k__law_drawn, PySem.W.mg_of X G a__law_drawn⟩⟩,
      h__law_bad_pattern := ⟨⟨_, _, fun_mk (st := s__law_bad_pattern) l__law_bad_pattern c__law_bad_pattern k__law_bad_pattern, PySem.W.mg_of X G a__law_bad_pattern⟩⟩,
      h__law_bad_deed := ⟨⟨_, _, fun_mk (st := s__law_bad_deed) l__law_bad_deed c__law_bad_deed k__law_bad_deed, PySem.W.mg_of X G a__law_bad_deed⟩⟩,
      h__law_shelf := ⟨⟨_, _, funC_mk (st := s__law_shelf) l__law_shelf c__law_shelf k__law_shelf, PySem.W.mg_of X G a__law_shelf⟩⟩,
      h__law_works := ⟨⟨_, _, funC_mk (st := s__law_works) l__law_works c__law_works k__law_works, PySem.W.mg_of X G a__law_works⟩⟩,
      h__law_is_found := ⟨⟨_, _, funC_mk (st := s__law_is_found) l__law_is_found c__law_is_found k__law_is_found, PySem.W.mg_of X G a__law_is_found⟩⟩,
      h_law := ⟨⟨_, _, funC_mk (st := s_law) l_law c_law k_law, PySem.W.mg_of X G a_law⟩⟩,
      t_L := TB (cL, tabOf K cL) (by simp),
      t_W := TB (cW, tabOf K cW) (by simp),
      t_F := TB (cF, tabOf K cF) (by simp),
      t_S := TB (cS, tabOf K cS) (by simp),
      e_BadWidth := ⟨PySem.W.mg_of X G a_BadWidth, x_BadWidth, kC_BadWidth, eC_BadWidth, tC_BadWidth⟩,
      g_BadWidth := ⟨⟨_, PySem.W.mg_of X G a_BadWidth, rfl, fun _ => .adr _⟩⟩,
      e_BadRule := ⟨PySem.W.mg_of X G a_BadRule, x_BadRule, kC_BadRule, eC_BadRule, tC_BadRule⟩,
      g_BadRule := ⟨⟨_, PySem.W.mg_of X G a_BadRule, rfl, fun _ => .adr _⟩⟩,
      e_BadPattern := ⟨PySem.W.mg_of X G a_BadPattern, ⟨⟨_, _, _, _, _, _, _, _, _, _, _, _, _, _, _, xl_BadPattern, rv_BadPattern⟩, sa_BadPattern, eC_BadPattern, tC_BadPattern, kC_BadPattern⟩, no_BadPattern, _, _, _, in_BadPattern, tn_BadPattern, init_BadPattern (fun_mk (st := s_BadPattern___init__) l_BadPattern___init__ c_BadPattern___init__ k_BadPattern___init__) BI, (fun_mk (st := s_BadPattern___init__) l_BadPattern___init__ c_BadPattern___init__ k_BadPattern___init__).binds (ps := ["self", "at"]) fun _ _ _ _ _ _ us hl => match us, hl with | [_, _], _ => rfl⟩,
      g_BadPattern := ⟨⟨_, PySem.W.mg_of X G a_BadPattern, rfl, fun _ => .adr _⟩⟩,
      e_BadDeed := ⟨PySem.W.mg_of X G a_BadDeed, ⟨⟨_, _, _, _, _, _, _, _, _, _, _, _, _, _, _, xl_BadDeed, rv_BadDeed⟩, sa_BadDeed, eC_BadDeed, tC_BadDeed, kC_BadDeed⟩, no_BadDeed, _, _, _, in_BadDeed, tn_BadDeed, init_BadDeed (fun_mk (st := s_BadDeed___init__) l_BadDeed___init__ c_BadDeed___init__ k_BadDeed___init__) BI, (fun_mk (st := s_BadDeed___init__) l_BadDeed___init__ c_BadDeed___init__ k_BadDeed___init__).binds (ps := ["self", "number"]) fun _ _ _ _ _ _ us hl => match us, hl with | [_, _], _ => rfl⟩,
      g_BadDeed := ⟨⟨_, PySem.W.mg_of X G a_BadDeed, rfl, fun _ => .adr _⟩⟩,
      e_BadKey := ⟨PySem.W.mg_of X G a_BadKey, x_BadKey, kC_BadKey, eC_BadKey, tC_BadKey⟩,
      g_BadKey := ⟨⟨_, PySem.W.mg_of X G a_BadKey, rfl, fun _ => .adr _⟩⟩,
      e_BadNumber := ⟨PySem.W.mg_of X G a_BadNumber, x_BadNumber, kC_BadNumber, eC_BadNumber, tC_BadNumber⟩,
      g_BadNumber := ⟨⟨_, PySem.W.mg_of X G a_BadNumber, rfl, fun _ => .adr _⟩⟩,
      b_ValueError := PySem.W.mg_none_of X G z_ValueError,
      g_ShelfError := PySem.W.mg_of X G a_ShelfError,
      ask := fun C hC => ⟨asks C hC, (ones_ok ones).1 C hC⟩,
      one := (ones_ok ones).2,
      xfP := ⟨ga_BadPattern, gg_BadPattern, eC_BadPattern, hd_BadPattern⟩,
      xfD := ⟨ga_BadDeed, gg_BadDeed, eC_BadDeed, hd_BadDeed⟩,
      noP := no_BadPattern,
      noD := no_BadDeed }
    exact ok_law T (funC_mk (st := s_law) l_law c_law k_law)
theorem walk {l : PySem.W.OpenLaw} {q : Program} {loose : List Str} {XP : (Str → Option Value) → Heap → Prop} {YP : World → Heap → Prop} {d : DefRec} {K : Params → PySem.W.Frag} (hn : l.most = some 63) (hdf : d.params.defaults = [])
    (hY : ∀ (w : World) (h : Heap), YP w h → (K w.params).In h)
    (F : ∀ (w : World) (mg : Str → Option Value) (fa : Addr) (h : Heap), YP w h → (K w.params).In h → h.Ns mainGlobals mg → mg d.name = some (.ref fa) → LamX.LawAtS l w (K w.params) CX0 23 63 "_law_script" mg fa h) :
    PySem.W.WalkO q loose XP YP l.row.toRowW d [] (fun f vs => PySem.call f vs) :=
  LamX.walk_ofTs (n := 63) (k := 23) (x := "_law_script") (CX := fun _ => CX0) hn (by decide) hdf ⟨rfl, by decide, by decide⟩ hY F fun _ _ _ _ _ z => z
end Ls
open PySem PySem.W PyProof.Rows
set_option maxRecDepth 100000 in
set_option maxHeartbeats 0 in
theorem PySem.Challenge.cw_looseshelf_k01_what_is_none_holds : PySem.Challenge.rw_looseshelf_k01_what_is_none.Holds := by
  w_on; o_law; k_head; (case hw => w_witness2)
  k_fill
  refine Ls.walk (l := PySem.Challenge.rw_looseshelf_k01_what_is_none) rfl rfl (fun w h Y => PySem.W.km_in_of Y) ?F
  case F =>
    intro w mg fa h Y KX G hmg
    refine' Ls.all_mk KX G hmg (PySem.W.km_tabs_of Y) ?z_abs ?z_all ?z_bool ?z_dict ?z_enumerate ?z_int ?z_isinstance ?z_len ?z_list ?z_max ?z_min ?z_range ?z_sorted ?z_str ?z_tuple ?z_zip ?g_MOST_WIDE ?g_RULES ?l_RULES ?g_FREE ?g_TAKEN ?g_MOST_DEEDS ?a_cls ?pg ?hd ?po ?sa ?mk ?kc ?na_rule ?na_wide ?na_row ?na_many ?a_Shelf___init__ ?l_Shelf___init__ ?c_Shelf___init__ ?k_Shelf___init__ ?i_Shelf___init__ ?a_Shelf_put_in ?l_Shelf_put_in ?c_Shelf_put_in ?k_Shelf_put_in ?i_Shelf_put_in ?a_Shelf_take_out ?l_Shelf_take_out ?c_Shelf_take_out ?k_Shelf_take_out ?i_Shelf_take_out ?a_Shelf_standing ?l_Shelf_standing ?c_Shelf_standing ?k_Shelf_standing ?i_Shelf_standing ?a_Shelf_moved ?l_Shelf_moved ?c_Shelf_moved ?k_Shelf_moved ?i_Shelf_moved ?a_need_width ?l_need_width ?c_need_width ?k_need_width ?a_need_rule ?l_need_rule ?c_need_rule ?k_need_rule ?a_need_pattern ?l_need_pattern ?c_need_pattern ?k_need_pattern ?a_places_of ?l_places_of ?c_places_of ?k_places_of ?a_pattern_of ?l_pattern_of ?c_pattern_of ?k_pattern_of ?a_even_places ?l_even_places ?c_even_places ?k_even_places ?a_shifted ?l_shifted ?c_shifted ?k_shifted ?a_places_behind ?l_places_behind ?c_places_behind ?k_places_behind ?a_moved ?l_moved ?c_moved ?k_moved ?a_step ?l_step ?c_step ?k_step ?a_done ?l_done ?c_done ?k_done ?a_played ?l_played ?c_played ?k_played ?a_all_deeds ?l_all_deeds ?c_all_deeds ?k_all_deeds ?a_reached ?l_reached ?c_reached ?k_reached ?a_layings ?l_layings ?c_layings ?k_layings ?a_many_behind ?l_many_behind ?c_many_behind ?k_many_behind ?a_fewest ?l_fewest ?c_fewest ?k_fewest ?a_edges_of ?l_edges_of ?c_edges_of ?k_edges_of ?a_is_more ?l_is_more ?c_is_more ?k_is_more ?a_lowest ?l_lowest ?c_lowest ?k_lowest ?a_most_of ?l_most_of ?c_most_of ?k_most_of ?a_heights_of ?l_heights_of ?c_heights_of ?k_heights_of ?a_round_of ?l_round_of ?c_round_of ?k_round_of ?a_walk_round ?l_walk_round ?c_walk_round ?k_walk_round ?a_worst ?l_worst ?c_worst ?k_worst ?a_purse ?l_purse ?c_purse ?k_purse ?a_shows ?l_shows ?c_shows ?k_shows ?a__law_dice ?l__law_dice ?c__law_dice ?k__law_dice ?a__law_off ?l__law_off ?c__law_off ?k__law_off ?a__law_alike ?l__law_alike ?c__law_alike ?k__law_alike ?a__law_refused ?l__law_refused ?c__law_refused ?k__law_refused ?a__law_rule ?l__law_rule ?c__law_rule ?k__law_rule ?a__law_put ?l__law_put ?c__law_put ?k__law_put ?a__law_take ?l__law_take ?c__law_take ?k__law_take ?a__law_moves ?l__law_moves ?c__law_moves ?k__law_moves ?a__law_pattern ?l__law_pattern ?c__law_pattern ?k__law_pattern ?a__law_row ?l__law_row ?c__law_row ?k__law_row ?a__law_step ?l__law_step ?c__law_step ?k__law_step ?a__law_drawn ?l__law_drawn ?c__law_drawn ?k__law_drawn ?a__law_bad_pattern ?l__law_bad_pattern ?c__law_bad_pattern ?k__law_bad_pattern ?a__law_bad_deed ?l__law_bad_deed ?c__law_bad_deed ?k__law_bad_deed ?a__law_shelf ?l__law_shelf ?c__law_shelf ?k__law_shelf ?a__law_works ?l__law_works ?c__law_works ?k__law_works ?a__law_is_found ?l__law_is_found ?c__law_is_found ?k__law_is_found ?a_law ?l_law ?c_law ?k_law ?tabs ?a_ShelfError ?r_ShelfError ?s_ShelfErr ?f_ShelfError ?ga_cls ?tk_cls ?a_BadWidth ?kC_BadWidth ?eC_BadWidth ?tC_BadWidth ?iC_BadWidth ?ga_BadWidth ?gg_BadWidth ?cl_BadWidth ?mo_BadWidth ?x_BadWidth ?a_BadRule ?kC_BadRule ?eC_BadRule ?tC_BadRule ?iC_BadRule ?ga_BadRule ?gg_BadRule ?cl_BadRule ?mo_BadRule ?x_BadRule ?a_BadPattern ?kC_BadPattern ?eC_BadPattern ?tC_BadPattern ?iC_BadPattern ?ga_BadPattern ?gg_BadPattern ?cl_BadPattern ?mo_BadPattern ?xl_BadPattern ?rv_BadPattern ?sa_BadPattern ?hd_BadPattern ?no_BadPattern ?in_BadPattern ?l_BadPattern___init__ ?c_BadPattern___init__ ?k_BadPattern___init__ ?tn_BadPattern ?a_BadDeed ?kC_BadDeed ?eC_BadDeed ?tC_BadDeed ?iC_BadDeed ?ga_BadDeed ?gg_BadDeed ?cl_BadDeed ?mo_BadDeed ?xl_BadDeed ?rv_BadDeed ?sa_BadDeed ?hd_BadDeed ?no_BadDeed ?in_BadDeed ?l_BadDeed___init__ ?c_BadDeed___init__ ?k_BadDeed___init__ ?tn_BadDeed ?a_BadKey ?kC_BadKey ?eC_BadKey ?tC_BadKey ?iC_BadKey ?ga_BadKey ?gg_BadKey ?cl_BadKey ?mo_BadKey ?x_BadKey ?a_BadNumber ?kC_BadNumber ?eC_BadNumber ?tC_BadNumber ?iC_BadNumber ?ga_BadNumber ?gg_BadNumber ?cl_BadNumber ?mo_BadNumber ?x_BadNumber ?z_ValueError ?ones
    (case z_abs => k_is)
    (case z_all => k_is)
    (case z_bool => k_is)
    (case z_dict => k_is)
    (case z_enumerate => k_is)
    (case z_int => k_is)
    (case z_isinstance => k_is)
    (case z_len => k_is)
    (case z_list => k_is)
    (case z_max => k_is)
    (case z_min => k_is)
    (case z_range => k_is)
    (case z_sorted => k_is)
    (case z_str => k_is)
    (case z_tuple => k_is)
    (case z_zip => k_is)
    (case g_MOST_WIDE => k_is)
    (case g_RULES => k_is)
    (case l_RULES => k_is)
    (case g_FREE => k_is)
    (case g_TAKEN => k_is)
    (case g_MOST_DEEDS => k_is)
    (case a_cls => k_is)
    (case pg => k_is)
    (case hd => k_is)
    (case po => k_is)
    (case sa => k_is)
    (case mk => k_is)
    (case kc => k_is)
    (case na_rule => k_is)
    (case na_wide => k_is)
    (case na_row => k_is)
    (case na_many => k_is)
    (case a_Shelf___init__ => k_is)
    (case l_Shelf___init__ => k_is)
    (case c_Shelf___init__ => k_is)
    (case k_Shelf___init__ => k_is)
    (case i_Shelf___init__ => k_is)
    (case a_Shelf_put_in => k_is)
    (case l_Shelf_put_in => k_is)
    (case c_Shelf_put_in => k_is)
    (case k_Shelf_put_in => k_is)
    (case i_Shelf_put_in => k_is)
    (case a_Shelf_take_out => k_is)
    (case l_Shelf_take_out => k_is)
    (case c_Shelf_take_out => k_is)
    (case k_Shelf_take_out => k_is)
    (case i_Shelf_take_out => k_is)
    (case a_Shelf_standing => k_is)
    (case l_Shelf_standing => k_is)
    (case c_Shelf_standing => k_is)
    (case k_Shelf_standing => k_is)
    (case i_Shelf_standing => k_is)
    (case a_Shelf_moved => k_is)
    (case l_Shelf_moved => k_is)
    (case c_Shelf_moved => k_is)
    (case k_Shelf_moved => k_is)
    (case i_Shelf_moved => k_is)
    (case a_need_width => k_is)
    (case l_need_width => k_is)
    (case c_need_width => k_is)
    (case k_need_width => k_is)
    (case a_need_rule => k_is)
    (case l_need_rule => k_is)
    (case c_need_rule => k_is)
    (case k_need_rule => k_is)
    (case a_need_pattern => k_is)
    (case l_need_pattern => k_is)
    (case c_need_pattern => k_is)
    (case k_need_pattern => k_is)
    (case a_places_of => k_is)
    (case l_places_of => k_is)
    (case c_places_of => k_is)
    (case k_places_of => k_is)
    (case a_pattern_of => k_is)
    (case l_pattern_of => k_is)
    (case c_pattern_of => k_is)
    (case k_pattern_of => k_is)
    (case a_even_places => k_is)
    (case l_even_places => k_is)
    (case c_even_places => k_is)
    (case k_even_places => k_is)
    (case a_shifted => k_is)
    (case l_shifted => k_is)
    (case c_shifted => k_is)
    (case k_shifted => k_is)
    (case a_places_behind => k_is)
    (case l_places_behind => k_is)
    (case c_places_behind => k_is)
    (case k_places_behind => k_is)
    (case a_moved => k_is)
    (case l_moved => k_is)
    (case c_moved => k_is)
    (case k_moved => k_is)
    (case a_step => k_is)
    (case l_step => k_is)
    (case c_step => k_is)
    (case k_step => k_is)
    (case a_done => k_is)
    (case l_done => k_is)
    (case c_done => k_is)
    (case k_done => k_is)
    (case a_played => k_is)
    (case l_played => k_is)
    (case c_played => k_is)
    (case k_played => k_is)
    (case a_all_deeds => k_is)
    (case l_all_deeds => k_is)
    (case c_all_deeds => k_is)
    (case k_all_deeds => k_is)
    (case a_reached => k_is)
    (case l_reached => k_is)
    (case c_reached => k_is)
    (case k_reached => k_is)
    (case a_layings => k_is)
    (case l_layings => k_is)
    (case c_layings => k_is)
    (case k_layings => k_is)
    (case a_many_behind => k_is)
    (case l_many_behind => k_is)
    (case c_many_behind => k_is)
    (case k_many_behind => k_is)
    (case a_fewest => k_is)
    (case l_fewest => k_is)
    (case c_fewest => k_is)
    (case k_fewest => k_is)
    (case a_edges_of => k_is)
    (case l_edges_of => k_is)
    (case c_edges_of => k_is)
    (case k_edges_of => k_is)
    (case a_is_more => k_is)
    (case l_is_more => k_is)
    (case c_is_more => k_is)
    (case k_is_more => k_is)
    (case a_lowest => k_is)
    (case l_lowest => k_is)
    (case c_lowest => k_is)
    (case k_lowest => k_is)
    (case a_most_of => k_is)
    (case l_most_of => k_is)
    (case c_most_of => k_is)
    (case k_most_of => k_is)
    (case a_heights_of => k_is)
    (case l_heights_of => k_is)
    (case c_heights_of => k_is)
    (case k_heights_of => k_is)
    (case a_round_of => k_is)
    (case l_round_of => k_is)
    (case c_round_of => k_is)
    (case k_round_of => k_is)
    (case a_walk_round => k_is)
    (case l_walk_round => k_is)
    (case c_walk_round => k_is)
    (case k_walk_round => k_is)
    (case a_worst => k_is)
    (case l_worst => k_is)
    (case c_worst => k_is)
    (case k_worst => k_is)
    (case a_purse => k_is)
    (case l_purse => k_is)
    (case c_purse => k_is)
    (case k_purse => k_is)
    (case a_shows => k_is)
    (case l_shows => k_is)
    (case c_shows => k_is)
    (case k_shows => k_is)
    (case a__law_dice => k_is)
    (case l__law_dice => k_is)
    (case c__law_dice => k_is)
    (case k__law_dice => k_is)
    (case a__law_off => k_is)
    (case l__law_off => k_is)
    (case c__law_off => k_is)
    (case k__law_off => k_is)
    (case a__law_alike => k_is)
    (case l__law_alike => k_is)
    (case c__law_alike => k_is)
    (case k__law_alike => k_is)
    (case a__law_refused => k_is)
    (case l__law_refused => k_is)
    (case c__law_refused => k_is)
    (case k__law_refused => k_is)
    (case a__law_rule => k_is)
    (case l__law_rule => k_is)
    (case c__law_rule => k_is)
    (case k__law_rule => k_is)
    (case a__law_put => k_is)
    (case l__law_put => k_is)
    (case c__law_put => k_is)
    (case k__law_put => k_is)
    (case a__law_take => k_is)
    (case l__law_take => k_is)
    (case c__law_take => k_is)
    (case k__law_take => k_is)
    (case a__law_moves => k_is)
    (case l__law_moves => k_is)
    (case c__law_moves => k_is)
    (case k__law_moves => k_is)
    (case a__law_pattern => k_is)
    (case l__law_pattern => k_is)
    (case c__law_pattern => k_is)
    (case k__law_pattern => k_is)
    (case a__law_row => k_is)
    (case l__law_row => k_is)
    (case c__law_row => k_is)
    (case k__law_row => k_is)
    (case a__law_step => k_is)
    (case l__law_step => k_is)
    (case c__law_step => k_is)
    (case k__law_step => k_is)
    (case a__law_drawn => k_is)
    (case l__law_drawn => k_is)
    (case c__law_drawn => k_is)
    (case k__law_drawn => k_is)
    (case a__law_bad_pattern => k_is)
    (case l__law_bad_pattern => k_is)
    (case c__law_bad_pattern => k_is)
    (case k__law_bad_pattern => k_is)
    (case a__law_bad_deed => k_is)
    (case l__law_bad_deed => k_is)
    (case c__law_bad_deed => k_is)
    (case k__law_bad_deed => k_is)
    (case a__law_shelf => k_is)
    (case l__law_shelf => k_is)
    (case c__law_shelf => k_is)
    (case k__law_shelf => k_is)
    (case a__law_works => k_is)
    (case l__law_works => k_is)
    (case c__law_works => k_is)
    (case k__law_works => k_is)
    (case a__law_is_found => k_is)
    (case l__law_is_found => k_is)
    (case c__law_is_found => k_is)
    (case k__law_is_found => k_is)
    (case a_law => k_is)
    (case l_law => k_is)
    (case c_law => k_is)
    (case k_law => k_is)
    (case tabs => kernel_rfl)
    (case a_ShelfError => k_is)
    (case r_ShelfError => k_is)
    (case s_ShelfErr => k_is)
    (case f_ShelfError => k_is)
    (case ga_cls => k_is)
    (case tk_cls => k_is)
    (case a_BadWidth => k_is)
    (case kC_BadWidth => k_is)
    (case eC_BadWidth => k_is)
    (case tC_BadWidth => k_is)
    (case iC_BadWidth => k_is)
    (case ga_BadWidth => k_is)
    (case gg_BadWidth => k_is)
    (case cl_BadWidth => k_is)
    (case mo_BadWidth => k_is)
    (case x_BadWidth => kernel_rfl)
    (case a_BadRule => k_is)
    (case kC_BadRule => k_is)
    (case eC_BadRule => k_is)
    (case tC_BadRule => k_is)
    (case iC_BadRule => k_is)
    (case ga_BadRule => k_is)
    (case gg_BadRule => k_is)
    (case cl_BadRule => k_is)
    (case mo_BadRule => k_is)
    (case x_BadRule => kernel_rfl)
    (case a_BadPattern => k_is)
    (case kC_BadPattern => k_is)
    (case eC_BadPattern => k_is)
    (case tC_BadPattern => k_is)
    (case iC_BadPattern => k_is)
    (case ga_BadPattern => k_is)
    (case gg_BadPattern => k_is)
    (case cl_BadPattern => k_is)
    (case mo_BadPattern => k_is)
    (case xl_BadPattern => k_is)
    (case rv_BadPattern => kernel_rfl)
    (case sa_BadPattern => k_is)
    (case hd_BadPattern => k_is)
    (case no_BadPattern => k_is)
    (case in_BadPattern => k_is)
    (case l_BadPattern___init__ => k_is)
    (case c_BadPattern___init__ => k_is)
    (case k_BadPattern___init__ => k_is)
    (case tn_BadPattern => k_is)
    (case a_BadDeed => k_is)
    (case kC_BadDeed => k_is)
    (case eC_BadDeed => k_is)
    (case tC_BadDeed => k_is)
    (case iC_BadDeed => k_is)
    (case ga_BadDeed => k_is)
    (case gg_BadDeed => k_is)
    (case cl_BadDeed => k_is)
    (case mo_BadDeed => k_is)
    (case xl_BadDeed => k_is)
    (case rv_BadDeed => kernel_rfl)
    (case sa_BadDeed => k_is)
    (case hd_BadDeed => k_is)
    (case no_BadDeed => k_is)
    (case in_BadDeed => k_is)
    (case l_BadDeed___init__ => k_is)
    (case c_BadDeed___init__ => k_is)
    (case k_BadDeed___init__ => k_is)
    (case tn_BadDeed => k_is)
    (case a_BadKey => k_is)
    (case kC_BadKey => k_is)
    (case eC_BadKey => k_is)
    (case tC_BadKey => k_is)
    (case iC_BadKey => k_is)
    (case ga_BadKey => k_is)
    (case gg_BadKey => k_is)
    (case cl_BadKey => k_is)
    (case mo_BadKey => k_is)
    (case x_BadKey => kernel_rfl)
    (case a_BadNumber => k_is)
    (case kC_BadNumber => k_is)
    (case eC_BadNumber => k_is)
    (case tC_BadNumber => k_is)
    (case iC_BadNumber => k_is)
    (case ga_BadNumber => k_is)
    (case gg_BadNumber => k_is)
    (case cl_BadNumber => k_is)
    (case mo_BadNumber => k_is)
    (case x_BadNumber => kernel_rfl)
    (case z_ValueError => k_is)
    (case ones => kernel_rfl)
