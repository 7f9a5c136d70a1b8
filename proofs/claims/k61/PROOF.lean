import PyProof.Rows.All
import Wide.All
import OpenK.AllK
import Wide.FinOn
import PyProof.EqAt
import PyProof.EqKinds
import PyProof.TupleCall
import HandS.ForMost
import HandS.ForExc
import HandS.Lambda
import HandS.Deep
import HandS.IsInst
import HandS.TupAny
import HandS.TupMul
import HandS.Style
import HandS.Wide
import PyProof.StrOps2
import HandS.Conv
import PyProof.ListStr
import HandS.ExcInit
import KE.KExcSuper
import KE.KExcIs
import HandS.TryOnly
import HandS.ExcIs
import HandS.ExcField
import HandS.Zip
import HandS.Dict
import HandS.HeadHook1
import HandS.EndTab
import KE.KNestM
import KE.GoesMore
import PyProof.P3In
import KE.KRevSl
import KE.GoesEnum
import PySem.Challenge.RW_ringsandcuts_k61_whole_papers_of_dyeings
set_option Elab.async false
set_option linter.all false
set_option maxRecDepth 100000
set_option maxHeartbeats 4000000
/-! DLa: plain data over the hand layer: values D, the store of changing objects M, readings over data. -/
namespace DL
open PySem PySem.Spec PyProof.Rows L2

inductive D where
  | non | bl (b : Bool) | int (i : Int) | str (x : Str) | tup (xs : List D) | lst (xs : List D) | dic (kvs : List (Key × D)) | ptr (a : Addr) | ty (n : String)
  | exc (C : Addr) (fs : List (Str × D)) | scr (xs : List D)

/-- what may change -/
inductive MO where
  | lst (xs : List D) | dK (kvs : List (Key × D)) | dT (kvs : List (List Key × D))
abbrev Mem := Addr → Option MO
def Mem.set (M : Mem) (a : Addr) (o : MO) : Mem := fun b => if b = a then some o else M b
def Mem.del (M : Mem) (a : Addr) : Mem := fun b => if b = a then none else M b
@[simp] theorem Mem.set_same {M : Mem} {a : Addr} {o : MO} : M.set a o a = some o := by unfold Mem.set; rw [if_pos rfl]
theorem Mem.set_ne {M : Mem} {a b : Addr} {o : MO} (h : b ≠ a) : M.set a o b = M b := by unfold Mem.set; rw [if_neg h]
@[simp] theorem Mem.set_set {M : Mem} {a : Addr} {o u : MO} : (M.set a o).set a u = M.set a u := by funext b; unfold Mem.set; split <;> rfl
@[simp] theorem Mem.del_same {M : Mem} {a : Addr} : M.del a a = none := by unfold Mem.del; rw [if_pos rfl]
theorem Mem.del_ne {M : Mem} {a b : Addr} (h : b ≠ a) : M.del a b = M b := by unfold Mem.del; rw [if_neg h]
theorem Mem.ne_of_none {M : Mem} {a b : Addr} {o : MO} (h : M a = some o) (h' : M b = none) : a ≠ b := by intro e; subst e; rw [h] at h'; cases h'

/-- a list that never changes: frozen, or the written part's -/
def FzL (K : PySem.W.Frag) (H : Hp) (a : Addr) (xs : List V) : Prop :=
  (∃ o, H a = some (.frz o (.lst xs))) ∨
    ∃ (o : Obj) (its : Array Value) (n : Nat), K.lookup a = some o ∧ o.cls = .type "list" ∧ o.dict = none ∧ o.data = .seq its n ∧ its.size ≤ sizeLine ∧ Vals xs its.toList
theorem FzL.sq {K : PySem.W.Frag} {H : Hp} {a : Addr} {xs : List V} (h : FzL K H a xs) : SqL K H a xs := by
  rcases h with h | h
  · exact .inl (.inr h)
  · exact .inr h

/-- frozen, tracked -/
def FzR (H : Hp) (a : Addr) (xs : List V) : Prop := ∃ o, H a = some (.frz o (.lst xs))
/-- an exception object that stands still -/
def ExcAt (H : Hp) (a C : Addr) (fs : List (Str × V)) : Prop :=
  ∃ (oe : Obj) (d : Option Addr) (φ : Heap → Prop), H a = some (.frz oe (.ext φ)) ∧ Zc (.ref C) d oe ∧ (∃ vs, oe.data = .fields vs) ∧
    ((d = none ∧ fs = []) ∨ ∃ dd od, d = some dd ∧ H dd = some (.frz od (.xd fs)))

mutual
inductive Rep (K : PySem.W.Frag) (H : Hp) : V → D → Prop
  | non : Rep K H .non .non
  | bl (b : Bool) : Rep K H (.bl b) (.bl b)
  | int (i : Int) : Rep K H (.int i) (.int i)
  | str (x : Str) : Rep K H (.str x) (.str x)
  | ptr (a : Addr) : Rep K H (.ref a) (.ptr a)
  | ty (n : String) : Rep K H (.ty n) (.ty n)
  | lst {a : Addr} {xs : List V} {ds : List D} : FzR H a xs → Reps K H xs ds → Rep K H (.ref a) (.lst ds)
  | scr {a : Addr} {xs : List V} {ds : List D} : FzL K H a xs → Reps K H xs ds → Rep K H (.ref a) (.scr ds)
  | tup {a : Addr} {xs : List V} {ds : List D} : H a = some (.tup xs) → Reps K H xs ds → Rep K H (.ref a) (.tup ds)
  | dic {a : Addr} {kvs : List (Key × V)} {ds : List (Key × D)} : (∃ o, H a = some (.frz o (.dK kvs))) → RepK K H kvs ds → Rep K H (.ref a) (.dic ds)
  | exc {a C : Addr} {fs : List (Str × V)} {ds : List (Str × D)} : ExcAt H a C fs → RepF K H fs ds → Rep K H (.ref a) (.exc C ds)
inductive Reps (K : PySem.W.Frag) (H : Hp) : List V → List D → Prop
  | nil : Reps K H [] []
  | cons {v : V} {vs : List V} {d : D} {ds : List D} : Rep K H v d → Reps K H vs ds → Reps K H (v :: vs) (d :: ds)
inductive RepK (K : PySem.W.Frag) (H : Hp) : List (Key × V) → List (Key × D) → Prop
  | nil : RepK K H [] []
  | cons {k : Key} {v : V} {vs : List (Key × V)} {d : D} {ds : List (Key × D)} : Rep K H v d → RepK K H vs ds → RepK K H ((k, v) :: vs) ((k, d) :: ds)
inductive RepF (K : PySem.W.Frag) (H : Hp) : List (Str × V) → List (Str × D) → Prop
  | nil : RepF K H [] []
  | cons {k : Str} {v : V} {vs : List (Str × V)} {d : D} {ds : List (Str × D)} : Rep K H v d → RepF K H vs ds → RepF K H ((k, v) :: vs) ((k, d) :: ds)
end
inductive RepT (K : PySem.W.Frag) (H : Hp) : List (List Key × V) → List (List Key × D) → Prop
  | nil : RepT K H [] []
  | cons {k : List Key} {v : V} {vs : List (List Key × V)} {d : D} {ds : List (List Key × D)} : Rep K H v d → RepT K H vs ds → RepT K H ((k, v) :: vs) ((k, d) :: ds)
def RepM (K : PySem.W.Frag) (H : Hp) : HO → MO → Prop
  | .lst vs, .lst ds => Reps K H vs ds
  | .dK kvs, .dK ds => RepK K H kvs ds
  | .dT kvs, .dT ds => RepT K H kvs ds
  | _, _ => False

/-- what never changes stays -/
structure Kp (T : List (Addr × Str)) (H H' : Hp) : Prop where
  tup : ∀ b xs, H b = some (.tup xs) → H' b = some (.tup xs)
  frz : ∀ b o u, H b = some (.frz o u) → H' b = some (.frz o u)
  tab : LamX.Tabs T H → LamX.Tabs T H'
section
variable {T : List (Addr × Str)} {K : PySem.W.Frag} {H H' H1 H2 : Hp}
theorem Kp.refl : Kp T H H := ⟨fun _ _ h => h, fun _ _ _ h => h, fun h => h⟩
theorem Kp.trans (a : Kp T H H1) (b : Kp T H1 H2) : Kp T H H2 := ⟨fun c xs h => b.tup c xs (a.tup c xs h), fun c o u h => b.frz c o u (a.frz c o u h), fun h => b.tab (a.tab h)⟩
theorem Kp.ext (e : ∀ b o, H b = some o → H' b = some o) : Kp T H H' := ⟨fun b xs h => e b _ h, fun b o u h => e b _ h, fun h => h.ext e⟩
theorem Kp.new {p : Addr} {o : HO} (h : H p = none) : Kp T H (upd H p o) := .ext fun a u e => by rw [upd_ne (ne_of_none e h)]; exact e
def Chg : HO → Prop
  | .lst _ => True
  | .dK _ => True
  | .dT _ => True
  | _ => False
theorem Kp.mut {p : Addr} {o u : HO} (h : H p = some o) (c : Chg o) : Kp T H (upd H p u) := by
  have ne : ∀ b w, H b = some w → ¬ Chg w → b ≠ p := fun b w e nc z => by subst z; rw [h] at e; cases e; exact nc c
  refine ⟨fun b xs e => ?_, fun b o u e => ?_, fun t q hq => ?_⟩
  · rw [upd_ne (ne b _ e fun z => z)]; exact e
  · rw [upd_ne (ne b _ e fun z => z)]; exact e
  · obtain ⟨ps, h1, h2, h3⟩ := t q hq
    refine ⟨ps, by rw [upd_ne (ne _ _ h1 fun z => z)]; exact h1, h2, fun pos cv hc => ?_⟩
    obtain ⟨c0, e1, e2⟩ := h3 pos cv hc
    exact ⟨c0, e1, by rw [upd_ne (ne _ _ e2 fun z => z)]; exact e2⟩
theorem kp_rdT {a : Addr} {xs : List V} (k : Kp T H H') (h : SqT K H a xs) : SqT K H' a xs := by
  rcases h with (h | ⟨o, h⟩) | h
  · exact .inl (.inl (k.tup _ _ h))
  · exact .inl (.inr ⟨o, k.frz _ _ _ h⟩)
  · exact .inr h
theorem kp_fzl {a : Addr} {xs : List V} (k : Kp T H H') (h : FzL K H a xs) : FzL K H' a xs := by
  rcases h with ⟨o, h⟩ | h
  · exact .inl ⟨o, k.frz _ _ _ h⟩
  · exact .inr h
theorem kp_exc {a C : Addr} {fs : List (Str × V)} (k : Kp T H H') (h : ExcAt H a C fs) : ExcAt H' a C fs := by
  obtain ⟨oe, d, φ, h1, h2, h3, h4⟩ := h
  refine ⟨oe, d, φ, k.frz _ _ _ h1, h2, h3, ?_⟩
  rcases h4 with h4 | ⟨dd, od, e, h4⟩
  · exact .inl h4
  · exact .inr ⟨dd, od, e, k.frz _ _ _ h4⟩
mutual
theorem Rep.mono (k : Kp T H H') : ∀ {d : D} {v : V}, Rep K H v d → Rep K H' v d
  | .non, _, h => by cases h; exact .non
  | .bl _, _, h => by cases h; exact .bl _
  | .int _, _, h => by cases h; exact .int _
  | .str _, _, h => by cases h; exact .str _
  | .ptr _, _, h => by cases h; exact .ptr _
  | .ty _, _, h => by cases h; exact .ty _
  | .lst ds, _, h => by cases h with | lst a b => obtain ⟨o, a⟩ := a; exact .lst ⟨o, k.frz _ _ _ a⟩ (Reps.mono k b)
  | .scr ds, _, h => by cases h with | scr a b => exact .scr (kp_fzl k a) (Reps.mono k b)
  | .tup ds, _, h => by cases h with | tup a b => exact .tup (k.tup _ _ a) (Reps.mono k b)
  | .dic ds, _, h => by cases h with | dic a b => obtain ⟨o, a⟩ := a; exact .dic ⟨o, k.frz _ _ _ a⟩ (RepK.mono k b)
  | .exc C ds, _, h => by cases h with | exc a b => exact .exc (kp_exc k a) (RepF.mono k b)
theorem Reps.mono (k : Kp T H H') : ∀ {ds : List D} {vs : List V}, Reps K H vs ds → Reps K H' vs ds
  | [], _, h => by cases h; exact .nil
  | d :: ds, _, h => by cases h with | cons a b => exact .cons (Rep.mono k a) (Reps.mono k b)
theorem RepK.mono (k : Kp T H H') : ∀ {ds : List (Key × D)} {vs : List (Key × V)}, RepK K H vs ds → RepK K H' vs ds
  | [], _, h => by cases h; exact .nil
  | (_, d) :: ds, _, h => by cases h with | cons a b => exact .cons (Rep.mono k a) (RepK.mono k b)
theorem RepF.mono (k : Kp T H H') : ∀ {ds : List (Str × D)} {vs : List (Str × V)}, RepF K H vs ds → RepF K H' vs ds
  | [], _, h => by cases h; exact .nil
  | (_, d) :: ds, _, h => by cases h with | cons a b => exact .cons (Rep.mono k a) (RepF.mono k b)
end
theorem RepT.mono (k : Kp T H H') : ∀ {ds : List (List Key × D)} {vs : List (List Key × V)}, RepT K H vs ds → RepT K H' vs ds
  | [], _, h => by cases h; exact .nil
  | (_, d) :: ds, _, h => by cases h with | cons a b => exact .cons (a.mono k) (RepT.mono k b)
theorem RepM.mono (k : Kp T H H') {o : HO} {m : MO} (h : RepM K H o m) : RepM K H' o m := by
  cases o <;> cases m <;> first | exact h.elim | exact Reps.mono k h | exact RepK.mono k h | exact RepT.mono k h
theorem RepM.chg {o : HO} {m : MO} (h : RepM K H o m) : Chg o := by
  cases o <;> cases m <;> first | exact h.elim | exact True.intro

/-- the store is held -/
def MOk (K : PySem.W.Frag) (H : Hp) (M : Mem) : Prop := ∀ a m, M a = some m → ∃ o, H a = some o ∧ RepM K H o m
theorem MOk.ext {M : Mem} (e : ∀ b o, H b = some o → H' b = some o) (h : MOk K H M) : MOk K H' M := fun a m q => by
  obtain ⟨o, h1, h2⟩ := h a m q
  exact ⟨o, e _ _ h1, h2.mono (T := []) (.ext e)⟩
theorem MOk.free {M : Mem} (h : MOk K H M) {a : Addr} (n : H a = none) : M a = none := by
  cases q : M a with
  | none => rfl
  | some m => obtain ⟨o, h1, _⟩ := h a m q; rw [n] at h1; cases h1
theorem MOk.new {M : Mem} {p : Addr} {o : HO} (h : MOk K H M) (n : H p = none) : MOk K (upd H p o) M := h.ext fun a u e => by rw [upd_ne (ne_of_none e n)]; exact e
theorem MOk.put {M : Mem} {p : Addr} {o : HO} {m : MO} (h : MOk K H M) (k : Kp T H (upd H p o)) (r : RepM K H o m) : MOk K (upd H p o) (M.set p m) := fun a m' q => by
  by_cases e : a = p
  · subst e; rw [Mem.set_same] at q; cases q; exact ⟨o, upd_same, r.mono k⟩
  · rw [Mem.set_ne e] at q
    obtain ⟨o', h1, h2⟩ := h a m' q
    exact ⟨o', by rw [upd_ne e]; exact h1, h2.mono k⟩
theorem MOk.drop {M : Mem} {p : Addr} {o : HO} (h : MOk K H M) (k : Kp T H (upd H p o)) : MOk K (upd H p o) (M.del p) := fun a m' q => by
  by_cases e : a = p
  · subst e; rw [Mem.del_same] at q; cases q
  · rw [Mem.del_ne e] at q
    obtain ⟨o', h1, h2⟩ := h a m' q
    exact ⟨o', by rw [upd_ne e]; exact h1, h2.mono k⟩
theorem MOk.del {M : Mem} {p : Addr} (h : MOk K H M) : MOk K H (M.del p) := fun a m' q => by
  by_cases e : a = p
  · subst e; rw [Mem.del_same] at q; cases q
  · rw [Mem.del_ne e] at q; exact h a m' q
theorem MOk.sub {M M' : Mem} (h : MOk K H M) (e : ∀ a m, M' a = some m → M a = some m) : MOk K H M' := fun a m q => h a m (e a m q)

theorem Reps.length : ∀ {vs : List V} {ds : List D}, Reps K H vs ds → vs.length = ds.length
  | _, _, .nil => rfl
  | _, _, .cons _ t => by rw [List.length_cons, List.length_cons, Reps.length t]
theorem Reps.get : ∀ {vs : List V} {ds : List D} {i : Nat} {d : D}, Reps K H vs ds → ds[i]? = some d → ∃ v, vs[i]? = some v ∧ Rep K H v d
  | _, _, _, _, .nil, e => by simp at e
  | _, _, 0, _, .cons r _, e => by simp at e; subst e; exact ⟨_, rfl, r⟩
  | _, _, i + 1, x, .cons _ t, e => by
    obtain ⟨u, h1, h2⟩ := Reps.get (i := i) (d := x) t (by simpa using e)
    exact ⟨u, by simpa using h1, h2⟩
theorem Reps.getV : ∀ {vs : List V} {ds : List D} {i : Nat} {v : V}, Reps K H vs ds → vs[i]? = some v → ∃ d, ds[i]? = some d ∧ Rep K H v d
  | _, _, _, _, .nil, e => by simp at e
  | _, _, 0, _, .cons r _, e => by simp at e; subst e; exact ⟨_, rfl, r⟩
  | _, _, i + 1, x, .cons _ t, e => by
    obtain ⟨u, h1, h2⟩ := Reps.getV (i := i) (v := x) t (by simpa using e)
    exact ⟨u, by simpa using h1, h2⟩
theorem Reps.append : ∀ {vs ws : List V} {ds es : List D}, Reps K H vs ds → Reps K H ws es → Reps K H (vs ++ ws) (ds ++ es)
  | _, _, _, _, .nil, s => s
  | _, _, _, _, .cons r t, s => .cons r (Reps.append t s)
theorem Reps.take : ∀ {vs : List V} {ds : List D} (n : Nat), Reps K H vs ds → Reps K H (vs.take n) (ds.take n)
  | _, _, 0, _ => .nil
  | _, _, _ + 1, .nil => .nil
  | _, _, n + 1, .cons r t => .cons r (Reps.take n t)
theorem Reps.drop : ∀ {vs : List V} {ds : List D} (n : Nat), Reps K H vs ds → Reps K H (vs.drop n) (ds.drop n)
  | _, _, 0, r => r
  | _, _, _ + 1, .nil => .nil
  | _, _, n + 1, .cons _ t => Reps.drop n t
theorem Reps.reverse {vs : List V} {ds : List D} (h : Reps K H vs ds) : Reps K H vs.reverse ds.reverse := by
  induction ds generalizing vs with
  | nil => cases h; exact .nil
  | cons d ds ih => cases h with | cons a b => rw [List.reverse_cons, List.reverse_cons]; exact (ih b).append (.cons a .nil)
theorem Reps.eraseIdx : ∀ {vs : List V} {ds : List D} (i : Nat), Reps K H vs ds → Reps K H (vs.eraseIdx i) (ds.eraseIdx i)
  | _, _, _, .nil => .nil
  | _, _, 0, .cons _ t => t
  | _, _, i + 1, .cons r t => .cons r (Reps.eraseIdx i t)
theorem Reps.set {v : V} {d : D} (r : Rep K H v d) : ∀ {vs : List V} {ds : List D} (i : Nat), Reps K H vs ds → Reps K H (vs.set i v) (ds.set i d)
  | _, _, _, .nil => .nil
  | _, _, 0, .cons _ t => .cons r t
  | _, _, i + 1, .cons q t => .cons q (Reps.set r i t)
theorem Reps.rep {vs : List V} {ds : List D} (h : Reps K H vs ds) : ∀ k : Nat, Reps K H (List.replicate k vs).flatten (List.replicate k ds).flatten
  | 0 => .nil
  | k + 1 => by rw [List.replicate_succ, List.replicate_succ, List.flatten_cons, List.flatten_cons]; exact h.append (Reps.rep h k)

/-- a list's items, read -/
def lsD (M : Mem) : D → Option (List D)
  | .lst xs => some xs
  | .scr xs => some xs
  | .ptr p => match M p with
    | some (.lst xs) => some xs
    | _ => none
  | _ => none
def lsR (M : Mem) : D → Option (List D)
  | .lst xs => some xs
  | .ptr p => match M p with
    | some (.lst xs) => some xs
    | _ => none
  | _ => none
theorem lsR_rep {M : Mem} {v : V} {d : D} {xs : List D} (r : Rep K H v d) (m : MOk K H M) (h : lsR M d = some xs) : ∃ a vs, v = .ref a ∧ Rd H a (.lst vs) ∧ Reps K H vs xs := by
  unfold lsR at h
  split at h
  · cases h
    cases r with
    | lst a b => exact ⟨_, _, rfl, .inr a, b⟩
  · rename_i p
    split at h
    · rename_i ys hp
      cases h
      cases r
      obtain ⟨o, h1, h2⟩ := m _ _ hp
      cases o <;> first | exact h2.elim | exact ⟨_, _, rfl, .inl h1, h2⟩
    · cases h
  · cases h
theorem lsD_rep {M : Mem} {v : V} {d : D} {xs : List D} (r : Rep K H v d) (m : MOk K H M) (h : lsD M d = some xs) : ∃ a vs, v = .ref a ∧ SqL K H a vs ∧ Reps K H vs xs := by
  unfold lsD at h
  split at h
  · cases h
    cases r with
    | lst a b => exact ⟨_, _, rfl, .inl (.inr a), b⟩
  · cases h
    cases r with
    | scr a b => exact ⟨_, _, rfl, a.sq, b⟩
  · rename_i p
    split at h
    · rename_i ys hp
      cases h
      cases r
      obtain ⟨o, h1, h2⟩ := m _ _ hp
      cases o <;> first | exact h2.elim | exact ⟨_, _, rfl, .of h1, h2⟩
    · cases h
  · cases h
end
end DL

/-! DLb: a list is frozen; readings over data, expressions. -/
namespace DL
abbrev Sg := List (Option L2.V)
open PySem PySem.Spec PyProof.Rows L2

/-! ### a list is frozen (a step of the proof, not of the program) -/
section
variable {X : Cx} {pins : List (Addr × Obj)} {σ : Sg} {H : Hp} {s : Shared} {p : Addr} {o : HO}
theorem inv_frzO (I : Inv X pins σ H s) (h : H p = some o) (c : Chg o) : ∃ ob, Inv X pins σ (upd H p (.frz ob o)) s := by
  have ok := I.hok p _ h
  obtain ⟨ob, e⟩ : ∃ ob, s.heap.get? p = some ob := by
    cases o <;> first
      | exact c.elim
      | (obtain ⟨z, its, n, r, e⟩ := ok; exact ⟨_, e⟩)
      | (obtain ⟨z, y, vs, r, o', es, ep, e, _⟩ := ok; exact ⟨_, e⟩)
  have neT : ∀ b w, H b = some w → ¬ Chg w → b ≠ p := fun b w q1 nc z => by rw [z, h] at q1; cases q1; exact nc c
  have neN : ∀ b, H b = none → b ≠ p := fun b q1 z => by rw [z, h] at q1; cases q1
  have stay : ∀ b, H b = none → upd H p (.frz ob o) b = none := fun b e => by rw [upd_ne (neN b e)]; exact e
  have hoT : ∀ a b, H b = some (.own a) → upd H p (.frz ob o) b = some (.own a) := fun a b q => by rw [upd_ne (neT b _ q fun z => z)]; exact q
  have htT : ∀ b xs, H b = some (.tup xs) → upd H p (.frz ob o) b = some (.tup xs) := fun b xs q => by rw [upd_ne (neT b _ q fun z => z)]; exact q
  refine ⟨ob, I.ok, I.os, I.bare, ⟨I.base.keep, I.base.slot, fun b o' e n hx => stay b (I.base.free b o' e n hx), I.base.there, fun b xs e => ?_, fun b o' u e => ?_, fun b ps e => ?_⟩, I.loc, I.cell, stay _ I.free, fun x c e => stay _ (I.freeC x c e), fun q hq => ?_, fun b u e => ?_, I.len⟩
  · have q := I.base.tups b xs e; rw [upd_ne (neT b _ q fun z => z)]; exact q
  · have q := I.base.frzs b o' u e; rw [upd_ne (neT b _ q fun z => z)]; exact q
  · obtain ⟨more, q⟩ := I.base.tbls b ps e; exact ⟨more, by rw [upd_ne (neT b _ q fun z => z)]; exact q⟩
  · obtain ⟨e, n, ne, nf, d⟩ := I.pin q hq
    exact ⟨e, stay _ n, ne, nf, d⟩
  · by_cases hb : b = p
    · subst hb; rw [upd_same] at e; cases e
      exact ⟨‹_›, ok.stay (fun _ _ _ q => q) (hoT _) htT⟩
    · rw [upd_ne hb] at e
      exact (I.hok b u e).stay (fun _ _ _ q => q) (hoT _) htT
theorem Kp.frzO {T : List (Addr × Str)} {ob : Obj} (h : H p = some o) (c : Chg o) : Kp T H (upd H p (.frz ob o)) := Kp.mut h c
end
/-- the end Q, the value a list that is frozen ahead -/
def fz (Q : VK) : VK := fun v H => ∃ p o, v = .ref p ∧ H p = some o ∧ Chg o ∧ ∀ ob, Q v (upd H p (.frz ob o))
/-- .. or as it is -/
def fz1 (Q : VK) : VK := fun v H => fz Q v H ∨ Q v H
theorem ep_fz1 {X : Cx} {pins : List (Addr × Obj)} {σ : Sg} {Q : VK} {u : Value} {s : Shared} (h : EP X pins σ (fz1 Q) u s) : EP X pins σ Q u s := by
  obtain ⟨v, H', I, r, q | q⟩ := h
  · obtain ⟨p, xs, rfl, e, c, q⟩ := q
    obtain ⟨ob, I'⟩ := inv_frzO I e c
    exact ⟨_, _, I', r, q ob⟩
  · exact ⟨v, H', I, r, q⟩
section
variable {X : Cx}
theorem op_fz {f : Value → Value → Sem Value} {r : R2} (h : OpR X f r) : OpR X f (fun x y H Q => r x y H (fz1 Q)) := fun pins s σ H x y v u Q I rx ry q => thn (h pins s σ H x y v u _ I rx ry q) fun _ _ z => (ep_fz1 z)
theorem call_fz {f : Value} {r : List V → Hp → VK → Prop} (h : CallR X f r) : CallR X f (fun xs H Q => r xs H (fz1 Q)) := fun pins s σ H xs us Q I rx q => thn (h pins s σ H xs us _ I rx q) fun _ _ z => (ep_fz1 z)
theorem ix_fz {r : R2} (h : IxR X r) : IxR X (fun x y H Q => r x y H (fz1 Q)) := fun a b pins s σ H x y v u Q I rx ry q hs => thn (h a b pins s σ H x y v u _ I rx ry q hs) fun _ _ z => (ep_fz1 z)
theorem sl_fz {r : V → Option Int → Option Int → Hp → VK → Prop} (h : SlR X r) : SlR X (fun x lo hi H Q => r x lo hi H (fz1 Q)) := fun pins s σ H x v vl vu lo hi sl Q I rx hs pl pu q => by
  obtain ⟨T, id, a, b, c⟩ := h pins s σ H x v vl vu lo hi sl _ I rx hs pl pu q
  exact ⟨T, id, a, b, thn c fun _ _ z => (ep_fz1 z)⟩
theorem pe_fz {e : Expr} {t : TE} (h : PE X e t) : PE X e (fun σ H Q => t σ H (fz1 Q)) := ⟨fun pins s σ H Q I q => thn (h.run pins s σ H _ I q) fun _ _ z => (ep_fz1 z)⟩
end

/-! ### readings over data -/
abbrev Gam := List (Option D)
abbrev Cont := D → Mem → Prop
abbrev DE := Gam → Mem → Cont → Prop
abbrev DT := Gam → Mem → (Bool → Mem → Prop) → Prop
abbrev DA := Gam → Mem → (List D → Mem → Prop) → Prop
structure DEnds where
  nx : Gam → Mem → Prop
  rt : Cont
  bk : Gam → Mem → Prop := fun _ _ => False
  ct : Gam → Mem → Prop := fun _ _ => False
abbrev DS := DEnds → Gam → Mem → Prop
abbrev DG := D → Gam → Mem → (Gam → Mem → Prop) → Prop

structure EnvOk (K : PySem.W.Frag) (T : List (Addr × Str)) (Γ : Gam) (M : Mem) (σ : Sg) (H : Hp) : Prop where
  loc : ∀ (i : Nat) (d : D), Γ[i]? = some (some d) → ∃ v, σ[i]? = some (some v) ∧ Rep K H v d
  len : Γ.length = σ.length
  mem : MOk K H M
  tab : LamX.Tabs T H
section
variable {K : PySem.W.Frag} {T : List (Addr × Str)} {Γ Γ' : Gam} {M M' : Mem} {σ : Sg} {H H' : Hp}
theorem EnvOk.go (e : EnvOk K T Γ M σ H) (k : Kp T H H') (m : MOk K H' M') : EnvOk K T Γ M' σ H' :=
  ⟨fun i d h => by obtain ⟨v, h1, h2⟩ := e.loc i d h; exact ⟨v, h1, h2.mono k⟩, e.len, m, k.tab e.tab⟩
theorem EnvOk.set {v : V} {d : D} (e : EnvOk K T Γ M σ H) (i : Nat) (r : Rep K H v d) : EnvOk K T (Γ.set i (some d)) M (σ.set i (some v)) H := by
  refine ⟨fun j d' h => ?_, by simp [e.len], e.mem, e.tab⟩
  by_cases hj : i = j
  · subst hj
    by_cases hi : i < Γ.length
    · rw [List.getElem?_set_self hi] at h; cases h
      exact ⟨v, List.getElem?_set_self (by rw [← e.len]; exact hi), r⟩
    · rw [List.getElem?_eq_none (by simpa using hi)] at h; cases h
  · rw [List.getElem?_set_ne hj] at h
    obtain ⟨v', h1, h2⟩ := e.loc j d' h
    exact ⟨v', by rw [List.getElem?_set_ne hj]; exact h1, h2⟩
/-- a name forgotten -/
theorem EnvOk.un {o : Option V} (e : EnvOk K T Γ M σ H) (i : Nat) : EnvOk K T (Γ.set i none) M (σ.set i o) H := by
  refine ⟨fun j d' h => ?_, by simp [e.len], e.mem, e.tab⟩
  by_cases hj : i = j
  · subst hj
    by_cases hi : i < Γ.length
    · rw [List.getElem?_set_self hi] at h; cases h
    · rw [List.getElem?_eq_none (by simpa using hi)] at h; cases h
  · rw [List.getElem?_set_ne hj] at h
    obtain ⟨v', h1, h2⟩ := e.loc j d' h
    exact ⟨v', by rw [List.getElem?_set_ne hj]; exact h1, h2⟩
end

/-- what is wanted behind, of values and heaps, if Φ is of data -/
def Goes (K : PySem.W.Frag) (T : List (Addr × Str)) (H : Hp) (Φ : Cont) (Q : VK) : Prop := ∀ v H' d M', Φ d M' → Kp T H H' → MOk K H' M' → Rep K H' v d → Q v H'
def lift (K : PySem.W.Frag) (T : List (Addr × Str)) (de : DE) : TE := fun σ H Q => ∃ Γ M Φ, EnvOk K T Γ M σ H ∧ de Γ M Φ ∧ Goes K T H Φ Q
def liftT (K : PySem.W.Frag) (T : List (Addr × Str)) (dt : DT) : TT := fun σ H Q => ∃ Γ M Φ, EnvOk K T Γ M σ H ∧ dt Γ M Φ ∧ ∀ b H' M', Φ b M' → Kp T H H' → MOk K H' M' → Q b H'
def liftA (K : PySem.W.Frag) (T : List (Addr × Str)) (da : DA) : TA := fun σ H Q => ∃ Γ M Φ, EnvOk K T Γ M σ H ∧ da Γ M Φ ∧ ∀ vs H' ds M', Φ ds M' → Kp T H H' → MOk K H' M' → Reps K H' vs ds → Q vs H'
def liftS (K : PySem.W.Frag) (T : List (Addr × Str)) (ds : DS) : TS := fun Dn σ H => ∃ Γ M E, EnvOk K T Γ M σ H ∧ ds E Γ M ∧
  (∀ σ' H' Γ' M', E.nx Γ' M' → Kp T H H' → EnvOk K T Γ' M' σ' H' → Dn.nx σ' H') ∧ (∀ σ' H' Γ' M', E.bk Γ' M' → Kp T H H' → EnvOk K T Γ' M' σ' H' → Dn.bk σ' H') ∧
  (∀ σ' H' Γ' M', E.ct Γ' M' → Kp T H H' → EnvOk K T Γ' M' σ' H' → Dn.ct σ' H') ∧ Goes K T H E.rt Dn.rt
/-- a target: the value stored -/
def liftG (K : PySem.W.Frag) (T : List (Addr × Str)) (dg : DG) : TG := fun v σ H Q => ∃ d Γ M Φ, EnvOk K T Γ M σ H ∧ Rep K H v d ∧ dg d Γ M Φ ∧ ∀ σ' H' Γ' M', Φ Γ' M' → Kp T H H' → EnvOk K T Γ' M' σ' H' → Q σ' H'

abbrev XE (X : Cx) (T : List (Addr × Str)) (e : Expr) (de : DE) : Prop := PE X e (lift X.K T de)
abbrev XT (X : Cx) (T : List (Addr × Str)) (e : Expr) (dt : DT) : Prop := PT X e (liftT X.K T dt)
abbrev XA (X : Cx) (T : List (Addr × Str)) (es : List Expr) (da : DA) : Prop := PA X es (liftA X.K T da)
abbrev XS (X : Cx) (T : List (Addr × Str)) (st : Stmt) (ds : DS) : Prop := PS X st (liftS X.K T ds)
abbrev XSs (X : Cx) (T : List (Addr × Str)) (st : List Stmt) (ds : DS) : Prop := PSs X st (liftS X.K T ds)
abbrev XG (X : Cx) (T : List (Addr × Str)) (e : Expr) (dg : DG) : Prop := PG X e (liftG X.K T dg)

section
variable {X : Cx}
theorem pe_weak {e : Expr} {t t' : TE} (h : PE X e t) (w : ∀ σ H Q, t' σ H Q → t σ H Q) : PE X e t' := ⟨fun pins s σ H Q I q => h.run pins s σ H Q I (w _ _ _ q)⟩
theorem pt_weak {e : Expr} {t t' : TT} (h : PT X e t) (w : ∀ σ H Q, t' σ H Q → t σ H Q) : PT X e t' := ⟨fun pins s σ H Q I q => h.run pins s σ H Q I (w _ _ _ q)⟩
theorem pw_weak {e : Expr} {t t' : TT} (h : PW X e t) (w : ∀ σ H Q, t' σ H Q → t σ H Q) : PW X e t' := ⟨fun wh pins s σ H Q I q => h.run wh pins s σ H Q I (w _ _ _ q)⟩
theorem pa_weak {es : List Expr} {t t' : TA} (h : PA X es t) (w : ∀ σ H Q, t' σ H Q → t σ H Q) : PA X es t' := ⟨fun pos pins s σ H Q I q => h.run pos pins s σ H Q I (w _ _ _ q)⟩
theorem ps_weak {st : Stmt} {t t' : TS} (h : PS X st t) (w : ∀ D σ H, t' D σ H → t D σ H) : PS X st t' := ⟨fun pins s σ H D I q => h.run pins s σ H D I (w _ _ _ q)⟩
theorem pss_weak {st : List Stmt} {t t' : TS} (h : PSs X st t) (w : ∀ D σ H, t' D σ H → t D σ H) : PSs X st t' := ⟨fun pins s σ H D I q => h.run pins s σ H D I (w _ _ _ q)⟩
theorem pg_weak {e : Expr} {t t' : TG} (h : PG X e t) (w : ∀ v σ H Q, t' v σ H Q → t v σ H Q) : PG X e t' := ⟨fun pins s σ H v u Q I r q => h.run pins s σ H v u Q I r (w _ _ _ _ q)⟩
end

/-! ### operators by data -/
def R2D (K : PySem.W.Frag) (T : List (Addr × Str)) (r : R2) (f : D → D → Mem → Cont → Prop) : Prop :=
  ∀ (x y : V) (d e : D) (H : Hp) (M : Mem) (Φ : Cont) (Q : VK), Rep K H x d → Rep K H y e → MOk K H M → f d e M Φ → Goes K T H Φ Q → r x y H Q
def CRD (K : PySem.W.Frag) (T : List (Addr × Str)) (r : List V → Hp → VK → Prop) (f : List D → Mem → Cont → Prop) : Prop :=
  ∀ (xs : List V) (ds : List D) (H : Hp) (M : Mem) (Φ : Cont) (Q : VK), Reps K H xs ds → MOk K H M → f ds M Φ → Goes K T H Φ Q → r xs H Q
section
variable {X : Cx} {T : List (Addr × Str)} {a b : Expr} {da db : DE} {pos : Pos} {K : PySem.W.Frag} {H H1 : Hp} {Φ : Cont} {Q : VK} {M : Mem} {σ : Sg}
theorem Goes.imp {Φ' : Cont} (g : Goes K T H Φ Q) (h : ∀ d M, Φ' d M → Φ d M) : Goes K T H Φ' Q := fun v H' d M' q => g v H' d M' (h _ _ q)
theorem Goes.from (g : Goes K T H Φ Q) (k : Kp T H H1) : Goes K T H1 Φ Q := fun v H' d M' φ k' => g v H' d M' φ (k.trans k')
/-- the value at once, the heap as it is -/
theorem Goes.now (g : Goes K T H Φ Q) (m : MOk K H M) {v : V} {d : D} (φ : Φ d M) (r : Rep K H v d) : Q v H := g v H d M φ .refl m r
theorem Goes.newT (g : Goes K T H Φ Q) (m : MOk K H M) {vs : List V} {ds : List D} {p : Addr} (n : H p = none) (φ : Φ (.tup ds) M) (r : Reps K H vs ds) : Q (.ref p) (upd H p (.tup vs)) :=
  g _ _ _ _ φ (.new n) (m.new n) (.tup upd_same (r.mono (T := T) (.new n)))
/-- a new list, frozen -/
theorem Goes.newF (g : Goes K T H Φ Q) (m : MOk K H M) {vs : List V} {ds : List D} {p : Addr} (n : H p = none) (φ : Φ (.lst ds) M) (r : Reps K H vs ds) : fz1 Q (.ref p) (upd H p (.lst vs)) := by
  refine .inl ⟨p, .lst vs, rfl, upd_same, True.intro, fun ob => ?_⟩
  rw [upd_upd]
  exact g _ _ _ _ φ (.new n) (m.new n) (.lst ⟨ob, upd_same⟩ (r.mono (T := T) (.new n)))
/-- a new list, to change -/
theorem Goes.newL (g : Goes K T H Φ Q) (m : MOk K H M) {vs : List V} {ds : List D} {p : Addr} (n : H p = none) (φ : ∀ p, M p = none → Φ (.ptr p) (M.set p (.lst ds))) (r : Reps K H vs ds) : Q (.ref p) (upd H p (.lst vs)) :=
  g _ _ _ _ (φ p (m.free n)) (.new n) (m.put (T := T) (.new n) r) (.ptr p)

def dVar (i : Nat) : DE := fun Γ M Φ => match Γ[i]? with
  | some (some d) => Φ d M
  | _ => False
def dC (d : D) : DE := fun _ M Φ => Φ d M
theorem xe_var {x : Str} (i : Nat) (h : PE X (.Name x pos) (tVar i)) : XE X T (.Name x pos) (dVar i) := pe_weak h fun σ H Q q => by
  obtain ⟨Γ, M, Φ, e, q, g⟩ := q
  unfold dVar at q
  split at q
  · rename_i d hd
    obtain ⟨v, h1, h2⟩ := e.loc i d hd
    exact ⟨v, h1, g.now e.mem q h2⟩
  · exact q.elim
/-- the name in slot i -/
theorem xv (i : Nat) {x : Str} (hN : X.N[i]? = some x := by rfl) (hv : Vis X.env.scope x := by first | exact Or.inl rfl | exact Or.inr (Or.inl rfl) | exact Or.inr (Or.inr rfl)) (hd : (x == ("__debug__" : Str)) = false := by decide)
    (hcd : (x == ("__classdict__" : Str)) = false := by decide) : XE X T (.Name x pos) (dVar i) := xe_var i (pe_var hN hv hd hcd)
theorem xe_c {e : Expr} {v : V} {d : D} (h : PE X e (tC v)) (r : ∀ H, Rep X.K H v d) : XE X T e (dC d) := pe_weak h fun σ H Q q => by
  obtain ⟨Γ, M, Φ, e, q, g⟩ := q
  exact g.now e.mem q (r H)
theorem xe_int {i : Int} {j} : XE X T (.Constant (.int i) j pos) (dC (.int i)) := xe_c pe_int fun _ => .int _
theorem xe_bl {b : Bool} {j} : XE X T (.Constant (.bool b) j pos) (dC (.bl b)) := xe_c pe_bl fun _ => .bl _
theorem xe_non {j} : XE X T (.Constant .none j pos) (dC .non) := xe_c pe_non fun _ => .non
theorem xe_str {x : Str} {j} : XE X T (.Constant (.str x) j pos) (dC (.str x)) := xe_c pe_str fun _ => .str _

def dBin (f : D → D → Mem → Cont → Prop) (da db : DE) : DE := fun Γ M Φ => da Γ M fun d M1 => db Γ M1 fun e M2 => f d e M2 Φ
theorem lift_op {r : R2} {f : D → D → Mem → Cont → Prop} (hr : R2D X.K T r f) {σ : Sg} {H : Hp} {Q : VK} (q : lift X.K T (dBin f da db) σ H Q) : tOp r (lift X.K T da) (lift X.K T db) σ H Q := by
  obtain ⟨Γ, M, Φ, env, h, k⟩ := q
  refine ⟨Γ, M, _, env, h, fun v1 H1 d1 M1 φ1 k1 m1 r1 => ⟨Γ, M1, _, env.go k1 m1, φ1, fun v2 H2 d2 M2 φ2 k2 m2 r2 => ?_⟩⟩
  exact hr _ _ _ _ _ _ _ _ (r1.mono k2) r2 m2 φ2 (k.from (k1.trans k2))
theorem xe_op {op : Operator} {r : R2} {f : D → D → Mem → Cont → Prop} (ho : OpR X (binaryOp op) r) (hr : R2D X.K T r f) (ha : XE X T a da) (hb : XE X T b db) : XE X T (.BinOp a op b pos) (dBin f da db) := pe_weak (pe_op ho ha hb) fun σ H Q q => lift_op hr q
theorem xe_cmp {op : CmpOp} {r : R2} {f : D → D → Mem → Cont → Prop} (ho : OpR X (compareOp op) r) (hr : R2D X.K T r f) (ha : XE X T a da) (hb : XE X T b db) (hm : behindInMarks op b = false) : XE X T (.Compare a [op] [b] pos) (dBin f da db) :=
  pe_weak (pe_cmpR ho ha hb hm) fun σ H Q q => lift_op hr q
theorem xe_ix {r : R2} {f : D → D → Mem → Cont → Prop} (ho : IxR X r) (hr : R2D X.K T r f) (ha : XE X T a da) (hb : XE X T b db) (hs : PlainIx b) : XE X T (.Subscript a b pos) (dBin f da db) :=
  pe_weak (pe_ix ho ha hb hs) fun σ H Q q => lift_op hr q
theorem R2D.or {r r' : R2} {f f' : D → D → Mem → Cont → Prop} (h : R2D K T r f) (h' : R2D K T r' f') : R2D K T (fun x y H Q => r x y H Q ∨ r' x y H Q) (fun d e M Φ => f d e M Φ ∨ f' d e M Φ) := fun x y d e H M Φ Q rx ry m q g =>
  q.elim (fun q => .inl (h x y d e H M Φ Q rx ry m q g)) fun q => .inr (h' x y d e H M Φ Q rx ry m q g)

/-! ### arguments, calls -/
def daNil : DA := fun _ M Φ => Φ [] M
def daCons (de : DE) (da : DA) : DA := fun Γ M Φ => de Γ M fun d M1 => da Γ M1 fun ds M2 => Φ (d :: ds) M2
theorem xa_nil : XA X T [] daNil := pa_weak pa_nil fun σ H Q q => by
  obtain ⟨Γ, M, Φ, e, q, g⟩ := q
  exact g [] H [] M q .refl e.mem .nil
theorem xa_cons {e : Expr} {es : List Expr} {de : DE} {dr : DA} (he : XE X T e de) (hr : XA X T es dr) (hs : starEach (e :: es) X.env = (false, eval e X.env) :: starEach es X.env := by rfl) : XA X T (e :: es) (daCons de dr) := pa_weak (pa_cons he hr hs) fun σ H Q q => by
  obtain ⟨Γ, M, Φ, env, h, k⟩ := q
  refine ⟨Γ, M, _, env, h, fun v1 H1 d1 M1 φ1 k1 m1 r1 => ⟨Γ, M1, _, env.go k1 m1, φ1, fun v2 H2 d2 M2 φ2 k2 m2 r2 => ?_⟩⟩
  exact k _ _ _ _ φ2 (k1.trans k2) m2 (.cons (r1.mono k2) r2)
def dCB (f : List D → Mem → Cont → Prop) (da : DA) : DE := fun Γ M Φ => da Γ M fun ds M1 => f ds M1 Φ
theorem lift_cb {r : List V → Hp → VK → Prop} {f : List D → Mem → Cont → Prop} {da : DA} (hr : CRD X.K T r f) {σ : Sg} {H : Hp} {Q : VK} (q : lift X.K T (dCB f da) σ H Q) : tCB r (liftA X.K T da) σ H Q := by
  obtain ⟨Γ, M, Φ, env, h, k⟩ := q
  exact ⟨Γ, M, _, env, h, fun vs H1 ds M1 φ1 k1 m1 r1 => hr _ _ _ _ _ _ r1 m1 φ1 (k.from k1)⟩
section
variable {x : Str} {p : Pos} {e : Expr} {es : List Expr} {da : DA} {id Ty : String} {r : List V → Hp → VK → Prop} {f : List D → Mem → Cont → Prop}
theorem xe_callB (hc : CallR X (.builtin id) r) (hr : CRD X.K T r f) (hg : Gl X x) (hm : X.mg x = none) (hv : bootBuiltins x = some (.builtin id)) (ha : XA X T (e :: es) da) (hn : x ≠ "__name__" := by decide) (hdb : (x == ("__debug__" : Str)) = false := by decide)
    (he : starEach (e :: es) X.env = (false, eval e X.env) :: starEach es X.env := by rfl) (hpl : (backTo pos (starEach es X.env)).any (·.1) = false := by rfl) : XE X T (.Call (.Name x p) (e :: es) [] pos) (dCB f da) :=
  pe_weak (pe_callB hc hg hm hv ha hn hdb he hpl) fun σ H Q q => lift_cb hr q
theorem xe_callTy (hc : CallR X (.type Ty) r) (hr : CRD X.K T r f) (hg : Gl X x) (hm : X.mg x = none) (hv : bootBuiltins x = some (.type Ty)) (ha : XA X T (e :: es) da) (hn : x ≠ "__name__" := by decide) (hdb : (x == ("__debug__" : Str)) = false := by decide)
    (he : starEach (e :: es) X.env = (false, eval e X.env) :: starEach es X.env := by rfl) (hpl : (backTo pos (starEach es X.env)).any (·.1) = false := by rfl) : XE X T (.Call (.Name x p) (e :: es) [] pos) (dCB f da) :=
  pe_weak (pe_callTy hc hg hm hv ha hn hdb he hpl) fun σ H Q q => lift_cb hr q
end

/-! ### displays -/
def dTup (da : DA) : DE := fun Γ M Φ => da Γ M fun ds M1 => ds.length ≤ sizeLine ∧ Φ (.tup ds) M1
def dLst (da : DA) : DE := fun Γ M Φ => da Γ M fun ds M1 => ds.length ≤ sizeLine ∧ Φ (.lst ds) M1
def dLstM (da : DA) : DE := fun Γ M Φ => da Γ M fun ds M1 => ds.length ≤ sizeLine ∧ ∀ p, M1 p = none → Φ (.ptr p) (M1.set p (.lst ds))
theorem xe_tup {es : List Expr} {da : DA} {x1} (h : XA X T es da) : XE X T (.Tuple es x1 pos) (dTup da) := pe_weak (pe_tup h) fun σ H Q q => by
  obtain ⟨Γ, M, Φ, env, h, k⟩ := q
  exact ⟨Γ, M, _, env, h, fun vs H1 ds M1 φ1 k1 m1 r1 => ⟨by rw [r1.length]; exact φ1.1, fun p n => (k.from k1).newT m1 n φ1.2 r1⟩⟩
theorem xe_lst {es : List Expr} {da : DA} (h : XA X T es da) : XE X T (.List es pos) (dLst da) := pe_weak (pe_fz (pe_lst h)) fun σ H Q q => by
  obtain ⟨Γ, M, Φ, env, h, k⟩ := q
  exact ⟨Γ, M, _, env, h, fun vs H1 ds M1 φ1 k1 m1 r1 => ⟨by rw [r1.length]; exact φ1.1, fun p n => (k.from k1).newF m1 n φ1.2 r1⟩⟩
theorem xe_lstM {es : List Expr} {da : DA} (h : XA X T es da) : XE X T (.List es pos) (dLstM da) := pe_weak (pe_lst h) fun σ H Q q => by
  obtain ⟨Γ, M, Φ, env, h, k⟩ := q
  exact ⟨Γ, M, _, env, h, fun vs H1 ds M1 φ1 k1 m1 r1 => ⟨by rw [r1.length]; exact φ1.1, fun p n => (k.from k1).newL m1 n φ1.2 r1⟩⟩
/-- a changing list (dict) is frozen where it is read for the last time -/
def dFz (de : DE) : DE := fun Γ M Φ => de Γ M fun d M1 => match d with
  | .ptr p => match M1 p with
    | some (.lst xs) => Φ (.lst xs) (M1.del p)
    | some (.dK xs) => Φ (.dic xs) (M1.del p)
    | _ => False
  | _ => False
theorem xe_fz {e : Expr} {de : DE} (h : XE X T e de) : XE X T e (dFz de) := pe_weak (pe_fz h) fun σ H Q q => by
  obtain ⟨Γ, M, Φ, env, h, k⟩ := q
  refine ⟨Γ, M, _, env, h, fun v H1 d M1 φ1 k1 m1 r1 => ?_⟩
  cases d <;> first | exact φ1.elim | skip
  rename_i p
  dsimp only at φ1
  split at φ1
  · rename_i xs hp
    obtain ⟨o, h1, h2⟩ := m1 _ _ hp
    cases o <;> first | exact h2.elim | skip
    rename_i vs
    cases r1
    refine .inl ⟨p, .lst vs, rfl, h1, True.intro, fun ob => ?_⟩
    have kk : Kp T H1 (upd H1 p (.frz ob (.lst vs))) := Kp.mut h1 True.intro
    exact k _ _ _ _ φ1 (k1.trans kk) (m1.drop kk) (.lst ⟨ob, upd_same⟩ (Reps.mono kk h2))
  · rename_i xs hp
    obtain ⟨o, h1, h2⟩ := m1 _ _ hp
    cases o <;> first | exact h2.elim | skip
    rename_i vs
    cases r1
    refine .inl ⟨p, .dK vs, rfl, h1, True.intro, fun ob => ?_⟩
    have kk : Kp T H1 (upd H1 p (.frz ob (.dK vs))) := Kp.mut h1 True.intro
    exact k _ _ _ _ φ1 (k1.trans kk) (m1.drop kk) (.dic ⟨ob, upd_same⟩ (RepK.mono kk h2))
  · exact φ1.elim
end
end DL

/-! DLc: operators, comparisons, subscripts, slices over data. -/
namespace DL
open PySem PySem.Spec PyProof.Rows L2
section
variable {X : Cx} {K : PySem.W.Frag} {T : List (Addr × Str)}
theorem rdL {pins : List (Addr × Obj)} {σ : Sg} {H : Hp} {s : Shared} {l : Addr} {xs : List V} (I : Inv X pins σ H s) (h : Rd H l (.lst xs)) :
    xs.length ≤ sizeLine ∧ ∃ (its : List Value) (n : Nat), Vals xs its ∧ xs.length = its.length ∧ s.heap.get? l = some { cls := .type "list", data := .seq its.toArray n } := by
  obtain ⟨z, its, n, r, e⟩ := h.ok I.hok
  exact ⟨z, its, n, r, r.length, e⟩
/-! ### + -/
def rCatG : R2 := fun x y H Q => ∃ l b xs zs, x = .ref l ∧ y = .ref b ∧ Rd H l (.lst xs) ∧ Rd H b (.lst zs) ∧ xs.length + zs.length ≤ sizeLine ∧ ∀ p, H p = none → Q (.ref p) (upd H p (.lst (xs ++ zs)))
theorem op_catG : OpR X (binaryOp .Add) rCatG := by
  intro pins s σ H x y v u Q I rx ry h
  obtain ⟨l, b, xs, zs, rfl, rfl, hH, hB, hz, q⟩ := h
  cases rx
  cases ry
  obtain ⟨z, its, n, r, hl, e⟩ := rdL I hH
  obtain ⟨z2, its2, n2, r2, hl2, e2⟩ := rdL I hB
  refine PySem.P.add_list e e2 ?_ (by rw [List.size_toArray, List.size_toArray]; omega)
  have ea : its.toArray ++ its2.toArray = (its ++ its2).toArray := by simp
  rw [ea]
  exact ⟨.ref _, _, I.lnew (t' := s.toks) (r.append r2) (by rw [List.length_append]; omega), rfl, q _ I.fresh⟩
def rAddStr : R2 := fun x y H Q => ∃ i j, x = .str i ∧ y = .str j ∧ i.length + j.length ≤ sizeLine ∧ Q (.str (i ++ j)) H
def rAddInt : R2 := rI0 fun i j => .int (i + j)
def fAdd : D → D → Mem → Cont → Prop := fun d e M Φ => match d, e with
  | .int i, .int j => Φ (.int (i + j)) M
  | .str a, .str b => a.length + b.length ≤ sizeLine ∧ Φ (.str (a ++ b)) M
  | .tup xs, .tup ys => xs.length + ys.length ≤ sizeLine ∧ Φ (.tup (xs ++ ys)) M
  | d, e => ∃ xs ys, lsR M d = some xs ∧ lsR M e = some ys ∧ xs.length + ys.length ≤ sizeLine ∧ Φ (.lst (xs ++ ys)) M
def rAddA (K : PySem.W.Frag) : R2 := fun x y H Q => rAddInt x y H Q ∨ rAddStr x y H Q ∨ rCatA K x y H Q ∨ rCatG x y H (fz1 Q)
theorem op_addA : OpR X (binaryOp .Add) (rAddA X.K) := op_add.or (op_add_str.or (op_catA.or (op_fz op_catG)))
theorem d_add : R2D K T (rAddA K) fAdd := by
  intro x y d e H M Φ Q rx ry m q g
  have list : (∃ xs ys, lsR M d = some xs ∧ lsR M e = some ys ∧ xs.length + ys.length ≤ sizeLine ∧ Φ (.lst (xs ++ ys)) M) → rAddA K x y H Q := by
    rintro ⟨xs, ys, h1, h2, hz, φ⟩
    obtain ⟨l, vs, rfl, a1, b1⟩ := lsR_rep rx m h1
    obtain ⟨l2, ws, rfl, a2, b2⟩ := lsR_rep ry m h2
    exact .inr (.inr (.inr ⟨l, l2, vs, ws, rfl, rfl, a1, a2, by rw [b1.length, b2.length]; exact hz, fun p n => g.newF m n φ (b1.append b2)⟩))
  unfold fAdd at q
  split at q
  · cases rx; cases ry; exact .inl ⟨_, _, rfl, rfl, g.now m q (.int _)⟩
  · cases rx; cases ry; exact .inr (.inl ⟨_, _, rfl, rfl, q.1, g.now m q.2 (.str _)⟩)
  · obtain ⟨hz, φ⟩ := q
    cases rx with
    | @tup a xs _ ha ra =>
      cases ry with
      | @tup b ys _ hb rb =>
        refine .inr (.inr (.inl ⟨a, b, xs, ys, rfl, rfl, .of ha, .of hb, by rw [ra.length, rb.length]; exact hz, fun ex => ?_, fun ex ey => ?_, fun ex ey p n => g.newT m n φ (ra.append rb)⟩))
        · subst ex; cases ra; exact g.now m φ (.tup hb rb)
        · subst ey; cases rb; rw [List.append_nil] at φ; exact g.now m φ (.tup ha ra)
  · exact list q
theorem xe_add {a b : Expr} {da db : DE} {pos : Pos} (ha : XE X T a da) (hb : XE X T b db) : XE X T (.BinOp a .Add b pos) (dBin fAdd da db) := xe_op op_addA d_add ha hb
/-! ### - -/
def fSub : D → D → Mem → Cont → Prop := fun d e M Φ => match d, e with
  | .int i, .int j => Φ (.int (i - j)) M
  | _, _ => False
theorem d_sub : R2D K T (rI0 fun i j => .int (i - j)) fSub := by
  intro x y d e H M Φ Q rx ry m q g
  unfold fSub at q
  split at q
  · cases rx; cases ry; exact ⟨_, _, rfl, rfl, g.now m q (.int _)⟩
  · exact q.elim
theorem xe_sub {a b : Expr} {da db : DE} {pos : Pos} (ha : XE X T a da) (hb : XE X T b db) : XE X T (.BinOp a .Sub b pos) (dBin fSub da db) := xe_op op_sub d_sub ha hb
/-! ### * -/
def rRepG : R2 := fun x y H Q => ∃ l k xs, x = .ref l ∧ y = .int k ∧ Rd H l (.lst xs) ∧ -(2 ^ 63) ≤ k ∧ k < 2 ^ 63 ∧ xs.length * k.toNat ≤ sizeLine ∧
  ∀ p, H p = none → Q (.ref p) (upd H p (.lst (List.replicate k.toNat xs).flatten))
theorem op_repG : OpR X (binaryOp .Mult) rRepG := by
  intro pins s σ H x y v u Q I rx ry h
  obtain ⟨l, k, xs, rfl, rfl, hH, h1, h2, hz, q⟩ := h
  cases rx
  obtain ⟨t, rfl⟩ := ry
  obtain ⟨z, its, n, r, hl, e⟩ := rdL I hH
  have hlen : its.toArray.size * k.toNat ≤ sizeLine := by rw [List.size_toArray, ← hl]; exact hz
  have hcap : ¬ its.toArray.size * k.toNat > (2 ^ 63 - 1) / 8 := by
    have : (sizeLine : Nat) ≤ (2 ^ 63 - 1) / 8 := by decide
    omega
  have hfit : ¬ (!Builtin.List.listFitsIndex k) = true := by
    rw [fitsIndex_both h1 h2]
    exact Bool.false_ne_true
  have hlong : ¬ Builtin.List.listTooLong (its.toArray.size * k.toNat) = true := by
    rw [notLongL hlen]
    exact Bool.false_ne_true
  have hnew : List.foldl (fun x1 x2 => x1 ++ x2) #[] (List.replicate (if its.toArray.isEmpty = true then 0 else k.toNat) its.toArray) = (List.replicate k.toNat its).flatten.toArray := by
    have f0 : ∀ m : Nat, List.foldl (fun x1 x2 => x1 ++ x2) #[] (List.replicate m its.toArray) = (List.replicate m its).flatten.toArray := fun m => by
      have := foldl_rep its m []
      rw [List.nil_append] at this
      exact this
    rw [f0]
    cases its with
    | nil => simp
    | cons a r' => rw [if_neg (by simp)]
  refine wpAny_binaryOp_repeat_ref (T := "list") (U := "int") (by decide) ⟨_, e, rfl⟩ (fun s' => typeIs_int s' k t) noFill_list_mul F.fills_int_mul F.slot_int_rmul repeat_list F.slot_int_index.lookup
    (call_meets F.slot_int_rmul (typeIs_int s k t) F.entry_int_rmul (F.args_int_rmul_2 _ _) (int___rmul___int_list k t l its.toArray n)
      ⟨e, rfl, ⟨_, e, rfl⟩, call_meets F.slot_list_mul ⟨_, e, rfl⟩ F.entry_list_mul (F.args_list_mul_2 _ _) (AutoListH.list___mul___list_int_3 l its.toArray n k t hfit hcap hlong) ⟨e, ?_⟩⟩)
  rw [hnew]
  exact ⟨.ref _, _, I.lnew (t' := s.toks) (r.rep k.toNat) (by rw [PyProof.Rows.lm_len_rep_flat, Nat.mul_comm]; exact hz), rfl, q _ I.fresh⟩
/-- a text times an int -/
def strRep (x : Str) (n : Nat) : Str := ⟨(List.replicate n x.cps.toList).flatten.toArray⟩
theorem strRep_one (x : Str) : strRep x 1 = x := by cases x; simp [strRep]
theorem fold_rep (a : Array Nat) : ∀ (k : Nat) (acc : Array Nat), (List.replicate k a).foldl (· ++ ·) acc = acc ++ (List.replicate k a.toList).flatten.toArray
  | 0, acc => by simp
  | k + 1, acc => by
    rw [List.replicate_succ, List.foldl_cons, fold_rep a k, List.replicate_succ, List.flatten_cons]
    apply Array.ext'
    simp
theorem length_strRep (x : Str) (n : Nat) : (strRep x n).length = n * x.length := by
  unfold strRep Str.length
  simp
def rRepS : R2 := fun x y H Q => ∃ z k, x = .str z ∧ y = .int k ∧ 2 ≤ k ∧ k ≤ 100000 ∧ 1 ≤ z.length ∧ z.length ≤ 100 ∧ Q (.str (strRep z k.toNat)) H
theorem op_repS : OpR X (binaryOp .Mult) rRepS := by
  intro pins s σ H x y v u Q I rx ry h
  obtain ⟨z, k, rfl, rfl, h1, h2, h3, h4, q⟩ := h
  obtain ⟨t, rfl⟩ := rx
  obtain ⟨t', rfl⟩ := ry
  have hk : ¬ k < 1 := by omega
  have hk1 : (k == 1 || z.length == 0) = false := by
    have a1 : (k == 1) = false := by simp; omega
    have a2 : (z.length == 0) = false := by simp; omega
    rw [a1, a2]; rfl
  have hm : z.length * k.toNat ≤ 100 * 100000 := Nat.mul_le_mul h4 (by omega)
  refine PySem.P.mul_str ?_ (fun _ _ => ?_) (fun _ _ => ?_) ?_
  · rw [decide_eq_false (by omega), decide_eq_false (by omega)]; rfl
  · have h5 : (100 : Int) ≤ (2 ^ 63 - 1) / k := (Int.le_ediv_iff_mul_le (by omega)).mpr (by omega)
    omega
  · unfold Builtin.Str.tooLong
    rw [sizeLine_eq]
    simp
    omega
  · rw [if_neg hk, hk1, if_neg (by decide), fold_rep]
    have e : (⟨#[] ++ (List.replicate k.toNat z.cps.toList).flatten.toArray⟩ : Str) = strRep z k.toNat := by unfold strRep; simp
    rw [e]
    refine ⟨?_, .str _, H, I.tok _, ⟨_, rfl⟩, q⟩
    have hl := length_strRep z k.toNat
    rw [sizeLine_eq]
    rw [Nat.mul_comm] at hl
    show (strRep z k.toNat).length ≤ _
    omega
def fMul : D → D → Mem → Cont → Prop := fun d e M Φ => match d, e with
  | .int i, .int j => IntMulOk i j ∧ Φ (.int (i * j)) M
  | .str a, .int k => 2 ≤ k ∧ k ≤ 100000 ∧ 1 ≤ a.length ∧ a.length ≤ 100 ∧ Φ (.str (strRep a k.toNat)) M
  | .tup xs, .int k => xs ≠ [] ∧ 2 ≤ k ∧ k ≤ 1000 ∧ xs.length ≤ 1000 ∧ Φ (.tup (List.replicate k.toNat xs).flatten) M
  | d, .int k => ∃ xs, lsR M d = some xs ∧ -(2 ^ 63) ≤ k ∧ k < 2 ^ 63 ∧ xs.length * k.toNat ≤ sizeLine ∧ Φ (.lst (List.replicate k.toNat xs).flatten) M
  | _, _ => False
def rMulInt : R2 := rI IntMulOk fun i j => .int (i * j)
theorem op_mulX : OpR X (binaryOp .Mult) rMulInt := opI fun _ _ _ _ _ _ _ hc q => mul_int q hc
def rMulA (K : PySem.W.Frag) : R2 := fun x y H Q => rMulInt x y H Q ∨ rRepS x y H Q ∨ rRepT K x y H Q ∨ rRepG x y H (fz1 Q)
theorem op_mulA : OpR X (binaryOp .Mult) (rMulA X.K) := op_mulX.or (op_repS.or (op_repT.or (op_fz op_repG)))
theorem d_mul : R2D K T (rMulA K) fMul := by
  intro x y d e H M Φ Q rx ry m q g
  unfold fMul at q
  split at q
  · cases rx; cases ry; exact .inl ⟨_, _, rfl, rfl, q.1, g.now m q.2 (.int _)⟩
  · cases rx; cases ry
    obtain ⟨h1, h2, h3, h4, φ⟩ := q
    exact .inr (.inl ⟨_, _, rfl, rfl, h1, h2, h3, h4, g.now m φ (.str _)⟩)
  · obtain ⟨h0, h1, h2, h3, φ⟩ := q
    cases ry
    cases rx with
    | @tup a xs _ ha ra =>
      refine .inr (.inr (.inl ⟨a, _, xs, rfl, rfl, .of ha, fun z => h0 ?_, h1, h2, by rw [ra.length]; exact h3, fun p n => g.newT m n φ (ra.rep _)⟩))
      subst z; cases ra; rfl
  · obtain ⟨xs, h1, h2, h3, h4, φ⟩ := q
    cases ry
    obtain ⟨l, vs, rfl, a1, b1⟩ := lsR_rep rx m h1
    exact .inr (.inr (.inr ⟨l, _, vs, rfl, rfl, a1, h2, h3, by rw [b1.length]; exact h4, fun p n => g.newF m n φ (b1.rep _)⟩))
  · exact q.elim
theorem xe_mul {a b : Expr} {da db : DE} {pos : Pos} (ha : XE X T a da) (hb : XE X T b db) : XE X T (.BinOp a .Mult b pos) (dBin fMul da db) := xe_op op_mulA d_mul ha hb
/-! ### // % ** -/
def fFdiv : D → D → Mem → Cont → Prop := fun d e M Φ => match d, e with
  | .int i, .int j => CDivW i j ∧ Φ (.int (i / j)) M
  | _, _ => False
theorem d_fdiv : R2D K T (rI CDivW fun i j => .int (i / j)) fFdiv := by
  intro x y d e H M Φ Q rx ry m q g
  unfold fFdiv at q
  split at q
  · cases rx; cases ry; exact ⟨_, _, rfl, rfl, q.1, g.now m q.2 (.int _)⟩
  · exact q.elim
theorem xe_fdiv {a b : Expr} {da db : DE} {pos : Pos} (ha : XE X T a da) (hb : XE X T b db) : XE X T (.BinOp a .FloorDiv b pos) (dBin fFdiv da db) := xe_op op_fdivW d_fdiv ha hb
def fMod : D → D → Mem → Cont → Prop := fun d e M Φ => match d, e with
  | .int i, .int j => 0 < j ∧ Φ (.int (i % j)) M
  | _, _ => False
theorem d_mod : R2D K T (rI (fun _ j => 0 < j) fun i j => .int (i % j)) fMod := by
  intro x y d e H M Φ Q rx ry m q g
  unfold fMod at q
  split at q
  · cases rx; cases ry; exact ⟨_, _, rfl, rfl, q.1, g.now m q.2 (.int _)⟩
  · exact q.elim
theorem xe_mod {a b : Expr} {da db : DE} {pos : Pos} (ha : XE X T a da) (hb : XE X T b db) : XE X T (.BinOp a .Mod b pos) (dBin fMod da db) := xe_op op_mod d_mod ha hb
def fPow : D → D → Mem → Cont → Prop := fun d e M Φ => match d, e with
  | .int i, .int j => CPow i j ∧ Φ (.int (i ^ j.toNat)) M
  | _, _ => False
theorem d_pow : R2D K T (rI CPow fun i j => .int (i ^ j.toNat)) fPow := by
  intro x y d e H M Φ Q rx ry m q g
  unfold fPow at q
  split at q
  · cases rx; cases ry; exact ⟨_, _, rfl, rfl, q.1, g.now m q.2 (.int _)⟩
  · exact q.elim
theorem xe_pow {a b : Expr} {da db : DE} {pos : Pos} (ha : XE X T a da) (hb : XE X T b db) : XE X T (.BinOp a .Pow b pos) (dBin fPow da db) := xe_op op_pow d_pow ha hb
def dNeg (da : DE) : DE := fun Γ M Φ => da Γ M fun d M1 => match d with
  | .int i => Φ (.int (-i)) M1
  | _ => False
theorem xe_neg {a : Expr} {da : DE} {pos : Pos} (ha : XE X T a da) : XE X T (.UnaryOp .USub a pos) (dNeg da) := pe_weak (pe_un un_neg ha) fun σ H Q q => by
  obtain ⟨Γ, M, Φ, env, h, k⟩ := q
  refine ⟨Γ, M, _, env, h, fun v H1 d M1 φ1 k1 m1 r1 => ?_⟩
  cases d <;> first | exact φ1.elim | skip
  cases r1
  exact ⟨_, rfl, (k.from k1).now m1 φ1 (.int _)⟩

/-! ### order of ints -/
def fCmp (p : Int → Int → Bool) : D → D → Mem → Cont → Prop := fun d e M Φ => match d, e with
  | .int i, .int j => Φ (.bl (p i j)) M
  | _, _ => False
theorem d_cmp {p : Int → Int → Bool} : R2D K T (rI0 fun i j => .bl (p i j)) (fCmp p) := by
  intro x y d e H M Φ Q rx ry m q g
  unfold fCmp at q
  split at q
  · cases rx; cases ry; exact ⟨_, _, rfl, rfl, g.now m q (.bl _)⟩
  · exact q.elim
abbrev fLt := fCmp fun i j => decide (i < j)
abbrev fLe := fCmp fun i j => decide (i ≤ j)
abbrev fGt := fCmp fun i j => decide (j < i)
abbrev fGe := fCmp fun i j => decide (j ≤ i)
section
variable {a b : Expr} {da db : DE} {pos : Pos}
theorem xe_lt (ha : XE X T a da) (hb : XE X T b db) : XE X T (.Compare a [.Lt] [b] pos) (dBin fLt da db) := xe_cmp op_lt d_cmp ha hb (nomark _)
theorem xe_le (ha : XE X T a da) (hb : XE X T b db) : XE X T (.Compare a [.LtE] [b] pos) (dBin fLe da db) := xe_cmp op_le d_cmp ha hb (nomark _)
theorem xe_gt (ha : XE X T a da) (hb : XE X T b db) : XE X T (.Compare a [.Gt] [b] pos) (dBin fGt da db) := xe_cmp op_gt d_cmp ha hb (nomark _)
theorem xe_ge (ha : XE X T a da) (hb : XE X T b db) : XE X T (.Compare a [.GtE] [b] pos) (dBin fGe da db) := xe_cmp op_ge d_cmp ha hb (nomark _)
end

/-! ### == -/
mutual
def D.py : D → Option PyData
  | .non => some .none
  | .bl b => some (.bool b)
  | .int i => some (.int i)
  | .str x => some (.str x)
  | .tup xs => (D.pyAll xs).map .tuple
  | .lst xs => (D.pyAll xs).map .list
  | _ => none
def D.pyAll : List D → Option (List PyData)
  | [] => some []
  | d :: ds => (D.py d).bind fun x => (D.pyAll ds).map fun xs => x :: xs
end
mutual
theorem py_rep {H : Hp} : ∀ {d : D} {v : V} {e : PyData}, Rep K H v d → D.py d = some e → Dp K H v e
  | .non, _, _, r, h => by cases r; cases h; exact .non
  | .bl _, _, _, r, h => by cases r; cases h; exact .bl _
  | .int _, _, _, r, h => by cases r; cases h; exact .int _
  | .str _, _, _, r, h => by cases r; cases h; exact .str _
  | .tup xs, _, e, r, h => by
    simp only [D.py, Option.map_eq_some_iff] at h
    obtain ⟨es, h1, rfl⟩ := h
    cases r with | tup a b => exact .tup (.of a) (pyAll_rep b h1)
  | .lst xs, _, e, r, h => by
    simp only [D.py, Option.map_eq_some_iff] at h
    obtain ⟨es, h1, rfl⟩ := h
    cases r with | lst a b => exact .lst (.inl (.inr a)) (pyAll_rep b h1)
  | .dic _, _, _, _, h => by simp [D.py] at h
  | .ptr _, _, _, _, h => by simp [D.py] at h
  | .ty _, _, _, _, h => by simp [D.py] at h
  | .exc _ _, _, _, _, h => by simp [D.py] at h
  | .scr _, _, _, _, h => by simp [D.py] at h
theorem pyAll_rep {H : Hp} : ∀ {ds : List D} {vs : List V} {es : List PyData}, Reps K H vs ds → D.pyAll ds = some es → DpAll K H vs es
  | [], _, _, r, h => by cases r; cases h; exact .nil
  | d :: ds, _, es, r, h => by
    simp only [D.pyAll, Option.bind_eq_some_iff, Option.map_eq_some_iff] at h
    obtain ⟨x, h1, xs, h2, rfl⟩ := h
    cases r with | cons a b => exact .cons (py_rep a h1) (pyAll_rep b h2)
end
/-- also a list that may change -/
def pyM (M : Mem) : D → Option PyData
  | .ptr p => match M p with
    | some (.lst xs) => (D.pyAll xs).map .list
    | _ => none
  | d => D.py d
theorem pyM_rep {H : Hp} {M : Mem} {d : D} {v : V} {e : PyData} (r : Rep K H v d) (m : MOk K H M) (h : pyM M d = some e) : Dp K H v e := by
  unfold pyM at h
  split at h
  · rename_i p
    split at h
    · rename_i ys hp
      simp only [Option.map_eq_some_iff] at h
      obtain ⟨es, h1, rfl⟩ := h
      cases r
      obtain ⟨o, h2, h3⟩ := m _ _ hp
      cases o <;> first | exact h3.elim | exact .lst (.of h2) (pyAll_rep h3 h1)
    · cases h
  · exact py_rep r h
def fEq : D → D → Mem → Cont → Prop := fun d e M Φ => match d, e with
  | .int i, .int j => Φ (.bl (decide (i = j))) M
  | .str i, .str j => Φ (.bl (decide (i = j))) M
  | .bl i, .bl j => Φ (.bl (decide (i = j))) M
  | d, e => ∃ x y, pyM M d = some x ∧ pyM M e = some y ∧ SeqAt.shaped x = true ∧ SeqAt.shaped y = true ∧ Φ (.bl (PyData.eqv x y)) M
def fNe : D → D → Mem → Cont → Prop := fun d e M Φ => match d, e with
  | .int i, .int j => Φ (.bl (!decide (i = j))) M
  | .str i, .str j => Φ (.bl (!decide (i = j))) M
  | .bl i, .bl j => Φ (.bl (!decide (i = j))) M
  | d, e => ∃ x y, pyM M d = some x ∧ pyM M e = some y ∧ SeqAt.shaped x = true ∧ SeqAt.shaped y = true ∧ Φ (.bl (!PyData.eqv x y)) M
def rEqA (K : PySem.W.Frag) : R2 := fun x y H Q => rEq x y H Q ∨ rEqD K x y H Q
def rNeA (K : PySem.W.Frag) : R2 := fun x y H Q => rNe x y H Q ∨ rNeD K x y H Q
theorem dec_VI {i j : Int} : decide (V.int i = V.int j) = decide (i = j) := by by_cases h : i = j <;> simp [h]
theorem dec_VS {i j : Str} : decide (V.str i = V.str j) = decide (i = j) := by by_cases h : i = j <;> simp [h]
theorem dec_VB {i j : Bool} : decide (V.bl i = V.bl j) = decide (i = j) := by by_cases h : i = j <;> simp [h]
theorem d_eq : R2D K T (rEqA K) fEq := by
  intro x y d e H M Φ Q rx ry m q g
  unfold fEq at q
  split at q
  · cases rx; cases ry; exact .inl ⟨rfl, by rw [dec_VI]; exact g.now m q (.bl _)⟩
  · cases rx; cases ry; exact .inl ⟨rfl, by rw [dec_VS]; exact g.now m q (.bl _)⟩
  · cases rx; cases ry; exact .inl ⟨rfl, by rw [dec_VB]; exact g.now m q (.bl _)⟩
  · obtain ⟨a, b, h1, h2, h3, h4, φ⟩ := q
    exact .inr ⟨a, b, pyM_rep rx m h1, pyM_rep ry m h2, h3, h4, g.now m φ (.bl _)⟩
theorem d_ne : R2D K T (rNeA K) fNe := by
  intro x y d e H M Φ Q rx ry m q g
  unfold fNe at q
  split at q
  · cases rx; cases ry; exact .inl ⟨rfl, by rw [dec_VI]; exact g.now m q (.bl _)⟩
  · cases rx; cases ry; exact .inl ⟨rfl, by rw [dec_VS]; exact g.now m q (.bl _)⟩
  · cases rx; cases ry; exact .inl ⟨rfl, by rw [dec_VB]; exact g.now m q (.bl _)⟩
  · obtain ⟨a, b, h1, h2, h3, h4, φ⟩ := q
    exact .inr ⟨a, b, pyM_rep rx m h1, pyM_rep ry m h2, h3, h4, g.now m φ (.bl _)⟩
section
variable {a b : Expr} {da db : DE} {pos : Pos}
theorem xe_eq (hu : X.A.units + 64 < cLine) (ha : XE X T a da) (hb : XE X T b db) : XE X T (.Compare a [.Eq] [b] pos) (dBin fEq da db) := xe_cmp (op_eq.or (op_eqD hu)) d_eq ha hb (nomark _)
theorem xe_ne (hu : X.A.units + 64 < cLine) (ha : XE X T a da) (hb : XE X T b db) : XE X T (.Compare a [.NotEq] [b] pos) (dBin fNe da db) := xe_cmp (op_ne.or (op_neD hu)) d_ne ha hb (nomark _)
end

/-! ### is -/
def isNonD : D → Bool
  | .non => true
  | _ => false
theorem isNon_rep {H : Hp} {v : V} {d : D} (r : Rep K H v d) : decide (v = V.non) = isNonD d := by cases r <;> simp [isNonD]
def fIs : D → D → Mem → Cont → Prop := fun d e M Φ => match d, e with
  | .bl a, .bl b => Φ (.bl (decide (a = b))) M
  | d, .non => Φ (.bl (isNonD d)) M
  | _, _ => False
def fIsNot : D → D → Mem → Cont → Prop := fun d e M Φ => match d, e with
  | .bl a, .bl b => Φ (.bl (!decide (a = b))) M
  | d, .non => Φ (.bl (!isNonD d)) M
  | _, _ => False
def rIsA : R2 := fun x y H Q => rIsB x y H Q ∨ (y = V.non ∧ Q (.bl (decide (x = V.non))) H)
def rIsNotA : R2 := fun x y H Q => rNotB x y H Q ∨ (y = V.non ∧ Q (.bl (!decide (x = V.non))) H)
theorem d_is : R2D K T rIsA fIs := by
  intro x y d e H M Φ Q rx ry m q g
  unfold fIs at q
  split at q
  · cases rx; cases ry; exact .inl ⟨_, _, rfl, rfl, g.now m q (.bl _)⟩
  · cases ry; exact .inr ⟨rfl, by rw [isNon_rep rx]; exact g.now m q (.bl _)⟩
  · exact q.elim
theorem d_isNot : R2D K T rIsNotA fIsNot := by
  intro x y d e H M Φ Q rx ry m q g
  unfold fIsNot at q
  split at q
  · cases rx; cases ry; exact .inl ⟨_, _, rfl, rfl, g.now m q (.bl _)⟩
  · cases ry; exact .inr ⟨rfl, by rw [isNon_rep rx]; exact g.now m q (.bl _)⟩
  · exact q.elim
section
variable {a b : Expr} {da db : DE} {pos : Pos}
theorem xe_is (ha : XE X T a da) (hb : XE X T b db) : XE X T (.Compare a [.Is] [b] pos) (dBin fIs da db) := xe_cmp (op_isBl.or op_isN) d_is ha hb (nomark _)
theorem xe_isNot (ha : XE X T a da) (hb : XE X T b db) : XE X T (.Compare a [.IsNot] [b] pos) (dBin fIsNot da db) := xe_cmp (op_notBl.or op_notN) d_isNot ha hb (nomark _)
end
end
end DL

/-! DLd: in, subscripts, slices, built-in calls and methods over data. -/
namespace DL
open PySem PySem.Spec PyProof.Rows L2
section
variable {X : Cx} {K : PySem.W.Frag} {T : List (Addr × Str)}
/-! ### in -/
def flatD : D → Bool
  | .non => true
  | .bl _ => true
  | .int _ => true
  | .str _ => true
  | _ => false
def vOf : D → V
  | .non => .non
  | .bl b => .bl b
  | .int i => .int i
  | .str x => .str x
  | _ => .non
theorem vOf_rep {H : Hp} {v : V} {d : D} (r : Rep K H v d) (h : flatD d = true) : v = vOf d ∧ flatV v = true := by
  cases r <;> first | exact ⟨rfl, rfl⟩ | cases h
theorem vOf_reps {H : Hp} : ∀ {vs : List V} {ds : List D}, Reps K H vs ds → ds.all flatD = true → vs = ds.map vOf ∧ vs.all flatV = true
  | _, _, .nil, _ => ⟨rfl, rfl⟩
  | _, _, .cons (v := v) (vs := vs) a b, h => by
    rw [List.all_cons, Bool.and_eq_true] at h
    obtain ⟨h1, h2⟩ := vOf_rep a h.1
    obtain ⟨h3, h4⟩ := vOf_reps b h.2
    exact ⟨by rw [List.map_cons, ← h1, ← h3], by rw [List.all_cons, h2, h4]; rfl⟩
/-- x == y of flat data -/
def eqF (y x : D) : Bool := eqV (vOf y) (vOf x)
def sqD (M : Mem) : D → Option (List D)
  | .tup xs => some xs
  | d => lsD M d
theorem sqD_rep {H : Hp} {M : Mem} {v : V} {d : D} {xs : List D} (r : Rep K H v d) (m : MOk K H M) (h : sqD M d = some xs) : ∃ a vs, v = .ref a ∧ (SqL K H a vs ∨ SqT K H a vs) ∧ Reps K H vs xs := by
  unfold sqD at h
  split at h
  · cases h
    cases r with | tup a b => exact ⟨_, _, rfl, .inr (.of a), b⟩
  · obtain ⟨a, vs, e, h1, h2⟩ := lsD_rep r m h
    exact ⟨a, vs, e, .inl h1, h2⟩
def fIn : D → D → Mem → Cont → Prop := fun d e M Φ => match d, e with
  | .str x, .str z => ∃ c, x = ⟨#[c]⟩ ∧ Φ (.bl (decide (c ∈ z.cps.toList))) M
  | d, e => ∃ xs, sqD M e = some xs ∧ flatD d = true ∧ xs.all flatD = true ∧ Φ (.bl (xs.any fun y => eqF y d)) M
def fNotIn : D → D → Mem → Cont → Prop := fun d e M Φ => match d, e with
  | .str x, .str z => ∃ c, x = ⟨#[c]⟩ ∧ Φ (.bl (!decide (c ∈ z.cps.toList))) M
  | d, e => ∃ xs, sqD M e = some xs ∧ flatD d = true ∧ xs.all flatD = true ∧ Φ (.bl (!xs.any fun y => eqF y d)) M
def rInS1 : R2 := fun x y H Q => ∃ (c : Nat) (z : Str), x = .str ⟨#[c]⟩ ∧ y = .str z ∧ Q (.bl (decide (c ∈ z.cps.toList))) H
def rNotInS1 : R2 := fun x y H Q => ∃ (c : Nat) (z : Str), x = .str ⟨#[c]⟩ ∧ y = .str z ∧ Q (.bl (!decide (c ∈ z.cps.toList))) H
def rInA (K : PySem.W.Frag) : R2 := fun x y H Q => rInS1 x y H Q ∨ rIn K false x y H Q
def rNotInA (K : PySem.W.Frag) : R2 := fun x y H Q => rNotInS1 x y H Q ∨ rIn K true x y H Q
theorem inV_eq {x : D} {xs : List D} : inV (vOf x) (xs.map vOf) = xs.any fun y => eqF y x := by
  unfold inV eqF
  rw [List.any_map]
  rfl
theorem d_in : R2D K T (rInA K) fIn := by
  intro x y d e H M Φ Q rx ry m q g
  unfold fIn at q
  split at q
  · obtain ⟨c, rfl, φ⟩ := q
    cases rx; cases ry; exact .inl ⟨c, _, rfl, rfl, g.now m φ (.bl _)⟩
  · obtain ⟨xs, h1, h2, h3, φ⟩ := q
    obtain ⟨a, vs, rfl, h4, h5⟩ := sqD_rep ry m h1
    obtain ⟨rfl, h6⟩ := vOf_rep rx h2
    obtain ⟨rfl, h7⟩ := vOf_reps h5 h3
    exact .inr ⟨a, _, rfl, h4, h6, h7, by rw [if_neg Bool.false_ne_true, inV_eq]; exact g.now m φ (.bl _)⟩
theorem d_notIn : R2D K T (rNotInA K) fNotIn := by
  intro x y d e H M Φ Q rx ry m q g
  unfold fNotIn at q
  split at q
  · obtain ⟨c, rfl, φ⟩ := q
    cases rx; cases ry; exact .inl ⟨c, _, rfl, rfl, g.now m φ (.bl _)⟩
  · obtain ⟨xs, h1, h2, h3, φ⟩ := q
    obtain ⟨a, vs, rfl, h4, h5⟩ := sqD_rep ry m h1
    obtain ⟨rfl, h6⟩ := vOf_rep rx h2
    obtain ⟨rfl, h7⟩ := vOf_reps h5 h3
    exact .inr ⟨a, _, rfl, h4, h6, h7, by rw [if_pos rfl, inV_eq]; exact g.now m φ (.bl _)⟩
section
variable {a b : Expr} {da db : DE} {pos : Pos}
theorem xe_in (ha : XE X T a da) (hb : XE X T b db) (hm : behindInMarks .In b = false := by rfl) : XE X T (.Compare a [.In] [b] pos) (dBin fIn da db) := xe_cmp (op_in_sign.or op_in_seq) d_in ha hb hm
theorem xe_notIn (ha : XE X T a da) (hb : XE X T b db) (hm : behindInMarks .NotIn b = false := by rfl) : XE X T (.Compare a [.NotIn] [b] pos) (dBin fNotIn da db) := xe_cmp (op_notIn_sign.or op_notIn_seq) d_notIn ha hb hm
end
/-! ### subscripts -/
theorem atI_rep {H : Hp} {vs : List V} {ds : List D} {i : Int} {d : D} (r : Reps K H vs ds) (h : atI ds i = some d) : ∃ v, atI vs i = some v ∧ Rep K H v d := by
  unfold atI at h ⊢
  rw [← r.length] at h
  cases e : ixN vs.length i with
  | none => rw [e] at h; cases h
  | some j =>
    rw [e] at h
    exact r.get (i := j) h
def fIx : D → D → Mem → Cont → Prop := fun d e M Φ => match d, e with
  | .str z, .int i => ∃ c, z.length ≤ sizeLine ∧ atI z.cps.toList i = some c ∧ Φ (.str ⟨#[c]⟩) M
  | .tup xs, .int i => ∃ x, atI xs i = some x ∧ Φ x M
  | d, .int i => ∃ xs x, lsD M d = some xs ∧ atI xs i = some x ∧ Φ x M
  | _, _ => False
theorem d_ix : R2D K T (rIx K) fIx := by
  intro x y d e H M Φ Q rx ry m q g
  unfold fIx at q
  split at q
  · obtain ⟨c, h1, h2, φ⟩ := q
    cases rx; cases ry
    exact .inr (.inr ⟨_, _, c, rfl, rfl, h1, h2, g.now m φ (.str _)⟩)
  · obtain ⟨x, h1, φ⟩ := q
    cases ry
    cases rx with
    | @tup a vs _ ha ra =>
      obtain ⟨v, h2, h3⟩ := atI_rep ra h1
      exact .inr (.inl ⟨a, vs, _, v, rfl, rfl, .of ha, h2, g.now m φ h3⟩)
  · obtain ⟨xs, x, h0, h1, φ⟩ := q
    cases ry
    obtain ⟨a, vs, rfl, h4, h5⟩ := lsD_rep rx m h0
    obtain ⟨v, h2, h3⟩ := atI_rep h5 h1
    exact .inl ⟨a, vs, _, v, rfl, rfl, h4, h2, g.now m φ h3⟩
  · exact q.elim
theorem xe_item {a b : Expr} {da db : DE} {pos : Pos} (ha : XE X T a da) (hb : XE X T b db) (hs : PlainIx b := by exact fun _ _ => rfl) : XE X T (.Subscript a b pos) (dBin fIx da db) := xe_ix ix_seq d_ix ha hb hs
/-! ### d[k] of a dict in the store; the keys are texts or ints -/
def keyD : D → Option Key
  | .int i => some (.inl i)
  | .str x => some (.inr x)
  | _ => none
theorem keyD_rep {H : Hp} {v : V} {d : D} {k : Key} (r : Rep K H v d) (h : keyD d = some k) : v = kV k := by
  cases r <;> simp [keyD] at h <;> subst h <;> rfl
def valD {κ : Type} [DecidableEq κ] (kvs : List (κ × D)) (k : κ) : Option D := (kvs.find? fun kv => decide (kv.1 = k)).map (·.2)
def putD {κ : Type} [DecidableEq κ] (kvs : List (κ × D)) (k : κ) (d : D) : List (κ × D) :=
  if (kvs.any fun kv => decide (kv.1 = k)) = true then kvs.map (fun kv => if kv.1 = k then (kv.1, d) else kv) else kvs ++ [(k, d)]
theorem valK_rep {H : Hp} {k : Key} {d : D} : ∀ {kvs : List (Key × V)} {ds : List (Key × D)}, RepK K H kvs ds → valD ds k = some d → ∃ v, valV kvs k = some v ∧ Rep K H v d
  | _, _, .nil, h => by cases h
  | _, _, .cons (k := k') (v := v) (vs := vs) (d := d') (ds := ds) a b, h => by
    unfold valD at h
    unfold valV
    rw [List.find?_cons] at h ⊢
    by_cases e : k' = k
    · simp only [e, decide_true] at h ⊢
      cases h
      exact ⟨_, rfl, a⟩
    · simp only [e, decide_false] at h ⊢
      exact valK_rep b h
theorem repK_any {H : Hp} {k : Key} : ∀ {kvs : List (Key × V)} {ds : List (Key × D)}, RepK K H kvs ds → (kvs.any fun kv => decide (kv.1 = k)) = ds.any fun kv => decide (kv.1 = k)
  | _, _, .nil => rfl
  | _, _, .cons a b => by rw [List.any_cons, List.any_cons, repK_any b]
theorem repK_map {H : Hp} {k : Key} {v : V} {d : D} (r : Rep K H v d) : ∀ {kvs : List (Key × V)} {ds : List (Key × D)}, RepK K H kvs ds → RepK K H (kvs.map fun kv => if kv.1 = k then (kv.1, v) else kv) (ds.map fun kv => if kv.1 = k then (kv.1, d) else kv)
  | _, _, .nil => .nil
  | _, _, .cons (k := k') a b => by
    rw [List.map_cons, List.map_cons]
    by_cases e : k' = k
    · simp only [e, if_true]; exact .cons r (repK_map r b)
    · simp only [e, if_false]; exact .cons a (repK_map r b)
theorem repK_app {H : Hp} : ∀ {kvs ls : List (Key × V)} {ds es : List (Key × D)}, RepK K H kvs ds → RepK K H ls es → RepK K H (kvs ++ ls) (ds ++ es)
  | _, _, _, _, .nil, s => s
  | _, _, _, _, .cons a b, s => .cons a (repK_app b s)
theorem repK_put {H : Hp} {k : Key} {v : V} {d : D} (r : Rep K H v d) {kvs : List (Key × V)} {ds : List (Key × D)} (h : RepK K H kvs ds) : RepK K H (putK kvs k v) (putD ds k d) := by
  unfold putK putD
  rw [repK_any h]
  split
  · exact repK_map r h
  · exact repK_app h (.cons r .nil)
theorem repK_len {H : Hp} : ∀ {kvs : List (Key × V)} {ds : List (Key × D)}, RepK K H kvs ds → kvs.length = ds.length
  | _, _, .nil => rfl
  | _, _, .cons a b => by rw [List.length_cons, List.length_cons, repK_len b]
def dKs (M : Mem) : D → Option (List (Key × D))
  | .dic kvs => some kvs
  | .ptr p => match M p with
    | some (.dK kvs) => some kvs
    | _ => none
  | _ => none
theorem dKs_rep {H : Hp} {M : Mem} {v : V} {d : D} {xs : List (Key × D)} (r : Rep K H v d) (m : MOk K H M) (h : dKs M d = some xs) : ∃ a kvs, v = .ref a ∧ Rd H a (.dK kvs) ∧ RepK K H kvs xs := by
  unfold dKs at h
  split at h
  · cases h
    cases r with | dic a b => exact ⟨_, _, rfl, .inr a, b⟩
  · rename_i p
    split at h
    · rename_i ys hp
      cases h
      cases r
      obtain ⟨o, h1, h2⟩ := m _ _ hp
      cases o <;> first | exact h2.elim | exact ⟨_, _, rfl, .inl h1, h2⟩
    · cases h
  · cases h
def fDGet : D → D → Mem → Cont → Prop := fun d e M Φ => ∃ kvs k x, dKs M d = some kvs ∧ keyD e = some k ∧ valD kvs k = some x ∧ Φ x M
theorem xe_dget {o i : Expr} {dd di : DE} {pos : Pos} (hu : X.A.units + 1 < cLine) (ho : XE X T o dd) (hi : XE X T i di) (hs : NoSl i := by exact fun _ _ => rfl) : XE X T (.Subscript o i pos) (dBin fDGet dd di) := pe_weak (pe_dget hu ho hi hs) fun σ H Q q => by
  obtain ⟨Γ, M, Φ, env, h, k⟩ := q
  refine ⟨Γ, M, _, env, h, fun v1 H1 d1 M1 φ1 k1 m1 r1 => ⟨Γ, M1, _, env.go k1 m1, φ1, fun v2 H2 d2 M2 φ2 k2 m2 r2 => ?_⟩⟩
  obtain ⟨kvs, key, x, h1, h2, h3, φ⟩ := φ2
  obtain ⟨a, ks, rfl, ha, hk⟩ := dKs_rep (r1.mono k2) m2 h1
  obtain rfl := keyD_rep r2 h2
  obtain ⟨v, h4, h5⟩ := valK_rep hk h3
  exact ⟨a, v, rfl, .inl ⟨ks, key, ha, rfl, h4.symm⟩, (k.from (k1.trans k2)).now m2 φ h5⟩
/-- d[k] = e: e first -/
def dDPut (dd di dv : DE) : DS := fun E Γ M => dv Γ M fun v M1 => dd Γ M1 fun d M2 => di Γ M2 fun i M3 => ∃ p kvs k, d = .ptr p ∧ M3 p = some (.dK kvs) ∧ keyD i = some k ∧ kvs.length < sizeLine ∧ E.nx Γ (M3.set p (.dK (putD kvs k v)))
theorem xs_dput {o i value : Expr} {dd di dv : DE} {pos pos' : Pos} (hu : X.A.units + 1 < cLine) (ho : XE X T o dd) (hi : XE X T i di) (hv : XE X T value dv) (hs : swapsWith value (some (.Subscript o i pos')) pos.line X.env = pure false := by rfl) :
    XS X T (.Assign [.Subscript o i pos'] value pos) (dDPut dd di dv) := ps_weak (ps_dput hu ho hi hv hs) fun Dn σ H q => by
  obtain ⟨Γ, M, E, env, h, hn, hb, hc, hr⟩ := q
  refine ⟨Γ, M, _, env, h, fun v1 H1 d1 M1 φ1 k1 m1 r1 => ⟨Γ, M1, _, env.go k1 m1, φ1, fun v2 H2 d2 M2 φ2 k2 m2 r2 => ⟨Γ, M2, _, (env.go k1 m1).go k2 m2, φ2, fun v3 H3 d3 M3 φ3 k3 m3 r3 => ?_⟩⟩⟩
  obtain ⟨p, kvs, k, rfl, h1, h2, h3, φ⟩ := φ3
  cases r2
  obtain rfl := keyD_rep r3 h2
  obtain ⟨o, h4, h5⟩ := m3 _ _ h1
  cases o <;> first | exact h5.elim | skip
  rename_i ks
  have hl := repK_len h5
  have kk : Kp T H3 (upd H3 p (.dK (putK ks k v1))) := Kp.mut h4 True.intro
  have m4 := m3.put (m := .dK (putD kvs k d1)) kk (repK_put ((r1.mono k2).mono k3) h5)
  exact ⟨p, _, rfl, DPut.k h4 (by rw [hl]; exact h3), hn _ _ _ _ φ (((k1.trans k2).trans k3).trans kk) ((((env.go k1 m1).go k2 m2).go k3 m3).go kk m4)⟩

/-! ### slices -/
abbrev DO := Gam → Mem → (Option Int → Mem → Prop) → Prop
def liftO (K : PySem.W.Frag) (T : List (Addr × Str)) (d : DO) : TO := fun σ H Q => ∃ Γ M Φ, EnvOk K T Γ M σ H ∧ d Γ M Φ ∧ ∀ o H' M', Φ o M' → Kp T H H' → MOk K H' M' → Q o H'
theorem po_weak {e : Option Expr} {t t' : TO} (h : PO X e t) (w : ∀ σ H Q, t' σ H Q → t σ H Q) : PO X e t' := ⟨fun pins s σ H Q I q => h.run pins s σ H Q I (w _ _ _ q)⟩
def doNo : DO := fun _ M Φ => Φ none M
def doAt (de : DE) : DO := fun Γ M Φ => de Γ M fun d M1 => match d with
  | .int i => Φ (some i) M1
  | _ => False
theorem xo_no : PO X none (liftO X.K T doNo) := po_weak po_none fun σ H Q q => by
  obtain ⟨Γ, M, Φ, env, h, k⟩ := q
  exact k _ _ _ h .refl env.mem
theorem xo_at {e : Expr} {de : DE} (he : XE X T e de) : PO X (some e) (liftO X.K T (doAt de)) := po_weak (po_some he) fun σ H Q q => by
  obtain ⟨Γ, M, Φ, env, h, k⟩ := q
  refine ⟨Γ, M, _, env, h, fun v1 H1 d1 M1 φ1 k1 m1 r1 => ?_⟩
  cases d1 <;> first | exact φ1.elim | skip
  cases r1
  exact ⟨_, rfl, k _ _ _ φ1 k1 m1⟩
def cutD (xs : List D) (lo hi : Option Int) : List D := (xs.drop (HT.sIx xs.length 0 lo)).take (HT.sIx xs.length xs.length hi - HT.sIx xs.length 0 lo)
theorem cut_reps {H : Hp} {vs : List V} {ds : List D} (r : Reps K H vs ds) (lo hi : Option Int) : Reps K H (cutV vs lo hi) (cutD ds lo hi) := by
  unfold cutV cutD
  rw [r.length]
  exact (r.drop _).take _
def fSl : D → Option Int → Option Int → Mem → Cont → Prop := fun d lo hi M Φ => match d with
  | .str z => z.length ≤ sizeLine ∧ Φ (.str (cutS z lo hi)) M
  | .tup xs => Φ (.tup (cutD xs lo hi)) M
  | d => ∃ xs, lsD M d = some xs ∧ Φ (.lst (cutD xs lo hi)) M
def dSl (de : DE) (dl dh : DO) : DE := fun Γ M Φ => de Γ M fun d M1 => dl Γ M1 fun lo M2 => dh Γ M2 fun hi M3 => fSl d lo hi M3 Φ
theorem sIx_whole {n : Nat} {lo hi : Option Int} (h : HT.sIx n 0 lo = 0 ∧ HT.sIx n n hi = n) {xs : List D} (hn : xs.length = n) : cutD xs lo hi = xs := by
  unfold cutD
  rw [hn, h.1, h.2, List.drop_zero, Nat.sub_zero, ← hn, List.take_length]
theorem xe_slice {e : Expr} {lo hi : Option Expr} {de : DE} {dl dh : DO} {pos p2 : Pos} (he : XE X T e de) (hl : PO X lo (liftO X.K T dl)) (hh : PO X hi (liftO X.K T dh)) : XE X T (.Subscript e (.Slice lo hi none p2) pos) (dSl de dl dh) :=
  pe_weak (pe_slice ((sl_fz sl_list).or (sl_str.or sl_tupA)) he hl hh) fun σ H Q q => by
  obtain ⟨Γ, M, Φ, env, h, k⟩ := q
  refine ⟨Γ, M, _, env, h, fun v1 H1 d1 M1 φ1 k1 m1 r1 => ⟨Γ, M1, _, env.go k1 m1, φ1, fun l H2 M2 φ2 k2 m2 => ⟨Γ, M2, _, (env.go k1 m1).go k2 m2, φ2, fun u H3 M3 φ3 k3 m3 => ?_⟩⟩⟩
  have r3 := (r1.mono k2).mono k3
  have g := k.from ((k1.trans k2).trans k3)
  unfold fSl at φ3
  split at φ3
  · cases r3
    exact .inr (.inl ⟨_, rfl, φ3.1, g.now m3 φ3.2 (.str _)⟩)
  · cases r3 with
    | @tup a vs _ ha ra =>
      refine .inr (.inr ⟨a, vs, rfl, .of ha, fun w => ?_, fun w p n => g.newT m3 n φ3 (cut_reps ra l u)⟩)
      rw [sIx_whole w ra.length.symm] at φ3
      exact g.now m3 φ3 (.tup ha ra)
  · obtain ⟨xs, h1, φ⟩ := φ3
    obtain ⟨a, vs, rfl, h4, h5⟩ := lsD_rep r3 m3 h1
    exact .inl ⟨a, vs, rfl, h4, fun p n => g.newF m3 n φ (cut_reps h5 l u)⟩
/-- xs[::-1] of a list -/
def dRev (de : DE) : DE := fun Γ M Φ => de Γ M fun d M1 => ∃ xs, lsD M1 d = some xs ∧ Φ (.lst xs.reverse) M1
theorem xe_rev {e : Expr} {de : DE} {k : Nat} {p1 p2 p3 pos : Pos} (he : XE X T e de) : XE X T (.Subscript e (.Slice none none (some (.UnaryOp .USub (.Constant (.int 1) k p1) p2)) p3) pos) (dRev de) := pe_weak (pe_fz (pe_revL he)) fun σ H Q q => by
  obtain ⟨Γ, M, Φ, env, h, k⟩ := q
  refine ⟨Γ, M, _, env, h, fun v1 H1 d1 M1 φ1 k1 m1 r1 => ?_⟩
  obtain ⟨xs, h1, φ⟩ := φ1
  obtain ⟨a, vs, rfl, h4, h5⟩ := lsD_rep r1 m1 h1
  exact ⟨a, vs, rfl, h4, fun p n => (k.from k1).newF m1 n φ h5.reverse⟩

/-! ### built-in calls -/
def fAbs : List D → Mem → Cont → Prop := fun ds M Φ => match ds with
  | [.int i] => Φ (.int (i.natAbs : Int)) M
  | _ => False
theorem reps1 {H : Hp} {xs : List V} {d : D} (r : Reps K H xs [d]) : ∃ v, xs = [v] ∧ Rep K H v d := by
  cases r with | cons a b => cases b; exact ⟨_, rfl, a⟩
theorem reps2 {H : Hp} {xs : List V} {d e : D} (r : Reps K H xs [d, e]) : ∃ v u, xs = [v, u] ∧ Rep K H v d ∧ Rep K H u e := by
  cases r with | cons a b => cases b with | cons b c => cases c; exact ⟨_, _, rfl, a, b⟩
def rAbs : List V → Hp → VK → Prop := fun xs H Q => ∃ i, xs = [.int i] ∧ Q (.int (if i < 0 then -i else i)) H
theorem d_abs : CRD K T rAbs fAbs := by
  intro xs ds H M Φ Q r m q g
  unfold fAbs at q
  split at q
  · obtain ⟨v, rfl, rv⟩ := reps1 r
    cases rv
    rename_i i
    have e : (if i < 0 then -i else i) = (i.natAbs : Int) := by split <;> omega
    exact ⟨i, rfl, by rw [e]; exact g.now m q (.int _)⟩
  · exact q.elim
def fMax2 : List D → Mem → Cont → Prop := fun ds M Φ => match ds with
  | [.int i, .int j] => Φ (.int (max i j)) M
  | _ => False
def fMin2 : List D → Mem → Cont → Prop := fun ds M Φ => match ds with
  | [.int i, .int j] => Φ (.int (min i j)) M
  | _ => False
def rMaxI : List V → Hp → VK → Prop := fun xs H Q => ∃ i j, xs = [.int i, .int j] ∧ Q (.int (if j > i then j else i)) H
def rMinI : List V → Hp → VK → Prop := fun xs H Q => ∃ i j, xs = [.int i, .int j] ∧ Q (.int (if j < i then j else i)) H
theorem d_max2 : CRD K T rMaxI fMax2 := by
  intro xs ds H M Φ Q r m q g
  unfold fMax2 at q
  split at q
  · rename_i i j
    obtain ⟨v, u, rfl, rv, ru⟩ := reps2 r
    cases rv; cases ru
    have e : (if j > i then j else i) = max i j := by split <;> omega
    exact ⟨_, _, rfl, by rw [e]; exact g.now m q (.int _)⟩
  · exact q.elim
theorem d_min2 : CRD K T rMinI fMin2 := by
  intro xs ds H M Φ Q r m q g
  unfold fMin2 at q
  split at q
  · rename_i i j
    obtain ⟨v, u, rfl, rv, ru⟩ := reps2 r
    cases rv; cases ru
    have e : (if j < i then j else i) = min i j := by split <;> omega
    exact ⟨_, _, rfl, by rw [e]; exact g.now m q (.int _)⟩
  · exact q.elim
def fInt : List D → Mem → Cont → Prop := fun ds M Φ => match ds with
  | [.int i] => Φ (.int i) M
  | [.str a] => ∃ n, PySem.intText? a = some n ∧ a.length ≤ 640 ∧ Φ (.int n) M
  | _ => False
def rInt1 : List V → Hp → VK → Prop := fun xs H Q => (∃ i, xs = [.int i] ∧ Q (.int i) H) ∨ ∃ k, xs = [.bl k] ∧ Q (.int (if k then 1 else 0)) H
def rIntS : List V → Hp → VK → Prop := fun xs H Q => ∃ a n, xs = [.str a] ∧ PySem.intText? a = some n ∧ a.length ≤ 640 ∧ Q (.int n) H
theorem d_int : CRD K T (fun xs H Q => rInt1 xs H Q ∨ rIntS xs H Q) fInt := by
  intro xs ds H M Φ Q r m q g
  unfold fInt at q
  split at q
  · obtain ⟨v, rfl, rv⟩ := reps1 r
    cases rv
    exact .inl (.inl ⟨_, rfl, g.now m q (.int _)⟩)
  · obtain ⟨n, h1, h2, φ⟩ := q
    obtain ⟨v, rfl, rv⟩ := reps1 r
    cases rv
    exact .inr ⟨_, n, rfl, h1, h2, g.now m φ (.int _)⟩
  · exact q.elim
def fStr : List D → Mem → Cont → Prop := fun ds M Φ => match ds with
  | [.int i] => i.natAbs.log2 < 1920 ∧ Φ (.str (Str.ofString (toString i))) M
  | _ => False
def rStrI : List V → Hp → VK → Prop := fun xs H Q => ∃ i, xs = [.int i] ∧ i.natAbs.log2 < 1920 ∧ Q (.str (toString i)) H
theorem d_str : CRD K T rStrI fStr := by
  intro xs ds H M Φ Q r m q g
  unfold fStr at q
  split at q
  · obtain ⟨v, rfl, rv⟩ := reps1 r
    cases rv
    exact ⟨_, rfl, q.1, g.now m q.2 (.str _)⟩
  · exact q.elim
def fLen : List D → Mem → Cont → Prop := fun ds M Φ => match ds with
  | [.str z] => z.length ≤ sizeLine ∧ Φ (.int (z.length : Int)) M
  | [d] => ∃ xs, sqD M d = some xs ∧ Φ (.int (xs.length : Int)) M
  | _ => False
def rLenA (K : PySem.W.Frag) : List V → Hp → VK → Prop := fun xs H Q => ∃ x n, xs = [x] ∧ LenV K x H n ∧ Q (.int n) H
theorem d_len : CRD K T (rLenA K) fLen := by
  intro xs ds H M Φ Q r m q g
  unfold fLen at q
  split at q
  · obtain ⟨v, rfl, rv⟩ := reps1 r
    cases rv
    exact ⟨_, _, rfl, ⟨q.1, rfl⟩, g.now m q.2 (.int _)⟩
  · obtain ⟨ys, h1, φ⟩ := q
    obtain ⟨v, rfl, rv⟩ := reps1 r
    obtain ⟨a, vs, rfl, h2, h3⟩ := sqD_rep rv m h1
    rw [← h3.length] at φ
    exact ⟨_, vs.length, rfl, h2.elim (fun h => .inl ⟨vs, h, rfl⟩) (fun h => .inr ⟨vs, h, rfl⟩), g.now m φ (.int _)⟩
  · exact q.elim
/-- list(a list, a tuple), frozen; to change -/
def fList : List D → Mem → Cont → Prop := fun ds M Φ => match ds with
  | [d] => ∃ xs, sqD M d = some xs ∧ Φ (.lst xs) M
  | _ => False
def fListM : List D → Mem → Cont → Prop := fun ds M Φ => match ds with
  | [d] => ∃ xs, sqD M d = some xs ∧ ∀ p, M p = none → Φ (.ptr p) (M.set p (.lst xs))
  | _ => False
def rListO (K : PySem.W.Frag) : List V → Hp → VK → Prop := fun xs H Q => ∃ p ys, xs = [.ref p] ∧ (SqL K H p ys ∨ SqT K H p ys) ∧ ∀ l, H l = none → Q (.ref l) (upd H l (.lst ys))
theorem d_list : CRD K T (fun xs H Q => rListO K xs H (fz1 Q)) fList := by
  intro xs ds H M Φ Q r m q g
  unfold fList at q
  split at q
  · obtain ⟨ys, h1, φ⟩ := q
    obtain ⟨v, rfl, rv⟩ := reps1 r
    obtain ⟨a, vs, rfl, h2, h3⟩ := sqD_rep rv m h1
    exact ⟨a, vs, rfl, h2, fun p n => g.newF m n φ h3⟩
  · exact q.elim
theorem d_listM : CRD K T (rListO K) fListM := by
  intro xs ds H M Φ Q r m q g
  unfold fListM at q
  split at q
  · obtain ⟨ys, h1, φ⟩ := q
    obtain ⟨v, rfl, rv⟩ := reps1 r
    obtain ⟨a, vs, rfl, h2, h3⟩ := sqD_rep rv m h1
    exact ⟨a, vs, rfl, h2, fun p n => g.newL m n φ h3⟩
  · exact q.elim
def fTuple : List D → Mem → Cont → Prop := fun ds M Φ => match ds with
  | [.tup xs] => Φ (.tup xs) M
  | [d] => ∃ xs, lsD M d = some xs ∧ Φ (.tup xs) M
  | _ => False
def rTupO (K : PySem.W.Frag) : List V → Hp → VK → Prop := fun xs H Q => ∃ p ys, xs = [.ref p] ∧ ((SqL K H p ys ∧ ∀ l, H l = none → Q (.ref l) (upd H l (.tup ys))) ∨ (SqT K H p ys ∧ Q (.ref p) H))
theorem d_tuple : CRD K T (rTupO K) fTuple := by
  intro xs ds H M Φ Q r m q g
  unfold fTuple at q
  split at q
  · obtain ⟨v, rfl, rv⟩ := reps1 r
    cases rv with
    | tup a b => exact ⟨_, _, rfl, .inr ⟨.of a, g.now m q (.tup a b)⟩⟩
  · obtain ⟨ys, h1, φ⟩ := q
    obtain ⟨v, rfl, rv⟩ := reps1 r
    obtain ⟨a, vs, rfl, h2, h3⟩ := lsD_rep rv m h1
    exact ⟨a, vs, rfl, .inl ⟨h2, fun p n => g.newT m n φ h3⟩⟩
  · exact q.elim
theorem bls_rep {H : Hp} : ∀ {bs : List Bool} {vs : List V}, Reps K H vs (bs.map D.bl) → vs = bs.map V.bl
  | [], _, r => by cases r; rfl
  | b :: bs, _, r => by
    rw [List.map_cons] at r
    cases r with
    | cons a t => cases a; rw [bls_rep t]; rfl
def fAll : List D → Mem → Cont → Prop := fun ds M Φ => match ds with
  | [d] => ∃ bs : List Bool, lsD M d = some (bs.map D.bl) ∧ Φ (.bl (bs.all id)) M
  | _ => False
def fAny : List D → Mem → Cont → Prop := fun ds M Φ => match ds with
  | [d] => ∃ bs : List Bool, lsD M d = some (bs.map D.bl) ∧ Φ (.bl (bs.any id)) M
  | _ => False
theorem d_all : CRD K T (rAll K) fAll := by
  intro xs ds H M Φ Q r m q g
  unfold fAll at q
  split at q
  · obtain ⟨bs, h1, φ⟩ := q
    obtain ⟨v, rfl, rv⟩ := reps1 r
    obtain ⟨a, vs, rfl, h2, h3⟩ := lsD_rep rv m h1
    obtain rfl := bls_rep h3
    exact ⟨a, bs, rfl, h2, g.now m φ (.bl _)⟩
  · exact q.elim
theorem d_any : CRD K T (rAny K) fAny := by
  intro xs ds H M Φ Q r m q g
  unfold fAny at q
  split at q
  · obtain ⟨bs, h1, φ⟩ := q
    obtain ⟨v, rfl, rv⟩ := reps1 r
    obtain ⟨a, vs, rfl, h2, h3⟩ := lsD_rep rv m h1
    obtain rfl := bls_rep h3
    exact ⟨a, bs, rfl, h2, g.now m φ (.bl _)⟩
  · exact q.elim
end
section
variable {X : Cx} {T : List (Addr × Str)}
/-! ### list(text) -/
def fListS : List D → Mem → Cont → Prop := fun ds M Φ => match ds with
  | [.str x] => x.length ≤ sizeLine ∧ Φ (.lst (x.cps.toList.map fun c => .str ⟨#[c]⟩)) M
  | _ => False
def rListS1 : List V → Hp → VK → Prop := fun xs H Q => ∃ x, xs = [.str x] ∧ x.length ≤ sizeLine ∧ ∀ l, H l = none → Q (.ref l) (upd H l (.lst (x.cps.toList.map fun c => .str ⟨#[c]⟩)))
theorem vals_signs : ∀ (cs : List Nat) (us : List Value), us.length = cs.length → (∀ (j : Nat) (u : Value), us[j]? = some u → ∃ c t, cs[j]? = some c ∧ u = .str ⟨#[c]⟩ t) → Vals (cs.map fun c => V.str ⟨#[c]⟩) us
  | [], [], _, _ => .nil
  | [], _ :: _, h, _ => by simp at h
  | _ :: _, [], h, _ => by simp at h
  | c :: cs, u :: us, h, f => by
    refine .cons ?_ (vals_signs cs us (by simpa using h) fun j u' hj => f (j + 1) u' (by simpa using hj))
    obtain ⟨c', t, e1, e2⟩ := f 0 u rfl
    have e3 : c = c' := by simpa using e1
    exact ⟨t, by rw [e2, e3]⟩
theorem reps_signs {K : PySem.W.Frag} {H : Hp} : ∀ (cs : List Nat), Reps K H (cs.map fun c => V.str ⟨#[c]⟩) (cs.map fun c => D.str ⟨#[c]⟩)
  | [] => .nil
  | c :: cs => .cons (.str _) (reps_signs cs)
theorem call_listS (hc : X.calm = true) : CallR X (.type "list") rListS1 := by
  intro pins s σ H xs us Q I r h
  obtain ⟨x, rfl, hz, q⟩ := h
  obtain ⟨u, rfl, rx⟩ := vals1 r
  obtain ⟨t, rfl⟩ := rx
  have hz' : x.cps.size ≤ sizeLine := hz
  refine call_list_str (I.ok.hd hc) x t (fun h' tk acc' c' kp e hi => ?_) hz'
  have hv : Vals (x.cps.toList.map fun c => V.str ⟨#[c]⟩) acc'.toList := vals_signs _ _ (by rw [Array.length_toList, Array.length_toList]; exact hi.1) fun j u hj => by
    obtain ⟨c, t, h1, h2⟩ := hi.2 j u (by rw [← hj, Array.getElem?_toList])
    exact ⟨c, t, by rw [Array.getElem?_toList]; exact h1, h2⟩
  refine ⟨.ref s.heap.objs.size, _, I.laid (t' := tk) kp (Nat.le_refl _) (show ObjOk X.prog X.w _ h' _ (.lst (x.cps.toList.map fun c => V.str ⟨#[c]⟩)) from ⟨?_, acc'.toList, c', hv, ?_⟩), rfl, q _ (I.hok.fresh (Nat.le_refl _))⟩
  · rw [List.length_map, Array.length_toList]; exact hz'
  · rw [Array.toArray_toList]; exact e
def fListA : List D → Mem → Cont → Prop := fun ds M Φ => match ds with
  | [.str x] => x.length ≤ sizeLine ∧ Φ (.lst (x.cps.toList.map fun c => .str ⟨#[c]⟩)) M
  | [d] => ∃ xs, sqD M d = some xs ∧ Φ (.lst xs) M
  | _ => False
theorem d_listA {K : PySem.W.Frag} : CRD K T (fun xs H Q => rListO K xs H (fz1 Q) ∨ rListS1 xs H (fz1 Q)) fListA := by
  intro xs ds H M Φ Q r m q g
  unfold fListA at q
  split at q
  · obtain ⟨v, rfl, rv⟩ := reps1 r
    cases rv
    exact .inr ⟨_, rfl, q.1, fun p n => g.newF m n q.2 (reps_signs _)⟩
  · obtain ⟨ys, h1, φ⟩ := q
    obtain ⟨v, rfl, rv⟩ := reps1 r
    obtain ⟨a, vs, rfl, h2, h3⟩ := sqD_rep rv m h1
    exact .inl ⟨a, vs, rfl, h2, fun p n => g.newF m n φ h3⟩
  · exact q.elim
theorem call_listA (hc : X.calm = true) : CallR X (.type "list") (fun xs H Q => rListO X.K xs H (fz1 Q) ∨ rListS1 xs H (fz1 Q)) := (call_fz call_list_of).or (call_fz (call_listS hc))
theorem call_intA : CallR X (.type "int") (fun xs H Q => rInt1 xs H Q ∨ rIntS xs H Q) := call_int1.or call_int_str
end
end DL

/-! DLe: tests, statements, loops, comprehensions over data. -/
namespace DL
open PySem PySem.Spec PyProof.Rows L2
section
variable {X : Cx} {K : PySem.W.Frag} {T : List (Addr × Str)} {pos : Pos}
/-! ### tests -/
def dB (de : DE) : DT := fun Γ M Φ => de Γ M fun d M1 => match d with
  | .bl b => Φ b M1
  | _ => False
theorem lift_B {de : DE} {σ : Sg} {H : Hp} {Q : Bool → Hp → Prop} (q : liftT K T (dB de) σ H Q) : lift K T de σ H fun x H1 => ∃ c, x = .bl c ∧ Q c H1 := by
  obtain ⟨Γ, M, Φ, env, h, k⟩ := q
  refine ⟨Γ, M, _, env, h, fun v1 H1 d1 M1 φ1 k1 m1 r1 => ?_⟩
  cases d1 <;> first | exact φ1.elim | skip
  cases r1
  exact ⟨_, rfl, k _ _ _ φ1 k1 m1⟩
theorem xt_val {e : Expr} {de : DE} (h : XE X T e de) (he : ∀ whole, isTrue e X.env whole = (do let v ← whole; standAt e.pos; holding [v] (truthy v)) := by intro _; rfl) : XT X T e (dB de) := pt_weak (pt_val h he) fun σ H Q q => lift_B q
/-- a comparison as a test -/
theorem xt_cmp {op : CmpOp} {a b : Expr} {r : R2} {f : D → D → Mem → Cont → Prop} {da db : DE} (ho : OpR X (compareOp op) r) (hr : R2D X.K T r f) (ha : XE X T a da) (hb : XE X T b db) (hm : behindInMarks op b = false) : XT X T (.Compare a [op] [b] pos) (dB (dBin f da db)) :=
  pt_weak (pt_cmpR ho ha hb hm) fun σ H Q q => lift_op hr (lift_B q)
section
variable {a b : Expr} {da db : DE}
theorem xt_eq (hu : X.A.units + 64 < cLine) (ha : XE X T a da) (hb : XE X T b db) : XT X T (.Compare a [.Eq] [b] pos) (dB (dBin fEq da db)) := xt_cmp (op_eq.or (op_eqD hu)) d_eq ha hb (nomark _)
theorem xt_ne (hu : X.A.units + 64 < cLine) (ha : XE X T a da) (hb : XE X T b db) : XT X T (.Compare a [.NotEq] [b] pos) (dB (dBin fNe da db)) := xt_cmp (op_ne.or (op_neD hu)) d_ne ha hb (nomark _)
theorem xt_is (ha : XE X T a da) (hb : XE X T b db) : XT X T (.Compare a [.Is] [b] pos) (dB (dBin fIs da db)) := xt_cmp (op_isBl.or op_isN) d_is ha hb (nomark _)
theorem xt_isNot (ha : XE X T a da) (hb : XE X T b db) : XT X T (.Compare a [.IsNot] [b] pos) (dB (dBin fIsNot da db)) := xt_cmp (op_notBl.or op_notN) d_isNot ha hb (nomark _)
theorem xt_lt (ha : XE X T a da) (hb : XE X T b db) : XT X T (.Compare a [.Lt] [b] pos) (dB (dBin fLt da db)) := xt_cmp op_lt d_cmp ha hb (nomark _)
theorem xt_le (ha : XE X T a da) (hb : XE X T b db) : XT X T (.Compare a [.LtE] [b] pos) (dB (dBin fLe da db)) := xt_cmp op_le d_cmp ha hb (nomark _)
theorem xt_gt (ha : XE X T a da) (hb : XE X T b db) : XT X T (.Compare a [.Gt] [b] pos) (dB (dBin fGt da db)) := xt_cmp op_gt d_cmp ha hb (nomark _)
theorem xt_ge (ha : XE X T a da) (hb : XE X T b db) : XT X T (.Compare a [.GtE] [b] pos) (dB (dBin fGe da db)) := xt_cmp op_ge d_cmp ha hb (nomark _)
theorem xt_in (ha : XE X T a da) (hb : XE X T b db) (hm : behindInMarks .In b = false := by rfl) : XT X T (.Compare a [.In] [b] pos) (dB (dBin fIn da db)) := xt_cmp (op_in_sign.or op_in_seq) d_in ha hb hm
theorem xt_notIn (ha : XE X T a da) (hb : XE X T b db) (hm : behindInMarks .NotIn b = false := by rfl) : XT X T (.Compare a [.NotIn] [b] pos) (dB (dBin fNotIn da db)) := xt_cmp (op_notIn_sign.or op_notIn_seq) d_notIn ha hb hm
end
def dNotT (dt : DT) : DT := fun Γ M Φ => dt Γ M fun b M1 => Φ (!b) M1
theorem xt_not {a : Expr} {dt : DT} (h : XT X T a dt) : XT X T (.UnaryOp .Not a pos) (dNotT dt) := pt_weak (pt_not h) fun σ H Q q => by
  obtain ⟨Γ, M, Φ, env, h, k⟩ := q
  exact ⟨Γ, M, _, env, h, fun b H1 M1 φ1 k1 m1 => k _ _ _ φ1 k1 m1⟩
abbrev XW (X : Cx) (T : List (Addr × Str)) (e : Expr) (dt : DT) : Prop := PW X e (liftT X.K T dt)
def dAndT (da db : DT) : DT := fun Γ M Φ => da Γ M fun b M1 => if b = true then db Γ M1 Φ else Φ false M1
def dOrT (da db : DT) : DT := fun Γ M Φ => da Γ M fun b M1 => if b = true then Φ true M1 else db Γ M1 Φ
theorem xw_and1 {a : Expr} {da : DT} (h : XT X T a da) : XW X T (.BoolOp .And [a] pos) da := pw_and1 h
theorem xw_or1 {a : Expr} {da : DT} (h : XT X T a da) : XW X T (.BoolOp .Or [a] pos) da := pw_or1 h
theorem xw_and {a b : Expr} {rest : List Expr} {da db : DT} (h : XT X T a da) (hb : XW X T (.BoolOp .And (b :: rest) pos) db) : XW X T (.BoolOp .And (a :: b :: rest) pos) (dAndT da db) := pw_weak (pw_and h hb) fun σ H Q q => by
  obtain ⟨Γ, M, Φ, env, h, k⟩ := q
  refine ⟨Γ, M, _, env, h, fun b H1 M1 φ1 k1 m1 => ?_⟩
  cases b with
  | true => exact ⟨Γ, M1, _, env.go k1 m1, φ1, fun b2 H2 M2 φ2 k2 m2 => k _ _ _ φ2 (k1.trans k2) m2⟩
  | false => exact k _ _ _ φ1 k1 m1
theorem xw_or {a b : Expr} {rest : List Expr} {da db : DT} (h : XT X T a da) (hb : XW X T (.BoolOp .Or (b :: rest) pos) db) : XW X T (.BoolOp .Or (a :: b :: rest) pos) (dOrT da db) := pw_weak (pw_or h hb) fun σ H Q q => by
  obtain ⟨Γ, M, Φ, env, h, k⟩ := q
  refine ⟨Γ, M, _, env, h, fun b H1 M1 φ1 k1 m1 => ?_⟩
  cases b with
  | true => exact k _ _ _ φ1 k1 m1
  | false => exact ⟨Γ, M1, _, env.go k1 m1, φ1, fun b2 H2 M2 φ2 k2 m2 => k _ _ _ φ2 (k1.trans k2) m2⟩
theorem xt_w {e : Expr} {dt : DT} (h : XW X T e dt) : XT X T e dt := PW.pt h
/-! ### and, or, not, if-else as values -/
def dAndV (da db : DE) : DE := fun Γ M Φ => da Γ M fun d M1 => match d with
  | .bl b => if b = true then db Γ M1 Φ else Φ (.bl false) M1
  | _ => False
def dOrV (da db : DE) : DE := fun Γ M Φ => da Γ M fun d M1 => match d with
  | .bl b => if b = true then Φ (.bl true) M1 else db Γ M1 Φ
  | _ => False
def dNotV (da : DE) : DE := fun Γ M Φ => da Γ M fun d M1 => match d with
  | .bl b => Φ (.bl (!b)) M1
  | _ => False
theorem xe_one {a : Expr} {op} {da : DE} (h : XE X T a da) : XE X T (.BoolOp op [a] pos) da := pe_one h
theorem xe_and {a b : Expr} {rest : List Expr} {da db : DE} (h : XE X T a da) (hb : XE X T (.BoolOp .And (b :: rest) pos) db) : XE X T (.BoolOp .And (a :: b :: rest) pos) (dAndV da db) := pe_weak (pe_and h hb) fun σ H Q q => by
  obtain ⟨Γ, M, Φ, env, h, k⟩ := q
  refine ⟨Γ, M, _, env, h, fun v H1 d M1 φ1 k1 m1 r1 => ?_⟩
  cases d <;> first | exact φ1.elim | skip
  cases r1
  rename_i b
  refine ⟨b, rfl, ?_⟩
  cases b with
  | true => exact ⟨Γ, M1, _, env.go k1 m1, φ1, k.from k1⟩
  | false => exact (k.from k1).now m1 φ1 (.bl _)
theorem xe_or {a b : Expr} {rest : List Expr} {da db : DE} (h : XE X T a da) (hb : XE X T (.BoolOp .Or (b :: rest) pos) db) : XE X T (.BoolOp .Or (a :: b :: rest) pos) (dOrV da db) := pe_weak (pe_or h hb) fun σ H Q q => by
  obtain ⟨Γ, M, Φ, env, h, k⟩ := q
  refine ⟨Γ, M, _, env, h, fun v H1 d M1 φ1 k1 m1 r1 => ?_⟩
  cases d <;> first | exact φ1.elim | skip
  cases r1
  rename_i b
  refine ⟨b, rfl, ?_⟩
  cases b with
  | true => exact (k.from k1).now m1 φ1 (.bl _)
  | false => exact ⟨Γ, M1, _, env.go k1 m1, φ1, k.from k1⟩
theorem xe_not {a : Expr} {da : DE} (h : XE X T a da) : XE X T (.UnaryOp .Not a pos) (dNotV da) := pe_weak (pe_not h) fun σ H Q q => by
  obtain ⟨Γ, M, Φ, env, h, k⟩ := q
  refine ⟨Γ, M, _, env, h, fun v H1 d M1 φ1 k1 m1 r1 => ?_⟩
  cases d <;> first | exact φ1.elim | skip
  cases r1
  exact ⟨_, rfl, (k.from k1).now m1 φ1 (.bl _)⟩
def dIf (dt : DT) (da db : DE) : DE := fun Γ M Φ => dt Γ M fun b M1 => if b = true then da Γ M1 Φ else db Γ M1 Φ
theorem xe_if {c a b : Expr} {dt : DT} {da db : DE} (hc : XT X T c dt) (ha : XE X T a da) (hb : XE X T b db) : XE X T (.IfExp c a b pos) (dIf dt da db) := pe_weak (pe_ifExp hc ha hb) fun σ H Q q => by
  obtain ⟨Γ, M, Φ, env, h, k⟩ := q
  refine ⟨Γ, M, _, env, h, fun b H1 M1 φ1 k1 m1 => ?_⟩
  cases b with
  | true => exact ⟨Γ, M1, _, env.go k1 m1, φ1, k.from k1⟩
  | false => exact ⟨Γ, M1, _, env.go k1 m1, φ1, k.from k1⟩
/-! ### a < b < c -/
def dChain (f f' : D → D → Mem → Cont → Prop) (da db dc : DE) : DE := fun Γ M Φ => da Γ M fun x M1 => db Γ M1 fun y M2 => f x y M2 fun z M3 => match z with
  | .bl b => if b = true then dc Γ M3 fun w M4 => f' y w M4 Φ else Φ (.bl false) M3
  | _ => False
section
variable {a b c : Expr} {da db dc : DE} {op op' : CmpOp} {r r' : R2} {f f' : D → D → Mem → Cont → Prop}
theorem lift_chain (hr : R2D X.K T r f) (hr' : R2D X.K T r' f') {σ : Sg} {H : Hp} {Q : VK} (q : lift X.K T (dChain f f' da db dc) σ H Q) : tChain r r' (lift X.K T da) (lift X.K T db) (lift X.K T dc) σ H Q := by
  obtain ⟨Γ, M, Φ, env, h, k⟩ := q
  refine ⟨Γ, M, _, env, h, fun v1 H1 d1 M1 φ1 k1 m1 r1 => ⟨Γ, M1, _, env.go k1 m1, φ1, fun v2 H2 d2 M2 φ2 k2 m2 r2 => hr _ _ _ _ _ _ _ _ (r1.mono k2) r2 m2 φ2 fun v3 H3 d3 M3 φ3 k3 m3 r3 => ?_⟩⟩
  cases d3 <;> first | exact φ3.elim | skip
  cases r3
  rename_i bb
  refine ⟨bb, rfl, ?_⟩
  cases bb with
  | true =>
    refine ⟨Γ, M3, _, ((env.go k1 m1).go k2 m2).go k3 m3, φ3, fun v4 H4 d4 M4 φ4 k4 m4 r4 => ?_⟩
    exact hr' _ _ _ _ _ _ _ _ ((r2.mono k3).mono k4) r4 m4 φ4 (k.from (((k1.trans k2).trans k3).trans k4))
  | false => exact (k.from ((k1.trans k2).trans k3)).now m3 φ3 (.bl _)
theorem xe_chain (ho : OpR X (compareOp op) r) (hr : R2D X.K T r f) (ho' : OpR X (compareOp op') r') (hr' : R2D X.K T r' f') (ha : XE X T a da) (hb : XE X T b db) (hc : XE X T c dc)
    (hm : lastMarks [op, op'] [b, c] = false := by with_unfolding_all rfl) : XE X T (.Compare a [op, op'] [b, c] pos) (dChain f f' da db dc) := pe_weak (pe_chain ho ho' ha hb hc hm) fun σ H Q q => lift_chain hr hr' q
theorem xt_chain (ho : OpR X (compareOp op) r) (hr : R2D X.K T r f) (ho' : OpR X (compareOp op') r') (hr' : R2D X.K T r' f') (ha : XE X T a da) (hb : XE X T b db) (hc : XE X T c dc)
    (hm : lastMarks [op, op'] [b, c] = false := by with_unfolding_all rfl) : XT X T (.Compare a [op, op'] [b, c] pos) (dB (dChain f f' da db dc)) := pt_weak (pt_chain ho ho' ha hb hc hm) fun σ H Q q => lift_chain hr hr' (lift_B q)
end
/-! ### statements -/
def dsNil : DS := fun E Γ M => E.nx Γ M
def dsSeq (s r : DS) : DS := fun E Γ M => s { E with nx := fun Γ' M' => r E Γ' M' } Γ M
theorem xss_nil : XSs X T [] dsNil := pss_weak pss_nil fun Dn σ H q => by
  obtain ⟨Γ, M, E, env, h, hn, hb, hc, hr⟩ := q
  exact hn _ _ _ _ h .refl env
theorem xss_cons {st : Stmt} {rest : List Stmt} {ds dr : DS} (h1 : XS X T st ds) (h2 : XSs X T rest dr) : XSs X T (st :: rest) (dsSeq ds dr) := pss_weak (pss_cons h1 h2) fun Dn σ H q => by
  obtain ⟨Γ, M, E, env, h, hn, hb, hc, hr⟩ := q
  refine ⟨Γ, M, _, env, h, fun σ' H' Γ' M' φ k e => ?_, hb, hc, hr⟩
  exact ⟨Γ', M', E, e, φ, fun σ2 H2 Γ2 M2 φ2 k2 e2 => hn _ _ _ _ φ2 (k.trans k2) e2, fun σ2 H2 Γ2 M2 φ2 k2 e2 => hb _ _ _ _ φ2 (k.trans k2) e2, fun σ2 H2 Γ2 M2 φ2 k2 e2 => hc _ _ _ _ φ2 (k.trans k2) e2, hr.from k⟩
theorem xss_one {st : Stmt} {ds : DS} (h1 : XS X T st ds) : XSs X T [st] ds := pss_one h1
theorem xs_pass : XS X T (.Pass pos) dsNil := ps_weak ps_pass fun Dn σ H q => by
  obtain ⟨Γ, M, E, env, h, hn, hb, hc, hr⟩ := q
  exact hn _ _ _ _ h .refl env
def dsBreak : DS := fun E Γ M => E.bk Γ M
def dsCont : DS := fun E Γ M => E.ct Γ M
theorem xs_break : XS X T (.Break pos) dsBreak := ps_weak ps_break fun Dn σ H q => by
  obtain ⟨Γ, M, E, env, h, hn, hb, hc, hr⟩ := q
  exact hb _ _ _ _ h .refl env
theorem xs_continue : XS X T (.Continue pos) dsCont := ps_weak ps_continue fun Dn σ H q => by
  obtain ⟨Γ, M, E, env, h, hn, hb, hc, hr⟩ := q
  exact hc _ _ _ _ h .refl env
def dsExpr (de : DE) : DS := fun E Γ M => de Γ M fun _ M1 => E.nx Γ M1
theorem xs_expr {e : Expr} {de : DE} (he : XE X T e de) (hs : swapsWith e none pos.line X.env = pure false := by rfl) : XS X T (.Expr e pos) (dsExpr de) := ps_weak (ps_expr he hs) fun Dn σ H q => by
  obtain ⟨Γ, M, E, env, h, hn, hb, hc, hr⟩ := q
  exact ⟨Γ, M, _, env, h, fun v H1 d M1 φ k m r => hn _ _ _ _ φ k (env.go k m)⟩
def dsRet (de : DE) : DS := fun E Γ M => de Γ M E.rt
theorem xs_ret {e : Expr} {de : DE} (he : XE X T e de) : XS X T (.Return (some e) pos) (dsRet de) := ps_weak (ps_ret he) fun Dn σ H q => by
  obtain ⟨Γ, M, E, env, h, hn, hb, hc, hr⟩ := q
  exact ⟨Γ, M, _, env, h, hr⟩
def dsRetN : DS := fun E Γ M => E.rt .non M
theorem xs_retN : XS X T (.Return none pos) dsRetN := ps_weak ps_retN fun Dn σ H q => by
  obtain ⟨Γ, M, E, env, h, hn, hb, hc, hr⟩ := q
  exact hr.now env.mem h .non
def dsIf (dt : DT) (d1 d2 : DS) : DS := fun E Γ M => dt Γ M fun b M1 => if b = true then d1 E Γ M1 else d2 E Γ M1
theorem xs_if {c : Expr} {a b : List Stmt} {dt : DT} {d1 d2 : DS} (hc : XT X T c dt) (ha : XSs X T a d1) (hb : XSs X T b d2) : XS X T (.If c a b pos) (dsIf dt d1 d2) := ps_weak (ps_if hc ha hb) fun Dn σ H q => by
  obtain ⟨Γ, M, E, env, h, hn, hb, hc, hr⟩ := q
  refine ⟨Γ, M, _, env, h, fun b H1 M1 φ k m => ?_⟩
  have fin : ∀ {d : DS}, d E Γ M1 → liftS X.K T d Dn σ H1 := fun {d} φ => ⟨Γ, M1, E, env.go k m, φ, fun σ2 H2 Γ2 M2 φ2 k2 e2 => hn _ _ _ _ φ2 (k.trans k2) e2, fun σ2 H2 Γ2 M2 φ2 k2 e2 => hb _ _ _ _ φ2 (k.trans k2) e2, fun σ2 H2 Γ2 M2 φ2 k2 e2 => hc _ _ _ _ φ2 (k.trans k2) e2, hr.from k⟩
  cases b with
  | true => exact fin φ
  | false => exact fin φ
/-- a statement that is not reached -/
def dsNever : DS := fun _ _ _ => False
theorem xs_never {st : Stmt} : XS X T st dsNever := ps_weak ps_never fun Dn σ H q => by
  obtain ⟨Γ, M, E, env, h, _⟩ := q
  exact h
theorem xss_never {st : List Stmt} : XSs X T st dsNever := pss_weak pss_never fun Dn σ H q => by
  obtain ⟨Γ, M, E, env, h, _⟩ := q
  exact h
/-- x = e -/
def dsSet (i : Nat) (de : DE) : DS := fun E Γ M => de Γ M fun d M1 => E.nx (Γ.set i (some d)) M1
theorem xs_set {i : Nat} {x : Str} {e : Expr} {de : DE} {pos' : Pos} (hN : X.N.Nodup) (hi : X.N[i]? = some x) (hx : Loc X.env.scope x) (he : XE X T e de) (hs : swapsWith e (some (.Name x pos')) pos.line X.env = pure false := by rfl)
    (hf : X.fn x = true ∨ X.env.scope.names.lookup x = some .local := by first | exact .inl rfl | exact .inr rfl | assumption) : XS X T (.Assign [.Name x pos'] e pos) (dsSet i de) := ps_weak (ps_set (i := i) hN hi hx he hs hf) fun Dn σ H q => by
  obtain ⟨Γ, M, E, env, h, hn, hb, hc, hr⟩ := q
  exact ⟨Γ, M, _, env, h, fun v H1 d M1 φ k m r => hn _ _ _ _ φ k ((env.go k m).set i r)⟩
/-- targets of for and of comprehensions: names, pairs of names -/
structure TgOk (K : PySem.W.Frag) (T : List (Addr × Str)) (vs : List Nat) (g : TG) (dg : DG) : Prop where
  run : ∀ (v : V) (d : D) (σ : Sg) (H : Hp) (Γ : Gam) (M : Mem) (Φ : Gam → Mem → Prop) (Q : Sg → Hp → Prop), EnvOk K T Γ M σ H → Rep K H v d → dg d Γ M Φ →
    (∀ σ' Γ', Φ Γ' M → EnvOk K T Γ' M σ' H → wipe σ' vs = wipe σ vs → Q σ' H) → g v σ H Q
theorem wipe_set (σ : Sg) (i : Nat) (x : Option V) : ∀ vs : List Nat, i ∈ vs → wipe (σ.set i x) vs = wipe σ vs
  | [], h => by simp at h
  | v :: vs, h => by
    unfold wipe
    by_cases hv : i ∈ vs
    · rw [wipe_set σ i x vs hv]
    · have e : v = i := by
        rcases List.mem_cons.mp h with e | e
        · exact e.symm
        · exact absurd e hv
      subst e
      have key : ∀ (ws : List Nat), v ∉ ws → wipe (σ.set v x) ws = (wipe σ ws).set v x := by
        intro ws
        induction ws with
        | nil => intro _; rfl
        | cons w ws ih =>
          intro hw
          unfold wipe
          rw [ih fun z => hw (List.mem_cons_of_mem _ z), List.set_comm _ _ fun z => hw (by rw [z]; exact List.mem_cons_self)]
      rw [key vs hv, List.set_set]
def dgName (i : Nat) : DG := fun d Γ M Φ => Φ (Γ.set i (some d)) M
def dgPair (i j : Nat) : DG := fun d Γ M Φ => match d with
  | .tup [a, b] => Φ ((Γ.set i (some a)).set j (some b)) M
  | _ => False
theorem tg_name {vs : List Nat} {i : Nat} (hi : i ∈ vs) : TgOk K T vs (gName i) (dgName i) := ⟨fun v d σ H Γ M Φ Q env r φ k => k _ _ φ (env.set i r) (wipe_set _ _ _ _ hi)⟩
theorem tg_pair {vs : List Nat} {i j : Nat} (hi : i ∈ vs) (hj : j ∈ vs) : TgOk K T vs (gTup K 2 (gCons (gName i) (gCons (gName j) gNil))) (dgPair i j) := ⟨fun v d σ H Γ M Φ Q env r φ k => by
  unfold dgPair at φ
  split at φ
  · cases r with
    | tup ha hr =>
      obtain ⟨x, y, rfl, rx, ry⟩ := reps2 hr
      refine ⟨_, _, rfl, .of ha, rfl, _, _, rfl, _, _, rfl, rfl, ?_⟩
      exact k _ _ φ ((env.set i rx).set j ry) (by rw [wipe_set _ _ _ _ hj, wipe_set _ _ _ _ hi])
  · exact φ.elim⟩
end
end DL

/-! DLf: loops, comprehensions, dict displays over data. -/
namespace DL
open PySem PySem.Spec PyProof.Rows L2
/-- from H on the iterator J yields xs -/
def WalkD (K : PySem.W.Frag) (T : List (Addr × Str)) (H : Hp) (J : It) (xs : List D) : Prop := ∀ H1, Kp T H H1 →
  (∀ (i : Nat) (d : D), xs[i]? = some d → J.go i H1 ∧ ∀ x H2, J.yld i H1 x H2 → (∀ a o, H1 a = some o → H2 a = some o) ∧ Rep K H2 x d) ∧ J.stop xs.length H1
abbrev DI := Gam → Mem → (List D → Mem → Prop) → Prop
def liftI (K : PySem.W.Frag) (T : List (Addr × Str)) (di : DI) : TI := fun σ H R => ∃ Γ M Φ, EnvOk K T Γ M σ H ∧ di Γ M Φ ∧ ∀ J xs H1 M1, Φ xs M1 → Kp T H H1 → MOk K H1 M1 → WalkD K T H1 J xs → R J H1
abbrev XI (X : Cx) (T : List (Addr × Str)) (tg iter : Expr) (di : DI) : Prop := PI X tg iter (liftI X.K T di)
section
variable {X : Cx} {K : PySem.W.Frag} {T : List (Addr × Str)} {pos : Pos}
theorem pi_weak {tg iter : Expr} {t t' : TI} (h : PI X tg iter t) (w : ∀ σ H R, t' σ H R → t σ H R) : PI X tg iter t' := ⟨fun pins s σ H R I q => h.run pins s σ H R I (w _ _ _ q)⟩
/-! ### what is walked -/
/-- a list or tuple that stands still -/
def diSeq (de : DE) : DI := fun Γ M Φ => de Γ M fun d M1 => match d with
  | .lst xs => Φ xs M1
  | .scr xs => Φ xs M1
  | _ => False
def diTup (de : DE) : DI := fun Γ M Φ => de Γ M fun d M1 => match d with
  | .tup xs => Φ xs M1
  | _ => False
theorem sq_still {a : Addr} {vs : List V} {H : Hp} (h : FzL K H a vs ∨ FzR H a vs) : ∀ H1, Kp T H H1 → SqL K H1 a vs := fun H1 k => by
  rcases h with h | ⟨o, h⟩
  · exact (kp_fzl k h).sq
  · exact .inl (.inr ⟨o, k.frz _ _ _ h⟩)
theorem walk_list {a : Addr} {vs : List V} {ds : List D} {H : Hp} (h : FzL K H a vs ∨ FzR H a vs) (r : Reps K H vs ds) : WalkD K T H (Itl K a) ds := fun H1 k => by
  have hs := sq_still (T := T) h H1 k
  refine ⟨fun i d hd => ?_, ⟨vs, hs, by rw [r.length]; exact Nat.le_refl _⟩⟩
  obtain ⟨v, hv, rv⟩ := r.get hd
  refine ⟨⟨vs, v, hs, hv⟩, fun x H2 y => ?_⟩
  obtain ⟨rfl, y⟩ := y
  have e := y vs hs
  rw [hv] at e; cases e
  exact ⟨fun _ _ q => q, rv.mono k⟩
theorem walk_tup {a : Addr} {vs : List V} {ds : List D} {H : Hp} (h : H a = some (.tup vs)) (r : Reps K H vs ds) : WalkD K T H (Itt K a) ds := fun H1 k => by
  have hs : SqT K H1 a vs := .of (k.tup _ _ h)
  refine ⟨fun i d hd => ?_, ⟨vs, hs, by rw [r.length]; exact Nat.le_refl _⟩⟩
  obtain ⟨v, hv, rv⟩ := r.get hd
  refine ⟨⟨vs, v, hs, hv⟩, fun x H2 y => ?_⟩
  obtain ⟨rfl, y⟩ := y
  have e := y vs hs
  rw [hv] at e; cases e
  exact ⟨fun _ _ q => q, rv.mono k⟩
theorem xi_seq {tg l : Expr} {de : DE} (h : XE X T l de) : XI X T tg l (diSeq de) := pi_weak (pi_list h) fun σ H R q => by
  obtain ⟨Γ, M, Φ, env, h, k⟩ := q
  refine ⟨Γ, M, _, env, h, fun v H1 d M1 φ1 k1 m1 r1 => ?_⟩
  cases d <;> first | exact φ1.elim | skip
  · cases r1 with | lst ha ra => exact ⟨_, rfl, ⟨_, .inl (.inr ha)⟩, k _ _ _ _ φ1 k1 m1 (walk_list (.inr ha) ra)⟩
  · cases r1 with | scr ha ra => exact ⟨_, rfl, ⟨_, ha.sq⟩, k _ _ _ _ φ1 k1 m1 (walk_list (.inl ha) ra)⟩
theorem xi_tup {tg l : Expr} {de : DE} (h : XE X T l de) : XI X T tg l (diTup de) := pi_weak (pi_tup h) fun σ H R q => by
  obtain ⟨Γ, M, Φ, env, h, k⟩ := q
  refine ⟨Γ, M, _, env, h, fun v H1 d M1 φ1 k1 m1 r1 => ?_⟩
  cases d <;> first | exact φ1.elim | skip
  cases r1 with | tup ha ra => exact ⟨_, rfl, ⟨_, .of ha⟩, k _ _ _ _ φ1 k1 m1 (walk_tup ha ra)⟩
/-- the ints lo, lo + 1, .. -/
def rgD (lo hi : Int) : List D := (List.range (hi - lo).toNat).map fun i => .int (lo + (i : Nat))
theorem walk_rng {lo : Int} {n : Nat} {H : Hp} : WalkD K T H (Itr lo n) ((List.range n).map fun i => .int (lo + (i : Nat))) := fun H1 k => by
  refine ⟨fun i d hd => ?_, ?_⟩
  · rw [List.getElem?_map] at hd
    by_cases h : i < n
    · rw [List.getElem?_range h] at hd
      cases hd
      refine ⟨h, fun x H2 y => ?_⟩
      obtain ⟨rfl, rfl⟩ := y
      exact ⟨fun _ _ q => q, .int _⟩
    · rw [List.getElem?_eq_none (by simpa using h)] at hd
      cases hd
  · show n ≤ _
    rw [List.length_map, List.length_range]
    exact Nat.le_refl _
def diRng1 (da : DA) : DI := fun Γ M Φ => da Γ M fun ds M1 => match ds with
  | [.int j] => -(2 ^ 62) ≤ j ∧ j < 2 ^ 62 ∧ Φ (rgD 0 j) M1
  | _ => False
def diRng2 (da : DA) : DI := fun Γ M Φ => da Γ M fun ds M1 => match ds with
  | [.int i, .int j] => (-(2 ^ 62) ≤ i ∧ i < 2 ^ 62 ∧ -(2 ^ 62) ≤ j ∧ j < 2 ^ 62) ∧ Φ (rgD i j) M1
  | _ => False
theorem xi_rng1 {tg a : Expr} {da : DA} {p : Pos} (hg : Gl X "range") (hm : X.mg "range" = none) (ha : XA X T [a] da) (hs : starEach [a] X.env = [(false, eval a X.env)] := by rfl) : XI X T tg (.Call (.Name "range" p) [a] [] pos) (diRng1 da) := pi_weak (pi_range1 hg hm ha hs) fun σ H R q => by
  obtain ⟨Γ, M, Φ, env, h, k⟩ := q
  refine ⟨Γ, M, _, env, h, fun vs H1 ds M1 φ1 k1 m1 r1 => ?_⟩
  split at φ1
  · obtain ⟨v, rfl, rv⟩ := reps1 r1
    cases rv
    obtain ⟨h1, h2, φ⟩ := φ1
    refine ⟨_, rfl, h1, h2, k _ _ _ _ φ k1 m1 ?_⟩
    have w := walk_rng (K := X.K) (T := T) (lo := 0) (n := Int.toNat ‹Int›) (H := H1)
    unfold rgD
    rw [Int.sub_zero]
    exact w
  · exact φ1.elim
theorem xi_rng2 {tg a b : Expr} {da : DA} {p : Pos} (hg : Gl X "range") (hm : X.mg "range" = none) (ha : XA X T [a, b] da) (hs : starEach [a, b] X.env = [(false, eval a X.env), (false, eval b X.env)] := by rfl) (hs2 : starEach [b] X.env = [(false, eval b X.env)] := by rfl) :
    XI X T tg (.Call (.Name "range" p) [a, b] [] pos) (diRng2 da) := pi_weak (pi_range2 hg hm ha hs hs2) fun σ H R q => by
  obtain ⟨Γ, M, Φ, env, h, k⟩ := q
  refine ⟨Γ, M, _, env, h, fun vs H1 ds M1 φ1 k1 m1 r1 => ?_⟩
  split at φ1
  · obtain ⟨v, u, rfl, rv, ru⟩ := reps2 r1
    cases rv; cases ru
    obtain ⟨h1, φ⟩ := φ1
    exact ⟨_, _, rfl, h1, k _ _ _ _ φ k1 m1 walk_rng⟩
  · exact φ1.elim
/-- the signs of a text -/
def diStr (de : DE) : DI := fun Γ M Φ => de Γ M fun d M1 => match d with
  | .str x => Φ (x.cps.toList.map fun c => .str ⟨#[c]⟩) M1
  | _ => False
theorem walk_str {x : Str} {H : Hp} : WalkD K T H (Its x) (x.cps.toList.map fun c => .str ⟨#[c]⟩) := fun H1 k => by
  refine ⟨fun i d hd => ?_, ?_⟩
  · rw [List.getElem?_map] at hd
    cases e : x.cps.toList[i]? with
    | none => rw [e] at hd; cases hd
    | some c =>
      rw [e] at hd
      cases hd
      have hi : i < x.cps.size := by
        have := (List.getElem?_eq_some_iff.mp e).1
        rw [Array.length_toList] at this
        exact this
      rw [Array.getElem?_toList] at e
      refine ⟨hi, fun y H2 z => ?_⟩
      obtain ⟨rfl, c', h1, rfl⟩ := z
      rw [e] at h1
      cases h1
      exact ⟨fun _ _ q => q, .str _⟩
  · show x.cps.size ≤ _
    rw [List.length_map, Array.length_toList]
    exact Nat.le_refl _
theorem xi_str {tg l : Expr} {de : DE} (h : XE X T l de) : XI X T tg l (diStr de) := pi_weak (pi_str h) fun σ H R q => by
  obtain ⟨Γ, M, Φ, env, h, k⟩ := q
  refine ⟨Γ, M, _, env, h, fun v H1 d M1 φ1 k1 m1 r1 => ?_⟩
  cases d <;> first | exact φ1.elim | skip
  cases r1
  exact ⟨_, rfl, k _ _ _ _ φ1 k1 m1 walk_str⟩
/-- the keys of a dict that stands still -/
def kD : Key → D
  | .inl i => .int i
  | .inr x => .str x
theorem kD_rep {H : Hp} (k : Key) : Rep K H (kV k) (kD k) := by cases k <;> constructor
def diKeys (de : DE) : DI := fun Γ M Φ => de Γ M fun d M1 => match d with
  | .dic kvs => Φ (kvs.map fun kv => kD kv.1) M1
  | _ => False
theorem repK_at {H : Hp} : ∀ {kvs : List (Key × V)} {ds : List (Key × D)} {i : Nat} {k : Key} {d : D}, RepK K H kvs ds → ds[i]? = some (k, d) → ∃ v, kvs[i]? = some (k, v) ∧ Rep K H v d
  | _, _, _, _, _, .nil, e => by simp at e
  | _, _, 0, _, _, .cons a b, e => by simp at e; obtain ⟨rfl, rfl⟩ := e; exact ⟨_, rfl, a⟩
  | _, _, i + 1, _, _, .cons a b, e => by
    obtain ⟨v, h1, h2⟩ := repK_at (i := i) b (by simpa using e)
    exact ⟨v, by simpa using h1, h2⟩
theorem walk_keys {a : Addr} {o : Obj} {kvs : List (Key × V)} {ds : List (Key × D)} {H : Hp} (ha : H a = some (.frz o (.dK kvs))) (ra : RepK K H kvs ds) : WalkD K T H (Itk a o kvs) (ds.map fun kv => kD kv.1) := fun H2 k2 => by
  refine ⟨fun i d hd => ?_, k2.frz _ _ _ ha, by rw [List.length_map, repK_len ra]; exact Nat.le_refl _⟩
  rw [List.getElem?_map] at hd
  cases e : ds[i]? with
  | none => rw [e] at hd; cases hd
  | some kd =>
    obtain ⟨key, d'⟩ := kd
    rw [e] at hd
    cases hd
    obtain ⟨v, h1, h2⟩ := repK_at ra e
    refine ⟨⟨k2.frz _ _ _ ha, (List.getElem?_eq_some_iff.mp h1).1⟩, fun x H3 y => ?_⟩
    obtain ⟨rfl, key', v', h3, rfl⟩ := y
    rw [h1] at h3
    cases h3
    exact ⟨fun _ _ q => q, kD_rep _⟩
theorem xi_keys {tg l : Expr} {de : DE} (h : XE X T l de) : XI X T tg l (diKeys de) := pi_weak (pi_keys h) fun σ H R q => by
  obtain ⟨Γ, M, Φ, env, h, k⟩ := q
  refine ⟨Γ, M, _, env, h, fun v H1 d M1 φ1 k1 m1 r1 => ?_⟩
  cases d with
  | dic ds =>
    cases r1 with
    | dic ha ra =>
      obtain ⟨o, ha⟩ := ha
      exact ⟨_, o, rfl, .inl ⟨_, ha, k _ _ _ _ φ1 k1 m1 (walk_keys ha ra)⟩⟩
  | _ => exact φ1.elim
/-- enumerate of a list -/
def enD : Nat → List D → List D
  | _, [] => []
  | i, d :: ds => .tup [.int (i : Nat), d] :: enD (i + 1) ds
theorem enD_len : ∀ (i : Nat) (ds : List D), (enD i ds).length = ds.length
  | _, [] => rfl
  | i, d :: ds => by unfold enD; rw [List.length_cons, List.length_cons, enD_len]
theorem enD_at : ∀ (i j : Nat) (ds : List D) (e : D), (enD i ds)[j]? = some e → ∃ d, ds[j]? = some d ∧ e = .tup [.int ((i + j : Nat) : Int), d]
  | _, _, [], _, h => by simp [enD] at h
  | i, 0, d :: ds, e, h => by simp [enD] at h; exact ⟨d, rfl, by simpa using h.symm⟩
  | i, j + 1, d :: ds, e, h => by
    unfold enD at h
    obtain ⟨d', h1, h2⟩ := enD_at (i + 1) j ds e (by simpa using h)
    exact ⟨d', by simpa using h1, by rw [h2]; congr 4; omega⟩
def diEnum (da : DA) : DI := fun Γ M Φ => da Γ M fun ds M1 => match ds with
  | [.lst xs] => Φ (enD 0 xs) M1
  | _ => False
theorem xi_enum {e : Expr} {da : DA} {p tpos : Pos} {elts : List Expr} {kk : Nat} (hg : Gl X "enumerate") (hm : X.mg "enumerate" = none) (ha : XA X T [e] da) (hs : starEach [e] X.env = [(false, eval e X.env)] := by rfl) :
    XI X T (.Tuple elts kk tpos) (.Call (.Name "enumerate" p) [e] [] pos) (diEnum da) := pi_weak (pi_enum hg hm ha hs) fun σ H R q => by
  obtain ⟨Γ, M, Φ, env, h, k⟩ := q
  refine ⟨Γ, M, _, env, h, fun vs H1 ds M1 φ1 k1 m1 r1 => ?_⟩
  split at φ1
  · rename_i xs
    obtain ⟨v, rfl, rv⟩ := reps1 r1
    cases rv with
    | @lst a vs _ hf hr =>
      refine ⟨a, vs, rfl, .inl (.inr hf), k _ _ _ _ φ1 k1 m1 fun H2 k2 => ?_⟩
      have hs := sq_still (K := X.K) (T := T) (.inr hf) H2 k2
      refine ⟨fun i d hd => ?_, ⟨vs, hs, by rw [enD_len, hr.length]; exact Nat.le_refl _⟩⟩
      obtain ⟨d', h1, rfl⟩ := enD_at 0 i xs d hd
      obtain ⟨v, hv, rv⟩ := hr.get h1
      refine ⟨⟨vs, v, hs, hv⟩, fun x H3 y => ?_⟩
      obtain ⟨T0, x0, rfl, hT, rfl, y⟩ := y
      have e := y vs hs
      rw [hv] at e; cases e
      have kn : Kp T H2 (upd H2 T0 (.tup [.int (i : Nat), v])) := .new hT
      refine ⟨fun a u q => by rw [upd_ne (ne_of_none q hT)]; exact q, .tup upd_same ?_⟩
      rw [Nat.zero_add]
      exact .cons (.int _) (.cons ((rv.mono k2).mono kn) .nil)
  · exact φ1.elim
/-! ### for -/
def forRun (dg : DG) (db : DS) (E : DEnds) : List D → Gam → Mem → Prop
  | [], Γ, M => E.nx Γ M
  | x :: xs, Γ, M => dg x Γ M fun Γ2 M2 => db { nx := forRun dg db E xs, rt := E.rt, bk := E.nx, ct := forRun dg db E xs } Γ2 M2
def dsFor (di : DI) (dg : DG) (db : DS) : DS := fun E Γ M => di Γ M fun xs M1 => forRun dg db E xs Γ M1
theorem xs_for {vs : List Nat} {tg iter : Expr} {body : List Stmt} {di : DI} {g : TG} {dg : DG} {db : DS} (hp : PassesOwn (model X.prog X.w) X.A X.env X.xe) (hc : X.calm = true) (hi : XI X T tg iter di) (hg : PG X tg g) (tg_ : TgOk X.K T vs g dg) (hb : XSs X T body db)
    (hs : ∀ x, foldedSetIterable iter X.env x = pure x := by intro _; rfl) : XS X T (.For tg iter body [] pos) (dsFor di dg db) := ps_weak (ps_for hp hc hi hg hb hs) fun Dn σ H q => by
  obtain ⟨Γ, M, E, env, h, hn, hbk, hct, hr⟩ := q
  refine ⟨Γ, M, _, env, h, fun J xs H1 M1 φ k m w => ?_⟩
  refine ⟨fun i m σ' H' => ∃ Γ' M', EnvOk X.K T Γ' M' σ' H' ∧ Kp T H1 H' ∧ i ≤ xs.length ∧ m = xs.length - i ∧ forRun dg db E (xs.drop i) Γ' M', ⟨xs.length, Γ, M1, env.go k m, .refl, Nat.zero_le _, by simp, by simpa using φ⟩, ?_⟩
  rintro i mm σ' H' ⟨Γ', M', env', k', hi', rfl, φ'⟩
  obtain ⟨wi, ws⟩ := w H' k'
  by_cases hlt : i < xs.length
  · right
    have hx : xs[i]? = some xs[i] := by simp [hlt]
    obtain ⟨go, yld⟩ := wi i _ hx
    refine ⟨go, fun σ2 H2 => ∃ Γ2 M2, EnvOk X.K T Γ2 M2 σ2 H2 ∧ Kp T H1 H2 ∧ forRun dg db E (xs.drop (i + 1)) Γ2 M2, fun σ2 H2 n2 => ?_, fun x H2 y => ?_⟩
    · obtain ⟨Γ2, M2, e2, k2, f2⟩ := n2
      exact ⟨xs.length - (i + 1), by omega, Γ2, M2, e2, k2, hlt, rfl, f2⟩
    · obtain ⟨ex, rx⟩ := yld x H2 y
      have kx : Kp T H' H2 := .ext ex
      rw [List.drop_eq_getElem_cons hlt] at φ'
      refine tg_.run _ _ _ _ _ _ _ _ (env'.go kx (env'.mem.ext ex)) rx φ' fun σ3 Γ3 φ3 e3 _ => ?_
      refine ⟨Γ3, M', _, e3, φ3, fun σ4 H4 Γ4 M4 φ4 k4 e4 => ⟨Γ4, M4, e4, (k'.trans kx).trans k4, φ4⟩, fun σ4 H4 Γ4 M4 φ4 k4 e4 => hn _ _ _ _ φ4 (k.trans ((k'.trans kx).trans k4)) e4, fun σ4 H4 Γ4 M4 φ4 k4 e4 => ⟨Γ4, M4, e4, (k'.trans kx).trans k4, φ4⟩, hr.from (k.trans (k'.trans kx))⟩
  · left
    have e : i = xs.length := by omega
    subst e
    rw [List.drop_length] at φ'
    exact ⟨ws, hn _ _ _ _ φ' (k.trans k') env'⟩
/-! ### while -/
def dsWhile (dt : DT) (db : DS) : DS := fun E Γ M => ∃ W : Nat → Gam → Mem → Prop, (∃ m, W m Γ M) ∧ ∀ m Γ M, W m Γ M → dt Γ M fun b M1 =>
  if b = true then db { nx := fun Γ' M' => ∃ m', m' < m ∧ W m' Γ' M', rt := E.rt, bk := E.nx, ct := fun Γ' M' => ∃ m', m' < m ∧ W m' Γ' M' } Γ M1 else E.nx Γ M1
theorem xs_while {c : Expr} {body : List Stmt} {dt : DT} {db : DS} (hp : PassesOwn (model X.prog X.w) X.A X.env X.xe) (hc : XT X T c dt) (hb : XSs X T body db) : XS X T (.While c body [] pos) (dsWhile dt db) := ps_weak (ps_while hp hc hb) fun Dn σ H q => by
  obtain ⟨Γ, M, E, env, ⟨W, ⟨m0, w0⟩, h⟩, hn, hbk, hct, hr⟩ := q
  refine ⟨fun m σ' H' => ∃ Γ' M', EnvOk X.K T Γ' M' σ' H' ∧ Kp T H H' ∧ W m Γ' M', ⟨m0, Γ, M, env, .refl, w0⟩, ?_⟩
  rintro m σ' H' ⟨Γ', M', env', k', w'⟩
  refine ⟨Γ', M', _, env', h m Γ' M' w', fun b H1 M1 φ k m1 => ?_⟩
  cases b with
  | true =>
    refine ⟨fun σ2 H2 => ∃ m', m' < m ∧ ∃ Γ2 M2, EnvOk X.K T Γ2 M2 σ2 H2 ∧ Kp T H H2 ∧ W m' Γ2 M2, fun σ2 H2 ⟨m', l, z⟩ => ⟨m', l, z⟩, ?_⟩
    refine ⟨Γ', M1, _, env'.go k m1, φ, fun σ4 H4 Γ4 M4 φ4 k4 e4 => ?_, fun σ4 H4 Γ4 M4 φ4 k4 e4 => hn _ _ _ _ φ4 ((k'.trans k).trans k4) e4, fun σ4 H4 Γ4 M4 φ4 k4 e4 => ?_, hr.from (k'.trans k)⟩
    · obtain ⟨m', l, w4⟩ := φ4
      exact ⟨m', l, Γ4, M4, e4, (k'.trans k).trans k4, w4⟩
    · obtain ⟨m', l, w4⟩ := φ4
      exact ⟨m', l, Γ4, M4, e4, (k'.trans k).trans k4, w4⟩
  | false => exact hn _ _ _ _ φ (k'.trans k) (env'.go k m1)
/-! ### comprehensions -/
def wipeG (Γ : Gam) : List Nat → Gam
  | [] => Γ
  | v :: vs => (wipeG Γ vs).set v none
theorem wipe_env {Γ : Gam} {M : Mem} {σ : Sg} {H : Hp} (e : EnvOk K T Γ M σ H) : ∀ vs : List Nat, EnvOk K T (wipeG Γ vs) M (wipe σ vs) H
  | [] => e
  | v :: vs => (wipe_env e vs).un v
def compRun (p : Addr) (Γw : Gam) (dg : DG) (dt : DT) (de : DE) (Φ : List D → Mem → Prop) : List D → List D → Mem → Prop
  | [], acc, M => M p = some (.lst acc) ∧ Φ acc M
  | x :: xs, acc, M => dg x Γw M fun Γ2 M2 => dt Γ2 M2 fun b M3 =>
      if b = true then de Γ2 M3 fun d M4 => M4 p = some (.lst acc) ∧ acc.length < sizeLine ∧ compRun p Γw dg dt de Φ xs (acc ++ [d]) (M4.set p (.lst (acc ++ [d])))
      else compRun p Γw dg dt de Φ xs acc M3
/-- the new list at p behind the comprehension: Φ p items store -/
def dLcP (vs : List Nat) (di : DI) (dg : DG) (dt : DT) (de : DE) (Γ : Gam) (M : Mem) (Φ : Addr → List D → Mem → Prop) : Prop :=
  di Γ M fun xs M1 => ∀ p, M1 p = none → compRun p (wipeG Γ vs) dg dt de (Φ p) xs [] (M1.set p (.lst []))
theorem wipe_idem (σ : Sg) (vs : List Nat) : wipe (wipe σ vs) vs = wipe σ vs := by
  have key : ∀ (us : List Nat) (τ : Sg), (∀ i ∈ us, i ∈ vs) → wipe (wipe τ us) vs = wipe τ vs := by
    intro us
    induction us with
    | nil => intro τ _; rfl
    | cons u us ih =>
      intro τ h
      show wipe ((wipe τ us).set u none) vs = wipe τ vs
      rw [wipe_set _ _ _ _ (h u List.mem_cons_self)]
      exact ih τ fun i hi => h i (List.mem_cons_of_mem _ hi)
  exact key vs σ fun i hi => hi
theorem lift_lc {vs : List Nat} {di : DI} {g : TG} {dg : DG} {dt : DT} {de : DE} (tg_ : TgOk K T vs g dg) {Γ : Gam} {M : Mem} {Φ : Addr → List D → Mem → Prop} {σ : Sg} {H : Hp} {Q : VK} (env : EnvOk K T Γ M σ H) (h : dLcP vs di dg dt de Γ M Φ)
    (k : ∀ p ws acc H' M', Φ p acc M' → M' p = some (.lst acc) → Kp T H H' → MOk K H' M' → H' p = some (.lst ws) → Reps K H' ws acc → Q (.ref p) H') : tLc (liftI K T di) g (liftT K T dt) (lift K T de) vs σ H Q := by
  refine ⟨Γ, M, _, env, h, fun J xs H1 M1 φ k1 m1 w p np => ?_⟩
  have kp : Kp T H1 (upd H1 p (.lst [])) := .new np
  have mp : MOk K (upd H1 p (.lst [])) (M1.set p (.lst [])) := m1.put (m := .lst []) kp .nil
  have e0 : EnvOk K T Γ (M1.set p (.lst [])) σ (upd H1 p (.lst [])) := env.go (k1.trans kp) mp
  refine ⟨fun i m H' => ∃ M' acc, EnvOk K T Γ M' σ H' ∧ Kp T H1 H' ∧ i ≤ xs.length ∧ m = xs.length - i ∧ compRun p (wipeG Γ vs) dg dt de (Φ p) (xs.drop i) acc M', ⟨xs.length, _, [], e0, kp, Nat.zero_le _, by simp, by simpa using φ p (m1.free np)⟩, ?_⟩
  rintro i mm H' ⟨M', acc, env', k', hi', rfl, φ'⟩
  obtain ⟨wi, ws⟩ := w H' k'
  by_cases hlt : i < xs.length
  · right
    have hx : xs[i]? = some xs[i] := by simp [hlt]
    obtain ⟨go, yld⟩ := wi i _ hx
    refine ⟨go, fun H2 => ∃ M2 acc2, EnvOk K T Γ M2 σ H2 ∧ Kp T H1 H2 ∧ compRun p (wipeG Γ vs) dg dt de (Φ p) (xs.drop (i + 1)) acc2 M2, fun H2 n2 => ?_, fun x H2 y => ?_⟩
    · obtain ⟨M2, acc2, e2, k2, f2⟩ := n2
      exact ⟨xs.length - (i + 1), by omega, M2, acc2, e2, k2, hlt, rfl, f2⟩
    · obtain ⟨ex, rx⟩ := yld x H2 y
      have kx : Kp T H' H2 := .ext ex
      rw [List.drop_eq_getElem_cons hlt] at φ'
      have e2 := env'.go kx (env'.mem.ext ex)
      refine tg_.run _ _ _ _ _ _ _ _ (wipe_env e2 vs) rx φ' fun σ3 Γ3 φ3 e3 hw => ⟨by rw [hw]; exact wipe_idem _ _, ?_⟩
      refine ⟨Γ3, M', _, e3, φ3, fun b H4 M4 φ4 k4 m4 => ?_⟩
      cases b with
      | true =>
        refine ⟨Γ3, M4, _, e3.go k4 m4, φ4, fun v H5 d M5 φ5 k5 m5 r5 => ?_⟩
        obtain ⟨hp, hl, φ6⟩ := φ5
        obtain ⟨o, h1, h2⟩ := m5 _ _ hp
        cases o <;> first | exact h2.elim | skip
        rename_i us
        have kk : Kp T H5 (upd H5 p (.lst (us ++ [v]))) := Kp.mut h1 True.intro
        have h2' : Reps K H5 us acc := h2
        have m6 := m5.put (m := .lst (acc ++ [d])) kk (h2'.append (.cons r5 .nil))
        exact ⟨us, h1, by rw [h2'.length]; exact hl, _, _, (env'.go (kx.trans ((k4.trans k5).trans kk)) m6), k'.trans (kx.trans ((k4.trans k5).trans kk)), φ6⟩
      | false => exact ⟨M4, acc, env'.go (kx.trans k4) m4, k'.trans (kx.trans k4), φ4⟩
  · left
    have e : i = xs.length := by omega
    subst e
    rw [List.drop_length] at φ'
    obtain ⟨hp, φ⟩ := φ'
    obtain ⟨o, h1, h2⟩ := env'.mem _ _ hp
    cases o <;> first | exact h2.elim | skip
    exact ⟨ws, k p _ acc _ M' φ hp (k1.trans k') env'.mem h1 h2⟩
/-- frozen; to change -/
def dLc (vs : List Nat) (di : DI) (dg : DG) (dt : DT) (de : DE) : DE := fun Γ M Φ => dLcP vs di dg dt de Γ M fun p acc M' => Φ (.lst acc) (M'.del p)
def dLcM (vs : List Nat) (di : DI) (dg : DG) (dt : DT) (de : DE) : DE := fun Γ M Φ => dLcP vs di dg dt de Γ M fun p acc M' => Φ (.ptr p) M'
section
variable {elt tg iter : Expr} {ifs : List Expr} {scope : Scope} {own : List (Str × Nat)} {di : DI} {g : TG} {dg : DG} {dt : DT} {de : DE}
theorem xe_lc (hc : X.calm = true) (hN : X.N.Nodup) (hi : XI X T tg iter di) (ok : BlkOk X.N X.env.scope scope own) (tg_ : TgOk X.K T (own.map (·.2)) g dg)
    (hg : ∀ (s : Shared) (H : Hp) (C : Addr) (cl : List (Str × Addr)) (fp : List Addr), PG (X.blk s H scope (compEnvC scope cl C X.env) fp) tg g) (ht : ∀ (s : Shared) (H : Hp) (C : Addr) (cl : List (Str × Addr)) (fp : List Addr), PTs (X.blk s H scope (compEnvC scope cl C X.env) fp) ifs (liftT X.K T dt))
    (he : ∀ (s : Shared) (H : Hp) (C : Addr) (cl : List (Str × Addr)) (fp : List Addr), XE (X.blk s H scope (compEnvC scope cl C X.env) fp) T elt de) (hs : ∀ x, foldedSetIterable iter X.env x = pure x := by intro _; rfl) :
    XE X T (.ListComp elt [⟨tg, iter, ifs, 0⟩] scope pos) (dLc (own.map (·.2)) di dg dt de) := pe_weak (pe_fz (pe_lc hc hN hi ok hg ht he hs)) fun σ H Q q => by
  obtain ⟨Γ, M, Φ, env, h, k⟩ := q
  refine lift_lc tg_ env h fun p ws acc H' M' φ hp k' m' h1 h2 => .inl ⟨p, _, rfl, h1, True.intro, fun ob => ?_⟩
  have kk : Kp T H' (upd H' p (.frz ob (.lst ws))) := Kp.mut h1 True.intro
  exact k _ _ _ _ φ (k'.trans kk) (m'.drop kk) (.lst ⟨ob, upd_same⟩ (Reps.mono kk h2))
theorem xe_lcM (hc : X.calm = true) (hN : X.N.Nodup) (hi : XI X T tg iter di) (ok : BlkOk X.N X.env.scope scope own) (tg_ : TgOk X.K T (own.map (·.2)) g dg)
    (hg : ∀ (s : Shared) (H : Hp) (C : Addr) (cl : List (Str × Addr)) (fp : List Addr), PG (X.blk s H scope (compEnvC scope cl C X.env) fp) tg g) (ht : ∀ (s : Shared) (H : Hp) (C : Addr) (cl : List (Str × Addr)) (fp : List Addr), PTs (X.blk s H scope (compEnvC scope cl C X.env) fp) ifs (liftT X.K T dt))
    (he : ∀ (s : Shared) (H : Hp) (C : Addr) (cl : List (Str × Addr)) (fp : List Addr), XE (X.blk s H scope (compEnvC scope cl C X.env) fp) T elt de) (hs : ∀ x, foldedSetIterable iter X.env x = pure x := by intro _; rfl) :
    XE X T (.ListComp elt [⟨tg, iter, ifs, 0⟩] scope pos) (dLcM (own.map (·.2)) di dg dt de) := pe_weak (pe_lc hc hN hi ok hg ht he hs) fun σ H Q q => by
  obtain ⟨Γ, M, Φ, env, h, k⟩ := q
  exact lift_lc tg_ env h fun p ws acc H' M' φ hp k' m' h1 h2 => k _ _ _ _ φ k' m' (.ptr p)
def dtYes : DT := fun _ M Φ => Φ true M
theorem xts_nil : PTs X [] (liftT X.K T dtYes) := ⟨fun pins s σ H Q I q => by
  obtain ⟨Γ, M, Φ, env, h, k⟩ := q
  exact pts_nil.run pins s σ H Q I (k _ _ _ h .refl env.mem)⟩
theorem xts_one {c : Expr} {dt : DT} (h : XT X T c dt) : PTs X [c] (liftT X.K T dt) := pts_one h
/-- a changing thing may be frozen behind a statement -/
theorem ps_fz {st : Stmt} {t : TS} (h : PS X st t) : PS X st (fun Dn σ H => t { Dn with nx := fun σ' H' => (∃ p o, H' p = some o ∧ Chg o ∧ ∀ ob, Dn.nx σ' (upd H' p (.frz ob o))) ∨ Dn.nx σ' H' } σ H) := ⟨fun pins s σ H Dn I q => thn (h.run pins s σ H _ I q) fun f s' z => by
  cases f with
  | next =>
    obtain ⟨σ', H', I', q⟩ := z
    rcases q with ⟨p, o, h1, h2, h3⟩ | q
    · obtain ⟨ob, I2⟩ := inv_frzO I' h1 h2
      exact ⟨σ', _, I2, h3 ob⟩
    · exact ⟨σ', H', I', q⟩
  | brk => exact z
  | cont => exact z
  | ret u => exact z⟩
/-- y = [..], y a local -/
theorem xs_setLc {i : Nat} {y : Str} {py spos : Pos} (hc : X.calm = true) (hN : X.N.Nodup) (hy : X.N[i]? = some y) (hyl : X.env.scope.names.lookup y = some .local)
    (hsw : swapsWith (.ListComp elt [⟨tg, iter, ifs, 0⟩] scope pos) (some (.Name y py)) spos.line X.env = pure true) (hi : XI X T tg iter di) (ok : BlkOk X.N X.env.scope scope own) (tg_ : TgOk X.K T (own.map (·.2)) g dg)
    (hg : ∀ (s : Shared) (H : Hp) (C : Addr) (cl : List (Str × Addr)) (fp : List Addr), PG (X.blk s H scope (compEnvC scope cl C X.env) fp) tg g) (ht : ∀ (s : Shared) (H : Hp) (C : Addr) (cl : List (Str × Addr)) (fp : List Addr), PTs (X.blk s H scope (compEnvC scope cl C X.env) fp) ifs (liftT X.K T dt))
    (he : ∀ (s : Shared) (H : Hp) (C : Addr) (cl : List (Str × Addr)) (fp : List Addr), XE (X.blk s H scope (compEnvC scope cl C X.env) fp) T elt de) (hs : ∀ x, foldedSetIterable iter X.env x = pure x := by intro _; rfl) :
    XS X T (.Assign [.Name y py] (.ListComp elt [⟨tg, iter, ifs, 0⟩] scope pos) spos) (dsSet i (dLc (own.map (·.2)) di dg dt de)) := ps_weak (ps_fz (ps_setLc hc hN hy hyl hsw hi ok hg ht he hs)) fun Dn σ H q => by
  obtain ⟨Γ, M, E, env, h, hn, hb, hct, hr⟩ := q
  refine lift_lc tg_ env h fun p ws acc H' M' φ hp k' m' h1 h2 => .inl ⟨p, _, h1, True.intro, fun ob => ?_⟩
  have kk : Kp T H' (upd H' p (.frz ob (.lst ws))) := Kp.mut h1 True.intro
  exact hn _ _ _ _ φ (k'.trans kk) ((env.go (k'.trans kk) (m'.drop kk)).set i (.lst ⟨ob, upd_same⟩ (Reps.mono kk h2)))
theorem xs_setLcM {i : Nat} {y : Str} {py spos : Pos} (hc : X.calm = true) (hN : X.N.Nodup) (hy : X.N[i]? = some y) (hyl : X.env.scope.names.lookup y = some .local)
    (hsw : swapsWith (.ListComp elt [⟨tg, iter, ifs, 0⟩] scope pos) (some (.Name y py)) spos.line X.env = pure true) (hi : XI X T tg iter di) (ok : BlkOk X.N X.env.scope scope own) (tg_ : TgOk X.K T (own.map (·.2)) g dg)
    (hg : ∀ (s : Shared) (H : Hp) (C : Addr) (cl : List (Str × Addr)) (fp : List Addr), PG (X.blk s H scope (compEnvC scope cl C X.env) fp) tg g) (ht : ∀ (s : Shared) (H : Hp) (C : Addr) (cl : List (Str × Addr)) (fp : List Addr), PTs (X.blk s H scope (compEnvC scope cl C X.env) fp) ifs (liftT X.K T dt))
    (he : ∀ (s : Shared) (H : Hp) (C : Addr) (cl : List (Str × Addr)) (fp : List Addr), XE (X.blk s H scope (compEnvC scope cl C X.env) fp) T elt de) (hs : ∀ x, foldedSetIterable iter X.env x = pure x := by intro _; rfl) :
    XS X T (.Assign [.Name y py] (.ListComp elt [⟨tg, iter, ifs, 0⟩] scope pos) spos) (dsSet i (dLcM (own.map (·.2)) di dg dt de)) := ps_weak (ps_setLc hc hN hy hyl hsw hi ok hg ht he hs) fun Dn σ H q => by
  obtain ⟨Γ, M, E, env, h, hn, hb, hct, hr⟩ := q
  exact lift_lc tg_ env h fun p ws acc H' M' φ hp k' m' h1 h2 => hn _ _ _ _ φ k' ((env.go k' m').set i (.ptr p))
end
end
end DL

/-! DLg: methods, isinstance, dict displays, defs and their calls over data. -/
namespace DL
open PySem PySem.Spec PyProof.Rows L2
section
variable {X : Cx} {K : PySem.W.Frag} {T : List (Addr × Str)}
/-! ### methods of lists -/
def MRD (K : PySem.W.Frag) (T : List (Addr × Str)) (r : V → List V → Hp → VK → Prop) (f : D → List D → Mem → Cont → Prop) : Prop :=
  ∀ (x : V) (xs : List V) (d : D) (ds : List D) (H : Hp) (M : Mem) (Φ : Cont) (Q : VK), Rep K H x d → Reps K H xs ds → MOk K H M → f d ds M Φ → Goes K T H Φ Q → r x xs H Q
def dBM (f : D → List D → Mem → Cont → Prop) (do_ : DE) (da : DA) : DE := fun Γ M Φ => do_ Γ M fun d M1 => (lsR M1 d).isSome = true ∧ da Γ M1 fun ds M2 => f d ds M2 Φ
def dBM0 (f : D → List D → Mem → Cont → Prop) (do_ : DE) : DE := fun Γ M Φ => do_ Γ M fun d M1 => (lsR M1 d).isSome = true ∧ f d [] M1 Φ
section
variable {o e : Expr} {es : List Expr} {do_ : DE} {da : DA} {name : Str} {apos cpos : Pos} {id : String} {r : V → List V → Hp → VK → Prop} {f : D → List D → Mem → Cont → Prop}
theorem tyV_list {H : Hp} {M : Mem} {v : V} {d : D} (rv : Rep K H v d) (m : MOk K H M) (h : (lsR M d).isSome = true) : tyV K "list" v H := by
  obtain ⟨xs, h⟩ := Option.isSome_iff_exists.mp h
  obtain ⟨a, vs, rfl, h1, h2⟩ := lsR_rep rv m h
  exact .inl ⟨rfl, vs, .inl h1⟩
theorem xe_bm (slot : Slot "list" name id) (hty : typeOf (.builtin id) = pure (.type "method_descriptor")) (hm : MtR X id r) (hr : MRD X.K T r f) (ho : XE X T o do_) (ha : XA X T (e :: es) da)
    (hbase : attributeBase o name X.env (eval o X.env) = eval o X.env := by rfl)
    (hfew : ((backTo cpos (starEach (e :: es) X.env)).all (fun x => !x.1) && (backToKw cpos (keywordEach [] X.env)).all (fun x => x.1.isSome)
      && decide ((e :: es).length + ([] : List Keyword).length + (if ([] : List Keyword).isEmpty then 0 else 1) < 30)) = true := by rfl)
    (hline : (apos.endLine == cpos.line) = true := by rfl) (hs : starEach (e :: es) X.env = (false, eval e X.env) :: starEach es X.env := by rfl) (hplain : (backTo cpos (starEach es X.env)).any (·.1) = false := by rfl) :
    XE X T (.Call (.Attribute o name apos) (e :: es) [] cpos) (dBM f do_ da) := pe_weak (pe_bm PySem.F.plainAttrs_list slot hty hm ho ha hbase hfew hline hs hplain) fun σ H Q q => by
  obtain ⟨Γ, M, Φ, env, h, k⟩ := q
  refine ⟨Γ, M, _, env, h, fun v1 H1 d1 M1 φ1 k1 m1 r1 => ⟨tyV_list r1 m1 φ1.1, Γ, M1, _, env.go k1 m1, φ1.2, fun vs H2 ds M2 φ2 k2 m2 r2 => ?_⟩⟩
  exact hr _ _ _ _ _ _ _ _ (r1.mono k2) r2 m2 φ2 (k.from (k1.trans k2))
theorem xe_bm0 (slot : Slot "list" name id) (hty : typeOf (.builtin id) = pure (.type "method_descriptor")) (hm : MtR X id r) (hr : MRD X.K T r f) (ho : XE X T o do_)
    (hbase : attributeBase o name X.env (eval o X.env) = eval o X.env := by rfl) (hline : (apos.endLine == cpos.line) = true := by rfl) : XE X T (.Call (.Attribute o name apos) [] [] cpos) (dBM0 f do_) := pe_weak (pe_bm0 PySem.F.plainAttrs_list slot hty hm ho hbase hline) fun σ H Q q => by
  obtain ⟨Γ, M, Φ, env, h, k⟩ := q
  refine ⟨Γ, M, _, env, h, fun v1 H1 d1 M1 φ1 k1 m1 r1 => ⟨tyV_list r1 m1 φ1.1, ?_⟩⟩
  exact hr _ _ _ _ _ _ _ _ r1 .nil m1 φ1.2 (k.from k1)
end
theorem ptr_lst {H : Hp} {M : Mem} {p : Addr} {xs : List D} (m : MOk K H M) (h : M p = some (.lst xs)) : ∃ vs, H p = some (.lst vs) ∧ Reps K H vs xs := by
  obtain ⟨o, h1, h2⟩ := m _ _ h
  cases o <;> first | exact h2.elim | exact ⟨_, h1, h2⟩
/-- the list at p becomes another -/
theorem Goes.putL {H : Hp} {Φ : Cont} {Q : VK} {M : Mem} {p : Addr} {vs ws : List V} {ds : List D} {v : V} {d : D} (g : Goes K T H Φ Q) (m : MOk K H M) (h : H p = some (.lst vs)) (r : Reps K H ws ds) (rv : Rep K H v d) (φ : Φ d (M.set p (.lst ds))) : Q v (upd H p (.lst ws)) := by
  have kk : Kp T H (upd H p (.lst ws)) := Kp.mut h True.intro
  exact g _ _ _ _ φ kk (m.put (m := .lst ds) kk r) (rv.mono kk)
def fAppend : D → List D → Mem → Cont → Prop := fun d ds M Φ => ∃ p xs x, d = .ptr p ∧ ds = [x] ∧ M p = some (.lst xs) ∧ xs.length < sizeLine ∧ Φ .non (M.set p (.lst (xs ++ [x])))
theorem d_append : MRD K T rAppend fAppend := by
  intro x xs d ds H M Φ Q rx rs m q g
  obtain ⟨p, ys, y, rfl, rfl, hp, hl, φ⟩ := q
  cases rx
  obtain ⟨v, rfl, rv⟩ := reps1 rs
  obtain ⟨vs, h1, h2⟩ := ptr_lst m hp
  exact ⟨p, vs, v, rfl, rfl, h1, by rw [h2.length]; exact hl, g.putL m h1 (h2.append (.cons rv .nil)) .non φ⟩
theorem Reps.dropLast {H : Hp} : ∀ {vs : List V} {ds : List D}, Reps K H vs ds → Reps K H vs.dropLast ds.dropLast
  | _, _, .nil => .nil
  | _, _, .cons _ .nil => .nil
  | _, _, .cons r (.cons r2 t) => .cons r (Reps.dropLast (.cons r2 t))
def fPop : D → List D → Mem → Cont → Prop := fun d ds M Φ => ∃ p xs x, d = .ptr p ∧ ds = [] ∧ M p = some (.lst xs) ∧ xs[xs.length - 1]? = some x ∧ Φ x (M.set p (.lst xs.dropLast))
theorem d_pop : MRD K T rPop fPop := by
  intro x xs d ds H M Φ Q rx rs m q g
  obtain ⟨p, ys, y, rfl, rfl, hp, hl, φ⟩ := q
  cases rx
  cases rs
  obtain ⟨vs, h1, h2⟩ := ptr_lst m hp
  rw [← h2.length] at hl
  obtain ⟨v, h3, h4⟩ := h2.get hl
  exact ⟨p, vs, v, rfl, rfl, h1, h3, g.putL m h1 h2.dropLast h4 φ⟩
def fPopAt : D → List D → Mem → Cont → Prop := fun d ds M Φ => ∃ p xs i k x, d = .ptr p ∧ ds = [.int i] ∧ M p = some (.lst xs) ∧ -(2 ^ 63) ≤ i ∧ i < 2 ^ 63 ∧ seqIndex? i xs.length = some k ∧ xs[k]? = some x ∧ Φ x (M.set p (.lst (xs.eraseIdx k)))
theorem d_popAt : MRD K T rPopAt fPopAt := by
  intro x xs d ds H M Φ Q rx rs m q g
  obtain ⟨p, ys, i, k, y, rfl, rfl, hp, a1, a2, a3, hl, φ⟩ := q
  cases rx
  obtain ⟨v, rfl, rv⟩ := reps1 rs
  cases rv
  obtain ⟨vs, h1, h2⟩ := ptr_lst m hp
  obtain ⟨v, h3, h4⟩ := h2.get hl
  exact ⟨p, vs, i, k, v, rfl, rfl, h1, a1, a2, by rw [h2.length]; exact a3, h3, g.putL m h1 (h2.eraseIdx k) h4 φ⟩
def rExtG : V → List V → Hp → VK → Prop := fun x vs H Q => ∃ l b xs zs, x = .ref l ∧ vs = [.ref b] ∧ H l = some (.lst xs) ∧ Rd H b (.lst zs) ∧ xs.length + zs.length ≤ sizeLine ∧ Q .non (upd H l (.lst (xs ++ zs)))
theorem mt_extG : MtR X "list.extend" rExtG := by
  intro pins s σ H x vs v us Q I rx rv h
  obtain ⟨l, b, xs, zs, rfl, rfl, hH, hB, hz, q⟩ := h
  cases rx
  obtain ⟨u, rfl, ru⟩ := rv.one
  cases ru
  obtain ⟨z, its, n, r, hl, e⟩ := I.lstM hH
  obtain ⟨z2, its2, n2, r2, hl2, e2⟩ := rdL I hB
  have hsz : its.toArray.size + its2.toArray.size ≤ sizeLine := by rw [List.size_toArray, List.size_toArray]; omega
  have hlong : ¬ (!its.toArray.isEmpty && Builtin.List.listTooLong (its.toArray.size + its2.toArray.size)) = true := by
    rw [notLongL hsz, Bool.and_false]
    exact Bool.false_ne_true
  refine call_meets F.slot_list_extend ⟨_, e, rfl⟩ F.entry_list_extend (F.args_list_extend_2 _ _)
    (AutoSeq1.list_extend_list_list_0 l its.toArray n b its2.toArray n2 hlong (by rw [List.size_toArray]; omega) (by omega)) ⟨e, e2, ?_⟩
  refine ⟨.non, _, I.lset (its' := its ++ its2) hH e (by simp) (r.append r2) ?_, rfl, q⟩
  rw [List.length_append]
  omega
def fExtend : D → List D → Mem → Cont → Prop := fun d ds M Φ => ∃ p xs e zs, d = .ptr p ∧ ds = [e] ∧ M p = some (.lst xs) ∧ lsR M e = some zs ∧ xs.length + zs.length ≤ sizeLine ∧ Φ .non (M.set p (.lst (xs ++ zs)))
theorem d_extend : MRD K T rExtG fExtend := by
  intro x xs d ds H M Φ Q rx rs m q g
  obtain ⟨p, ys, e, zs, rfl, rfl, hp, hz, hl, φ⟩ := q
  cases rx
  obtain ⟨v, rfl, rv⟩ := reps1 rs
  obtain ⟨vs, h1, h2⟩ := ptr_lst m hp
  obtain ⟨b, ws, rfl, h3, h4⟩ := lsR_rep rv m hz
  exact ⟨p, b, vs, ws, rfl, rfl, h1, h3, by rw [h2.length, h4.length]; exact hl, g.putL m h1 (h2.append h4) .non φ⟩
section
variable {o e : Expr} {do_ de : DE} {apos cpos : Pos}
theorem xe_append (ho : XE X T o do_) (he : XE X T e de) (hbase : attributeBase o "append" X.env (eval o X.env) = eval o X.env := by rfl) (hline : (apos.endLine == cpos.line) = true := by rfl) (hs : starEach [e] X.env = (false, eval e X.env) :: starEach [] X.env := by rfl)
    (hfew : ((backTo cpos (starEach [e] X.env)).all (fun x => !x.1) && (backToKw cpos (keywordEach [] X.env)).all (fun x => x.1.isSome) && decide ([e].length + ([] : List Keyword).length + (if ([] : List Keyword).isEmpty then 0 else 1) < 30)) = true := by rfl) :
    XE X T (.Call (.Attribute o "append" apos) [e] [] cpos) (dBM fAppend do_ (daCons de daNil)) := xe_bm PySem.F.slot_list_append PySem.F.type_list_append mt_append d_append ho (xa_cons he xa_nil hs) hbase hfew hline hs
theorem xe_extend (ho : XE X T o do_) (he : XE X T e de) (hbase : attributeBase o "extend" X.env (eval o X.env) = eval o X.env := by rfl) (hline : (apos.endLine == cpos.line) = true := by rfl) (hs : starEach [e] X.env = (false, eval e X.env) :: starEach [] X.env := by rfl)
    (hfew : ((backTo cpos (starEach [e] X.env)).all (fun x => !x.1) && (backToKw cpos (keywordEach [] X.env)).all (fun x => x.1.isSome) && decide ([e].length + ([] : List Keyword).length + (if ([] : List Keyword).isEmpty then 0 else 1) < 30)) = true := by rfl) :
    XE X T (.Call (.Attribute o "extend" apos) [e] [] cpos) (dBM fExtend do_ (daCons de daNil)) := xe_bm PySem.F.slot_list_extend PySem.F.type_list_extend mt_extG d_extend ho (xa_cons he xa_nil hs) hbase hfew hline hs
theorem xe_pop (ho : XE X T o do_) (hbase : attributeBase o "pop" X.env (eval o X.env) = eval o X.env := by rfl) (hline : (apos.endLine == cpos.line) = true := by rfl) : XE X T (.Call (.Attribute o "pop" apos) [] [] cpos) (dBM0 fPop do_) :=
  xe_bm0 PySem.F.slot_list_pop PySem.F.type_list_pop mt_pop d_pop ho hbase hline
theorem xe_popAt (ho : XE X T o do_) (he : XE X T e de) (hbase : attributeBase o "pop" X.env (eval o X.env) = eval o X.env := by rfl) (hline : (apos.endLine == cpos.line) = true := by rfl) (hs : starEach [e] X.env = (false, eval e X.env) :: starEach [] X.env := by rfl)
    (hfew : ((backTo cpos (starEach [e] X.env)).all (fun x => !x.1) && (backToKw cpos (keywordEach [] X.env)).all (fun x => x.1.isSome) && decide ([e].length + ([] : List Keyword).length + (if ([] : List Keyword).isEmpty then 0 else 1) < 30)) = true := by rfl) :
    XE X T (.Call (.Attribute o "pop" apos) [e] [] cpos) (dBM fPopAt do_ (daCons de daNil)) := xe_bm PySem.F.slot_list_pop PySem.F.type_list_pop mt_popAt d_popAt ho (xa_cons he xa_nil hs) hbase hfew hline hs
end
/-! ### split, join -/
def dM1 (f : Str → D → Mem → Cont → Prop) (do_ de : DE) : DE := fun Γ M Φ => do_ Γ M fun d M1 => match d with
  | .str a => de Γ M1 fun e M2 => f a e M2 Φ
  | _ => False
def fSplit : Str → D → Mem → Cont → Prop := fun a e M Φ => match e with
  | .str b => (b.length == 0) = false ∧ a.length + 2 ≤ sizeLine ∧ Φ (.lst ((Txt.split a b).map .str)) M
  | _ => False
def fJoin : Str → D → Mem → Cont → Prop := fun a e M Φ => ∃ ys : List Str, sqD M e = some (ys.map .str) ∧ (ys.map (·.length)).sum + ys.length * a.length ≤ 16777216 ∧ Φ (.str (Txt.join a ys)) M
theorem reps_strs {H : Hp} : ∀ (ys : List Str), Reps K H (ys.map V.str) (ys.map D.str)
  | [] => .nil
  | y :: ys => .cons (.str y) (reps_strs ys)
theorem strs_rep {H : Hp} : ∀ {ys : List Str} {vs : List V}, Reps K H vs (ys.map D.str) → vs = ys.map V.str
  | [], _, r => by cases r; rfl
  | y :: ys, _, r => by
    rw [List.map_cons] at r
    cases r with
    | cons a t => cases a; rw [strs_rep t]; rfl
section
variable {o e : Expr} {do_ de : DE} {apos pos : Pos}
theorem xe_split (ho : XE X T o do_) (he : XE X T e de) (hs : starEach [e] X.env = [(false, eval e X.env)] := by rfl) (hbase : attributeBase o "split" X.env (eval o X.env) = eval o X.env := by rfl) (hline : (apos.endLine == pos.line) = true := by rfl) :
    XE X T (.Call (.Attribute o "split" apos) [e] [] pos) (dM1 fSplit do_ de) := pe_weak (pe_fz (pe_split ho he hs hbase hline)) fun σ H Q q => by
  obtain ⟨Γ, M, Φ, env, h, k⟩ := q
  refine ⟨Γ, M, _, env, h, fun v1 H1 d1 M1 φ1 k1 m1 r1 => ?_⟩
  cases d1 <;> first | exact φ1.elim | skip
  cases r1
  refine ⟨⟨_, rfl⟩, Γ, M1, _, env.go k1 m1, φ1, fun v2 H2 d2 M2 φ2 k2 m2 r2 => ?_⟩
  cases d2 <;> first | exact φ2.elim | skip
  cases r2
  exact ⟨_, _, rfl, rfl, φ2.1, φ2.2.1, fun p n => by
    have := (k.from (k1.trans k2)).newF (vs := (Txt.split _ _).map V.str) m2 n φ2.2.2 (reps_strs _)
    exact this⟩
theorem xe_join (ho : XE X T o do_) (he : XE X T e de) (hs : starEach [e] X.env = [(false, eval e X.env)] := by rfl) (hbase : attributeBase o "join" X.env (eval o X.env) = eval o X.env := by rfl) (hline : (apos.endLine == pos.line) = true := by rfl) :
    XE X T (.Call (.Attribute o "join" apos) [e] [] pos) (dM1 fJoin do_ de) := pe_weak (pe_join ho he hs hbase hline) fun σ H Q q => by
  obtain ⟨Γ, M, Φ, env, h, k⟩ := q
  refine ⟨Γ, M, _, env, h, fun v1 H1 d1 M1 φ1 k1 m1 r1 => ?_⟩
  cases d1 <;> first | exact φ1.elim | skip
  cases r1
  refine ⟨⟨_, rfl⟩, Γ, M1, _, env.go k1 m1, φ1, fun v2 H2 d2 M2 φ2 k2 m2 r2 => ?_⟩
  obtain ⟨ys, h1, h2, φ⟩ := φ2
  obtain ⟨a, vs, rfl, h3, h4⟩ := sqD_rep r2 m2 h1
  obtain rfl := strs_rep h4
  exact ⟨_, a, ys, rfl, rfl, h3, h2, (k.from (k1.trans k2)).now m2 φ (.str _)⟩
end
/-! ### isinstance with built-in types -/
def tyD (M : Mem) : D → Option String
  | .non => some "NoneType"
  | .bl _ => some "bool"
  | .int _ => some "int"
  | .str _ => some "str"
  | .tup _ => some "tuple"
  | .lst _ => some "list"
  | .dic _ => some "dict"
  | .ptr p => match M p with
    | some (.lst _) => some "list"
    | some (.dK _) => some "dict"
    | some (.dT _) => some "dict"
    | none => none
  | _ => none
theorem tyD_rep {H : Hp} {M : Mem} {v : V} {d : D} {t : String} (r : Rep K H v d) (m : MOk K H M) (h : tyD M d = some t) : TyX K H v (.type t) := by
  cases r with
  | non => cases h; exact .base .non
  | bl b => cases h; exact .base (.bl b)
  | int i => cases h; exact .base (.int i)
  | str x => cases h; exact .base (.str x)
  | tup a b => cases h; exact .base (.tup a)
  | lst a b => cases h; obtain ⟨o, a⟩ := a; exact .base (.frz a)
  | dic a b => cases h; obtain ⟨o, a⟩ := a; exact .fDict a
  | ptr p =>
    unfold tyD at h
    dsimp only at h
    split at h
    · rename_i xs hp; cases h; obtain ⟨o, h1, h2⟩ := m _ _ hp; cases o <;> first | exact h2.elim | exact .base (.lst h1)
    · rename_i xs hp; cases h; obtain ⟨o, h1, h2⟩ := m _ _ hp; cases o <;> first | exact h2.elim | exact .base (.dK h1)
    · rename_i xs hp; cases h; obtain ⟨o, h1, h2⟩ := m _ _ hp; cases o <;> first | exact h2.elim | exact .base (.dT h1)
    · cases h
  | ty n => cases h
  | exc a b => cases h
  | scr a b => cases h
def fIsi : List D → Mem → Cont → Prop := fun ds M Φ => match ds with
  | [d, .ty n] => ∃ t b, tyD M d = some t ∧ kitB t n = some b ∧ Φ (.bl b) M
  | [d, .tup [.ty n, .ty n']] => ∃ t b b', tyD M d = some t ∧ kitB t n = some b ∧ kitB t n' = some b' ∧ Φ (.bl (b || b')) M
  | _ => False
theorem d_isi : CRD K T (fun xs H Q => rIsi K xs H Q ∨ rIsiT K xs H Q) fIsi := by
  intro xs ds H M Φ Q r m q g
  unfold fIsi at q
  split at q
  · obtain ⟨t, b, h1, h2, φ⟩ := q
    obtain ⟨v, u, rfl, rv, ru⟩ := reps2 r
    cases ru
    exact .inl ⟨v, _, _, _, b, rfl, .ty _, tyD_rep rv m h1, kit_ty h2, g.now m φ (.bl _)⟩
  · obtain ⟨t, b, b', h1, h2, h3, φ⟩ := q
    obtain ⟨v, u, rfl, rv, ru⟩ := reps2 r
    cases ru with
    | tup ha hr =>
      obtain ⟨x, y, rfl, rx, ry⟩ := reps2 hr
      cases rx; cases ry
      refine .inr ⟨v, _, _, _, _, b || b', rfl, ha, .cons (.ty _) (.cons (.ty _) .nil), tyD_rep rv m h1, ?_, g.now m φ (.bl _)⟩
      exact kitAny_cons (kit_ty h2) (fun e => by
        subst e
        exact kitAny_cons (kit_ty h3) (fun e => by subst e; exact kitAny_nil) (fun e => by subst e; rfl)) (fun e => by subst e; rfl)
  · exact q.elim
theorem call_isiA : CallR X (.builtin "isinstance") (fun xs H Q => rIsi X.K xs H Q ∨ rIsiT X.K xs H Q) := call_isi.or call_isiT
theorem xe_ty {x : Str} {n : String} {pos : Pos} (hg : Gl X x) (hm : X.mg x = none) (hv : bootBuiltins x = some (.type n)) (hn : x ≠ "__name__" := by decide) (hd : (x == ("__debug__" : Str)) = false := by decide) : XE X T (.Name x pos) (dC (.ty n)) :=
  xe_c (pe_bltn (v := .ty n) hg hm hv rfl hn hd) fun _ => .ty n
/-- a class, a def, by its address; a constant of the module -/
theorem xe_ref {x : Str} {a : Addr} {pos : Pos} (hg : Gl X x) (hm : X.mg x = some (.ref a)) (hd : (x == ("__debug__" : Str)) = false := by decide) : XE X T (.Name x pos) (dC (.ptr a)) := xe_c (pe_glob (v := .ref a) hg hm rfl hd) fun _ => .ptr a
theorem xe_gint {x : Str} {i : Int} {t : Tok} {pos : Pos} (hg : Gl X x) (hm : X.mg x = some (.int i t)) (hd : (x == ("__debug__" : Str)) = false := by decide) : XE X T (.Name x pos) (dC (.int i)) := xe_c (pe_glob (v := .int i) hg hm ⟨t, rfl⟩ hd) fun _ => .int i
theorem xe_gstr {x z : Str} {t : Tok} {pos : Pos} (hg : Gl X x) (hm : X.mg x = some (.str z t)) (hd : (x == ("__debug__" : Str)) = false := by decide) : XE X T (.Name x pos) (dC (.str z)) := xe_c (pe_glob (v := .str z) hg hm ⟨t, rfl⟩ hd) fun _ => .str z
/-! ### {k: v, ..} -/
def dPairs : List (DE × DE) → Gam → Mem → (List (D × D) → Mem → Prop) → Prop
  | [], _, M, Φ => Φ [] M
  | (k, v) :: r, Γ, M, Φ => k Γ M fun a M1 => v Γ M1 fun b M2 => dPairs r Γ M2 fun ps M3 => Φ ((a, b) :: ps) M3
inductive Rep2 (K : PySem.W.Frag) (H : Hp) : List (V × V) → List (D × D) → Prop
  | nil : Rep2 K H [] []
  | cons {v u : V} {d e : D} {vs : List (V × V)} {ds : List (D × D)} : Rep K H v d → Rep K H u e → Rep2 K H vs ds → Rep2 K H ((v, u) :: vs) ((d, e) :: ds)
theorem Rep2.mono {H H' : Hp} (k : Kp T H H') : ∀ {vs : List (V × V)} {ds : List (D × D)}, Rep2 K H vs ds → Rep2 K H' vs ds
  | _, _, .nil => .nil
  | _, _, .cons a b t => .cons (a.mono k) (b.mono k) (Rep2.mono k t)
theorem lift_pairs : ∀ (trs : List (DE × DE)) {Γ : Gam} {M : Mem} {Φ : List (D × D) → Mem → Prop} {σ : Sg} {H : Hp} {Q : List (V × V) → Hp → Prop}, EnvOk K T Γ M σ H → dPairs trs Γ M Φ →
    (∀ ps H' ds M', Φ ds M' → Kp T H H' → MOk K H' M' → Rep2 K H' ps ds → Q ps H') → tPairs (trs.map fun p => (lift K T p.1, lift K T p.2)) σ H Q
  | [], _, _, _, _, _, _, env, h, k => k _ _ _ _ h .refl env.mem .nil
  | (a, b) :: trs, Γ, M, Φ, σ, H, Q, env, h, k => by
    refine ⟨Γ, M, _, env, h, fun v1 H1 d1 M1 φ1 k1 m1 r1 => ⟨Γ, M1, _, env.go k1 m1, φ1, fun v2 H2 d2 M2 φ2 k2 m2 r2 => ?_⟩⟩
    exact lift_pairs trs ((env.go k1 m1).go k2 m2) φ2 fun ps H3 ds M3 φ3 k3 m3 r3 => k _ _ _ _ φ3 ((k1.trans k2).trans k3) m3 (.cons ((r1.mono k2).mono k3) (r2.mono k3) r3)
def mergeD (kvs more : List (Key × D)) : List (Key × D) := more.foldl (fun acc kv => putD acc kv.1 kv.2) kvs
theorem merge_rep {H : Hp} : ∀ {ms : List (Key × D)} {more : List (Key × V)} {kvs : List (Key × V)} {ds : List (Key × D)}, RepK K H more ms → RepK K H kvs ds → RepK K H (mergeK kvs more) (mergeD ds ms)
  | [], _, _, _, a, h => by cases a; exact h
  | (k, d) :: ms, _, _, _, a, h => by
    cases a with
    | cons a b =>
      have := merge_rep b (repK_put (k := k) a h)
      exact this
theorem kD_inv {H : Hp} {v : V} {k : Key} (r : Rep K H v (kD k)) : v = kV k := by cases k <;> (cases r; rfl)
theorem rep2_kvs {H : Hp} : ∀ {kvs : List (Key × D)} {ps : List (V × V)}, Rep2 K H ps (kvs.map fun kv => (kD kv.1, kv.2)) → ∃ vs : List (Key × V), ps = vs.map (fun kv => (kV kv.1, kv.2)) ∧ RepK K H vs kvs
  | [], _, r => by cases r; exact ⟨[], rfl, .nil⟩
  | (k, d) :: kvs, _, r => by
    rw [List.map_cons] at r
    cases r with
    | @cons v u _ _ _ _ a b t =>
      obtain ⟨vs, rfl, h⟩ := rep2_kvs t
      obtain rfl := kD_inv a
      exact ⟨(k, u) :: vs, rfl, .cons b h⟩
/-- a written dict, to change; frozen -/
def dDictM (trs : List (DE × DE)) : DE := fun Γ M Φ => ∀ p, M p = none → dPairs trs Γ (M.set p (.dK [])) fun ps M1 => M1 p = some (.dK []) ∧ ∃ kvs : List (Key × D), ps = kvs.map (fun kv => (kD kv.1, kv.2)) ∧ kvs.length ≤ 15 ∧ Φ (.ptr p) (M1.set p (.dK (mergeD [] kvs)))
def dDict (trs : List (DE × DE)) : DE := fun Γ M Φ => ∀ p, M p = none → dPairs trs Γ (M.set p (.dK [])) fun ps M1 => M1 p = some (.dK []) ∧ ∃ kvs : List (Key × D), ps = kvs.map (fun kv => (kD kv.1, kv.2)) ∧ kvs.length ≤ 15 ∧ Φ (.dic (mergeD [] kvs)) (M1.del p)
abbrev XPs (X : Cx) (T : List (Addr × Str)) (pos : Pos) (ks : List (Option Expr)) (vs : List Expr) (trs : List (DE × DE)) : Prop := PPs X pos ks vs (trs.map fun p => (lift X.K T p.1, lift X.K T p.2))
theorem xps_nil {pos : Pos} : XPs X T pos [] [] [] := pps_nil
theorem xps_cons {pos : Pos} {k v : Expr} {ks : List (Option Expr)} {vs : List Expr} {dk dv : DE} {trs : List (DE × DE)} (hk : XE X T k dk) (hv : XE X T v dv) (hr : XPs X T pos ks vs trs) : XPs X T pos (some k :: ks) (v :: vs) ((dk, dv) :: trs) := pps_cons hk hv hr
theorem lift_dict {trs : List (DE × DE)} {Γ : Gam} {M : Mem} {σ : Sg} {H : Hp} {Q : VK} {Φ : Addr → List (Key × D) → Mem → Prop} (env : EnvOk K T Γ M σ H)
    (h : ∀ p, M p = none → dPairs trs Γ (M.set p (.dK [])) fun ps M1 => M1 p = some (.dK []) ∧ ∃ kvs : List (Key × D), ps = kvs.map (fun kv => (kD kv.1, kv.2)) ∧ kvs.length ≤ 15 ∧ Φ p kvs M1)
    (k : ∀ p vs kvs H' M', Φ p kvs M' → Kp T H H' → MOk K H' M' → H' p = some (.dK []) → RepK K H' (mergeK [] vs) (mergeD [] kvs) → Q (.ref p) (upd H' p (.dK (mergeK [] vs)))) : tDisp (trs.map fun p => (lift K T p.1, lift K T p.2)) σ H Q := by
  intro p np
  have kp : Kp T H (upd H p (.dK [])) := .new np
  have mp : MOk K (upd H p (.dK [])) (M.set p (.dK [])) := env.mem.put (m := .dK []) kp .nil
  refine lift_pairs trs (env.go kp mp) (h p (env.mem.free np)) fun ps H1 ds M1 φ k1 m1 r1 => ?_
  obtain ⟨hp, kvs, rfl, hl, φ⟩ := φ
  obtain ⟨vs, rfl, hk⟩ := rep2_kvs r1
  obtain ⟨o, h1, h2⟩ := m1 _ _ hp
  cases o <;> first | exact h2.elim | skip
  cases h2
  exact ⟨h1, vs, rfl, by rw [repK_len hk]; exact hl, k _ _ _ _ _ φ (kp.trans k1) m1 h1 (merge_rep hk .nil)⟩
section
variable {pos : Pos} {keys : List (Option Expr)} {values : List Expr} {trs : List (DE × DE)}
theorem xe_dictM (h : XPs X T pos keys values trs) (hall : keys.all (·.isSome) = true := by rfl) (hl : keys.length = values.length := by rfl) (h0 : keys ≠ [] := by intro z; cases z) (h15 : keys.length ≤ 15 := by decide) : XE X T (.Dict keys values pos) (dDictM trs) := pe_weak (pe_disp h hall hl h0 h15) fun σ H Q q => by
  obtain ⟨Γ, M, Φ, env, h, k⟩ := q
  refine lift_dict env h fun p vs kvs H' M' φ k' m' h1 h2 => ?_
  have kk : Kp T H' (upd H' p (.dK (mergeK [] vs))) := Kp.mut h1 True.intro
  exact k _ _ _ _ φ (k'.trans kk) (m'.put (m := .dK _) kk h2) (.ptr p)
theorem xe_dict (h : XPs X T pos keys values trs) (hall : keys.all (·.isSome) = true := by rfl) (hl : keys.length = values.length := by rfl) (h0 : keys ≠ [] := by intro z; cases z) (h15 : keys.length ≤ 15 := by decide) : XE X T (.Dict keys values pos) (dDict trs) := pe_weak (pe_fz (pe_disp h hall hl h0 h15)) fun σ H Q q => by
  obtain ⟨Γ, M, Φ, env, h, k⟩ := q
  refine lift_dict env h fun p vs kvs H' M' φ k' m' h1 h2 => .inl ⟨p, _, rfl, upd_same, True.intro, fun ob => ?_⟩
  rw [upd_upd]
  have kk : Kp T H' (upd H' p (.frz ob (.dK (mergeK [] vs)))) := Kp.mut h1 True.intro
  exact k _ _ _ _ φ (k'.trans kk) (m'.drop kk) (.dic ⟨ob, upd_same⟩ (RepK.mono kk h2))
end
end
/-! ### defs -/
abbrev FS := List D → Mem → Cont → Prop
def FSp (K : PySem.W.Frag) (T : List (Addr × Str)) (n : Nat) (fs : FS) : Sp := fun vs H Q _ => ∃ ds M Φ, vs.length = n ∧ Reps K H vs ds ∧ MOk K H M ∧ LamX.Tabs T H ∧ fs ds M Φ ∧ Goes K T H Φ Q
/-- the def that the module's x names keeps fs -/
structure Has (P : Program) (w : World) (K : PySem.W.Frag) (mg : Str → Option Value) (base : Heap) (T : List (Addr × Str)) (x : Str) (k n : Nat) (fs : FS) : Prop where
  len : ∀ ds M Φ, fs ds M Φ → ds.length = n
  ex : ∃ (f : Addr) (fd : FuncData) (ps : List Str), ps.length = n ∧ FnOk P w K mg base CX0 k f fd ps (FSp K T n fs) ∧ mg x = some (.ref f) ∧ PySem.W.keepIn K (.ref f) = true ∧ L2.Binds K fd ps []
theorem Has.mono {P : Program} {w : World} {K : PySem.W.Frag} {mg : Str → Option Value} {base : Heap} {T : List (Addr × Str)} {x : Str} {j k n : Nat} {fs : FS} (h : Has P w K mg base T x j n fs) (l : j ≤ k) : Has P w K mg base T x k n fs := by
  obtain ⟨len, f, fd, ps, a, b, c⟩ := h
  exact ⟨len, f, fd, ps, a, b.mono l, c⟩
theorem Has.imp {P : Program} {w : World} {K : PySem.W.Frag} {mg : Str → Option Value} {base : Heap} {T : List (Addr × Str)} {x : Str} {k n : Nat} {fs gs : FS} (h : Has P w K mg base T x k n fs) (l : ∀ ds M Φ, gs ds M Φ → fs ds M Φ) : Has P w K mg base T x k n gs := by
  obtain ⟨len, f, fd, ps, a, b, c⟩ := h
  exact ⟨fun ds M Φ q => len _ _ _ (l _ _ _ q), f, fd, ps, a, b.imp fun vs H Q E ⟨ds, M, Φ, h1, h2, h3, h4, h5, h6⟩ => ⟨ds, M, Φ, h1, h2, h3, h4, l _ _ _ h5, h6⟩, c⟩
def dCall (fs : FS) (da : DA) : DE := fun Γ M Φ => da Γ M fun ds M1 => fs ds M1 Φ
section
variable {X : Cx} {T : List (Addr × Str)} {x : Str} {k n : Nat} {fs : FS} {p pos : Pos} {e : Expr} {es : List Expr} {da : DA}
theorem xe_call (h : Has X.prog X.w X.K X.mg X.base T x k n fs) (hr : Room k X.A) (hg : Gl X x) (ha : XA X T (e :: es) da) (hdb : (x == ("__debug__" : Str)) = false := by decide)
    (he : starEach (e :: es) X.env = (false, eval e X.env) :: starEach es X.env := by rfl) (hpl : (backTo pos (starEach es X.env)).any (·.1) = false := by rfl) : XE X T (.Call (.Name x p) (e :: es) [] pos) (dCall fs da) := by
  obtain ⟨len, f, fd, ps, hn, F, hm, hk, hb⟩ := h
  refine pe_weak (pe_call F hr hg hm hk hb .nil pass0 ha hdb he hpl) fun σ H Q q => ?_
  obtain ⟨Γ, M, Φ, env, h, g⟩ := q
  refine ⟨Γ, M, _, env, h, fun vs H1 ds M1 φ1 k1 m1 r1 => ?_⟩
  show FSp X.K T n fs (vs ++ []) H1 Q E0
  rw [List.append_nil]
  exact ⟨ds, M1, Φ, by rw [r1.length]; exact len _ _ _ φ1, r1, m1, k1.tab env.tab, φ1, g.from k1⟩
/-- f(k = e) with the one parameter's name -/
theorem xe_callKw {kn : Str} {kp : Pos} {de : DE} (h : Has X.prog X.w X.K X.mg X.base T x k 1 fs) (hkb : ∀ (f : Addr) (fd : FuncData) (ps : List Str), X.mg x = some (.ref f) → FnOk X.prog X.w X.K X.mg X.base CX0 k f fd ps (FSp X.K T 1 fs) → ∀ (s : Shared) (w' : Value), X.K.In s.heap → BindsTo s fd ⟨[], [(kn, w')]⟩ (ps.zip [w']))
    (hr : Room k X.A) (hg : Gl X x) (ha : XE X T e de) (hall : (backToKw pos (keywordEach [⟨some kn, e, kp⟩] X.env)).all (·.1.isSome) = true := by rfl) (hks : (backToKw pos (keywordEach [⟨some kn, e, kp⟩] X.env)).filterMap (·.1) = [kn] := by rfl)
    (hdb : (x == ("__debug__" : Str)) = false := by decide) (hpl : ((backTo pos (starEach [] X.env)).any (·.1) || (backToKw pos (keywordEach [⟨some kn, e, kp⟩] X.env)).any (·.1.isNone)) = false := by rfl) :
    XE X T (.Call (.Name x p) [] [⟨some kn, e, kp⟩] pos) (dCall fs (daCons de daNil)) := by
  obtain ⟨len, f, fd, ps, hn, F, hm, hk, hb⟩ := h
  refine ⟨fun pins s σ H Q I q => ?_⟩
  obtain ⟨Γ, M, Φ, env, h, g⟩ := q
  refine wpAny_Call_Name_kw (ld_glob I hg hm ?_ hdb)
  refine PySem.W.callWith_KW0 (h₀ := X.base) I.ok.mod.kin hk hall ?_ hpl
  refine thn ((pk_cons (nm := some kn) (kpos := kp) ha pk_nil).run pos pins s σ H (fun zs H1 => ∃ v d M1, zs = [v] ∧ Rep X.K H1 v d ∧ MOk X.K H1 M1 ∧ Kp T H H1 ∧ fs [d] M1 Φ) I ⟨Γ, M, _, env, h, fun v1 H1 d1 M1 φ1 k1 m1 r1 => ⟨v1, d1, M1, rfl, r1, m1, k1, φ1⟩⟩) fun ws s2 ⟨zs, H2, I2, rz, q2⟩ => ⟨I2.kIn, ?_⟩
  obtain ⟨v, d, M1, rfl, r1, m1, k1, φ1⟩ := q2
  obtain ⟨w', rfl, rw'⟩ := vals1 rz
  rw [hks]
  have hsp : FSp X.K T 1 fs [v] H2 Q E0 := ⟨[d], M1, Φ, rfl, .cons r1 .nil, m1, k1.tab env.tab, φ1, g.from k1⟩
  refine wpAny_call (codeAny_mono (F.run X.A X.stack s2 H2 ⟨[], [(kn, w')]⟩ [w'] [v] Q E0 hr I2.env0 (hkb f fd ps hm F s2 w' I2.kIn) (.cons rw' .nil) hsp) fun r s' hq => ?_)
  cases r with
  | error e => exact (show False from hq).elim
  | ok fl =>
    cases fl with
    | ret u => exact I2.after hq
    | next => exact False.elim hq
    | brk => exact False.elim hq
    | cont => exact False.elim hq
end
def startG (N : List Str) (ds : List D) : Gam := ds.map some ++ List.replicate (N.length - ds.length) none
theorem start_env {K : PySem.W.Frag} {T : List (Addr × Str)} {N : List Str} {vs : List V} {ds : List D} {H : Hp} {M : Mem} (r : Reps K H vs ds) (m : MOk K H M) (t : LamX.Tabs T H) : EnvOk K T (startG N ds) M (L2.start N vs) H := by
  refine ⟨fun i d h => ?_, ?_, m, t⟩
  · unfold startG at h
    unfold L2.start
    by_cases hi : i < ds.length
    · rw [List.getElem?_append_left (by simpa using hi), List.getElem?_map] at h
      rw [List.getElem?_append_left (by rw [List.length_map, r.length]; exact hi), List.getElem?_map]
      cases e : ds[i]? with
      | none => rw [e] at h; cases h
      | some d' =>
        rw [e] at h
        cases h
        obtain ⟨v, h1, h2⟩ := r.get e
        exact ⟨v, by rw [h1]; rfl, h2⟩
    · rw [List.getElem?_append_right (by simpa using hi)] at h
      rw [List.getElem?_replicate] at h
      split at h <;> cases h
  · unfold startG L2.start
    simp [r.length]
/-- what a store keeps -/
def Sub (M M' : Mem) : Prop := ∀ a m, M a = some m → M' a = some m
theorem Sub.refl {M : Mem} : Sub M M := fun _ _ h => h
theorem Sub.trans {M M1 M2 : Mem} (a : Sub M M1) (b : Sub M1 M2) : Sub M M2 := fun c m h => b c m (a c m h)
theorem sub_set {M : Mem} {p : Addr} {o : MO} (h : M p = none) : Sub M (M.set p o) := fun a m q => by rw [Mem.set_ne (Mem.ne_of_none q h)]; exact q
/-- .. of a smaller store: what a def made for itself is forgotten at its end -/
def drp (Φ : Cont) : Cont := fun d M' => ∃ M, Sub M M' ∧ Φ d M
theorem Goes.drp {K : PySem.W.Frag} {T : List (Addr × Str)} {H : Hp} {Φ : Cont} {Q : VK} (g : Goes K T H Φ Q) : Goes K T H (drp Φ) Q := fun v H' d M' ⟨M, s, φ⟩ k m r => g v H' d M φ k (m.sub s) r
theorem okD {P : Program} {w : World} {K : PySem.W.Frag} {mg : Str → Option Value} {base : Heap} {T : List (Addr × Str)} {x qual : Str} {st : Stmt} {f : Addr} {fd : FuncData} {N ps : List Str} {k : Nat} {fs : FS} (F : Fun K x qual st f fd) (S : FnScope N ps (defScope st)) (hm : mg x = some (.ref f)) (hb : L2.Binds K fd ps [])
    (len : ∀ ds M Φ, fs ds M Φ → ds.length = ps.length)
    (body : ∀ (cdv : Value) (A : Around) (outer : List Env) (s : Shared) (H : Hp) (E : XK), Room k (A.deeper (envOfC qual (defScope st) s.heap.objs.size f cdv)) →
      ∃ dsb, XSs (cxOf CX0 P w K mg base N qual (defScope st) f cdv A outer s H E).nox T (defBody st) dsb ∧ ∀ ds M Φ, fs ds M Φ → dsb { nx := fun _ M' => drp Φ .non M', rt := drp Φ } (startG N ds) M) :
    Has P w K mg base T x (k + 1) ps.length fs := by
  refine ⟨len, f, fd, ps, rfl, F.ok S (fun vs H Q E h => ?_) (fun cdv A outer s H vs Q E hr h => ?_), hm, F.kp, hb⟩
  · obtain ⟨ds, M, Φ, h, _⟩ := h
    exact h
  · obtain ⟨ds, M, Φ, hl, r, m, t, h, g⟩ := h
    obtain ⟨dsb, hx, hd⟩ := body cdv A outer s H E hr
    refine ⟨_, hx, startG N ds, M, _, start_env r m t, hd ds M Φ h, fun σ' H' Γ' M' φ k' e' => ?_, fun _ _ _ _ φ => φ.elim, fun _ _ _ _ φ => φ.elim, g.drp⟩
    exact g.drp _ _ _ _ φ k' e'.mem .non
end DL

/-! DLh: walks of any sequence, pairs of names, lists to change. -/
namespace DL
open PySem PySem.Spec PyProof.Rows L2
section
variable {X : Cx} {K : PySem.W.Frag} {T : List (Addr × Str)} {pos : Pos}
/-- a list, a tuple, a text, the keys of a dict: by what comes -/
def itD : D → Option (List D)
  | .lst xs => some xs
  | .scr xs => some xs
  | .tup xs => some xs
  | .str x => some (x.cps.toList.map fun c => .str ⟨#[c]⟩)
  | .dic kvs => some (kvs.map fun kv => kD kv.1)
  | _ => none
def diAny (de : DE) : DI := fun Γ M Φ => de Γ M fun d M1 => ∃ xs, itD d = some xs ∧ Φ xs M1
theorem xi_any {tg l : Expr} {de : DE} (h : XE X T l de) : XI X T tg l (diAny de) := by
  refine ⟨fun pins s σ H R I q => ?_⟩
  obtain ⟨Γ, M, Φ, env, hd, k⟩ := q
  refine thn (h.run pins s σ H (fun v H1 => ∃ d M1, Rep X.K H1 v d ∧ MOk X.K H1 M1 ∧ Kp T H H1 ∧ ∃ xs, itD d = some xs ∧ Φ xs M1) I ⟨Γ, M, _, env, hd, fun v H1 d M1 φ1 k1 m1 r1 => ⟨d, M1, r1, m1, k1, φ1⟩⟩) fun v s1 ⟨x, H1, I1, r1, q1⟩ => ?_
  obtain ⟨d, M1, rd, m1, k1, xs, hx, φ⟩ := q1
  have list : ∀ {a : Addr} {vs : List V}, x = .ref a → (FzL X.K H1 a vs ∨ FzR H1 a vs) → Reps X.K H1 vs xs → wpAny (model X.prog X.w) X.A (pyIter v) (PIE X pins σ tg R) X.xe s1 := fun {a vs} e hf hr => by
    subst e
    cases r1
    obtain ⟨its, rv, pl, hz⟩ := I1.list (sq_still (T := T) hf H1 .refl)
    exact wpAny_pyIter_list pl.isList (pi_one (tk := s1.toks) I1 _ (turn_list a _) ⟨_, Heap.get?_push_size _ rfl, rfl, rfl⟩ (k _ _ _ _ φ k1 m1 (walk_list hf hr)))
  cases d with
  | lst ys => cases hx; cases rd with | lst ha ra => exact list rfl (.inr ha) ra
  | scr ys => cases hx; cases rd with | scr ha ra => exact list rfl (.inl ha) ra
  | tup ys =>
    cases hx
    cases rd with
    | @tup a vs _ ha ra =>
      cases r1
      obtain ⟨its, rv, pl, hz⟩ := I1.tuple (.of ha)
      exact wpAny_pyIter_tuple (show s1.heap.IsTuple a its.toArray from pl) (pi_one (tk := s1.toks) I1 _ (turn_tuple a _) ⟨_, Heap.get?_push_size _ rfl, rfl, rfl⟩ (k _ _ _ _ φ k1 m1 (walk_tup ha ra)))
  | str z =>
    cases hx
    cases rd
    obtain ⟨t, rfl⟩ := r1
    have w := k _ _ _ _ φ k1 m1 walk_str
    cases ha : z.cps.all (· < 128)
    · exact wpAny_pyIter_wide ha (pi_one (tk := s1.toks) I1 _ (turn_str _ z t "str_iterator" (.inr rfl)) ⟨_, Heap.get?_push_size _ rfl, rfl, rfl⟩ w)
    · exact wpAny_pyIter_ascii ha (pi_one (tk := s1.toks) I1 _ (turn_str _ z t "str_ascii_iterator" (.inl rfl)) ⟨_, Heap.get?_push_size _ rfl, rfl, rfl⟩ w)
  | dic ds =>
    cases hx
    cases rd with
    | dic ha ra =>
      obtain ⟨o, ha⟩ := ha
      cases r1
      obtain ⟨hs, hgd, hx, es, ep, vs, hdt, hsz, kv, hm⟩ := I1.frzK ha
      refine iter_keys hs hgd hx hdt (pi_one (tk := s1.toks) I1 _ (turn_keys _ hdt) ⟨_, Heap.get?_push_size _ rfl, rfl, ?_⟩ (k _ _ _ _ φ k1 m1 (walk_keys ha ra)))
      rw [hsz]
      rfl
  | _ => cases hx
/-! ### a, b = x, y; a, b = e -/
def dsPar (i j : Nat) (da : DA) : DS := fun E Γ M => da Γ M fun ds M1 => match ds with
  | [a, b] => E.nx ((Γ.set i (some a)).set j (some b)) M1
  | _ => False
theorem xs_par {i j : Nat} {x y : Str} {a b : Expr} {da : DA} {px py pt : Pos} {kt k2 pt2} (hc : X.calm = true) (hN : X.N.Nodup) (hi : X.N[i]? = some x) (hj : X.N[j]? = some y) (hij : i ≠ j)
    (hx : X.env.scope.names.lookup x = some .local) (hy : X.env.scope.names.lookup y = some .local) (ha : XA X T [a, b] da)
    (hw : swappedStores [.Tuple [.Name x px, .Name y py] kt pt] (.Tuple [a, b] k2 pt2) X.env = pure (some [x, y]))
    (hs : swapsWithSole [.Tuple [.Name x px, .Name y py] kt pt] (.Tuple [a, b] k2 pt2) pos.line X.env = pure false := by rfl) :
    XS X T (.Assign [.Tuple [.Name x px, .Name y py] kt pt] (.Tuple [a, b] k2 pt2) pos) (dsPar i j da) := ps_weak (ps_par (i := i) (j := j) hc hN hi hj hij hx hy ha hw hs) fun Dn σ H q => by
  obtain ⟨Γ, M, E, env, h, hn, hb, hct, hr⟩ := q
  refine ⟨Γ, M, _, env, h, fun vs H1 ds M1 φ k1 m1 r1 => ?_⟩
  split at φ
  · obtain ⟨v, u, rfl, rv, ru⟩ := reps2 r1
    exact ⟨v, u, rfl, hn _ _ _ _ φ k1 (((env.go k1 m1).set i rv).set j ru)⟩
  · exact φ.elim
def dsAsgP (i j : Nat) (de : DE) : DS := fun E Γ M => de Γ M fun d M1 => match d with
  | .tup [a, b] => E.nx ((Γ.set i (some a)).set j (some b)) M1
  | _ => False
theorem xs_asgP {i j : Nat} {x y : Str} {e : Expr} {de : DE} {px py pt : Pos} {kt} (hc : X.calm = true) (hN : X.N.Nodup) (hi : X.N[i]? = some x) (hj : X.N[j]? = some y) (he : XE X T e de)
    (hx : Loc X.env.scope x := by first | exact Or.inl rfl | exact Or.inr rfl) (hy : Loc X.env.scope y := by first | exact Or.inl rfl | exact Or.inr rfl)
    (hfx : X.fn x = true ∨ X.env.scope.names.lookup x = some .local := by first | exact .inl rfl | exact .inr rfl) (hfy : X.fn y = true ∨ X.env.scope.names.lookup y = some .local := by first | exact .inl rfl | exact .inr rfl)
    (hn : (assignEach [.Name x px, .Name y py] X.env).length = 2 := by rfl) (hst : (assignEach [.Name x px, .Name y py] X.env).findIdx? (·.1) = none := by rfl)
    (h1 : (assignEach [.Name x px, .Name y py] X.env).map (·.2) = assign (.Name x px) X.env :: (assignEach [.Name y py] X.env).map (·.2) := by rfl) (h2 : (assignEach [.Name y py] X.env).map (·.2) = assign (.Name y py) X.env :: (assignEach [] X.env).map (·.2) := by rfl)
    (hs : swapsWithSole [.Tuple [.Name x px, .Name y py] kt pt] e pos.line X.env = pure false := by rfl) (hw : swappedStores [.Tuple [.Name x px, .Name y py] kt pt] e X.env = pure none := by rfl)
    (h3 : (assignEach [.Tuple [.Name x px, .Name y py] kt pt] X.env).map (·.2) = [assign (.Tuple [.Name x px, .Name y py] kt pt) X.env] := by rfl) :
    XS X T (.Assign [.Tuple [.Name x px, .Name y py] kt pt] e pos) (dsAsgP i j de) :=
  ps_weak (ps_asg he (pg_tup hc (pgs_cons (pg_name (i := i) hN hi hx hfx) (pgs_cons (pg_name (i := j) hN hj hy hfy) pgs_nil h2) h1) hn hst) hs hw h3) fun Dn σ H q => by
  obtain ⟨Γ, M, E, env, h, hnx, hb, hct, hr⟩ := q
  refine ⟨Γ, M, _, env, h, fun v H1 d M1 φ k1 m1 r1 => ?_⟩
  split at φ
  · cases r1 with
    | tup ha ra =>
      obtain ⟨v, u, rfl, rv, ru⟩ := reps2 ra
      exact ⟨_, _, rfl, .of ha, rfl, _, _, rfl, _, _, rfl, rfl, hnx _ _ _ _ φ k1 (((env.go k1 m1).set i rv).set j ru)⟩
  · exact φ.elim
/-! ### constants of the module -/
theorem xe_gint' {x : Str} {i : Int} (hg : Gl X x) (hm : ∃ t, X.mg x = some (.int i t)) (hd : (x == ("__debug__" : Str)) = false := by decide) : XE X T (.Name x pos) (dC (.int i)) := by obtain ⟨t, hm⟩ := hm; exact xe_gint hg hm hd
theorem xe_gstr' {x z : Str} (hg : Gl X x) (hm : ∃ t, X.mg x = some (.str z t)) (hd : (x == ("__debug__" : Str)) = false := by decide) : XE X T (.Name x pos) (dC (.str z)) := by obtain ⟨t, hm⟩ := hm; exact xe_gstr hg hm hd
/-! ### if-else as a test -/
def dIfT (dt da db : DT) : DT := fun Γ M Ψ => dt Γ M fun b M1 => if b = true then da Γ M1 Ψ else db Γ M1 Ψ
theorem xt_if {c a b : Expr} {dt da db : DT} (hc : XT X T c dt) (ha : XT X T a da) (hb : XT X T b db) : XT X T (.IfExp c a b pos) (dIfT dt da db) := by
  refine ⟨fun pins s σ H Q I q => ?_⟩
  obtain ⟨Γ, M, Ψ, env, h, k⟩ := q
  refine isTrue_IfExp (thn (hc.run pins s σ H (fun b H1 => ∃ M1, EnvOk X.K T Γ M1 σ H1 ∧ Kp T H H1 ∧ (if b = true then da Γ M1 Ψ else db Γ M1 Ψ)) I ⟨Γ, M, _, env, h, fun b H1 M1 φ k1 m1 => ⟨M1, env.go k1 m1, k1, φ⟩⟩) fun v s1 hh => ?_)
  obtain ⟨H1, I1, M1, env1, k1, φ⟩ := hh
  cases v with
  | true => exact ha.run pins s1 σ H1 Q I1 ⟨Γ, M1, Ψ, env1, φ, fun b H' M' p k' m' => k b H' M' p (k1.trans k') m'⟩
  | false => exact hb.run pins s1 σ H1 Q I1 ⟨Γ, M1, Ψ, env1, φ, fun b H' M' p k' m' => k b H' M' p (k1.trans k') m'⟩
/-! ### lists to change -/
theorem slM {e : Expr} {lo hi : Option Expr} {de : DE} {dl dh : DO} {p2 : Pos} (he : XE X T e de) (hl : PO X lo (liftO X.K T dl)) (hh : PO X hi (liftO X.K T dh)) :
    XE X T (.Subscript e (.Slice lo hi none p2) pos) (fun Γ M Φ => de Γ M fun d M1 => dl Γ M1 fun lo M2 => dh Γ M2 fun hi M3 => ∃ xs, lsD M3 d = some xs ∧ ∀ p, M3 p = none → Φ (.ptr p) (M3.set p (.lst (cutD xs lo hi)))) :=
  pe_weak (pe_slice sl_list he hl hh) fun σ H Q q => by
  obtain ⟨Γ, M, Φ, env, h, k⟩ := q
  refine ⟨Γ, M, _, env, h, fun v1 H1 d1 M1 φ1 k1 m1 r1 => ⟨Γ, M1, _, env.go k1 m1, φ1, fun l H2 M2 φ2 k2 m2 => ⟨Γ, M2, _, (env.go k1 m1).go k2 m2, φ2, fun u H3 M3 φ3 k3 m3 => ?_⟩⟩⟩
  have g := k.from ((k1.trans k2).trans k3)
  obtain ⟨xs, h1, φ⟩ := φ3
  obtain ⟨a, vs, rfl, h4, h5⟩ := lsD_rep ((r1.mono k2).mono k3) m3 h1
  exact ⟨a, vs, rfl, h4, fun p n => g.newL m3 n φ (cut_reps h5 l u)⟩
def dSlM (de : DE) (dl dh : DO) : DE := fun Γ M Φ => de Γ M fun d M1 => dl Γ M1 fun lo M2 => dh Γ M2 fun hi M3 => ∃ xs, lsD M3 d = some xs ∧ ∀ p, M3 p = none → Φ (.ptr p) (M3.set p (.lst (cutD xs lo hi)))
theorem xe_sliceM {e : Expr} {lo hi : Option Expr} {de : DE} {dl dh : DO} {p2 : Pos} (he : XE X T e de) (hl : PO X lo (liftO X.K T dl)) (hh : PO X hi (liftO X.K T dh)) : XE X T (.Subscript e (.Slice lo hi none p2) pos) (dSlM de dl dh) := slM he hl hh
def fMulM : D → D → Mem → Cont → Prop := fun d e M Φ => match e with
  | .int k => ∃ xs, lsR M d = some xs ∧ -(2 ^ 63) ≤ k ∧ k < 2 ^ 63 ∧ xs.length * k.toNat ≤ sizeLine ∧ ∀ p, M p = none → Φ (.ptr p) (M.set p (.lst (List.replicate k.toNat xs).flatten))
  | _ => False
theorem d_mulM : R2D K T rRepG fMulM := by
  intro x y d e H M Φ Q rx ry m q g
  unfold fMulM at q
  split at q
  · obtain ⟨xs, h1, h2, h3, h4, φ⟩ := q
    cases ry
    obtain ⟨l, vs, rfl, a1, b1⟩ := lsR_rep rx m h1
    exact ⟨l, _, vs, rfl, rfl, a1, h2, h3, by rw [b1.length]; exact h4, fun p n => g.newL m n φ (b1.rep _)⟩
  · exact q.elim
theorem xe_mulM {a b : Expr} {da db : DE} (ha : XE X T a da) (hb : XE X T b db) : XE X T (.BinOp a .Mult b pos) (dBin fMulM da db) := xe_op op_repG d_mulM ha hb
def fAddM : D → D → Mem → Cont → Prop := fun d e M Φ => ∃ xs ys, lsR M d = some xs ∧ lsR M e = some ys ∧ xs.length + ys.length ≤ sizeLine ∧ ∀ p, M p = none → Φ (.ptr p) (M.set p (.lst (xs ++ ys)))
theorem d_addM : R2D K T rCatG fAddM := by
  intro x y d e H M Φ Q rx ry m q g
  obtain ⟨xs, ys, h1, h2, hz, φ⟩ := q
  obtain ⟨l, vs, rfl, a1, b1⟩ := lsR_rep rx m h1
  obtain ⟨l2, ws, rfl, a2, b2⟩ := lsR_rep ry m h2
  exact ⟨l, l2, vs, ws, rfl, rfl, a1, a2, by rw [b1.length, b2.length]; exact hz, fun p n => g.newL m n φ (b1.append b2)⟩
theorem xe_addM {a b : Expr} {da db : DE} (ha : XE X T a da) (hb : XE X T b db) : XE X T (.BinOp a .Add b pos) (dBin fAddM da db) := xe_op op_catG d_addM ha hb
/-- list(range(..)) -/
theorem rg_reps {H : Hp} (a b : Int) : Reps K H (rgV a b) (rgD a b) := by
  unfold rgV rgD
  generalize (b - a).toNat = n
  have key : ∀ l : List Nat, Reps K H (l.map fun i : Nat => V.int (a + (i : Nat))) (l.map fun i : Nat => D.int (a + (i : Nat))) := fun l => by
    induction l with
    | nil => exact .nil
    | cons x l ih => exact .cons (.int _) ih
  exact key _
def dListRg1 (da : DE) : DE := fun Γ M Φ => da Γ M fun d M1 => match d with
  | .int n => RgOk 0 n ∧ Φ (.lst (rgD 0 n)) M1
  | _ => False
def dTupRg1 (da : DE) : DE := fun Γ M Φ => da Γ M fun d M1 => match d with
  | .int n => RgOk 0 n ∧ Φ (.tup (rgD 0 n)) M1
  | _ => False
theorem xe_listRg1 {a : Expr} {da : DE} {p p2 pos2 : Pos} (hc : X.calm = true) (hg : Gl X "list") (hm : X.mg "list" = none) (hg2 : Gl X "range") (hm2 : X.mg "range" = none) (ha : XE X T a da) (na : starEach [a] X.env = (false, eval a X.env) :: starEach [] X.env := by rfl)
    (nb : starEach [.Call (.Name "range" p2) [a] [] pos2] X.env = (false, eval (.Call (.Name "range" p2) [a] [] pos2) X.env) :: starEach [] X.env := by rfl) : XE X T (.Call (.Name "list" p) [.Call (.Name "range" p2) [a] [] pos2] [] pos) (dListRg1 da) := pe_weak (pe_fz (pe_listRg hc hg hm (prg_1 hg2 hm2 ha na) nb)) fun σ H Q q => by
  obtain ⟨Γ, M, Φ, env, h, k⟩ := q
  refine ⟨Γ, M, _, env, h, fun v H1 d M1 φ k1 m1 r1 => ?_⟩
  cases d <;> first | exact φ.elim | skip
  cases r1
  exact ⟨_, rfl, φ.1, fun p n => (k.from k1).newF m1 n φ.2 (rg_reps _ _)⟩
theorem xe_tupRg1 {a : Expr} {da : DE} {p p2 pos2 : Pos} (hc : X.calm = true) (hg : Gl X "tuple") (hm : X.mg "tuple" = none) (hg2 : Gl X "range") (hm2 : X.mg "range" = none) (ha : XE X T a da) (na : starEach [a] X.env = (false, eval a X.env) :: starEach [] X.env := by rfl)
    (nb : starEach [.Call (.Name "range" p2) [a] [] pos2] X.env = (false, eval (.Call (.Name "range" p2) [a] [] pos2) X.env) :: starEach [] X.env := by rfl) : XE X T (.Call (.Name "tuple" p) [.Call (.Name "range" p2) [a] [] pos2] [] pos) (dTupRg1 da) := pe_weak (pe_tupRg hc hg hm (prg_1 hg2 hm2 ha na) nb) fun σ H Q q => by
  obtain ⟨Γ, M, Φ, env, h, k⟩ := q
  refine ⟨Γ, M, _, env, h, fun v H1 d M1 φ k1 m1 r1 => ?_⟩
  cases d <;> first | exact φ.elim | skip
  cases r1
  exact ⟨_, rfl, φ.1, fun p n => (k.from k1).newT m1 n φ.2 (rg_reps _ _)⟩
end
end DL

/-! DLs: the readings step by step. -/
namespace DL
open PySem PySem.Spec PyProof.Rows L2
section
variable {Γ : Gam} {M : Mem} {Φ : Cont} {Ψ : Bool → Mem → Prop} {Θ : List D → Mem → Prop} {E : DEnds} {d e : D} {i : Nat} {de da db dc : DE} {dt du : DT} {ds dr d1 d2 : DS} {aa : DA} {f f' : D → D → Mem → Cont → Prop} {fs : FS}
/-! ### structure -/
theorem i_var (h : Γ[i]? = some (some d)) (k : Φ d M) : dVar i Γ M Φ := by unfold dVar; rw [h]; exact k
theorem i_c (k : Φ d M) : dC d Γ M Φ := k
theorem i_bin (k : da Γ M fun d M1 => db Γ M1 fun e M2 => f d e M2 Φ) : dBin f da db Γ M Φ := k
theorem i_anil (k : Θ [] M) : daNil Γ M Θ := k
theorem i_acons (k : de Γ M fun d M1 => aa Γ M1 fun ds M2 => Θ (d :: ds) M2) : daCons de aa Γ M Θ := k
theorem i_cb {g : List D → Mem → Cont → Prop} (k : aa Γ M fun ds M1 => g ds M1 Φ) : dCB g aa Γ M Φ := k
theorem i_call (k : aa Γ M fun ds M1 => fs ds M1 Φ) : dCall fs aa Γ M Φ := k
theorem i_tup (k : aa Γ M fun ds M1 => ds.length ≤ sizeLine ∧ Φ (.tup ds) M1) : dTup aa Γ M Φ := k
theorem i_lst (k : aa Γ M fun ds M1 => ds.length ≤ sizeLine ∧ Φ (.lst ds) M1) : dLst aa Γ M Φ := k
theorem i_lstM (k : aa Γ M fun ds M1 => ds.length ≤ sizeLine ∧ ∀ p, M1 p = none → Φ (.ptr p) (M1.set p (.lst ds))) : dLstM aa Γ M Φ := k
theorem i_B (k : de Γ M fun d M1 => match d with
  | .bl b => Ψ b M1
  | _ => False) : dB de Γ M Ψ := k
theorem i_Bb {b : Bool} (k : Ψ b M) : (match (D.bl b) with
  | .bl b => Ψ b M
  | _ => False) := k
theorem i_notT (k : dt Γ M fun b M1 => Ψ (!b) M1) : dNotT dt Γ M Ψ := k
theorem i_andT (k : dt Γ M fun b M1 => if b = true then du Γ M1 Ψ else Ψ false M1) : dAndT dt du Γ M Ψ := k
theorem i_orT (k : dt Γ M fun b M1 => if b = true then Ψ true M1 else du Γ M1 Ψ) : dOrT dt du Γ M Ψ := k
theorem i_andV (k : da Γ M fun d M1 => match d with
  | .bl b => if b = true then db Γ M1 Φ else Φ (.bl false) M1
  | _ => False) : dAndV da db Γ M Φ := k
theorem i_orV (k : da Γ M fun d M1 => match d with
  | .bl b => if b = true then Φ (.bl true) M1 else db Γ M1 Φ
  | _ => False) : dOrV da db Γ M Φ := k
theorem i_notV (k : da Γ M fun d M1 => match d with
  | .bl b => Φ (.bl (!b)) M1
  | _ => False) : dNotV da Γ M Φ := k
theorem i_if (k : dt Γ M fun b M1 => if b = true then da Γ M1 Φ else db Γ M1 Φ) : dIf dt da db Γ M Φ := k
theorem i_ifT {dv : DT} (k : dt Γ M fun b M1 => if b = true then du Γ M1 Ψ else dv Γ M1 Ψ) : dIfT dt du dv Γ M Ψ := k
theorem i_chain (k : da Γ M fun x M1 => db Γ M1 fun y M2 => f x y M2 fun z M3 => match z with
  | .bl b => if b = true then dc Γ M3 fun w M4 => f' y w M4 Φ else Φ (.bl false) M3
  | _ => False) : dChain f f' da db dc Γ M Φ := k
theorem i_itT {A B : Prop} (k : A) : if true = true then A else B := by rw [if_pos rfl]; exact k
theorem i_itF {A B : Prop} (k : B) : if false = true then A else B := by rw [if_neg Bool.false_ne_true]; exact k
theorem i_itnT {A B : Prop} (k : B) : if (!true) = true then A else B := by rw [if_neg (by decide)]; exact k
theorem i_itnF {A B : Prop} (k : A) : if (!false) = true then A else B := by rw [if_pos (by decide)]; exact k
theorem i_itnB {b : Bool} {A B : Prop} (h1 : b = true → B) (h2 : b = false → A) : if (!b) = true then A else B := by
  cases b
  · exact i_itnF (h2 rfl)
  · exact i_itnT (h1 rfl)
theorem i_itND {p A B : Prop} [Decidable p] (h : p) (k : B) : if (!decide p) = true then A else B := by rw [decide_eq_true h]; exact i_itnT k
theorem i_itNF {p A B : Prop} [Decidable p] (h : ¬ p) (k : A) : if (!decide p) = true then A else B := by rw [decide_eq_false h]; exact i_itnF k
theorem i_itD {p A B : Prop} [Decidable p] (h1 : p → A) (h2 : ¬ p → B) : if decide p = true then A else B := by
  by_cases h : p
  · rw [decide_eq_true h]; exact i_itT (h1 h)
  · rw [decide_eq_false h]; exact i_itF (h2 h)
theorem i_itDT {p A B : Prop} [Decidable p] (h : p) (k : A) : if decide p = true then A else B := by rw [decide_eq_true h]; exact i_itT k
theorem i_itDF {p A B : Prop} [Decidable p] (h : ¬ p) (k : B) : if decide p = true then A else B := by rw [decide_eq_false h]; exact i_itF k
theorem i_itN {p A B : Prop} [Decidable p] (h1 : p → B) (h2 : ¬ p → A) : if (!decide p) = true then A else B := by
  by_cases h : p
  · rw [decide_eq_true h]; exact i_itF (h1 h)
  · rw [decide_eq_false h]; exact i_itT (h2 h)
theorem i_itB {b : Bool} {A B : Prop} (h1 : b = true → A) (h2 : b = false → B) : if b = true then A else B := by
  cases b
  · exact i_itF (h2 rfl)
  · exact i_itT (h1 rfl)
/-- the test's answer is another way to say c -/
theorem i_itE {b c : Bool} {A B : Prop} (e : b = c) (k : if c = true then A else B) : if b = true then A else B := by rw [e]; exact k
theorem i_szl {xs : List D} {A : Prop} (n : Nat) (e : xs.length = n) (h : n ≤ 100) (k : A) : xs.length ≤ sizeLine ∧ A := ⟨by rw [e, sizeLine_eq]; omega, k⟩
theorem i_TF {A : Prop} {b : Bool} (k : b = true → A) (h : b = false → False) : if b = true then A else False := by
  cases b
  · exact (h rfl).elim
  · exact i_itT (k rfl)
/-! ### statements -/
theorem i_drp {M' : Mem} (k : Φ d M) (h : Sub M M') : drp Φ d M' := ⟨M, h, k⟩
theorem i_drp0 (k : Φ d M) : drp Φ d M := ⟨M, .refl, k⟩
theorem i_seq (k : ds { E with nx := fun Γ' M' => dr E Γ' M' } Γ M) : dsSeq ds dr E Γ M := k
theorem i_cut (W : Gam → Mem → Prop) (h1 : ∀ F : Gam → Mem → Prop, (∀ Γ M, W Γ M → F Γ M) → ds { E with nx := F } Γ M) (h2 : ∀ Γ M, W Γ M → dr E Γ M) : dsSeq ds dr E Γ M := h1 _ h2
theorem i_nil (k : E.nx Γ M) : dsNil E Γ M := k
theorem i_expr (k : de Γ M fun _ M1 => E.nx Γ M1) : dsExpr de E Γ M := k
theorem i_ret (k : de Γ M E.rt) : dsRet de E Γ M := k
theorem i_ifs (k : dt Γ M fun b M1 => if b = true then d1 E Γ M1 else d2 E Γ M1) : dsIf dt d1 d2 E Γ M := k
theorem i_set (k : de Γ M fun d M1 => E.nx (Γ.set i (some d)) M1) : dsSet i de E Γ M := k
theorem i_par {j : Nat} (k : aa Γ M fun ds M1 => match ds with
  | [a, b] => E.nx ((Γ.set i (some a)).set j (some b)) M1
  | _ => False) : dsPar i j aa E Γ M := k
theorem i_asgP {j : Nat} (k : de Γ M fun d M1 => match d with
  | .tup [a, b] => E.nx ((Γ.set i (some a)).set j (some b)) M1
  | _ => False) : dsAsgP i j de E Γ M := k
theorem i_gName {Φ : Gam → Mem → Prop} (k : Φ (Γ.set i (some d)) M) : dgName i d Γ M Φ := k
theorem i_gPair {Φ : Gam → Mem → Prop} {j : Nat} {a b : D} (k : Φ ((Γ.set i (some a)).set j (some b)) M) : dgPair i j (.tup [a, b]) Γ M Φ := k
/-! ### arithmetic -/
theorem i_add {x y : Int} (k : Φ (.int (x + y)) M) : fAdd (.int x) (.int y) M Φ := k
theorem i_sub {x y : Int} (k : Φ (.int (x - y)) M) : fSub (.int x) (.int y) M Φ := k
theorem i_mul {x y : Int} (h : IntMulOk x y) (k : Φ (.int (x * y)) M) : fMul (.int x) (.int y) M Φ := ⟨h, k⟩
theorem i_mulL {x y : Int} (h1 : -(2 ^ 64) < x) (h2 : x < 2 ^ 64) (k : Φ (.int (x * y)) M) : fMul (.int x) (.int y) M Φ := ⟨CMul.ok (Or.inl ⟨h1, h2⟩), k⟩
theorem i_mulR {x y : Int} (h1 : -(2 ^ 64) < y) (h2 : y < 2 ^ 64) (k : Φ (.int (x * y)) M) : fMul (.int x) (.int y) M Φ := ⟨CMul.ok (Or.inr ⟨h1, h2⟩), k⟩
theorem i_fdivc {x y : Int} (h1 : 0 < y) (h2 : y < 4294967296) (k : Φ (.int (x / y)) M) : fFdiv (.int x) (.int y) M Φ := ⟨⟨h1, by
  have : y.natAbs.log2 < 32 := by
    rw [Nat.log2_lt (by omega)]; omega
  omega⟩, k⟩
theorem i_fdiv {x y : Int} (h : CDivW x y) (k : Φ (.int (x / y)) M) : fFdiv (.int x) (.int y) M Φ := ⟨h, k⟩
theorem i_mod {x y : Int} (h : 0 < y) (k : Φ (.int (x % y)) M) : fMod (.int x) (.int y) M Φ := ⟨h, k⟩
theorem i_pow {x y : Int} (h : CPow x y) (k : Φ (.int (x ^ y.toNat)) M) : fPow (.int x) (.int y) M Φ := ⟨h, k⟩
theorem i_adds {x y : Str} (h : x.length + y.length ≤ sizeLine) (k : Φ (.str (x ++ y)) M) : fAdd (.str x) (.str y) M Φ := ⟨h, k⟩
theorem i_addt {xs ys : List D} (h : xs.length + ys.length ≤ sizeLine) (k : Φ (.tup (xs ++ ys)) M) : fAdd (.tup xs) (.tup ys) M Φ := ⟨h, k⟩
theorem i_addl {xs ys : List D} (h : xs.length + ys.length ≤ sizeLine) (k : Φ (.lst (xs ++ ys)) M) : fAdd (.lst xs) (.lst ys) M Φ := ⟨xs, ys, rfl, rfl, h, k⟩
theorem i_mull {xs : List D} {y : Int} (h1 : -(2 ^ 63) ≤ y) (h2 : y < 2 ^ 63) (h : xs.length * y.toNat ≤ sizeLine) (k : Φ (.lst (List.replicate y.toNat xs).flatten) M) : fMul (.lst xs) (.int y) M Φ := ⟨xs, rfl, h1, h2, h, k⟩
theorem i_neg (k : da Γ M fun d M1 => match d with
  | .int i => Φ (.int (-i)) M1
  | _ => False) : dNeg da Γ M Φ := k
/-! ### comparisons -/
theorem i_cmp {p : Int → Int → Bool} {x y : Int} (k : Φ (.bl (p x y)) M) : fCmp p (.int x) (.int y) M Φ := k
theorem i_eqi {x y : Int} (k : Φ (.bl (decide (x = y))) M) : fEq (.int x) (.int y) M Φ := k
theorem i_eqs {x y : Str} (k : Φ (.bl (decide (x = y))) M) : fEq (.str x) (.str y) M Φ := k
theorem i_eqb {x y : Bool} (k : Φ (.bl (decide (x = y))) M) : fEq (.bl x) (.bl y) M Φ := k
theorem i_nei {x y : Int} (k : Φ (.bl (!decide (x = y))) M) : fNe (.int x) (.int y) M Φ := k
theorem i_nes {x y : Str} (k : Φ (.bl (!decide (x = y))) M) : fNe (.str x) (.str y) M Φ := k
theorem i_neb {x y : Bool} (k : Φ (.bl (!decide (x = y))) M) : fNe (.bl x) (.bl y) M Φ := k
theorem i_isN {x : D} (k : Φ (.bl (isNonD x)) M) : fIs x .non M Φ := by
  unfold fIs
  split
  · rename_i h; cases h
  · exact k
  · rename_i h1 h2; exact (h1 rfl).elim
theorem i_isB {x y : Bool} (k : Φ (.bl (decide (x = y))) M) : fIs (.bl x) (.bl y) M Φ := k
theorem i_isNotN {x : D} (k : Φ (.bl (!isNonD x)) M) : fIsNot x .non M Φ := by
  unfold fIsNot
  split
  · rename_i h; cases h
  · exact k
  · rename_i h1 h2; exact (h1 rfl).elim
theorem i_isNotB {x y : Bool} (k : Φ (.bl (!decide (x = y))) M) : fIsNot (.bl x) (.bl y) M Φ := k
theorem i_ins {c : Nat} {z : Str} (k : Φ (.bl (decide (c ∈ z.cps.toList))) M) : fIn (.str ⟨#[c]⟩) (.str z) M Φ := ⟨c, rfl, k⟩
theorem i_notIns {c : Nat} {z : Str} (k : Φ (.bl (!decide (c ∈ z.cps.toList))) M) : fNotIn (.str ⟨#[c]⟩) (.str z) M Φ := ⟨c, rfl, k⟩
theorem i_inq {xs : List D} (h1 : sqD M e = some xs) (h2 : flatD d = true) (h3 : xs.all flatD = true) (h4 : ∀ x z, d = .str x → e = .str z → False) (k : Φ (.bl (xs.any fun y => eqF y d)) M) : fIn d e M Φ := by
  unfold fIn
  split
  · exact (h4 _ _ rfl rfl).elim
  · exact ⟨xs, h1, h2, h3, k⟩
theorem i_notInq {xs : List D} (h1 : sqD M e = some xs) (h2 : flatD d = true) (h3 : xs.all flatD = true) (h4 : ∀ x z, d = .str x → e = .str z → False) (k : Φ (.bl (!xs.any fun y => eqF y d)) M) : fNotIn d e M Φ := by
  unfold fNotIn
  split
  · exact (h4 _ _ rfl rfl).elim
  · exact ⟨xs, h1, h2, h3, k⟩
/-- == of any data -/
theorem fEq_py {x y : PyData} (h1 : pyM M d = some x) (h2 : pyM M e = some y) (h3 : SeqAt.shaped x = true) (h4 : SeqAt.shaped y = true) (k : Φ (.bl (PyData.eqv x y)) M) : fEq d e M Φ := by
  unfold fEq
  split
  · cases h1; cases h2
    rename_i i j
    have q : PyData.eqv (.int i) (.int j) = decide (i = j) := by simp [PyData.eqv]; by_cases h : i = j <;> simp [h]
    rw [q] at k; exact k
  · cases h1; cases h2
    rename_i i j
    have q : PyData.eqv (.str i) (.str j) = decide (i = j) := by simp [PyData.eqv]; by_cases h : i = j <;> simp [h]
    rw [q] at k; exact k
  · cases h1; cases h2
    rename_i i j
    have q : PyData.eqv (.bool i) (.bool j) = decide (i = j) := by simp [PyData.eqv]; by_cases h : i = j <;> simp [h]
    rw [q] at k; exact k
  · exact ⟨x, y, h1, h2, h3, h4, k⟩
theorem fNe_py {x y : PyData} (h1 : pyM M d = some x) (h2 : pyM M e = some y) (h3 : SeqAt.shaped x = true) (h4 : SeqAt.shaped y = true) (k : Φ (.bl (!PyData.eqv x y)) M) : fNe d e M Φ := by
  unfold fNe
  split
  · cases h1; cases h2
    rename_i i j
    have q : PyData.eqv (.int i) (.int j) = decide (i = j) := by simp [PyData.eqv]; by_cases h : i = j <;> simp [h]
    rw [q] at k; exact k
  · cases h1; cases h2
    rename_i i j
    have q : PyData.eqv (.str i) (.str j) = decide (i = j) := by simp [PyData.eqv]; by_cases h : i = j <;> simp [h]
    rw [q] at k; exact k
  · cases h1; cases h2
    rename_i i j
    have q : PyData.eqv (.bool i) (.bool j) = decide (i = j) := by simp [PyData.eqv]; by_cases h : i = j <;> simp [h]
    rw [q] at k; exact k
  · exact ⟨x, y, h1, h2, h3, h4, k⟩
/-- xs != [] of a list that may change -/
theorem lsD_p {p : Addr} {xs : List D} (h : M p = some (.lst xs)) : lsD M (.ptr p) = some xs := by unfold lsD; dsimp only; rw [h]
theorem lsR_p {p : Addr} {xs : List D} (h : M p = some (.lst xs)) : lsR M (.ptr p) = some xs := by unfold lsR; dsimp only; rw [h]
theorem sqD_p {p : Addr} {xs : List D} (h : M p = some (.lst xs)) : sqD M (.ptr p) = some xs := by unfold sqD; dsimp only; exact lsD_p h
theorem pyM_p {p : Addr} {xs : List D} (h : M p = some (.lst xs)) : pyM M (.ptr p) = (D.pyAll xs).map .list := by unfold pyM; dsimp only; rw [h]
theorem py_ints : ∀ ns : List Int, D.pyAll (ns.map .int) = some (ns.map .int)
  | [] => rfl
  | n :: ns => by simp only [List.map_cons, D.pyAll, D.py, py_ints ns]; rfl
theorem canLay_ints : ∀ ns : List Int, PyData.canLayAll0 (ns.map .int) = true
  | [] => rfl
  | n :: ns => by simp only [List.map_cons, PyData.canLayAll0, PyData.canLay0, canLay_ints ns]; rfl
theorem depth_ints : ∀ ns : List Int, PyData.depthAll (ns.map .int) = 0
  | [] => rfl
  | n :: ns => by simp only [List.map_cons, PyData.depthAll, PyData.depth, depth_ints ns]; rfl
theorem shaped_ints (ns : List Int) : SeqAt.shaped (.list (ns.map .int)) = true := by
  unfold SeqAt.shaped
  simp only [PyData.canLay0, canLay_ints, PyData.depth, depth_ints]
  decide
theorem eqv_nil (xs : List PyData) : PyData.eqv (.list xs) (.list []) = xs.isEmpty := by cases xs <;> simp [PyData.eqv, PyData.eqvAll]
theorem i_neLn {p : Addr} {ns : List Int} (h : M p = some (.lst (ns.map .int))) (k : Φ (.bl (!ns.isEmpty)) M) : fNe (.ptr p) (.lst []) M Φ :=
  fNe_py (x := .list (ns.map .int)) (y := .list []) (by rw [pyM_p h, py_ints]; rfl) rfl (shaped_ints ns) (by decide +kernel) (by rw [eqv_nil, List.isEmpty_map]; exact k)
theorem i_neLF {ns : List Int} (k : Φ (.bl (!ns.isEmpty)) M) : fNe (.lst (ns.map .int)) (.lst []) M Φ :=
  fNe_py (x := .list (ns.map .int)) (y := .list []) (by show (D.pyAll _).map _ = _; rw [py_ints]; rfl) rfl (shaped_ints ns) (by decide +kernel) (by rw [eqv_nil, List.isEmpty_map]; exact k)
/-! ### items, slices -/
theorem i_ixt {xs : List D} {j : Int} {x : D} (h : atI xs j = some x) (k : Φ x M) : fIx (.tup xs) (.int j) M Φ := ⟨x, h, k⟩
theorem i_ixl {xs : List D} {j : Int} {x : D} (h : atI xs j = some x) (k : Φ x M) : fIx (.lst xs) (.int j) M Φ := ⟨xs, x, rfl, h, k⟩
theorem i_ixs {z : Str} {j : Int} {c : Nat} (h0 : z.length ≤ sizeLine) (h : atI z.cps.toList j = some c) (k : Φ (.str ⟨#[c]⟩) M) : fIx (.str z) (.int j) M Φ := ⟨c, h0, h, k⟩
theorem i_dget {p : Addr} {kvs : List (Key × D)} {key : Key} {x : D} (h1 : M p = some (.dK kvs)) (h2 : keyD e = some key) (h3 : valD kvs key = some x) (k : Φ x M) : fDGet (.ptr p) e M Φ := ⟨kvs, key, x, by unfold dKs; dsimp only; rw [h1], h2, h3, k⟩
theorem i_dgetF {kvs : List (Key × D)} {key : Key} {x : D} (h2 : keyD e = some key) (h3 : valD kvs key = some x) (k : Φ x M) : fDGet (.dic kvs) e M Φ := ⟨kvs, key, x, rfl, h2, h3, k⟩
theorem i_dput {dd di dv : DE} (k : dv Γ M fun v M1 => dd Γ M1 fun d M2 => di Γ M2 fun i M3 => ∃ p kvs key, d = .ptr p ∧ M3 p = some (.dK kvs) ∧ keyD i = some key ∧ kvs.length < sizeLine ∧ E.nx Γ (M3.set p (.dK (putD kvs key v)))) : dDPut dd di dv E Γ M := k
theorem i_sl {dl dh : DO} (k : de Γ M fun d M1 => dl Γ M1 fun lo M2 => dh Γ M2 fun hi M3 => fSl d lo hi M3 Φ) : dSl de dl dh Γ M Φ := k
theorem i_slM {dl dh : DO} (k : de Γ M fun d M1 => dl Γ M1 fun lo M2 => dh Γ M2 fun hi M3 => ∃ xs, lsD M3 d = some xs ∧ ∀ p, M3 p = none → Φ (.ptr p) (M3.set p (.lst (cutD xs lo hi)))) : dSlM de dl dh Γ M Φ := k
theorem i_oNo {Φ : Option Int → Mem → Prop} (k : Φ none M) : doNo Γ M Φ := k
theorem i_oAt {Φ : Option Int → Mem → Prop} (k : de Γ M fun d M1 => match d with
  | .int i => Φ (some i) M1
  | _ => False) : doAt de Γ M Φ := k
theorem i_sls {z : Str} {lo hi : Option Int} (h : z.length ≤ sizeLine) (k : Φ (.str (cutS z lo hi)) M) : fSl (.str z) lo hi M Φ := ⟨h, k⟩
theorem i_slt {xs : List D} {lo hi : Option Int} (k : Φ (.tup (cutD xs lo hi)) M) : fSl (.tup xs) lo hi M Φ := k
theorem i_sll {xs : List D} {lo hi : Option Int} (k : Φ (.lst (cutD xs lo hi)) M) : fSl (.lst xs) lo hi M Φ := ⟨xs, rfl, k⟩
theorem i_rev (k : de Γ M fun d M1 => ∃ xs, lsD M1 d = some xs ∧ Φ (.lst xs.reverse) M1) : dRev de Γ M Φ := k
theorem i_fz (k : de Γ M fun d M1 => match d with
  | .ptr p => match M1 p with
    | some (.lst xs) => Φ (.lst xs) (M1.del p)
    | some (.dK xs) => Φ (.dic xs) (M1.del p)
    | _ => False
  | _ => False) : dFz de Γ M Φ := k
theorem i_fzL {p : Addr} {xs : List D} {Φ2 : List (Key × D) → Prop} (h : M p = some (.lst xs)) (k : Φ (.lst xs) (M.del p)) : (match (D.ptr p) with
  | .ptr p => match M p with
    | some (.lst xs) => Φ (.lst xs) (M.del p)
    | some (.dK xs) => Φ (.dic xs) (M.del p)
    | _ => False
  | _ => False) := by dsimp only; rw [h]; exact k
/-! ### built-ins -/
theorem i_abs {x : Int} (k : Φ (.int (x.natAbs : Int)) M) : fAbs [.int x] M Φ := k
theorem i_max {x y : Int} (k : Φ (.int (max x y)) M) : fMax2 [.int x, .int y] M Φ := k
theorem i_min {x y : Int} (k : Φ (.int (min x y)) M) : fMin2 [.int x, .int y] M Φ := k
theorem i_int {x : Int} (k : Φ (.int x) M) : fInt [.int x] M Φ := k
theorem i_str {x : Int} (h : x.natAbs.log2 < 1920) (k : Φ (.str (Str.ofString (toString x))) M) : fStr [.int x] M Φ := ⟨h, k⟩
theorem i_lens {z : Str} (h : z.length ≤ sizeLine) (k : Φ (.int (z.length : Int)) M) : fLen [.str z] M Φ := ⟨h, k⟩
theorem i_lent {xs : List D} (k : Φ (.int (xs.length : Int)) M) : fLen [.tup xs] M Φ := ⟨xs, rfl, k⟩
theorem i_lenl {xs : List D} (k : Φ (.int (xs.length : Int)) M) : fLen [.lst xs] M Φ := ⟨xs, rfl, k⟩
theorem i_lenc {xs : List D} (k : Φ (.int (xs.length : Int)) M) : fLen [.scr xs] M Φ := ⟨xs, rfl, k⟩
theorem i_lenp {p : Addr} {xs : List D} (h : M p = some (.lst xs)) (k : Φ (.int (xs.length : Int)) M) : fLen [.ptr p] M Φ := ⟨xs, sqD_p h, k⟩
theorem i_tupt {xs : List D} (k : Φ (.tup xs) M) : fTuple [.tup xs] M Φ := k
theorem i_tupl {xs : List D} (k : Φ (.tup xs) M) : fTuple [.lst xs] M Φ := ⟨xs, rfl, k⟩
theorem i_tupp {p : Addr} {xs : List D} (h : M p = some (.lst xs)) (k : Φ (.tup xs) M) : fTuple [.ptr p] M Φ := ⟨xs, lsD_p h, k⟩
theorem i_lists {z : Str} (h : z.length ≤ sizeLine) (k : Φ (.lst (z.cps.toList.map fun c => .str ⟨#[c]⟩)) M) : fListA [.str z] M Φ := ⟨h, k⟩
theorem i_listl {xs : List D} (k : Φ (.lst xs) M) : fListA [.lst xs] M Φ := ⟨xs, rfl, k⟩
theorem i_listt {xs : List D} (k : Φ (.lst xs) M) : fListA [.tup xs] M Φ := ⟨xs, rfl, k⟩
theorem i_listp {p : Addr} {xs : List D} (h : M p = some (.lst xs)) (k : Φ (.lst xs) M) : fListA [.ptr p] M Φ := ⟨xs, sqD_p h, k⟩
theorem i_listM {xs : List D} (h : sqD M d = some xs) (k : ∀ p, M p = none → Φ (.ptr p) (M.set p (.lst xs))) : fListM [d] M Φ := ⟨xs, h, k⟩
theorem i_all {bs : List Bool} (h : lsD M d = some (bs.map D.bl)) (k : Φ (.bl (bs.all id)) M) : fAll [d] M Φ := ⟨bs, h, k⟩
theorem i_isi {n t : String} {b : Bool} (h1 : tyD M d = some t) (h2 : kitB t n = some b) (k : Φ (.bl b) M) : fIsi [d, .ty n] M Φ := ⟨t, b, h1, h2, k⟩
theorem i_isi2 {n n' t : String} {b b' : Bool} (h1 : tyD M d = some t) (h2 : kitB t n = some b) (h3 : kitB t n' = some b') (k : Φ (.bl (b || b')) M) : fIsi [d, .tup [.ty n, .ty n']] M Φ := ⟨t, b, b', h1, h2, h3, k⟩
/-! ### isinstance, case by case -/
def isiG (d : D) (n : String) (M : Mem) (Φ : Cont) : Prop := fIsi [d, .ty n] M Φ
theorem i_isiG {n : String} (k : isiG d n M Φ) : fIsi [d, .ty n] M Φ := k
theorem isi_non_int  (k : Φ (.bl false) M) : isiG (.non) "int" M Φ := ⟨"NoneType", false, rfl, by decide +kernel, k⟩
theorem isi_non_bool  (k : Φ (.bl false) M) : isiG (.non) "bool" M Φ := ⟨"NoneType", false, rfl, by decide +kernel, k⟩
theorem isi_non_str  (k : Φ (.bl false) M) : isiG (.non) "str" M Φ := ⟨"NoneType", false, rfl, by decide +kernel, k⟩
theorem isi_non_tuple  (k : Φ (.bl false) M) : isiG (.non) "tuple" M Φ := ⟨"NoneType", false, rfl, by decide +kernel, k⟩
theorem isi_non_list  (k : Φ (.bl false) M) : isiG (.non) "list" M Φ := ⟨"NoneType", false, rfl, by decide +kernel, k⟩
theorem isi_non_dict  (k : Φ (.bl false) M) : isiG (.non) "dict" M Φ := ⟨"NoneType", false, rfl, by decide +kernel, k⟩
theorem isi_bl_int {b : Bool} (k : Φ (.bl true) M) : isiG (.bl b) "int" M Φ := ⟨"bool", true, rfl, by decide +kernel, k⟩
theorem isi_bl_bool {b : Bool} (k : Φ (.bl true) M) : isiG (.bl b) "bool" M Φ := ⟨"bool", true, rfl, by decide +kernel, k⟩
theorem isi_bl_str {b : Bool} (k : Φ (.bl false) M) : isiG (.bl b) "str" M Φ := ⟨"bool", false, rfl, by decide +kernel, k⟩
theorem isi_bl_tuple {b : Bool} (k : Φ (.bl false) M) : isiG (.bl b) "tuple" M Φ := ⟨"bool", false, rfl, by decide +kernel, k⟩
theorem isi_bl_list {b : Bool} (k : Φ (.bl false) M) : isiG (.bl b) "list" M Φ := ⟨"bool", false, rfl, by decide +kernel, k⟩
theorem isi_bl_dict {b : Bool} (k : Φ (.bl false) M) : isiG (.bl b) "dict" M Φ := ⟨"bool", false, rfl, by decide +kernel, k⟩
theorem isi_int_int {i : Int} (k : Φ (.bl true) M) : isiG (.int i) "int" M Φ := ⟨"int", true, rfl, by decide +kernel, k⟩
theorem isi_int_bool {i : Int} (k : Φ (.bl false) M) : isiG (.int i) "bool" M Φ := ⟨"int", false, rfl, by decide +kernel, k⟩
theorem isi_int_str {i : Int} (k : Φ (.bl false) M) : isiG (.int i) "str" M Φ := ⟨"int", false, rfl, by decide +kernel, k⟩
theorem isi_int_tuple {i : Int} (k : Φ (.bl false) M) : isiG (.int i) "tuple" M Φ := ⟨"int", false, rfl, by decide +kernel, k⟩
theorem isi_int_list {i : Int} (k : Φ (.bl false) M) : isiG (.int i) "list" M Φ := ⟨"int", false, rfl, by decide +kernel, k⟩
theorem isi_int_dict {i : Int} (k : Φ (.bl false) M) : isiG (.int i) "dict" M Φ := ⟨"int", false, rfl, by decide +kernel, k⟩
theorem isi_str_int {x : Str} (k : Φ (.bl false) M) : isiG (.str x) "int" M Φ := ⟨"str", false, rfl, by decide +kernel, k⟩
theorem isi_str_bool {x : Str} (k : Φ (.bl false) M) : isiG (.str x) "bool" M Φ := ⟨"str", false, rfl, by decide +kernel, k⟩
theorem isi_str_str {x : Str} (k : Φ (.bl true) M) : isiG (.str x) "str" M Φ := ⟨"str", true, rfl, by decide +kernel, k⟩
theorem isi_str_tuple {x : Str} (k : Φ (.bl false) M) : isiG (.str x) "tuple" M Φ := ⟨"str", false, rfl, by decide +kernel, k⟩
theorem isi_str_list {x : Str} (k : Φ (.bl false) M) : isiG (.str x) "list" M Φ := ⟨"str", false, rfl, by decide +kernel, k⟩
theorem isi_str_dict {x : Str} (k : Φ (.bl false) M) : isiG (.str x) "dict" M Φ := ⟨"str", false, rfl, by decide +kernel, k⟩
theorem isi_tup_int {xs : List D} (k : Φ (.bl false) M) : isiG (.tup xs) "int" M Φ := ⟨"tuple", false, rfl, by decide +kernel, k⟩
theorem isi_tup_bool {xs : List D} (k : Φ (.bl false) M) : isiG (.tup xs) "bool" M Φ := ⟨"tuple", false, rfl, by decide +kernel, k⟩
theorem isi_tup_str {xs : List D} (k : Φ (.bl false) M) : isiG (.tup xs) "str" M Φ := ⟨"tuple", false, rfl, by decide +kernel, k⟩
theorem isi_tup_tuple {xs : List D} (k : Φ (.bl true) M) : isiG (.tup xs) "tuple" M Φ := ⟨"tuple", true, rfl, by decide +kernel, k⟩
theorem isi_tup_list {xs : List D} (k : Φ (.bl false) M) : isiG (.tup xs) "list" M Φ := ⟨"tuple", false, rfl, by decide +kernel, k⟩
theorem isi_tup_dict {xs : List D} (k : Φ (.bl false) M) : isiG (.tup xs) "dict" M Φ := ⟨"tuple", false, rfl, by decide +kernel, k⟩
theorem isi_lst_int {xs : List D} (k : Φ (.bl false) M) : isiG (.lst xs) "int" M Φ := ⟨"list", false, rfl, by decide +kernel, k⟩
theorem isi_lst_bool {xs : List D} (k : Φ (.bl false) M) : isiG (.lst xs) "bool" M Φ := ⟨"list", false, rfl, by decide +kernel, k⟩
theorem isi_lst_str {xs : List D} (k : Φ (.bl false) M) : isiG (.lst xs) "str" M Φ := ⟨"list", false, rfl, by decide +kernel, k⟩
theorem isi_lst_tuple {xs : List D} (k : Φ (.bl false) M) : isiG (.lst xs) "tuple" M Φ := ⟨"list", false, rfl, by decide +kernel, k⟩
theorem isi_lst_list {xs : List D} (k : Φ (.bl true) M) : isiG (.lst xs) "list" M Φ := ⟨"list", true, rfl, by decide +kernel, k⟩
theorem isi_lst_dict {xs : List D} (k : Φ (.bl false) M) : isiG (.lst xs) "dict" M Φ := ⟨"list", false, rfl, by decide +kernel, k⟩
theorem isi_dic_int {kvs : List (Key × D)} (k : Φ (.bl false) M) : isiG (.dic kvs) "int" M Φ := ⟨"dict", false, rfl, by decide +kernel, k⟩
theorem isi_dic_bool {kvs : List (Key × D)} (k : Φ (.bl false) M) : isiG (.dic kvs) "bool" M Φ := ⟨"dict", false, rfl, by decide +kernel, k⟩
theorem isi_dic_str {kvs : List (Key × D)} (k : Φ (.bl false) M) : isiG (.dic kvs) "str" M Φ := ⟨"dict", false, rfl, by decide +kernel, k⟩
theorem isi_dic_tuple {kvs : List (Key × D)} (k : Φ (.bl false) M) : isiG (.dic kvs) "tuple" M Φ := ⟨"dict", false, rfl, by decide +kernel, k⟩
theorem isi_dic_list {kvs : List (Key × D)} (k : Φ (.bl false) M) : isiG (.dic kvs) "list" M Φ := ⟨"dict", false, rfl, by decide +kernel, k⟩
theorem isi_dic_dict {kvs : List (Key × D)} (k : Φ (.bl true) M) : isiG (.dic kvs) "dict" M Φ := ⟨"dict", true, rfl, by decide +kernel, k⟩
/-! ### methods -/
theorem i_bm {g : D → List D → Mem → Cont → Prop} (k : de Γ M fun d M1 => (lsR M1 d).isSome = true ∧ aa Γ M1 fun ds M2 => g d ds M2 Φ) : dBM g de aa Γ M Φ := k
theorem i_bm0 {g : D → List D → Mem → Cont → Prop} (k : de Γ M fun d M1 => (lsR M1 d).isSome = true ∧ g d [] M1 Φ) : dBM0 g de Γ M Φ := k
theorem i_some {p : Addr} {xs : List D} {A : Prop} (h : M p = some (.lst xs)) (k : A) : (lsR M (.ptr p)).isSome = true ∧ A := ⟨by rw [lsR_p h]; rfl, k⟩
theorem i_append {p : Addr} {xs : List D} {x : D} (h : M p = some (.lst xs)) (hl : xs.length < sizeLine) (k : Φ .non (M.set p (.lst (xs ++ [x])))) : fAppend (.ptr p) [x] M Φ := ⟨p, xs, x, rfl, rfl, h, hl, k⟩
theorem i_pop {p : Addr} {xs : List D} {x : D} (h : M p = some (.lst xs)) (hl : xs[xs.length - 1]? = some x) (k : Φ x (M.set p (.lst xs.dropLast))) : fPop (.ptr p) [] M Φ := ⟨p, xs, x, rfl, rfl, h, hl, k⟩
theorem ixN_of {n j : Nat} (hj : j < n) : ixN n (j : Int) = some j := by
  unfold ixN
  rw [if_pos (by omega), if_pos (by omega)]
  simp
theorem i_popAt {p : Addr} {xs : List D} {x : D} {j : Nat} (h : M p = some (.lst xs)) (hj : j < xs.length) (hb : j < 2 ^ 63) (hx : xs[j]? = some x) (k : Φ x (M.set p (.lst (xs.eraseIdx j)))) : fPopAt (.ptr p) [.int (j : Int)] M Φ := by
  have := ixN_seq (ixN_of hj)
  exact ⟨p, xs, _, j, x, rfl, rfl, h, by omega, by omega, this.1, hx, k⟩
theorem i_extend {p : Addr} {xs zs : List D} (h : M p = some (.lst xs)) (hz : lsR M e = some zs) (hl : xs.length + zs.length ≤ sizeLine) (k : Φ .non (M.set p (.lst (xs ++ zs)))) : fExtend (.ptr p) [e] M Φ := ⟨p, xs, e, zs, rfl, rfl, h, hz, hl, k⟩
theorem i_m1 {g : Str → D → Mem → Cont → Prop} (k : da Γ M fun d M1 => match d with
  | .str a => db Γ M1 fun e M2 => g a e M2 Φ
  | _ => False) : dM1 g da db Γ M Φ := k
theorem i_split {a b : Str} (h1 : (b.length == 0) = false) (h2 : a.length + 2 ≤ sizeLine) (k : Φ (.lst ((Txt.split a b).map .str)) M) : fSplit a (.str b) M Φ := ⟨h1, h2, k⟩
theorem i_join {a : Str} {ys : List Str} (h1 : sqD M e = some (ys.map .str)) (h2 : (ys.map (·.length)).sum + ys.length * a.length ≤ 16777216) (k : Φ (.str (Txt.join a ys)) M) : fJoin a e M Φ := ⟨ys, h1, h2, k⟩
/-! ### loops -/
theorem i_for {di : DI} {dg : DG} (k : di Γ M fun xs M1 => forRun dg ds E xs Γ M1) : dsFor di dg ds E Γ M := k
theorem i_any (k : de Γ M fun d M1 => ∃ xs, itD d = some xs ∧ Θ xs M1) : diAny de Γ M Θ := k
theorem i_itl {xs : List D} {R : List D → Prop} (k : R xs) : ∃ ys, itD (.lst xs) = some ys ∧ R ys := ⟨xs, rfl, k⟩
theorem i_itt {xs : List D} {R : List D → Prop} (k : R xs) : ∃ ys, itD (.tup xs) = some ys ∧ R ys := ⟨xs, rfl, k⟩
theorem i_its {z : Str} {R : List D → Prop} (k : R (z.cps.toList.map fun c => .str ⟨#[c]⟩)) : ∃ ys, itD (.str z) = some ys ∧ R ys := ⟨_, rfl, k⟩
theorem i_itc {xs : List D} {R : List D → Prop} (k : R xs) : ∃ ys, itD (.scr xs) = some ys ∧ R ys := ⟨xs, rfl, k⟩
theorem i_rng1 (k : aa Γ M fun ds M1 => match ds with
  | [.int j] => -(2 ^ 62) ≤ j ∧ j < 2 ^ 62 ∧ Θ (rgD 0 j) M1
  | _ => False) : diRng1 aa Γ M Θ := k
theorem i_rng2 (k : aa Γ M fun ds M1 => match ds with
  | [.int i, .int j] => (-(2 ^ 62) ≤ i ∧ i < 2 ^ 62 ∧ -(2 ^ 62) ≤ j ∧ j < 2 ^ 62) ∧ Θ (rgD i j) M1
  | _ => False) : diRng2 aa Γ M Θ := k
/-- a loop by an invariant -/
theorem for_by {dg : DG} {xs : List D} (W : Nat → Gam → Mem → Prop) (h0 : W 0 Γ M) (hs : ∀ (i : Nat) (x : D) (Γ : Gam) (M : Mem) (F : Gam → Mem → Prop), xs[i]? = some x → W i Γ M → (∀ Γ' M', W (i + 1) Γ' M' → F Γ' M') → dg x Γ M fun Γ2 M2 => ds { nx := F, rt := E.rt, bk := E.nx, ct := F } Γ2 M2)
    (hd : ∀ Γ M, W xs.length Γ M → E.nx Γ M) : forRun dg ds E xs Γ M := by
  have key : ∀ (n i : Nat) (Γ : Gam) (M : Mem), i + n = xs.length → W i Γ M → forRun dg ds E (xs.drop i) Γ M := by
    intro n
    induction n with
    | zero =>
      intro i Γ M e w
      have e' : i = xs.length := by omega
      subst e'
      rw [List.drop_length]
      exact hd Γ M w
    | succ n ih =>
      intro i Γ M e w
      have hlt : i < xs.length := by omega
      rw [List.drop_eq_getElem_cons hlt]
      exact hs i xs[i] Γ M (forRun dg ds E (xs.drop (i + 1))) (by simp [hlt]) w fun Γ' M' w' => ih (i + 1) Γ' M' (by omega) w'
  have := key xs.length 0 Γ M (by omega) h0
  rw [List.drop_zero] at this
  exact this
theorem while_by {dt : DT} (W : Nat → Gam → Mem → Prop) {m : Nat} (h0 : W m Γ M) (hs : ∀ m Γ M, W m Γ M → dt Γ M fun b M1 =>
    if b = true then ds { nx := fun Γ' M' => ∃ m', m' < m ∧ W m' Γ' M', rt := E.rt, bk := E.nx, ct := fun Γ' M' => ∃ m', m' < m ∧ W m' Γ' M' } Γ M1 else E.nx Γ M1) : dsWhile dt ds E Γ M := ⟨W, ⟨m, h0⟩, hs⟩
/-! ### comprehensions -/
theorem i_lc {vs : List Nat} {di : DI} {dg : DG} (k : di Γ M fun xs M1 => ∀ p, M1 p = none → compRun p (wipeG Γ vs) dg dt de (fun acc M' => Φ (.lst acc) (M'.del p)) xs [] (M1.set p (.lst []))) : dLc vs di dg dt de Γ M Φ := k
theorem i_lcM {vs : List Nat} {di : DI} {dg : DG} (k : di Γ M fun xs M1 => ∀ p, M1 p = none → compRun p (wipeG Γ vs) dg dt de (fun acc M' => Φ (.ptr p) M') xs [] (M1.set p (.lst []))) : dLcM vs di dg dt de Γ M Φ := k
theorem i_yes (k : Ψ true M) : dtYes Γ M Ψ := k
/-- by an invariant over turn, what is made, store -/
theorem comp_by {dg : DG} {p : Addr} {Γw : Gam} {Φ : List D → Mem → Prop} {xs : List D} (W : Nat → List D → Mem → Prop) (h0 : W 0 [] M)
    (hs : ∀ (i : Nat) (x : D) (acc : List D) (M : Mem) (F : List D → Mem → Prop), xs[i]? = some x → W i acc M → (∀ acc' M', W (i + 1) acc' M' → F acc' M') → dg x Γw M fun Γ2 M2 => dt Γ2 M2 fun b M3 =>
      if b = true then de Γ2 M3 fun d M4 => M4 p = some (.lst acc) ∧ acc.length < sizeLine ∧ F (acc ++ [d]) (M4.set p (.lst (acc ++ [d]))) else F acc M3)
    (hd : ∀ acc M, W xs.length acc M → M p = some (.lst acc) ∧ Φ acc M) : compRun p Γw dg dt de Φ xs [] M := by
  have key : ∀ (n i : Nat) (acc : List D) (M : Mem), i + n = xs.length → W i acc M → compRun p Γw dg dt de Φ (xs.drop i) acc M := by
    intro n
    induction n with
    | zero =>
      intro i acc M e w
      have e' : i = xs.length := by omega
      subst e'
      rw [List.drop_length]
      exact hd acc M w
    | succ n ih =>
      intro i acc M e w
      have hlt : i < xs.length := by omega
      rw [List.drop_eq_getElem_cons hlt]
      exact hs i xs[i] acc M (fun acc' M' => compRun p Γw dg dt de Φ (xs.drop (i + 1)) acc' M') (by simp [hlt]) w fun acc' M' w' => ih (i + 1) acc' M' (by omega) w'
  have := key xs.length 0 [] M (by omega) h0
  rw [List.drop_zero] at this
  exact this
/-- pure: filter and map -/
theorem comp_map {dg : DG} {Γw : Gam} {Φ : List D → Mem → Prop} {xs : List D} (g : D → Option D) (hx : ∀ x ∈ xs, ∀ M' : Mem, Sub M M' → ∀ F : Option D → Mem → Prop, F (g x) M' → dg x Γw M' fun Γ2 M2 => dt Γ2 M2 fun b M3 => if b = true then de Γ2 M3 fun d M4 => F (some d) M4 else F none M3)
    (hl : xs.length ≤ sizeLine) {p : Addr} (hp : M p = none) (k : Φ (xs.filterMap g) (M.set p (.lst (xs.filterMap g)))) : compRun p Γw dg dt de Φ xs [] (M.set p (.lst [])) := by
  have key : ∀ (ys acc : List D), (∀ y ∈ ys, y ∈ xs) → acc.length + ys.length ≤ sizeLine → Φ (acc ++ ys.filterMap g) (M.set p (.lst (acc ++ ys.filterMap g))) → compRun p Γw dg dt de Φ ys acc (M.set p (.lst acc)) := by
    intro ys
    induction ys with
    | nil =>
      intro acc _ _ k
      rw [List.filterMap_nil, List.append_nil] at k
      exact ⟨Mem.set_same, k⟩
    | cons y ys ih =>
      intro acc hm hz k
      rw [List.length_cons] at hz
      refine hx y (hm y List.mem_cons_self) (M.set p (.lst acc)) (sub_set hp) (fun o M4 => match o with
        | some d => M4 p = some (.lst acc) ∧ acc.length < sizeLine ∧ compRun p Γw dg dt de Φ ys (acc ++ [d]) (M4.set p (.lst (acc ++ [d])))
        | none => compRun p Γw dg dt de Φ ys acc M4) ?_
      cases e : g y with
      | some d =>
        rw [List.filterMap_cons_some e] at k
        refine ⟨Mem.set_same, by omega, ?_⟩
        rw [Mem.set_set]
        exact ih (acc ++ [d]) (fun z hz => hm z (List.mem_cons_of_mem _ hz)) (by rw [List.length_append, List.length_singleton]; omega) (by rw [List.append_assoc]; exact k)
      | none =>
        rw [List.filterMap_cons_none e] at k
        exact ih acc (fun z hz => hm z (List.mem_cons_of_mem _ hz)) (by omega) k
  exact key xs [] (fun _ h => h) (by simpa using hl) (by simpa using k)
theorem del_set {p : Addr} {o : MO} (h : M p = none) : (M.set p o).del p = M := by
  funext a
  by_cases e : a = p
  · rw [e, Mem.del_same, h]
  · rw [Mem.del_ne e, Mem.set_ne e]
/-- .. the whole comprehension, frozen -/
theorem comp_lc {dg : DG} {Γw : Gam} {Ψ : List D → Mem → Prop} {xs : List D} (g : D → Option D) (hl : xs.length ≤ sizeLine) (hx : ∀ x ∈ xs, ∀ M' : Mem, Sub M M' → ∀ F : Option D → Mem → Prop, F (g x) M' → dg x Γw M' fun Γ2 M2 => dt Γ2 M2 fun b M3 => if b = true then de Γ2 M3 fun d M4 => F (some d) M4 else F none M3)
    (k : Ψ (xs.filterMap g) M) : ∀ p, M p = none → compRun p Γw dg dt de (fun acc M' => Ψ acc (M'.del p)) xs [] (M.set p (.lst [])) := fun p hp =>
  comp_map (Φ := fun acc M' => Ψ acc (M'.del p)) g hx hl hp (by show Ψ _ ((M.set p _).del p); rw [del_set hp]; exact k)
end
end DL

/-! DLx: an own exception of ValueError's line, whose __init__(self, at) says super().__init__(at) and self.at = at. -/
namespace DL
open PySem PySem.Spec PyProof.Rows L2

/-- what stands in the written part of such an __init__ -/
structure SupF (P : Program) (K : PySem.W.Frag) (mg : Str → Option Value) (C f : Addr) (fd : FuncData) (s1 s2 : Str) (fld : Str) : Prop where
  cls : OexC K C
  ex : ∃ (qual : Str) (params : Arguments) (body : List Stmt) (scope : Scope) (dV kV doc pm ct oc : Value) (an od : Option Addr) (osl : Array (Option Value)) (cda cc : Addr) (ccl cl : Value) (cdd cld : Option Addr) (vs : Array Value) (ccs csl : Array (Option Value)) (file : Str) (tf : Tok) (ar : Arg)
      (p0 p1 p2 p3 p4 p5 p6 p7 p8 p9 : Pos) (pl : Addr → Sem Bool),
    fd = PySem.W.ksFn "__init__" qual params body scope dV kV doc pm an (.ref cda) ct cc ∧
    body = [.Expr (.Call (.Attribute (.Call (.Name "super" p0) [] [] p1) "__init__" p2) [.Name s2 p3] [] p4) p5, .Assign [.Attribute (.Name s1 p6) fld p7] (.Name s2 p8) p9] ∧
    K.lookup f = some ⟨oc, od, .func fd, osl⟩ ∧ PySem.W.codeIn K (.ref cda) qual = true ∧
    (params.posonlyargs ++ params.args).head? = some ar ∧ ar.arg = s1 ∧
    K.lookup cda = some ⟨ccl, cdd, .fields vs, ccs⟩ ∧ vs[2]? = some (.str file tf) ∧ ((P.main.file : Str) == file) = true ∧
    K.lookup cc = some ⟨cl, cld, .cell (some (.ref C)), csl⟩ ∧
    scope.isCoroutine = false ∧ scope.isGenerator = false ∧ scope.kind = .function ∧ (∀ x ∈ scope.names, x.2 ≠ .cell) ∧ (∀ x ∈ scope.names, x.2 = .free → x.1 = "__class__") ∧
    scope.names.lookup ("super" : Str) = some .globalImplicit ∧ scope.names.lookup ("__class__" : Str) = some .free ∧ scope.names.lookup s1 = some .local ∧ scope.names.lookup s2 = some .local ∧
    ∀ L : Addr, eval (.Call (.Attribute (.Call (.Name "super" p0) [] [] p1) "__init__" p2) [.Name s2 p3] [] p4) (PySem.W.ksEnv qual scope L f (.ref cda) cc) = (do
      let ov ← attributeBase (.Call (.Name "super" p0) [] [] p1) "__init__" (PySem.W.ksEnv qual scope L f (.ref cda) cc) (eval (.Call (.Name "super" p0) [] [] p1) (PySem.W.ksEnv qual scope L f (.ref cda) cc))
      standAt p2.atName
      let (fm, first) ← holding [ov] (getMethod ov "__init__" (pl L))
      callWith p4 fm first (backTo p4 (starEach [.Name s2 p3] (PySem.W.ksEnv qual scope L f (.ref cda) cc))) [])
  ne : s1 ≠ s2
  d1 : (s1 == ("__debug__" : Str)) = false
  d2 : (s2 == ("__debug__" : Str)) = false
  sub : PySem.W.mroIn K C (.ref C) = some true
  sup : mg "super" = none
  top : (P.main.scope.names.lookup ("super" : Str)).isSome = false
  sin : PySem.W.ks_superIn K C C "__init__" = some (some (.builtin "ValueError.__init__"))
  sVE : PySem.W.subIn K (.ref C) (.type "ValueError") = some true
  par : PySem.W.nsIn K cStatics "thirdparty.any" = some none
  fnd : PySem.W.findIn K (.ref C) fld = some none

def spSup (C : Addr) (fld : Str) : Sp := fun vs H Q _ => ∃ a v, vs = [.ref a, v] ∧ H a = some (exo a C none) ∧ ∀ dx, H dx = none → dx ≠ a → Q .non (upd (upd H dx (exd dx [(fld, v)])) a (exo a C (some dx)))

/-- the context of its body -/
def supCx (P : Program) (w : World) (K : PySem.W.Frag) (mg : Str → Option Value) (base : Heap) (N : List Str) (qual : Str) (scope : Scope) (f cda cc : Addr) (A : Around) (outer : List Env) (s : Shared) (H : Hp) : Cx where
  prog := P
  w := w
  K := K
  mg := mg
  base := base
  A := A.deeper (PySem.W.ksEnv qual scope s.heap.objs.size f (.ref cda) cc)
  N := N
  s_0 := s
  H_0 := H
  env := PySem.W.ksEnv qual scope s.heap.objs.size f (.ref cda) cc
  outer := outer
  stack := PySem.W.ksEnv qual scope s.heap.objs.size f (.ref cda) cc :: outer
  ex := []
  calm := true
  fn := fun _ => false
  pn := []
  xe := fun _ _ => False

section
variable {P : Program} {w : World} {K : PySem.W.Frag} {mg : Str → Option Value} {base : Heap} {C f : Addr} {fd : FuncData} {s1 s2 fld : Str}
theorem sup_start {qual : Str} {scope : Scope} {cda cc : Addr} {A : Around} {outer : List Env} {s : Shared} {H : Hp} {h₁ : Heap} {tk : Nat} {m : Str → Option Value} {oc : Obj} {v : Option Value} (hk : scope.kind = .function) (hfr : ∀ x ∈ scope.names, x.2 = .free → x.1 = "__class__") (hce : ∀ x ∈ scope.names, x.2 ≠ .cell)
    (hcc : K.lookup cc = some oc) (hoc : oc.data = .cell v) (hd : A.handled = none) (e0 : Env0 P w K mg base A outer s H) (hns : h₁.Ns s.heap.objs.size m) (kp : ∀ b o, s.heap.get? b = some o → h₁.get? b = some o) :
    Inv (supCx P w K mg base [] qual scope f cda cc A outer s H) [] [] H { s with heap := h₁, toks := tk } := by
  have noA : ∀ b : Addr, b ∉ (supCx P w K mg base [] qual scope f cda cc A outer s H).ex := fun b z => absurd (show b ∈ ([] : List Addr) from z) (by simp)
  have cl : ∀ {x c}, ([("__class__", cc)] : List (Str × Addr)).lookup x = some c → x = "__class__" ∧ c = cc := fun {x c} e => by
    have := PySem.mem_of_lookup e
    rcases List.mem_singleton.mp this with z
    exact ⟨congrArg Prod.fst z, congrArg Prod.snd z⟩
  have cB : base.get? cc = some oc := e0.mod.kin _ _ hcc
  have c0 := e0.bs _ _ cB
  refine ⟨⟨e0.mod, hk, rfl, rfl, Nat.le_refl _, fun y z c h1 h2 => (cl h1).1.trans (cl h2).1.symm, fun y hy => ?_, fun y c z _ => ?_, fun _ => hd, Around.frames_deeper e0.frames, .inr ⟨rfl, rfl⟩, fun b z => absurd z (noA b), e0.bs, e0.bsz, fun b _ _ => noA b, fun b z => absurd z (noA b), e0.funs, e0.frf⟩,
    rfl, e0.bare, Un.kept kp, ⟨m, hns, fun i y v h1 h2 h3 => ?_⟩, fun y c h => ?_, e0.hok.fresh (Nat.le_refl _), fun y c h => ?_, fun p hp => absurd (show p ∈ ([] : List (Addr × Obj)) ++ [] from hp) (by simp), e0.hok.kept kp, rfl⟩
  · have hy : scope.names.lookup y = some .cell ∨ scope.names.lookup y = some .free := hy
    rcases hy with hy | hy
    · exact absurd rfl (hce _ (PySem.mem_of_lookup hy))
    · have := hfr _ (PySem.mem_of_lookup hy) rfl
      dsimp only at this
      subst this
      exact ⟨cc, rfl⟩
  · have z : false = true := z
    cases z
  · simp at h2
  · obtain ⟨rfl, rfl⟩ := cl h
    exact ⟨v, oc, kp _ _ c0.1, hoc⟩
  · obtain ⟨rfl, rfl⟩ := cl h
    exact c0.2
/-- self.__init__ of the exception's line, bound, called -/
theorem sup_call {A : Around} {X : Cx} {pins : List (Addr × Obj)} {σ : L2.St} {H : Hp} {s : Shared} {u e : Addr} {rest : List Value} {Q : Value → Shared → Prop} {E : Value → Shared → Prop} (T : OexC X.K C) (I : Inv X pins σ H s) (he : H e = some (exo e C none)) (hu : s.heap.get? u = some (PySem.W.kxs_mw "ValueError.__init__" e)) (hl : rest.length ≤ sizeLine)
    (h : ∀ h', (∀ b o, b ≠ e → s.heap.get? b = some o → h'.get? b = some o) → Inv X pins σ H { s with heap := h' } → Q .none { s with heap := h' }) : wpAny (model X.prog X.w) A (call (.ref u) rest) Q E s := by
  obtain ⟨nm, q, N, bs, bm, sn, sub, ab, col, dd, k0, k1, k2, k3, k5, hC, hbm⟩ := T.cls
  obtain ⟨t1, ho⟩ := exo_at I.hok he
  have eu : upd H e (exo e C none) = H := by
    funext b
    by_cases hb : b = e
    · rw [hb, upd_same, he]
    · rw [upd_ne hb]
  have hC' := I.kIn _ _ hC
  have fin : ∀ h', (∀ b o, b ≠ e → s.heap.get? b = some o → h'.get? b = some o) → h'.get? e = some (PySem.W.excRec (.ref C) s.heap.objs.size none .none .none (.bool false)) → Q .none { s with heap := h' } := fun h' k hx => by
    have J := I.write (t' := s.toks) (x := e) (e := e) (o := exo e C none) (by rw [he]; exact True.intro) (.inl rfl) k ⟨_, hx⟩ (exo_ok hx)
    rw [eu] at J
    exact h h' k J
  obtain ⟨hh, g, d, tk, os⟩ := s
  refine wpAny_call (codeAny_of_tree ?_)
  show wpAny _ A.in1 (callAny (.ref u) ⟨rest, []⟩) _ _ _
  simp only [callAny]
  refine wpAny_bind (wpAny_load hu ?_)
  simp only [PySem.W.kxs_mw, show (Value.type "method-wrapper" == Value.type "method" || Value.type "method-wrapper" == Value.type "builtin_function_or_method" || Value.type "method-wrapper" == Value.type "method-wrapper") = true by decide, if_true]
  refine PySem.W.KFB.if_so (by decide) ?_
  refine wpAny_bind (PySem.W.check_bound_init F.excBase_ValueError.toExcCallFacts hC' ho rfl ?_)
  refine wpAny_bind (wpAny_pure (wpAny_pure ?_))
  refine ⟨plainId_quiet F.excBase_ValueError.init.plain _, codeAny_builtin F.excBase_ValueError.initEntry ?_⟩
  exact PySem.W.exc_init_tree (cls := .ref C) (t0 := t1) (dv := none) (c2 := .none) (c3 := .none) (b4 := .bool false) ho hl fun h' k e' _ => fin h' k e'
theorem sup_ok {CX : CXT} {k : Nat} (S : SupF P K mg C f fd s1 s2 fld) : FnOk P w K mg base CX (k + 1) f fd [s1, s2] (spSup C fld) := by
  refine ⟨fun vs H Q E h => by obtain ⟨a, v, rfl, _⟩ := h; rfl, fun A outer s H args us vs Q E hr e0 hb r h => ?_⟩
  obtain ⟨a, v, rfl, ha, hq⟩ := h
  obtain ⟨qual, params, body, scope, dV, kV, doc, pm, ct, oc, an, od, osl, cda, cc, ccl, cl, cdd, cld, vs, ccs, csl, file, tf, ar, p0, p1, p2, p3, p4, p5, p6, p7, p8, p9, pl, rfl, rfl, lk, hcd, hhd, har, lc, hvs, hfile, lcc, hco, hgen, hkind, hce, hfr, hks, hkc, hk1, hk2, hev⟩ := S.ex
  obtain ⟨ua, uv, rfl, ra, rv⟩ : ∃ ua uv, us = [ua, uv] ∧ L2.RelV (.ref a) ua ∧ L2.RelV v uv := by
    cases r with
    | cons x y => cases y with
      | cons y z => cases z; exact ⟨_, _, rfl, x, y⟩
  obtain rfl : ua = Value.ref a := ra
  have KX : K.In s.heap := e0.mod.kin.keeps fun b o e => (e0.bs b o e).1
  have lim : s.heap.NoLimit := e0.mod.nolimit.keeps fun b o e => (e0.bs b o e).1
  refine PySem.ks_codeAny_call_defAt hr.depth (KX _ _ lk) rfl lim (PySem.W.codeRec_of KX hcd) rfl hb hce (fun x hx => ?_) (fun h₁ hns kp => ?_) hco hgen hkind
  · rcases List.mem_cons.mp hx with rfl | hx
    · exact hk1
    · rcases List.mem_cons.mp hx with rfl | hx
      · exact hk2
      · cases hx
  have I1 := sup_start (K := K) (qual := qual) (f := f) (cda := cda) (tk := s.toks + ([s1, s2].zip [Value.ref a, uv]).length) hkind hfr hce lcc rfl hr.hd e0 hns kp
  obtain ⟨t1, ho1⟩ := exo_at I1.hok ha
  obtain ⟨nm, q, N, bs, bm, sn, sub, ab, col, dd, k0, k1, k2, k3, k5, hC, hbm⟩ := S.cls.cls
  have hC1 := I1.kIn _ _ hC
  have hcl : PySem.W.clsIn K C = some { name := nm, bases := bs, mro := .ref C :: bm, ns := N, qualname := q, hasDict := true, slotNames := sn, subclasses := sub, abstract := ab, collection := col, hasDel := false } := by unfold PySem.W.clsIn; rw [hC] <;> rfl
  have n1 : ∀ {h2 : Heap}, (∀ b o, h₁.get? b = some o → h2.get? b = some o) → h2.Ns s.heap.objs.size fun x => ([s1, s2].zip [Value.ref a, uv]).reverse.lookup x := fun {h2} k => by
    obtain ⟨o, es, ep, e, r⟩ := hns
    exact ⟨o, es, ep, k _ _ e, r⟩
  have l1 : ([s1, s2].zip [Value.ref a, uv]).reverse.lookup s1 = some (.ref a) := by
    show List.lookup s1 [(s2, uv), (s1, Value.ref a)] = _
    rw [List.lookup_cons, show (s1 == s2) = false from beq_eq_false_iff_ne.mpr S.ne]
    simp
  have l2 : ([s1, s2].zip [Value.ref a, uv]).reverse.lookup s2 = some uv := by
    show List.lookup s2 [(s2, uv), (s1, Value.ref a)] = _
    simp
  refine PySem.ks_wpAt_execs_cons (PySem.ks_wpAt_Expr_any (PySem.ks_wpAt_MethodCall (pl := pl s.heap.objs.size) ?_ (hev _)) (hi := by show (scope.kind == .module && _) = false; rw [hkind]; rfl))
  obtain ⟨mb, hb1, hb2⟩ := I1.mod.blt
  obtain ⟨oD, hD1, hD2⟩ : ∃ oD : Obj, h₁.get? C = some oD ∧ oD.data = .cls { name := nm, bases := bs, mro := .ref C :: bm, ns := N, qualname := q, hasDict := true, slotNames := sn, subclasses := sub, abstract := ab, collection := col, hasDel := false } := ⟨_, hC1, rfl⟩
  refine PySem.ks_wpAt_super_base (env := PySem.W.ksEnv qual scope s.heap.objs.size f (.ref cda) cc) hks hkc (by decide) rfl (kp _ _ (KX _ _ lk)) rfl hhd rfl (I1.kIn _ _ lc) rfl hvs hfile S.top ?_
  refine PySem.W.ks_loadName_global hkind hks (Calls.loadGlobal_builtin (I1.mod.glob.keeps I1.bk) S.sup (hb1.keeps I1.bk) ((hb2 _ (by decide +kernel)).trans Boot.«super») ⟨rfl, ?_⟩)
  refine wpAny_loadName_free hkind hkc rfl ⟨_, I1.kIn _ _ lcc, rfl⟩ ?_
  rw [har]
  refine wpAny_loadName_local hkind hk1 hns l1 ?_
  refine PySem.ks_wpAny_isType_cls hD1 hD2 ⟨rfl, ?_⟩
  refine PySem.ks_wpAny_call_super hD1 hD2 ho1 rfl (fun c e => by cases e) (PySem.W.looks_mroIn I1.kIn S.sub) (fun h2 e2 k2 => ?_)
  have I2 : Inv _ [] [] H { s with heap := h2, toks := s.toks + ([s1, s2].zip [Value.ref a, uv]).length } := I1.kept (t' := s.toks + ([s1, s2].zip [Value.ref a, uv]).length) k2
  have LI : PySem.W.InstAt h2 a { cls := .ref C, dict := none, data := .fields #[.ref t1, .none, .none, .none, .bool false, .none] } C none := ⟨k2 _ _ ho1, rfl, rfl, trivial⟩
  have hm := S.sin
  unfold PySem.W.ks_superIn at hm
  rw [hcl, Option.bind_some] at hm
  have hI : PySem.W.Looks (model P w) h2 (isInstance (.ref a) (.type "ValueError")) true := LI.type.andThen (PySem.W.looks_subIn I2.kIn S.sVE)
  refine PySem.W.kxs_getMethod PySem.W.kxs_ValueError e2 (PySem.W.looks_opaque I2.kIn S.par) (l₀ := .ref C :: bm) (fun A Q E s k q => wpAny_bind ((PySem.W.looks_clsIn I2.kIn hcl) A _ E s k (wpAny_pure q))) rfl I2.kIn hm hI (PySem.W.ks_ne I2.kIn LI hcl) (by decide) ?_
  have k3 : ∀ b o, h2.get? b = some o → (h2.push (PySem.W.kxs_mw "ValueError.__init__" a)).get? b = some o := fun b o e => Heap.get?_push_of_some _ e
  have I3 : Inv _ [] [] H { s with heap := h2.push (PySem.W.kxs_mw "ValueError.__init__" a), toks := s.toks + ([s1, s2].zip [Value.ref a, uv]).length + 1 } := I1.kept (t' := s.toks + ([s1, s2].zip [Value.ref a, uv]).length + 1) fun b o e => k3 b o (k2 b o e)
  have hmw : (h2.push (PySem.W.kxs_mw "ValueError.__init__" a)).get? h2.objs.size = some (PySem.W.kxs_mw "ValueError.__init__" a) := Heap.get?_push_at rfl rfl
  have n3 := n1 (h2 := h2.push (PySem.W.kxs_mw "ValueError.__init__" a)) fun b o e => k3 b o (k2 b o e)
  show wpAny _ _ (callWith p4 (.ref h2.objs.size) [] (backTo p4 (starEach [.Name s2 p3] _)) []) _ _ _
  refine PySem.W.kxs_callWith (i := "ValueError.__init__") (x := a) rfl (Calls.evalArgs_plain ?_)
  show wpAny _ _ (spliced ((false, eval (.Name s2 p3) _) :: backTo p4 (starEach [] _))) _ _ _
  refine Calls.spliced_cons (wpAny_Name (wpAny_loadName_local hkind hk2 n3 l2 ?_) S.d2)
  refine Calls.spliced_nil ⟨hmw, ?_⟩
  refine sup_call S.cls I3 ha hmw (by rw [sizeLine_eq]; show (1 : Nat) ≤ _; decide) fun h4 k4 I4 => ?_
  have nL : s.heap.objs.size ≠ a := fun z => by
    have := I1.free
    rw [show (supCx P w K mg base [] qual scope f cda cc A outer s H).env.locals = s.heap.objs.size from rfl, z, ha] at this
    cases this
  have n4 : h4.Ns s.heap.objs.size fun x => ([s1, s2].zip [Value.ref a, uv]).reverse.lookup x := by
    obtain ⟨o, es, ep, e, r⟩ := n3
    exact ⟨o, es, ep, k4 _ _ nL e, r⟩
  refine PySem.ks_wpAt_execs_cons (wpAt_of_wpAny ?_)
  refine plainObj_wpAny_Assign_Attribute (wpAny_Name (wpAny_loadName_local hkind hk2 n4 l2 (wpAny_Name (wpAny_loadName_local hkind hk1 n4 l1 ?_) S.d1)) S.d2) (by rfl)
  refine ost_new S.cls I4 ha S.fnd rv fun dx s' nd ne J => ?_
  refine wpAt_of_wpAny (wpAny_execs_nil ?_)
  exact ⟨.non, _, J.os, J.bare, J.base, J.hok, rfl, hq dx nd ne⟩
end
end DL

/-! DLi: exceptions over data: a caught one is held as a value behind its suite; raise; calls that raise. -/
namespace DL
open PySem PySem.Spec PyProof.Rows L2

/-! ### an object that is known stands still from now on (a step of the proof) -/
def pinO (a : Addr) (oe : Obj) : HO := .frz oe (.ext fun h => h.get? a = some oe)
section
variable {X : Cx} {pins : List (Addr × Obj)} {σ : Sg} {H : Hp} {s : Shared} {a : Addr} {oe : Obj}
theorem inv_pin (I : Inv X pins σ H s) (e : s.heap.get? a = some oe) (n : H a = none) (n0 : X.s_0.heap.get? a = none) (nL : a ≠ X.env.locals) (nc : ∀ v, oe.data ≠ .cell v) (np : ∀ p ∈ X.pn ++ pins, p.1 ≠ a) : Inv X pins σ (upd H a (pinO a oe)) s := by
  have ne0 : ∀ b o, X.s_0.heap.get? b = some o → b ≠ a := fun b o q z => by rw [z, n0] at q; cases q
  have neH : ∀ b o, H b = some o → b ≠ a := fun b o q z => by rw [z, n] at q; cases q
  have keepH : ∀ b o, H b = some o → upd H a (pinO a oe) b = some o := fun b o q => by rw [upd_ne (neH b o q)]; exact q
  refine ⟨I.ok, I.os, I.bare, ⟨I.base.keep, I.base.slot, fun b o q h x => ?_, I.base.there, fun b xs q => keepH _ _ (I.base.tups b xs q), fun b o u q => keepH _ _ (I.base.frzs b o u q), fun b ps q => ?_⟩, I.loc, I.cell, ?_, fun x c q => ?_, fun p hp => ?_, fun b o q => ?_, I.len⟩
  · rw [upd_ne (ne0 b o q)]; exact I.base.free b o q h x
  · obtain ⟨m, z⟩ := I.base.tbls b ps q
    exact ⟨m, keepH _ _ z⟩
  · rw [upd_ne nL.symm]; exact I.free
  · have h := I.freeC x c q
    rw [upd_ne (fun z => ?_)]
    · exact h
    · obtain ⟨v, o, ho, hd⟩ := I.cell x c q
      rw [z, e] at ho
      cases ho
      exact nc v hd
  · obtain ⟨h1, h2, h3⟩ := I.pin p hp
    exact ⟨h1, by rw [upd_ne (np p hp)]; exact h2, h3⟩
  · by_cases hb : b = a
    · subst hb
      rw [upd_same] at q
      cases q
      exact ⟨e, e, ⟨_, e⟩, fun h1 h2 z k => k _ z⟩
    · rw [upd_ne hb] at q
      exact (I.hok b o q).stay (fun _ _ _ z => z) (fun c z => keepH _ _ z) fun c xs z => keepH _ _ z
theorem inv_frzX {p : Addr} {fs : List (Str × V)} (I : Inv X pins σ H s) (h : H p = some (.xd fs)) : ∃ ob, Inv X pins σ (upd H p (.frz ob (.xd fs))) s := by
  have ok := I.hok p _ h
  obtain ⟨ob, e⟩ : ∃ ob, s.heap.get? p = some ob := by
    obtain ⟨mA, ⟨o, es, ep, e, r⟩, _⟩ := ok
    exact ⟨o, e⟩
  have neT : ∀ b w, H b = some w → (∀ fs, w ≠ .xd fs) → b ≠ p := fun b w q1 nc z => by rw [z, h] at q1; cases q1; exact nc fs rfl
  have neN : ∀ b, H b = none → b ≠ p := fun b e z => by rw [z, h] at e; cases e
  refine ⟨ob, I.ok, I.os, I.bare, ⟨I.base.keep, I.base.slot, fun b o' e n hx => ?_, I.base.there, fun b xs e => ?_, fun b o' u e => ?_, fun b ps e => ?_⟩, I.loc, I.cell, ?_, fun x c e => ?_, fun q hq => ?_, fun b u e => ?_, I.len⟩
  · have z := I.base.free b o' e n hx
    rw [upd_ne (neN b z)]; exact z
  · have q := I.base.tups b xs e; rw [upd_ne (neT b _ q fun fs z => by cases z)]; exact q
  · have q := I.base.frzs b o' u e; rw [upd_ne (neT b _ q fun fs z => by cases z)]; exact q
  · obtain ⟨more, q⟩ := I.base.tbls b ps e; exact ⟨more, by rw [upd_ne (neT b _ q fun fs z => by cases z)]; exact q⟩
  · rw [upd_ne (neN _ I.free)]; exact I.free
  · have z := I.freeC x c e
    rw [upd_ne (neN c z)]; exact z
  · obtain ⟨e, n, r⟩ := I.pin q hq
    exact ⟨e, by rw [upd_ne (neN _ n)]; exact n, r⟩
  · by_cases hb : b = p
    · subst hb; rw [upd_same] at e; cases e
      exact ⟨‹_›, ok.stay (fun _ _ _ q => q) (fun c q => by rw [upd_ne (neT c _ q fun fs z => by cases z)]; exact q) fun c xs q => by rw [upd_ne (neT c _ q fun fs z => by cases z)]; exact q⟩
    · rw [upd_ne hb] at e
      exact (I.hok b u e).stay (fun _ _ _ q => q) (fun c q => by rw [upd_ne (neT c _ q fun fs z => by cases z)]; exact q) fun c xs q => by rw [upd_ne (neT c _ q fun fs z => by cases z)]; exact q
end
/-- a dict of fields stands still from here on, if that is asked -/
def fzX (D : Ends) : Ends := { D with nx := fun σ H => D.nx σ H ∨ ∃ dd fs, H dd = some (.xd fs) ∧ ∀ od, D.nx σ (upd H dd (.frz od (.xd fs))) }
theorem ps_fzX {X : Cx} {st : Stmt} {t : TS} (h : PS X st t) : PS X st (fun D => t (fzX D)) := by
  refine ⟨fun pins s σ H D I q => thn (h.run pins s σ H (fzX D) I q) fun f s' z => ?_⟩
  cases f with
  | next =>
    obtain ⟨σ', H', I', q | ⟨dd, fs, e, q⟩⟩ := z
    · exact ⟨σ', H', I', q⟩
    · obtain ⟨od, J⟩ := inv_frzX I' e
      exact ⟨σ', _, J, q od⟩
  | brk => exact z
  | cont => exact z
  | ret u => exact z

/-! ### try: body, except x as n: suite; every exception is caught, and held behind the suite -/
/-- the ends of the suite -/
def pinEnds (i : Nat) (a : Addr) (oe : Obj) (D : Ends) : Ends := { nx := fun σ H => D.nx (σ.set i none) (upd H a (pinO a oe)), rt := D.rt, bk := fun _ _ => False, ct := fun _ _ => False }
def wPin (K : PySem.W.Frag) (c : Value) (i : Nat) (ts : Addr → TS) (D : Ends) : WX := fun cls d σ H =>
  PySem.W.exmOne K cls c = some true ∧ ∀ a oe, H a = none → Zc cls d oe → (∃ vs, oe.data = .fields vs) → ts a (pinEnds i a oe D) (σ.set i (some (.ref a))) H
section
variable {X : Cx} {x n : Str} {c : Value} {i : Nat} {body suite : List Stmt} {b₀ : Stmt} {np pos pos' : Pos} {tb : WX → TS} {ts : Addr → TS}
theorem ps_try_pin (hs : X.stack = X.env :: X.outer) (hf : X.env.frame = some X.env.locals) (hN : X.N.Nodup) (hi : X.N[i]? = some n) (hln : X.env.kindOf n = some .local) (hc : Names X x c) (hex : X.ex = [])
    (hb : ∀ (W : WX) (pn : List (Addr × Obj)) (xe : Value → Shared → Prop), Takes (X.tr pn xe) W → PassesOwn (model X.prog X.w) X.A X.env xe → PSs (X.tr pn xe) body (tb W))
    (hsu : ∀ (a : Addr) (oe : Obj) (pn : List (Addr × Obj)), (∃ vs, oe.data = .fields vs) → PSs (X.suite a ((a, oe) :: pn)) (b₀ :: suite) (ts a)) :
    PS X (.Try body [.ExceptHandler (some (.Name x np)) (some n) (b₀ :: suite) pos'] [] [] pos) (fun D σ H => tb (wPin X.K c i ts D) D σ H) := by
  refine ⟨fun pins s σ H D I h => ?_⟩
  have ok := I.ok
  have hfr : X.A.frames = some (X.env :: X.outer) := by rw [ok.frames, hs]
  have hloc : Loc X.env.scope n := .inl hln
  refine wpAny_Try_except ?_
  refine wpAny_mono ((hb (wPin X.K c i ts D) (X.pn ++ pins) (fun e s₁ => wpAny (model X.prog X.w) X.A (noteFrame e X.env) (fun _ s₂ => wpAny (model X.prog X.w) X.A (setFlight e none) (fun _ s₃ =>
    wpAny (model X.prog X.w) X.A (handleBy e X.env [.ExceptHandler (some (.Name x np)) (some n) (b₀ :: suite) pos']) (SP X pins D) X.xe s₃) X.xe s₂) X.xe s₁) (fun u s' xx => ?_) PassesOwn.looking).run [] s σ H D (I.toTry _) h) (fun f s1 hsp => ?_) (fun e s1 he => he)
  · obtain ⟨a, B, sI, pins', σ', H', cls, d, rfl, J', nb, up, sky, na, os, ag, hb1, hyes⟩ := xx
    have J : Inv X pins σ' H' sI := J'.ofTry ok
    have sky' : Sky B (X.env :: X.outer) a (Zc cls d) X.env.locals s'.heap := by rw [← hs]; exact sky
    show wpAny (model X.prog X.w) X.A (noteFrame (.ref a) X.env) _ _ _
    refine Sky.land Zc.steady hfr hf sky' fun h3 fl3 up3 => ?_
    obtain ⟨oe3, vs3, he3, hz3, hd3⟩ := fl3.there
    have J3 : Inv X pins σ' H' { s' with heap := h3 } := J.landed nb fl3.1 (up.trans up3) os ag
    have notFr : ∀ {h : Heap} {o : Obj} {vs : Array Value}, h.FunFrames B (X.env :: X.outer) → h.get? a = some o → o.data = .fields vs → a ∉ frs (X.env :: X.outer) := fun {h o vs} ff e dd hm => by
      obtain ⟨_, o', e', hnf⟩ := ff.mem hm
      rw [e] at e'; cases e'
      exact hnf _ dd
    have nfr := notFr fl3.2.2.1 he3 hd3
    have nL : a ≠ X.env.locals := fun z => nfr (List.mem_filterMap.mpr ⟨X.env, List.mem_cons_self, by rw [hf, z]⟩)
    have nF : a ∉ X.fs := fun hm => by
      obtain ⟨e, he, q⟩ := List.mem_filterMap.mp hm
      exact nfr (List.mem_filterMap.mpr ⟨e, List.mem_cons_of_mem _ he, q⟩)
    have aI : sI.heap.get? a = none := by
      cases q : sI.heap.get? a with
      | none => rfl
      | some o =>
        have z := nb a o q (by rw [hs]; exact nfr)
        rw [fl3.2.1] at z
        cases z
    have a0 : X.s_0.heap.get? a = none := by
      cases q : X.s_0.heap.get? a with
      | none => rfl
      | some o =>
        obtain ⟨o', z⟩ := J.base.there a o q (by rw [hex]; exact fun z => nomatch z)
        rw [aI] at z
        cases z
    have ap : ∀ p ∈ X.pn ++ pins, p.1 ≠ a := fun p hp z => by
      have := (J.pin p hp).1
      rw [z, aI] at this
      cases this
    have S3 := J3.suite he3 hd3 na nL nF
    refine wpAny_handleBy_cons (codeAny_handlers_test ?_) (by intro q; cases q)
    have LT : PySem.W.Looks (model X.prog X.w) h3 (typeOf (.ref a)) cls := fun A Q E s k q => wpAny_typeOf_ref (k _ _ he3) (by rw [hz3.1]; exact q)
    have LM := PySem.W.exm_one (M := model X.prog X.w) (J3.kIn) LT hb1
    have test : ∀ {Q : Value → Shared → Prop} {E : Value → Shared → Prop}, Q c { s' with heap := h3 } → wpAny (model X.prog X.w) (X.A.mark (some (.ref a))) (eval (.Name x np) X.env) Q E { s' with heap := h3 } := fun {Q E} q => by
      obtain ⟨hg, hdbg, hm | ⟨hm, hv, hnn⟩⟩ := hc
      · exact ld_glob (X := X.suite a ((a, oe3) :: (X.pn ++ pins))) S3 hg hm q hdbg
      · exact ld_blt (X := X.suite a ((a, oe3) :: (X.pn ++ pins))) S3 hg hm hv q hnn hdbg
    refine test (LM.here ?_)
    refine codeAny_handlers_suite_as ?_
    refine HandSPX.lands_againZ fl3 fun h4 fl4 up4 => ?_
    have J4 : Inv X pins σ' H' { s' with heap := h4 } := J.landed nb fl4.1 ((up.trans up3).trans up4) os ag
    obtain ⟨oe4, vs4, he4, hz4, hd4⟩ := fl4.there
    have S4 := J4.suite he4 hd4 na nL nF
    refine store_ok (X := X.suite a ((a, oe4) :: (X.pn ++ pins))) (v := .ref a) S4 hN hi hloc rfl (fun s5 S5 => ?_) (.inr hln)
    refine wpAny_mono ((hsu a oe4 (X.pn ++ pins) ⟨_, hd4⟩).run [] s5 _ H' (pinEnds i a oe4 D) S5 (hyes a oe4 na hz4 ⟨_, hd4⟩)) (fun f s6 hsp => ?_) (fun _ _ z => False.elim z)
    cases f with
    | next =>
      obtain ⟨σ6, H6, S6, q6⟩ := hsp
      obtain ⟨p1, p2, p3, p4, p5⟩ := S6.pin (a, oe4) (List.mem_append_left _ List.mem_cons_self)
      have J6 := inv_pin (S6.unsuite ok) p1 p2 a0 nL p5 ap
      exact gone_ok J6 hN hi hln fun s7 J7 => ⟨_, _, J7, q6⟩
    | brk =>
      obtain ⟨σ6, H6, S6, q6⟩ := hsp
      exact q6.elim
    | cont =>
      obtain ⟨σ6, H6, S6, q6⟩ := hsp
      exact q6.elim
    | ret u =>
      obtain ⟨v6, σ6, H6, S6, r6, q6⟩ := hsp
      exact gone_ok (S6.unsuite ok) hN hi hln fun s7 J7 => ⟨_, _, _, J7, r6, q6⟩
  · cases f with
    | next =>
      obtain ⟨σ', H', J', q⟩ := hsp
      exact wpAny_execs_nil ⟨σ', H', J'.ofTry ok, q⟩
    | brk =>
      obtain ⟨σ', H', J', q⟩ := hsp
      exact ⟨σ', H', J'.ofTry ok, q⟩
    | cont =>
      obtain ⟨σ', H', J', q⟩ := hsp
      exact ⟨σ', H', J'.ofTry ok, q⟩
    | ret u =>
      obtain ⟨v, σ', H', J', r, q⟩ := hsp
      exact ⟨v, σ', H', J'.ofTry ok, r, q⟩
end
end DL

/-! DLj: exceptions over data: calls that raise, raise, a lambda whose exception is caught and handed on. -/
namespace DL
open PySem PySem.Spec PyProof.Rows L2

abbrev XCont := Addr → List (Str × D) → Mem → Prop
/-- the exception in the air: its class, its fields -/
def XcRep (K : PySem.W.Frag) (H : Hp) (cls : Value) (d : Option Addr) (C : Addr) (fs : List (Str × D)) : Prop := cls = .ref C ∧ ((d = none ∧ fs = []) ∨ ∃ dd vs, d = some dd ∧ H dd = some (.xd vs) ∧ RepF K H vs fs)
def GoesX (K : PySem.W.Frag) (T : List (Addr × Str)) (H : Hp) (Ξ : XCont) (E : XK) : Prop := ∀ C fs M' cls d H', Ξ C fs M' → Kp T H H' → MOk K H' M' → XcRep K H' cls d C fs → E cls d H'
/-- what E asks, from H on -/
def XiE (K : PySem.W.Frag) (T : List (Addr × Str)) (H : Hp) (E : XK) : XCont := fun C fs M' => ∀ cls d H', Kp T H H' → MOk K H' M' → XcRep K H' cls d C fs → E cls d H'
theorem xiE_goes {K : PySem.W.Frag} {T : List (Addr × Str)} {H H1 : Hp} {E : XK} (k : Kp T H H1) : GoesX K T H1 (XiE K T H E) E := fun _ _ _ cls d H' φ k' m r => φ cls d H' (k.trans k') m r
theorem GoesX.from {K : PySem.W.Frag} {T : List (Addr × Str)} {H H1 : Hp} {E : XK} {Ξ : XCont} (g : GoesX K T H Ξ E) (k : Kp T H H1) : GoesX K T H1 Ξ E := fun C fs M' cls d H' φ k' m r => g C fs M' cls d H' φ (k.trans k') m r
abbrev FSX := List D → Mem → Cont → XCont → Prop
def FSpX (K : PySem.W.Frag) (T : List (Addr × Str)) (n : Nat) (fs : FSX) : Sp := fun vs H Q E => ∃ ds M Φ Ξ, vs.length = n ∧ Reps K H vs ds ∧ MOk K H M ∧ LamX.Tabs T H ∧ fs ds M Φ Ξ ∧ Goes K T H Φ Q ∧ GoesX K T H Ξ E
/-- the def that the module's x names keeps fs; it may raise -/
structure HasX (P : Program) (w : World) (K : PySem.W.Frag) (mg : Str → Option Value) (base : Heap) (T : List (Addr × Str)) (x : Str) (k n : Nat) (fs : FSX) : Prop where
  len : ∀ ds M Φ Ξ, fs ds M Φ Ξ → ds.length = n
  ex : ∃ (f : Addr) (fd : FuncData) (ps : List Str), ps.length = n ∧ FnOk P w K mg base (L2.CX P w) k f fd ps (FSpX K T n fs) ∧ mg x = some (.ref f) ∧ PySem.W.keepIn K (.ref f) = true ∧ L2.Binds K fd ps []
theorem HasX.mono {P : Program} {w : World} {K : PySem.W.Frag} {mg : Str → Option Value} {base : Heap} {T : List (Addr × Str)} {x : Str} {j k n : Nat} {fs : FSX} (h : HasX P w K mg base T x j n fs) (l : j ≤ k) : HasX P w K mg base T x k n fs := by
  obtain ⟨len, f, fd, ps, a, b, c⟩ := h
  exact ⟨len, f, fd, ps, a, b.mono l, c⟩
def dCallX (fs : FSX) (Ξ : XCont) (da : DA) : DE := fun Γ M Φ => da Γ M fun ds M1 => fs ds M1 Φ Ξ
def noX : XCont := fun _ _ _ => False
theorem passL {X : Cx} : Passes (L2.CX X.prog X.w) X E0 := fun _ _ _ _ _ _ _ h => by
  obtain ⟨_, _, _, _, _, _, _, _, _, _, _, _, z⟩ := h
  exact z.elim
section
variable {X : Cx} {T : List (Addr × Str)} {x : Str} {k n : Nat} {fs : FSX} {p pos : Pos} {e : Expr} {es : List Expr} {da : DA} {E : XK}
theorem kp_base {pins : List (Addr × Obj)} {σ : Sg} {H : Hp} {s : Shared} (I : Inv X pins σ H s) (t : LamX.Tabs T H) : Kp T X.H_0 H := ⟨I.base.tups, I.base.frzs, fun _ => t⟩
theorem xe_callX {Ξ : XCont} (h : HasX X.prog X.w X.K X.mg X.base T x k n fs) (tk : Takes X (fun cls d _ H => E cls d H)) (hX : Ξ = XiE X.K T X.H_0 E) (hr : Room k X.A) (hg : Gl X x) (ha : XA X T (e :: es) da) (hdb : (x == ("__debug__" : Str)) = false := by decide)
    (he : starEach (e :: es) X.env = (false, eval e X.env) :: starEach es X.env := by rfl) (hpl : (backTo pos (starEach es X.env)).any (·.1) = false := by rfl) : XE X T (.Call (.Name x p) (e :: es) [] pos) (dCallX fs Ξ da) := by
  subst hX
  obtain ⟨len, f, fd, ps, hn, F, hm, hk, hb⟩ := h
  refine ⟨fun pins s σ H Q I q => (pe_call F hr hg hm hk hb .nil (passes_call tk fun _ _ _ _ z => z) ha hdb he hpl).run pins s σ H Q I ?_⟩
  obtain ⟨Γ, M, Φ, env, h, g⟩ := q
  refine ⟨Γ, M, _, env, h, fun vs H1 ds M1 φ1 k1 m1 r1 => ?_⟩
  show FSpX X.K T n fs (vs ++ []) H1 Q E
  rw [List.append_nil]
  exact ⟨ds, M1, Φ, _, by rw [r1.length]; exact len _ _ _ _ φ1, r1, m1, k1.tab env.tab, φ1, g.from k1, xiE_goes ((kp_base I env.tab).trans k1)⟩
/-- a call that raises nothing here -/
theorem xe_callN (h : HasX X.prog X.w X.K X.mg X.base T x k n fs) (hr : Room k X.A) (hg : Gl X x) (ha : XA X T (e :: es) da) (hdb : (x == ("__debug__" : Str)) = false := by decide)
    (he : starEach (e :: es) X.env = (false, eval e X.env) :: starEach es X.env := by rfl) (hpl : (backTo pos (starEach es X.env)).any (·.1) = false := by rfl) : XE X T (.Call (.Name x p) (e :: es) [] pos) (dCallX fs noX da) := by
  obtain ⟨len, f, fd, ps, hn, F, hm, hk, hb⟩ := h
  refine pe_weak (pe_call F hr hg hm hk hb .nil passL ha hdb he hpl) fun σ H Q q => ?_
  obtain ⟨Γ, M, Φ, env, h, g⟩ := q
  refine ⟨Γ, M, _, env, h, fun vs H1 ds M1 φ1 k1 m1 r1 => ?_⟩
  show FSpX X.K T n fs (vs ++ []) H1 Q E0
  rw [List.append_nil]
  exact ⟨ds, M1, Φ, _, by rw [r1.length]; exact len _ _ _ _ φ1, r1, m1, k1.tab env.tab, φ1, g.from k1, fun _ _ _ _ _ _ z => z.elim⟩
theorem xe_callNKw {kn : Str} {kp : Pos} {de : DE} (h : HasX X.prog X.w X.K X.mg X.base T x k 1 fs) (hkb : ∀ (f : Addr) (fd : FuncData) (ps : List Str), X.mg x = some (.ref f) → FnOk X.prog X.w X.K X.mg X.base (L2.CX X.prog X.w) k f fd ps (FSpX X.K T 1 fs) → ∀ (s : Shared) (w' : Value), X.K.In s.heap → BindsTo s fd ⟨[], [(kn, w')]⟩ (ps.zip [w']))
    (hr : Room k X.A) (hg : Gl X x) (ha : XE X T e de) (hall : (backToKw pos (keywordEach [⟨some kn, e, kp⟩] X.env)).all (·.1.isSome) = true := by rfl) (hks : (backToKw pos (keywordEach [⟨some kn, e, kp⟩] X.env)).filterMap (·.1) = [kn] := by rfl)
    (hdb : (x == ("__debug__" : Str)) = false := by decide) (hpl : ((backTo pos (starEach [] X.env)).any (·.1) || (backToKw pos (keywordEach [⟨some kn, e, kp⟩] X.env)).any (·.1.isNone)) = false := by rfl) :
    XE X T (.Call (.Name x p) [] [⟨some kn, e, kp⟩] pos) (dCallX fs noX (daCons de daNil)) := by
  obtain ⟨len, f, fd, ps, hn, F, hm, hk, hb⟩ := h
  refine ⟨fun pins s σ H Q I q => ?_⟩
  obtain ⟨Γ, M, Φ, env, h, g⟩ := q
  refine wpAny_Call_Name_kw (ld_glob I hg hm ?_ hdb)
  refine PySem.W.callWith_KW0 (h₀ := X.base) I.ok.mod.kin hk hall ?_ hpl
  refine thn ((pk_cons (nm := some kn) (kpos := kp) ha pk_nil).run pos pins s σ H (fun zs H1 => ∃ v d M1, zs = [v] ∧ Rep X.K H1 v d ∧ MOk X.K H1 M1 ∧ Kp T H H1 ∧ fs [d] M1 Φ noX) I ⟨Γ, M, _, env, h, fun v1 H1 d1 M1 φ1 k1 m1 r1 => ⟨v1, d1, M1, rfl, r1, m1, k1, φ1⟩⟩) fun ws s2 ⟨zs, H2, I2, rz, q2⟩ => ⟨I2.kIn, ?_⟩
  obtain ⟨v, d, M1, rfl, r1, m1, k1, φ1⟩ := q2
  obtain ⟨w', rfl, rw'⟩ := vals1 rz
  rw [hks]
  have hsp : FSpX X.K T 1 fs [v] H2 Q E0 := ⟨[d], M1, Φ, noX, rfl, .cons r1 .nil, m1, k1.tab env.tab, φ1, g.from k1, fun _ _ _ _ _ _ z => z.elim⟩
  refine wpAny_call (codeAny_mono (F.run X.A X.stack s2 H2 ⟨[], [(kn, w')]⟩ [w'] [v] Q E0 hr I2.env0 (hkb f fd ps hm F s2 w' I2.kIn) (.cons rw' .nil) hsp) fun r s' hq => ?_)
  cases r with
  | error e => exact passL pins σ H2 s2 e s' I2 hq
  | ok fl =>
    cases fl with
    | ret u => exact I2.after hq
    | next => exact False.elim hq
    | brk => exact False.elim hq
    | cont => exact False.elim hq
/-- raise C('m') -/
def dRaise0 (C : Addr) (Ξ : XCont) : DS := fun _ _ M => Ξ C [] M
theorem xs_raise0 {Ξ : XCont} {C : Addr} {mk : Expr} (hc : X.calm = true) (tk : Takes X (fun cls d _ H => E cls d H)) (hX : Ξ = XiE X.K T X.H_0 E) (hm : PMk X mk (fun _ H Q => Q (.ref C) none H)) : XS X T (.Raise (some mk) none pos) (dRaise0 C Ξ) := by
  subst hX
  refine ⟨fun pins s σ H D I q => (ps_raise hc tk hm).run pins s σ H D I ?_⟩
  obtain ⟨Γ, M, En, env, h, _⟩ := q
  exact h _ _ _ (kp_base I env.tab) env.mem ⟨rfl, .inl ⟨rfl, rfl⟩⟩
/-- what C(e) needs, C's own __init__ saying super().__init__(at); self.fld = at -/
structure ExcMk (P : Program) (w : World) (K : PySem.W.Frag) (mg : Str → Option Value) (base : Heap) (x : Str) (C : Addr) (fld : Str) : Prop where
  cls : OexC K C
  gx : mg x = some (.ref C)
  ex : ∃ (f : Addr) (fd : FuncData) (s1 s2 : Str), SupF P K mg C f fd s1 s2 fld ∧ PySem.W.findIn K (.ref C) "__init__" = some (some (.ref f)) ∧ PySem.W.typeIn K (.ref f) = some (.type "function") ∧ L2.Binds K fd [s1, s2] []
def dRaise1 (C : Addr) (fld : Str) (de : DE) (Ξ : XCont) : DS := fun _ Γ M => de Γ M fun d M1 => Ξ C [(fld, d)] M1
theorem xs_raise1 {Ξ : XCont} {C : Addr} {fld : Str} {de : DE} (S : ExcMk X.prog X.w X.K X.mg X.base x C fld) (hc : X.calm = true) (tk : Takes X (fun cls d _ H => E cls d H)) (hX : Ξ = XiE X.K T X.H_0 E) (hr : Room 2 X.A) (hg : Gl X x) (he : XE X T e de) (hdb : (x == ("__debug__" : Str)) = false := by decide)
    (hse : starEach [e] X.env = (false, eval e X.env) :: starEach [] X.env := by rfl) (hpl : (backTo pos (starEach [] X.env)).any (·.1) = false := by rfl) {pos' : Pos} : XS X T (.Raise (some (.Call (.Name x p) [e] [] pos)) none pos') (dRaise1 C fld de Ξ) := by
  subst hX
  obtain ⟨hcl, hm, f, fd, s1, s2, SF, iC, tI, hb⟩ := S
  refine ⟨fun pins s σ H D I q => (ps_raise hc tk (pmk_oex (CX := C8.CX0) hcl iC tI (sup_ok (k := 0) SF) hr hb .nil pass0 hg hm (pa_cons he pa_nil hse) hdb hse hpl)).run pins s σ H D I ?_⟩
  obtain ⟨Γ, M, En, env, h, _⟩ := q
  refine ⟨Γ, M, _, env, h, fun v H1 d M1 φ k m r => ⟨show 1 ≤ 1000 by decide, fun a na => ⟨a, v, rfl, upd_same, fun dx nd ne => ⟨rfl, dx, [(fld, v)], upd_same, ?_, ?_, ?_⟩⟩⟩⟩
  · rw [upd_ne ne, upd_same]
  · rw [upd_ne ne] at nd
    exact nd
  · rw [upd_ne ne] at nd
    have at_ : ∀ b, b ≠ dx → upd (del (upd (upd (upd H1 a (exo a C none)) dx (exd dx [(fld, v)])) a (exo a C (some dx))) a) dx (.xd [(fld, v)]) b = H1 b := fun b h1 => by
      rw [upd_ne h1]
      by_cases hb : b = a
      · rw [hb, del_same, na]
      · rw [del_ne hb, upd_ne hb, upd_ne h1, upd_ne hb]
    have ext : ∀ b o, H1 b = some o → upd (del (upd (upd (upd H1 a (exo a C none)) dx (exd dx [(fld, v)])) a (exo a C (some dx))) a) dx (.xd [(fld, v)]) b = some o := fun b o z => by
      rw [at_ b (fun y => by rw [y, nd] at z; cases z)]; exact z
    have k2 : Kp T H1 (upd (del (upd (upd (upd H1 a (exo a C none)) dx (exd dx [(fld, v)])) a (exo a C (some dx))) a) dx (.xd [(fld, v)])) := .ext ext
    exact φ _ _ _ (((kp_base I env.tab).trans k).trans k2) (m.ext ext) ⟨rfl, .inr ⟨dx, _, rfl, upd_same, .cons (r.mono k2) .nil⟩⟩
end
/-- a def that may raise, by its body -/
theorem okDX {P : Program} {w : World} {K : PySem.W.Frag} {mg : Str → Option Value} {base : Heap} {T : List (Addr × Str)} {x qual : Str} {st : Stmt} {f : Addr} {fd : FuncData} {N ps : List Str} {k : Nat} {fs : FSX} (F : Fun K x qual st f fd) (S : FnScope N ps (defScope st)) (hm : mg x = some (.ref f)) (hb : L2.Binds K fd ps [])
    (len : ∀ ds M Φ Ξ, fs ds M Φ Ξ → ds.length = ps.length) (mono : ∀ ds M Φ Ξ Ξ', fs ds M Φ Ξ → (∀ C fs M, Ξ C fs M → Ξ' C fs M) → fs ds M Φ Ξ')
    (body : ∀ (cdv : Value) (A : Around) (outer : List Env) (s : Shared) (H : Hp) (E : XK) (Ξ : XCont), Room k (A.deeper (envOfC qual (defScope st) s.heap.objs.size f cdv)) →
      Takes (cxOf (L2.CX P w) P w K mg base N qual (defScope st) f cdv A outer s H E) (fun cls d _ H => E cls d H) → Ξ = XiE K T H E →
      ∃ dsb : DS, XSs (cxOf (L2.CX P w) P w K mg base N qual (defScope st) f cdv A outer s H E) T (defBody st) dsb ∧ ∀ ds M Φ, fs ds M Φ Ξ → dsb { nx := fun _ M' => drp Φ .non M', rt := drp Φ } (startG N ds) M) :
    HasX P w K mg base T x (k + 1) ps.length fs := by
  refine ⟨len, f, fd, ps, rfl, F.okX S (fun vs H Q E h => ?_) (fun cdv A outer s H vs Q E hr h => ?_), hm, F.kp, hb⟩
  · obtain ⟨ds, M, Φ, Ξ, h, _⟩ := h
    exact h
  · obtain ⟨ds, M, Φ, Ξ, hl, r, m, t, h, g, gx⟩ := h
    obtain ⟨dsb, hx, hd⟩ := body cdv A outer s H E _ hr (takes_of rfl rfl rfl rfl) rfl
    refine ⟨_, hx, startG N ds, M, _, start_env r m t, hd ds M Φ (mono _ _ _ _ _ h fun C fs M z cls d H' k m r => gx C fs M cls d H' z k m r), fun σ' H' Γ' M' φ k' e' => ?_, fun _ _ _ _ φ => φ.elim, fun _ _ _ _ φ => φ.elim, g.drp⟩
    exact g.drp _ _ _ _ φ k' e'.mem .non
end DL

/-! DLk: found = None; try: action() / except W as error: found = error; return found -- of a lambda. Exceptions as data: isinstance, fields. -/
namespace DL
open PySem PySem.Spec PyProof.Rows L2

/-- what the catcher makes of the lambda -/
def TCaught (K : PySem.W.Frag) (cW : Value) : (XK → Hp → VK → Prop) → Hp → VK → Prop := fun tl H Q =>
  tl (fun cls d H' => PySem.W.exmOne K cls cW = some true ∧ ∀ a oe, H' a = none → Zc cls d oe → (∃ vs, oe.data = .fields vs) →
    (Q (.ref a) (upd H' a (pinO a oe)) ∨ ∃ dd fs, (upd H' a (pinO a oe)) dd = some (.xd fs) ∧ ∀ od, Q (.ref a) (upd (upd H' a (pinO a oe)) dd (.frz od (.xd fs))))) H (fun _ H' => Q .non H')
theorem takes_len {X : Cx} {W : WX} (t : Takes X W) : Takes X (fun cls d σ H => σ.length = X.N.length → W cls d σ H) := fun u s' ⟨a, B, sI, pins, σ, H, cls, d, e, I, nb, up, sky, na, os, ag, w⟩ =>
  t u s' ⟨a, B, sI, pins, σ, H, cls, d, e, I, nb, up, sky, na, os, ag, w I.len⟩
theorem pe_imp {X : Cx} {e : Expr} {t : TE} (h : PE X e t) : PE X e (fun σ H Q => ∃ Qn : VK, t σ H Qn ∧ ∀ v H', Qn v H' → Q v H') := ⟨fun pins s σ H Q I ⟨Qn, q, m⟩ => thn (h.run pins s σ H Qn I q) fun u s1 ⟨v, H', I', r, z⟩ => ⟨v, H', I', r, m _ _ z⟩⟩
theorem caught_gives {X : Cx} {x a fnd err we q : Str} {sg : Scope} {g : Addr} {cdg cW : Value} {j : Nat} {p1 p2 p3 p4 p5 p6 p7 p8 p9 pa pb pc pd pe : Pos} {Ng : List Str} (hN : Ng = [a, fnd, err]) (hnd : Ng.Nodup) (hlf : sg.names.lookup fnd = some .local) (hle : sg.names.lookup err = some .local)
    (hge : sg.names.lookup we = some .globalImplicit) (hme : X.mg we = some cW) (hde : (we == ("__debug__" : Str)) = false)
    (df : (fnd == ("__debug__" : Str)) = false ∧ (fnd == ("__classdict__" : Str)) = false) (dr : (err == ("__debug__" : Str)) = false ∧ (err == ("__classdict__" : Str)) = false) :
    LamX.GivesTo X Ng x sg g cdg [.Assign [.Name fnd pa] (.Constant .none j pb) pc, .Try [.Expr (.Call (.Name a p1) [] [] p2) p3] [.ExceptHandler (some (.Name we p4)) (some err) [.Assign [.Name fnd p5] (.Name err p6) p9] p7] [] [] p8, .Return (some (.Name fnd pd)) pe] a q (TCaught X.K cW) := by
  intro f c' s H Q tl act hc h
  subst hN
  have hgl : Gl (cxOf C8.CX0 X.prog X.w X.K X.mg X.base [a, fnd, err] x sg g cdg X.A X.stack s H C8.E0).nox we := hge
  refine ⟨_, pss_cons (ps_set (X := (cxOf C8.CX0 X.prog X.w X.K X.mg X.base [a, fnd, err] x sg g cdg X.A X.stack s H C8.E0).nox) (i := 1) hnd rfl (.inl hlf) pe_non) (pss_cons (ps_fzX (ps_try_pin (X := (cxOf C8.CX0 X.prog X.w X.K X.mg X.base [a, fnd, err] x sg g cdg X.A X.stack s H C8.E0).nox) (c := cW) (i := 2)
      (tb := fun W D σ H => ∃ Ech : XK, (∀ cls d σ' H', Ech cls d H' → σ'.length = 3 → W cls d σ' H') ∧ σ[0]? = some (some (.ref f)) ∧ H c' = some (LamX.CodeO c' q) ∧ ∃ Qn : VK, (∀ v H', Qn v H' → D.nx σ H') ∧ tl Ech H Qn)
      (ts := fun a D σ H => σ[2]? = some (some (.ref a)) ∧ D.nx (σ.set 1 (some (.ref a))) H)
      rfl rfl hnd rfl hle ⟨hgl, hde, .inl hme⟩ rfl (fun W pn xe tk _ => ?_) (fun a oe pn _ => pss_one (ps_weak (ps_set (i := 1) hnd rfl (.inl hlf) (pe_var (i := 2) rfl (.inl hle) dr.1 dr.2)) fun D σ H z => ?_)))) (pss_one (ps_ret (pe_var (i := 1) rfl (.inl hlf) df.1 df.2)))), ?_⟩
  · refine ⟨fun pins s' σ H' D I h' => ?_⟩
    obtain ⟨Ech, hW, h1, h2, Qn, hQ, h3⟩ := h'
    have hp := act _ pn xe Ech p1 p2 (takes_len tk) fun cls d σ' H' z l => hW cls d σ' H' z l
    exact (pss_one (ps_expr (pos := p3) (pe_imp hp))).run pins s' σ H' D I ⟨Qn, ⟨h1, h2, h3⟩, hQ⟩
  · exact ⟨_, z.1, z.2⟩
  · refine ⟨_, fun cls d σ' H' z l => ?_, rfl, hc, _, fun v H' z => ?_, h⟩
    · refine ⟨z.1, fun a oe na zc hf => ⟨by rw [List.getElem?_set_self (by omega)], ?_⟩⟩
      have e1 : (((σ'.set 2 (some (V.ref a))).set 1 (some (V.ref a))).set 2 none)[1]? = some (some (V.ref a)) := by
        rw [List.getElem?_set_ne (by decide), List.getElem?_set_self (by rw [List.length_set]; omega)]
      rcases z.2 a oe na zc hf with q | ⟨dd, fs, e, q⟩
      · exact .inl ⟨_, e1, q⟩
      · exact .inr ⟨dd, fs, e, fun od => ⟨_, e1, q od⟩⟩
    · exact .inl ⟨.non, rfl, z⟩

/-! ### x(lambda: body), over data -/
/-- a lambda's body: what it does, what it raises -/
def liftX (K : PySem.W.Frag) (T : List (Addr × Str)) (de : XCont → DE) (E : XK) : TE := fun σ H Q => ∃ Γ M Φ Ξ, EnvOk K T Γ M σ H ∧ de Ξ Γ M Φ ∧ Goes K T H Φ Q ∧ GoesX K T H Ξ E
def dCaught (ok : Addr → Prop) (de : XCont → DE) : DE := fun Γ M Φ => de (fun C fs M' => ok C ∧ Φ (.exc C fs) M') Γ M (fun _ M' => Φ .non M')
theorem MOk.ne {K : PySem.W.Frag} {H : Hp} {M : Mem} (m : MOk K H M) {p : Addr} {o : HO} (h : H p = some o) (c : ¬ Chg o) : M p = none := by
  cases q : M p with
  | none => rfl
  | some u =>
    obtain ⟨o', h1, h2⟩ := m p u q
    rw [h] at h1
    cases h1
    exact absurd h2.chg c
theorem xd_kp {T : List (Addr × Str)} {H : Hp} {dd : Addr} {od : Obj} {fs : List (Str × V)} (h : H dd = some (.xd fs)) : Kp T H (upd H dd (.frz od (.xd fs))) := by
  have ne : ∀ b w, H b = some w → (∀ fs, w ≠ .xd fs) → b ≠ dd := fun b w e nc z => by subst z; rw [h] at e; cases e; exact nc fs rfl
  refine ⟨fun b xs e => ?_, fun b o u e => ?_, fun t q hq => ?_⟩
  · rw [upd_ne (ne b _ e fun fs z => by cases z)]; exact e
  · rw [upd_ne (ne b _ e fun fs z => by cases z)]; exact e
  · obtain ⟨ps, h1, h2, h3⟩ := t q hq
    refine ⟨ps, by rw [upd_ne (ne _ _ h1 fun fs z => by cases z)]; exact h1, h2, fun pos cv hc => ?_⟩
    obtain ⟨c0, e1, e2⟩ := h3 pos cv hc
    exact ⟨c0, e1, by rw [upd_ne (ne _ _ e2 fun fs z => by unfold LamX.CodeO at z; cases z)]; exact e2⟩
theorem MOk.kp {K : PySem.W.Frag} {T : List (Addr × Str)} {H H' : Hp} {M : Mem} (m : MOk K H M) (k : Kp T H H') (h : ∀ b o, H b = some o → Chg o → H' b = some o) : MOk K H' M := fun a u q => by
  obtain ⟨o, h1, h2⟩ := m a u q
  exact ⟨o, h _ _ h1 h2.chg, h2.mono k⟩
/-- the making of a lambda: only tables change -/
theorem extN_kp {T : List (Addr × Str)} {H H' : Hp} (e : LamX.ExtN H H') (t : LamX.Tabs T H') : Kp T H H' := ⟨fun b xs h => e b _ h (fun ps z => by cases z), fun b o u h => e b _ h (fun ps z => by cases z), fun _ => t⟩
theorem xl_callX {X : Cx} {T : List (Addr × Str)} {x : Str} {k n : Nat} {fs : FSX} {p pos : Pos} {e : Expr} {es : List Expr} {da : DA} {E : XK} (h : HasX X.prog X.w X.K X.mg X.base T x k n fs) (tk : Takes X (fun cls d _ H => E cls d H)) (hr : Room k X.A) (hg : Gl X x) (ha : XA X T (e :: es) da) (hdb : (x == ("__debug__" : Str)) = false := by decide)
    (he : starEach (e :: es) X.env = (false, eval e X.env) :: starEach es X.env := by rfl) (hpl : (backTo pos (starEach es X.env)).any (·.1) = false := by rfl) : PE X (.Call (.Name x p) (e :: es) [] pos) (liftX X.K T (fun Ξ => dCallX fs Ξ da) E) := by
  obtain ⟨len, f, fd, ps, hn, F, hm, hk, hb⟩ := h
  refine pe_weak (pe_call F hr hg hm hk hb .nil (passes_call tk fun _ _ _ _ z => z) ha hdb he hpl) fun σ H Q q => ?_
  obtain ⟨Γ, M, Φ, Ξ, env, h, g, gx⟩ := q
  refine ⟨Γ, M, _, env, h, fun vs H1 ds M1 φ1 k1 m1 r1 => ?_⟩
  show FSpX X.K T n fs (vs ++ []) H1 Q E
  rw [List.append_nil]
  exact ⟨ds, M1, Φ, _, by rw [r1.length]; exact len _ _ _ _ φ1, r1, m1, k1.tab env.tab, φ1, g.from k1, gx.from k1⟩
section
variable {X : Cx} {T : List (Addr × Str)}
theorem xe_caught {x a fnd err we : Str} {g c P : Addr} {k j : Nat} {pg : Arguments} {sg : Scope} {dV kV doc pm cdv ct oc cW : Value} {an od : Option Addr} {osl : Array (Option Value)} {Ng : List Str} {ok : Addr → Prop} {de : XCont → DE}
    {p1 p2 p3 p4 p5 p6 p7 p8 p9 pa pb pc pd pe : Pos}
    {params : Arguments} {body : Expr} {scope : Scope} {p lpos pos : Pos} (hg : Gl X x) (hm : X.mg x = some (.ref g)) (hk : PySem.W.keepIn X.K (.ref g) = true)
    (lk : X.K.lookup g = some ⟨oc, od, .func (PySem.W.fnOf x x pg [.Assign [.Name fnd pa] (.Constant .none j pb) pc, .Try [.Expr (.Call (.Name a p1) [] [] p2) p3] [.ExceptHandler (some (.Name we p4)) (some err) [.Assign [.Name fnd p5] (.Name err p6) p9] p7] [] [] p8, .Return (some (.Name fnd pd)) pe] sg dV kV doc pm an cdv ct), osl⟩)
    (hcg : PySem.W.codeIn X.K cdv x = true) (hb : L2.Binds X.K (PySem.W.fnOf x x pg [.Assign [.Name fnd pa] (.Constant .none j pb) pc, .Try [.Expr (.Call (.Name a p1) [] [] p2) p3] [.ExceptHandler (some (.Name we p4)) (some err) [.Assign [.Name fnd p5] (.Name err p6) p9] p7] [] [] p8, .Return (some (.Name fnd pd)) pe] sg dV kV doc pm an cdv ct) [a] []) (Sg : FnScope Ng [a] sg)
    (hN : Ng = [a, fnd, err]) (hnd : Ng.Nodup) (hva : Vis sg a) (hlf : sg.names.lookup fnd = some .local) (hle : sg.names.lookup err = some .local)
    (hge : sg.names.lookup we = some .globalImplicit) (hme : X.mg we = some cW) (hde : (we == ("__debug__" : Str)) = false)
    (df : (fnd == ("__debug__" : Str)) = false ∧ (fnd == ("__classdict__" : Str)) = false) (dr : (err == ("__debug__" : Str)) = false ∧ (err == ("__classdict__" : Str)) = false)
    (hok : ∀ C, ok C → PySem.W.exmOne X.K (.ref C) cW = some true)
    (TB : LamX.TabB X.base X.mg c P) (hcode : X.env.code = .ref c) (hmT : (P, X.env.qual ++ "<lambda>") ∈ T) (hu : ∀ p ∈ T, p.1 = P → p.2 = X.env.qual ++ "<lambda>") (hr : Room (k + 2) X.A) (L : LamX.LamS X.env.scope scope) (hdef : defaultsOf params X.env = ([], []))
    (hbind : ∀ (q : Str) (cl : List (Str × Addr)) (pm cv ctv : Value), bindArgs (PySem.W.kla_fn "<lambda>" q params body scope cl pm cv ctv) ⟨[], []⟩ = pure [])
    (hbody : ∀ (A : Around) (outer : List Env) (s : Shared) (H : Hp) (E : XK) (f c' : Addr), Room k (A.deeper (LamX.lamEnv X scope s.heap.objs.size f c')) → Takes (LamX.lamCx X A outer s H E scope f c') (fun cls d _ H => E cls d H) → PE (LamX.lamCx X A outer s H E scope f c') body (liftX X.K T de E))
    (hdb : (x == ("__debug__" : Str)) = false := by decide) (hd : (a == ("__debug__" : Str)) = false := by decide) (hcd : (a == ("__classdict__" : Str)) = false := by decide) :
    XE X T (.Call (.Name x p) [.Lambda params body scope lpos] [] pos) (dCaught ok de) := by
  refine pe_weak (LamX.pe_lamcall (T := T) (a := a) (Ng := Ng) hg hm hk lk hcg hb Sg (by rw [hN]; rfl) hva (caught_gives (cW := cW) hN hnd hlf hle hge hme hde df dr) TB hcode hmT hu hr L hdef hbind (fun A outer s H E f c' hr' => hbody A outer s H E f c' hr' (takes_of rfl rfl rfl rfl)) hdb hd hcd) fun σ H Q q => ?_
  obtain ⟨Γ, M, Φ, env, h, g⟩ := q
  refine ⟨env.tab, fun H1 eN t1 => ?_⟩
  have k1 : Kp T H H1 := extN_kp eN t1
  have m1 : MOk X.K H1 M := env.mem.kp k1 fun b o h c => eN b o h fun ps z => by subst z; exact c
  refine ⟨Γ, M, _, _, env.go k1 m1, h, fun v H' d M' φ k m r => g .non H' .non M' φ (k1.trans k) m .non, fun C fs M' cls d H' φ k m r => ?_⟩
  obtain ⟨hC, φ⟩ := φ
  obtain ⟨rfl, r⟩ := r
  refine ⟨hok C hC, fun a oe na zc hf => ?_⟩
  have k2 : Kp T H' (upd H' a (pinO a oe)) := .new na
  rcases r with ⟨rfl, rfl⟩ | ⟨dd, vs, rfl, hd, rf⟩
  · exact .inl (g _ _ _ _ φ ((k1.trans k).trans k2) (m.new na) (.exc (fs := []) ⟨oe, none, _, upd_same, zc, hf, .inl ⟨rfl, rfl⟩⟩ .nil))
  · have nad : dd ≠ a := fun z => by rw [z, na] at hd; cases hd
    have hd2 : (upd H' a (pinO a oe)) dd = some (.xd vs) := by rw [upd_ne nad]; exact hd
    refine .inr ⟨dd, vs, hd2, fun od => ?_⟩
    have k3 : Kp T (upd H' a (pinO a oe)) (upd (upd H' a (pinO a oe)) dd (.frz od (.xd vs))) := xd_kp hd2
    refine g _ _ _ _ φ (((k1.trans k).trans k2).trans k3) ((m.new na).kp k3 fun b o h c => ?_) (.exc ⟨oe, some dd, _, k3.frz _ _ _ upd_same, zc, hf, .inr ⟨dd, od, rfl, upd_same⟩⟩ (rf.mono (k2.trans k3)))
    rw [upd_ne fun z => ?_]
    · exact h
    · subst z
      rw [hd2] at h
      cases h
      exact c
end
end DL

/-! DLl: exceptions as data: isinstance, fields. -/
namespace DL
open PySem PySem.Spec PyProof.Rows L2
/-- what must be known of an own class, so that its exceptions may be held as data -/
structure ExcD (K : PySem.W.Frag) (C : Addr) : Prop where
  isi : ExcC K C
  fld : XfC K C
section
variable {X : Cx} {T : List (Addr × Str)} {pins : List (Addr × Obj)} {σ : Sg} {H : Hp} {s : Shared}
theorem exc_inst {a C : Addr} {fs : List (Str × V)} (I : Inv X pins σ H s) (h : ExcAt H a C fs) : ∃ oe od, PySem.W.InstAt s.heap a oe C od ∧ ((od = none ∧ fs = []) ∨ ∃ dd o mA, od = some o ∧ s.heap.Ns1 dd mA ∧ s.heap.get? dd = some o ∧ ∀ f, RelO (fs.lookup f) (mA f)) := by
  obtain ⟨oe, d, φ, h1, h2, ⟨vs, h3⟩, h4⟩ := h
  have e1 : s.heap.get? a = some oe := (I.hok a _ h1).1
  have nc : PySem.W.notCls oe = true := by unfold PySem.W.notCls; rw [h3] <;> rfl
  rcases h4 with ⟨rfl, rfl⟩ | ⟨dd, od, rfl, h4⟩
  · exact ⟨oe, none, ⟨e1, h2.1, nc, by rw [h2.2]; trivial⟩, .inl ⟨rfl, rfl⟩⟩
  · have q := I.hok dd _ h4
    obtain ⟨e2, mA, hn, hr⟩ := q
    exact ⟨oe, some od, ⟨e1, h2.1, nc, by rw [h2.2]; exact e2⟩, .inr ⟨dd, od, mA, rfl, hn, e2, hr⟩⟩
def rIsX (K : PySem.W.Frag) : List V → Hp → VK → Prop := fun xs H Q => ∃ (a C : Addr) (fs : List (Str × V)) (c : V) (cv : Value) (b : Bool), xs = [.ref a, c] ∧ ExcAt H a C fs ∧ ExcC K C ∧ (∀ u, RelV c u → u = cv) ∧ PySem.W.kitOne K (.ref C) cv = some b ∧ Q (.bl b) H
theorem call_isX : CallR X (.builtin "isinstance") (rIsX X.K) := by
  intro pins s σ H xs us Q I r h
  obtain ⟨a, C, fs, c, cv, b, rfl, ha, F, hcv, e, q⟩ := h
  obtain ⟨oe, od, J, _⟩ := exc_inst I ha
  cases r with
  | cons rx rr =>
    cases rr with
    | cons rt rr =>
      cases rr
      cases rx
      have ec := hcv _ rt
      subst ec
      obtain ⟨cd, hcd, _⟩ := PySem.W.any_some F.hd
      exact PySem.W.kia_one (PySem.W.kitx_exc (by rw [hcd]; rfl) F.hg F.hk F.hs F.ha F.hn F.ht F.hm) I.kIn J e (fun z => nomatch z) fun tk => ⟨.bl b, H, I.kept (t' := tk) fun _ _ z => z, rfl, q⟩
def fIsX (K : PySem.W.Frag) : List D → Mem → Cont → Prop := fun ds M Φ => match ds with
  | [.exc C _, .ptr A] => ExcC K C ∧ ∃ b, PySem.W.kitOne K (.ref C) (.ref A) = some b ∧ Φ (.bl b) M
  | [.exc C _, .ty n] => ExcC K C ∧ ∃ b, PySem.W.kitOne K (.ref C) (.type n) = some b ∧ Φ (.bl b) M
  | _ => False
theorem d_isX : CRD X.K T (rIsX X.K) (fIsX X.K) := by
  intro xs ds H M Φ Q r m q g
  unfold fIsX at q
  split at q
  · obtain ⟨F, b, h1, φ⟩ := q
    obtain ⟨v, u, rfl, rv, ru⟩ := reps2 r
    cases ru
    cases rv with
    | exc h2 h3 => exact ⟨_, _, _, _, _, b, rfl, h2, F, fun _ z => z, h1, g.now m φ (.bl _)⟩
  · obtain ⟨F, b, h1, φ⟩ := q
    obtain ⟨v, u, rfl, rv, ru⟩ := reps2 r
    cases ru
    cases rv with
    | exc h2 h3 => exact ⟨_, _, _, _, _, b, rfl, h2, F, fun _ z => z, h1, g.now m φ (.bl _)⟩
  · exact q.elim
theorem repF_lookup {K : PySem.W.Frag} {n : Str} {d : D} : ∀ {fs : List (Str × V)} {ds : List (Str × D)}, RepF K H fs ds → ds.lookup n = some d → ∃ v, fs.lookup n = some v ∧ Rep K H v d
  | _, _, .nil, e => by simp at e
  | _, _, .cons (k := k) r t, e => by
    rw [List.lookup_cons] at e ⊢
    cases h : n == k with
    | true => rw [h] at e; cases e; exact ⟨_, rfl, r⟩
    | false => rw [h] at e; exact repF_lookup t e
def dAttr (K : PySem.W.Frag) (n : Str) (de : DE) : DE := fun Γ M Φ => de Γ M fun d M1 => match d with
  | .exc C fs => XfC K C ∧ PySem.W.findIn K (.ref C) n = some none ∧ ∃ e, fs.lookup n = some e ∧ Φ e M1
  | _ => False
theorem xe_attr {e : Expr} {n : Str} {de : DE} {pos : Pos} (he : XE X T e de) (hb : attributeBase e n X.env (eval e X.env) = eval e X.env := by rfl) : XE X T (.Attribute e n pos) (dAttr X.K n de) := by
  refine ⟨fun pins s σ H Q I q => ?_⟩
  obtain ⟨Γ, M, Φ, env, h, g⟩ := q
  refine attr_of hb (thn (he.run pins s σ H (fun v H1 => ∃ a C fs v', v = .ref a ∧ ExcAt H1 a C fs ∧ XfC X.K C ∧ PySem.W.findIn X.K (.ref C) n = some none ∧ fs.lookup n = some v' ∧ Q v' H1) I ⟨Γ, M, _, env, h, fun v H1 d M1 φ k m r => ?_⟩) fun u s1 hh => ?_)
  · split at φ
    · cases r with
      | exc h2 h3 =>
        obtain ⟨F, hn, d', hl, φ⟩ := φ
        obtain ⟨v', h4, h5⟩ := repF_lookup h3 hl
        exact ⟨_, _, _, v', rfl, h2, F, hn, h4, g _ _ _ _ φ k m h5⟩
    · exact φ.elim
  · obtain ⟨v, H1, I1, rv, a, C, fs, v', rfl, ha, F, hn, hl, q⟩ := hh
    obtain rfl : u = Value.ref a := rv
    obtain ⟨oe, od, J, h4⟩ := exc_inst I1 ha
    rcases h4 with ⟨rfl, rfl⟩ | ⟨dd, o, mA, rfl, hns, ho, hr⟩
    · cases hl
    · obtain ⟨o2, ho2, hl2⟩ := lookIn_ns hns
      rw [ho] at ho2
      cases ho2
      obtain ⟨w, hw, rw'⟩ := RelO.some_of (v := v') (o := mA n) (by rw [← hl]; exact hr n)
      exact HandSPX.exc_get I1.kIn J F.ga F.gg F.exC (PySem.W.findObj_own F.hdC hn rfl (by rw [hl2, hw])) (handed_of rw') ⟨v', H1, I1.tok _, rw', q⟩
end
end DL

/-! DLm: zip, {}, defs that make lambdas, the law's own def. -/
namespace DL
open PySem PySem.Spec PyProof.Rows L2
def zipD (xs ys : List D) : List D := List.zipWith (fun a b => D.tup [a, b]) xs ys
theorem zipD_at {xs ys : List D} {i : Nat} {e : D} (h : (zipD xs ys)[i]? = some e) : ∃ a b, xs[i]? = some a ∧ ys[i]? = some b ∧ e = .tup [a, b] := by
  unfold zipD at h
  rw [List.getElem?_zipWith] at h
  cases h1 : xs[i]? with
  | none => rw [h1] at h; simp at h
  | some a =>
    cases h2 : ys[i]? with
    | none => rw [h1, h2] at h; simp at h
    | some b => rw [h1, h2] at h; simp at h; exact ⟨a, b, rfl, rfl, h.symm⟩
def diZip (da : DA) : DI := fun Γ M Φ => da Γ M fun ds M1 => match ds with
  | [.lst xs, .lst ys] => Φ (zipD xs ys) M1
  | [.tup xs, .tup ys] => Φ (zipD xs ys) M1
  | _ => False
section
variable {X : Cx} {T : List (Addr × Str)} {pos : Pos}
theorem xi_zip {e e2 : Expr} {da : DA} {p tpos : Pos} {elts : List Expr} {kk : Nat} (hg : Gl X "zip") (hm : X.mg "zip" = none) (ha : XA X T [e, e2] da)
    (hs : starEach [e, e2] X.env = (false, eval e X.env) :: starEach [e2] X.env := by rfl) (hpl : (backTo pos (starEach [e2] X.env)).any (·.1) = false := by rfl) :
    XI X T (.Tuple elts kk tpos) (.Call (.Name "zip" p) [e, e2] [] pos) (diZip da) := pi_weak (RZ.pi_zipA hg hm ha hs hpl) fun σ H R q => by
  obtain ⟨Γ, M, Φ, env, h, k⟩ := q
  refine ⟨Γ, M, _, env, h, fun vs H1 ds M1 φ1 k1 m1 r1 => ?_⟩
  have fin : ∀ {i : Nat} {vx vy : List V} {xs ys : List D} {d : D} {H2 : Hp}, Reps X.K H1 vx xs → Reps X.K H1 vy ys → Kp T H1 H2 → (zipD xs ys)[i]? = some d → ∃ x y, vx[i]? = some x ∧ vy[i]? = some y ∧ ∀ T0, H2 T0 = none → Rep X.K (upd H2 T0 (.tup [x, y])) (.ref T0) d := fun {i vx vy xs ys d H2} rx ry k2 hd => by
    obtain ⟨a, b, h1, h2, rfl⟩ := zipD_at hd
    obtain ⟨x, hx, qx⟩ := rx.get h1
    obtain ⟨y, hy, qy⟩ := ry.get h2
    refine ⟨x, y, hx, hy, fun T0 hT => ?_⟩
    have kn : Kp T H2 (upd H2 T0 (.tup [x, y])) := .new hT
    exact .tup upd_same (.cons ((qx.mono k2).mono kn) (.cons ((qy.mono k2).mono kn) .nil))
  have len : ∀ {vx vy : List V} {xs ys : List D}, Reps X.K H1 vx xs → Reps X.K H1 vy ys → vx.length ≤ (zipD xs ys).length ∨ vy.length ≤ (zipD xs ys).length := fun {vx vy xs ys} rx ry => by
    unfold zipD
    rw [List.length_zipWith, rx.length, ry.length]
    omega
  split at φ1
  · rename_i xs ys
    obtain ⟨v, u, rfl, rv, ru⟩ := reps2 r1
    cases rv with
    | @lst a vx _ hf hr =>
      cases ru with
      | @lst b vy _ hf2 hr2 =>
        refine ⟨a, b, vx, vy, rfl, .inl ⟨.inl (.inr hf), .inl (.inr hf2), k _ _ _ _ φ1 k1 m1 fun H2 k2 => ?_⟩⟩
        have s1 := sq_still (K := X.K) (T := T) (.inr hf) H2 k2
        have s2 := sq_still (K := X.K) (T := T) (.inr hf2) H2 k2
        refine ⟨fun i d hd => ?_, ⟨vx, vy, s1, s2, len hr hr2⟩⟩
        obtain ⟨x, y, hx, hy, q⟩ := fin hr hr2 k2 hd
        refine ⟨⟨vx, vy, x, y, s1, s2, hx, hy⟩, fun z H3 w => ?_⟩
        obtain ⟨T0, x', y', rfl, hT, rfl, w1, w2⟩ := w
        have e1 := w1 vx s1; rw [hx] at e1; cases e1
        have e2 := w2 vy s2; rw [hy] at e2; cases e2
        exact ⟨fun a u q => by rw [upd_ne (ne_of_none q hT)]; exact q, q T0 hT⟩
  · rename_i xs ys
    obtain ⟨v, u, rfl, rv, ru⟩ := reps2 r1
    cases rv with
    | @tup a vx _ hf hr =>
      cases ru with
      | @tup b vy _ hf2 hr2 =>
        refine ⟨a, b, vx, vy, rfl, .inr ⟨.of hf, .of hf2, k _ _ _ _ φ1 k1 m1 fun H2 k2 => ?_⟩⟩
        have s1 : SqT X.K H2 a vx := .of (k2.tup _ _ hf)
        have s2 : SqT X.K H2 b vy := .of (k2.tup _ _ hf2)
        refine ⟨fun i d hd => ?_, ⟨vx, vy, s1, s2, len hr hr2⟩⟩
        obtain ⟨x, y, hx, hy, q⟩ := fin hr hr2 k2 hd
        refine ⟨⟨vx, vy, x, y, s1, s2, hx, hy⟩, fun z H3 w => ?_⟩
        obtain ⟨T0, x', y', rfl, hT, rfl, w1, w2⟩ := w
        have e1 := w1 vx s1; rw [hx] at e1; cases e1
        have e2 := w2 vy s2; rw [hy] at e2; cases e2
        exact ⟨fun a u q => by rw [upd_ne (ne_of_none q hT)]; exact q, q T0 hT⟩
  · exact φ1.elim
/-- {} that stays -/
theorem xe_dict0 : XE X T (.Dict [] [] pos) (dC (.dic [])) := pe_weak (pe_fz pe_dnewK) fun σ H Q q => by
  obtain ⟨Γ, M, Φ, env, h, g⟩ := q
  refine fun p np => .inl ⟨p, _, rfl, upd_same, True.intro, fun ob => ?_⟩
  rw [upd_upd]
  have kk : Kp T H (upd H p (.frz ob (.dK []))) := .new np
  exact g _ _ _ _ h kk (env.mem.new np) (.dic ⟨ob, upd_same⟩ .nil)
end
/-! ### a def that makes lambdas: its code object is known -/
theorem okDL {P : Program} {w : World} {K : PySem.W.Frag} {mg : Str → Option Value} {base : Heap} {T : List (Addr × Str)} {x qual : Str} {st : Stmt} {f c : Addr} {kV doc pm ct oc : Value} {an od : Option Addr} {osl : Array (Option Value)} {N ps : List Str} {k : Nat} {fs : FS}
    (lk : K.lookup f = some ⟨oc, od, .func (PySem.W.fnOf x qual (defArgs st) (defBody st) (defScope st) .none kV doc pm an (.ref c) ct), osl⟩) (hcd : PySem.W.codeIn K (.ref c) qual = true) (hkp : PySem.W.keepIn K (.ref f) = true) (S : FnScope N ps (defScope st)) (hm : mg x = some (.ref f))
    (hb : L2.Binds K (PySem.W.fnOf x qual (defArgs st) (defBody st) (defScope st) .none kV doc pm an (.ref c) ct) ps [])
    (len : ∀ ds M Φ, fs ds M Φ → ds.length = ps.length)
    (body : ∀ (A : Around) (outer : List Env) (s : Shared) (H : Hp) (E : XK), Room k (A.deeper (envOfC qual (defScope st) s.heap.objs.size f (.ref c))) →
      ∃ dsb, XSs (cxOf CX0 P w K mg base N qual (defScope st) f (.ref c) A outer s H E).nox T (defBody st) dsb ∧ ∀ ds M Φ, fs ds M Φ → dsb { nx := fun _ M' => drp Φ .non M', rt := drp Φ } (startG N ds) M) :
    Has P w K mg base T x (k + 1) ps.length fs := by
  refine ⟨len, f, _, ps, rfl, fn_of lk hcd S (fun vs H Q E h => ?_) (fun A outer s H vs Q E hr h => ?_), hm, hkp, hb⟩
  · obtain ⟨ds, M, Φ, h, _⟩ := h
    exact h
  · obtain ⟨ds, M, Φ, hl, r, m, t, h, g⟩ := h
    obtain ⟨dsb, hx, hd⟩ := body A outer s H E hr
    refine ⟨_, hx.nox, startG N ds, M, _, start_env r m t, hd ds M Φ h, fun σ' H' Γ' M' φ k' e' => ?_, fun _ _ _ _ φ => φ.elim, fun _ _ _ _ φ => φ.elim, g.drp⟩
    exact g.drp _ _ _ _ φ k' e'.mem .non
end DL

/-! DLn: what is known of the own classes, of the catcher, of defs that make lambdas. -/
namespace DL
open PySem PySem.Spec PyProof.Rows L2
/-- an own exception class without own __init__ -/
structure ExcS (K : PySem.W.Frag) (mg : Str → Option Value) (x : Str) (C : Addr) : Prop where
  q : PySem.W.excIn K C [.type "ValueError", .type "Exception", .type "BaseException", .type "object"] "ValueError.__new__" = true
  gx : mg x = some (.ref C)
  kC : PySem.W.keepIn K (.ref C) = true
  sB : PySem.W.subIn K (.ref C) (.type "BaseException") = some true
  tT : PySem.W.typeIn K (.ref C) = some (.type "type")
theorem ExcS.mk_ {X : Cx} {x m : Str} {C : Addr} {j : Nat} {p p2 pos : Pos} (S : ExcS X.K X.mg x C) (hg : Gl X x) (hdb : (x == ("__debug__" : Str)) = false := by decide) : PMk X (.Call (.Name x p) [.Constant (.str m) j p2] [] pos) (fun _ H Q => Q (.ref C) none H) :=
  pmk_own F.excBase_ValueError S.q S.gx S.kC (raises_own S.sB S.tT) hg hdb
/-- a def that makes lambdas -/
structure LamK (base : Heap) (mg : Str → Option Value) (T : List (Addr × Str)) (c P : Addr) (q : Str) : Prop where
  tb : LamX.TabB base mg c P
  mem : (P, q ++ "<lambda>") ∈ T
  un : ∀ p ∈ T, p.1 = P → p.2 = q ++ "<lambda>"
/-- the catcher -/
structure CaughtK (K : PySem.W.Frag) (mg : Str → Option Value) (st : Stmt) (g : Addr) (cW : Value) (ok : Addr → Prop) : Prop where
  gx : mg "_law_caught" = some (.ref g)
  kp : PySem.W.keepIn K (.ref g) = true
  ex : ∃ (oc : Value) (od : Option Addr) (kV doc pm : Value) (an : Option Addr) (cdv ct : Value) (osl : Array (Option Value)),
    K.lookup g = some ⟨oc, od, .func (PySem.W.fnOf "_law_caught" "_law_caught" (defArgs st) (defBody st) (defScope st) .none kV doc pm an cdv ct), osl⟩ ∧ PySem.W.codeIn K cdv "_law_caught" = true ∧
    L2.Binds K (PySem.W.fnOf "_law_caught" "_law_caught" (defArgs st) (defBody st) (defScope st) .none kV doc pm an cdv ct) ["action"] []
  we : mg "WebError" = some cW
  hok : ∀ C, ok C → PySem.W.exmOne K (.ref C) cW = some true
/-- how the catcher is written -/
def CaughtS (st : Stmt) : Prop := ∃ (j : Nat) (p1 p2 p3 p4 p5 p6 p7 p8 p9 pa pb pc pd pe : Pos),
  defBody st = [.Assign [.Name "found" pa] (.Constant .none j pb) pc, .Try [.Expr (.Call (.Name "action" p1) [] [] p2) p3] [.ExceptHandler (some (.Name "WebError" p4)) (some "error") [.Assign [.Name "found" p5] (.Name "error" p6) p9] p7] [] [] p8, .Return (some (.Name "found" pd)) pe]
theorem xe_lam {X : Cx} {T : List (Addr × Str)} {st : Stmt} {g c P : Addr} {cW : Value} {ok : Addr → Prop} {k : Nat} {de : XCont → DE} {params : Arguments} {body : Expr} {scope : Scope} {p lpos pos : Pos} (C : CaughtK X.K X.mg st g cW ok) (S : CaughtS st) (L : LamK X.base X.mg T c P X.env.qual) (hg : Gl X "_law_caught")
    (Sg : FnScope ["action", "found", "error"] ["action"] (defScope st)) (hva : Vis (defScope st) "action") (hlf : (defScope st).names.lookup ("found" : Str) = some .local) (hle : (defScope st).names.lookup ("error" : Str) = some .local) (hge : (defScope st).names.lookup ("WebError" : Str) = some .globalImplicit)
    (hcode : X.env.code = .ref c) (hr : Room (k + 2) X.A) (hL : LamX.LamS X.env.scope scope) (hdef : defaultsOf params X.env = ([], []))
    (hbind : ∀ (q : Str) (cl : List (Str × Addr)) (pm cv ctv : Value), bindArgs (PySem.W.kla_fn "<lambda>" q params body scope cl pm cv ctv) ⟨[], []⟩ = pure [])
    (hbody : ∀ (A : Around) (outer : List Env) (s : Shared) (H : Hp) (E : XK) (f c' : Addr), Room k (A.deeper (LamX.lamEnv X scope s.heap.objs.size f c')) → Takes (LamX.lamCx X A outer s H E scope f c') (fun cls d _ H => E cls d H) → PE (LamX.lamCx X A outer s H E scope f c') body (liftX X.K T de E)) :
    XE X T (.Call (.Name "_law_caught" p) [.Lambda params body scope lpos] [] pos) (dCaught ok de) := by
  obtain ⟨oc, od, kV, doc, pm, an, cdv, ct, osl, lk, hcd, hb⟩ := C.ex
  obtain ⟨j, p1, p2, p3, p4, p5, p6, p7, p8, p9, pa, pb, pc, pd, pe, hs⟩ := S
  rw [hs] at lk hb
  exact xe_caught (cW := cW) hg C.gx C.kp lk hcd hb Sg rfl (by decide +kernel) hva hlf hle hge C.we (by decide) (by decide) (by decide) C.hok L.tb hcode L.mem L.un hr hL hdef hbind hbody
end DL

/-! DLt: more steps. -/
namespace DL
open PySem PySem.Spec PyProof.Rows L2
theorem szl {n : Nat} (h : n ≤ 16777216) : n ≤ sizeLine := by rw [sizeLine_eq]; exact h
theorem szlt {n : Nat} (h : n < 16777216) : n < sizeLine := by rw [sizeLine_eq]; exact h
def varG (i : Nat) : DE := dVar i
section
variable {Γ : Gam} {M : Mem} {Φ : Cont} {i : Nat} {d : D}
theorem i_varG (k : varG i Γ M Φ) : dVar i Γ M Φ := k
theorem i_varK (h : Γ[i]? = some (some d)) (k : Φ d M) : varG i Γ M Φ := i_var h k
end
section
variable {M : Mem} {Φ : Cont} {a b c : D} {xs : List D}
theorem i_ixt0 (k : Φ a M) : fIx (.tup (a :: xs)) (.int 0) M Φ := ⟨a, by
  unfold atI ixN
  rw [if_pos (by omega), if_pos (by simp only [List.length_cons]; omega)]
  rfl, k⟩
theorem i_ixt1 (k : Φ b M) : fIx (.tup (a :: b :: xs)) (.int 1) M Φ := ⟨b, by
  unfold atI ixN
  rw [if_pos (by omega), if_pos (by simp only [List.length_cons]; omega)]
  rfl, k⟩
theorem i_ixt2 (k : Φ c M) : fIx (.tup (a :: b :: c :: xs)) (.int 2) M Φ := ⟨c, by
  unfold atI ixN
  rw [if_pos (by omega), if_pos (by simp only [List.length_cons]; omega)]
  rfl, k⟩
theorem i_ixl0 (k : Φ a M) : fIx (.lst (a :: xs)) (.int 0) M Φ := ⟨_, a, rfl, by
  unfold atI ixN
  rw [if_pos (by omega), if_pos (by simp only [List.length_cons]; omega)]
  rfl, k⟩
theorem i_ixl1 (k : Φ b M) : fIx (.lst (a :: b :: xs)) (.int 1) M Φ := ⟨_, b, rfl, by
  unfold atI ixN
  rw [if_pos (by omega), if_pos (by simp only [List.length_cons]; omega)]
  rfl, k⟩
end
section
variable {Γ Γw : Gam} {M : Mem} {Φ : Cont} {xs : List D} {dg : DG} {dt : DT} {de : DE} {di : DI} {vs : List Nat}
/-- a comprehension at its items -/
def lcG (Γw : Gam) (dg : DG) (dt : DT) (de : DE) (Φ : Cont) (xs : List D) (M1 : Mem) : Prop := ∀ p, M1 p = none → compRun p Γw dg dt de (fun acc M' => Φ (.lst acc) (M'.del p)) xs [] (M1.set p (.lst []))
def lcGM (Γw : Gam) (dg : DG) (dt : DT) (de : DE) (Φ : Cont) (xs : List D) (M1 : Mem) : Prop := ∀ p, M1 p = none → compRun p Γw dg dt de (fun acc M' => Φ (.ptr p) M') xs [] (M1.set p (.lst []))
theorem i_lcN (k : di Γ M fun xs M1 => lcG (wipeG Γ vs) dg dt de Φ xs M1) : dLc vs di dg dt de Γ M Φ := k
theorem i_lcNM (k : di Γ M fun xs M1 => lcGM (wipeG Γ vs) dg dt de Φ xs M1) : dLcM vs di dg dt de Γ M Φ := k
theorem lc_by (g : D → Option D) (hl : xs.length ≤ sizeLine) (hx : ∀ x ∈ xs, ∀ M' : Mem, Sub M M' → ∀ F : Option D → Mem → Prop, F (g x) M' → dg x Γw M' fun Γ2 M2 => dt Γ2 M2 fun b M3 => if b = true then de Γ2 M3 fun d M4 => F (some d) M4 else F none M3)
    (k : Φ (.lst (xs.filterMap g)) M) : lcG Γw dg dt de Φ xs M := comp_lc (Ψ := fun acc M' => Φ (.lst acc) M') g hl hx k
theorem lcM_by (g : D → Option D) (hl : xs.length ≤ sizeLine) (hx : ∀ x ∈ xs, ∀ M' : Mem, Sub M M' → ∀ F : Option D → Mem → Prop, F (g x) M' → dg x Γw M' fun Γ2 M2 => dt Γ2 M2 fun b M3 => if b = true then de Γ2 M3 fun d M4 => F (some d) M4 else F none M3)
    (k : ∀ p, M p = none → Φ (.ptr p) (M.set p (.lst (xs.filterMap g)))) : lcGM Γw dg dt de Φ xs M := fun p hp => comp_map (Φ := fun acc M' => Φ (.ptr p) M') g hx hl hp (k p hp)
/-- with effects: by an invariant; p is the list in the making -/
theorem lcI_by (W : Nat → List D → Mem → Prop) (h0 : W 0 [] M) (hl : xs.length ≤ sizeLine)
    (hs : ∀ (i : Nat) (x : D) (acc : List D) (M : Mem), xs[i]? = some x → W i acc M → ∀ p, M p = none → ∀ F : Option D → Mem → Prop, (∀ o M1, W (i + 1) (match o with | some d => acc ++ [d] | none => acc) M1 → M1 p = none → F o (M1.set p (.lst acc))) →
      dg x Γw (M.set p (.lst acc)) fun Γ2 M2 => dt Γ2 M2 fun b M3 => if b = true then de Γ2 M3 fun d M4 => F (some d) M4 else F none M3)
    (k : ∀ acc M1, W xs.length acc M1 → Φ (.lst acc) M1) : lcG Γw dg dt de Φ xs M := by
  intro p hp
  have key : ∀ (n i : Nat) (acc : List D) (M1 : Mem), i + n = xs.length → acc.length ≤ i → W i acc M1 → M1 p = none → compRun p Γw dg dt de (fun acc M' => Φ (.lst acc) (M'.del p)) (xs.drop i) acc (M1.set p (.lst acc)) := by
    intro n
    induction n with
    | zero =>
      intro i acc M1 e hz w np
      have e' : i = xs.length := by omega
      subst e'
      rw [List.drop_length]
      refine ⟨Mem.set_same, ?_⟩
      show Φ _ ((M1.set p _).del p)
      rw [del_set np]
      exact k acc M1 w
    | succ n ih =>
      intro i acc M1 e hz w np
      have hlt : i < xs.length := by omega
      rw [List.drop_eq_getElem_cons hlt]
      refine hs i xs[i] acc M1 (by simp [hlt]) w p np (fun o M4 => match o with
        | some d => M4 p = some (.lst acc) ∧ acc.length < sizeLine ∧ compRun p Γw dg dt de (fun acc M' => Φ (.lst acc) (M'.del p)) (xs.drop (i + 1)) (acc ++ [d]) (M4.set p (.lst (acc ++ [d])))
        | none => compRun p Γw dg dt de (fun acc M' => Φ (.lst acc) (M'.del p)) (xs.drop (i + 1)) acc M4) ?_
      intro o M2 w2 np2
      cases o with
      | some d =>
        refine ⟨Mem.set_same, by omega, ?_⟩
        rw [Mem.set_set]
        exact ih (i + 1) (acc ++ [d]) M2 (by omega) (by rw [List.length_append, List.length_singleton]; omega) w2 np2
      | none => exact ih (i + 1) acc M2 (by omega) (by omega) w2 np2
  exact key xs.length 0 [] M (by omega) (Nat.le_refl _) h0 hp
end
end DL

/-! DLu: the steps found by their heads (printed by mkstp.py). -/
namespace DL
open PySem PySem.Spec PyProof.Rows L2
class Stp (G : Prop) (K : outParam Prop) : Prop where
  go : K → G
section
variable {Γ Γw : Gam} {M : Mem} {Φ : Cont} {Ψ : Bool → Mem → Prop} {Θ : List D → Mem → Prop} {E : DEnds} {a b c d e : D} {i : Nat} {de da db dc : DE} {dt du : DT} {ds dr d1 d2 : DS} {aa : DA} {f f' : D → D → Mem → Cont → Prop} {fs : FS} {xs : List D} {dg : DG} {di : DI} {vs : List Nat}
instance st_i_c  : Stp (dC d Γ M Φ) (Φ d M) := ⟨i_c⟩
instance st_i_bin  : Stp (dBin f da db Γ M Φ) (da Γ M fun d M1 => db Γ M1 fun e M2 => f d e M2 Φ) := ⟨i_bin⟩
instance st_i_anil  : Stp (daNil Γ M Θ) (Θ [] M) := ⟨i_anil⟩
instance st_i_acons  : Stp (daCons de aa Γ M Θ) (de Γ M fun d M1 => aa Γ M1 fun ds M2 => Θ (d :: ds) M2) := ⟨i_acons⟩
instance st_i_cb {g : List D → Mem → Cont → Prop} : Stp (dCB g aa Γ M Φ) (aa Γ M fun ds M1 => g ds M1 Φ) := ⟨i_cb⟩
instance st_i_call  : Stp (dCall fs aa Γ M Φ) (aa Γ M fun ds M1 => fs ds M1 Φ) := ⟨i_call⟩
instance st_i_tup  : Stp (dTup aa Γ M Φ) (aa Γ M fun ds M1 => ds.length ≤ sizeLine ∧ Φ (.tup ds) M1) := ⟨i_tup⟩
instance st_i_lst  : Stp (dLst aa Γ M Φ) (aa Γ M fun ds M1 => ds.length ≤ sizeLine ∧ Φ (.lst ds) M1) := ⟨i_lst⟩
instance st_i_lstM  : Stp (dLstM aa Γ M Φ) (aa Γ M fun ds M1 => ds.length ≤ sizeLine ∧ ∀ p, M1 p = none → Φ (.ptr p) (M1.set p (.lst ds))) := ⟨i_lstM⟩
instance st_i_B  : Stp (dB de Γ M Ψ) (de Γ M fun d M1 => match d with
  | .bl b => Ψ b M1
  | _ => False) := ⟨i_B⟩
instance st_i_Bb {b : Bool} : Stp ((match (D.bl b) with
  | .bl b => Ψ b M
  | _ => False)) (Ψ b M) := ⟨i_Bb⟩
instance st_i_notT  : Stp (dNotT dt Γ M Ψ) (dt Γ M fun b M1 => Ψ (!b) M1) := ⟨i_notT⟩
instance st_i_andT  : Stp (dAndT dt du Γ M Ψ) (dt Γ M fun b M1 => if b = true then du Γ M1 Ψ else Ψ false M1) := ⟨i_andT⟩
instance st_i_orT  : Stp (dOrT dt du Γ M Ψ) (dt Γ M fun b M1 => if b = true then Ψ true M1 else du Γ M1 Ψ) := ⟨i_orT⟩
instance st_i_andV  : Stp (dAndV da db Γ M Φ) (da Γ M fun d M1 => match d with
  | .bl b => if b = true then db Γ M1 Φ else Φ (.bl false) M1
  | _ => False) := ⟨i_andV⟩
instance st_i_orV  : Stp (dOrV da db Γ M Φ) (da Γ M fun d M1 => match d with
  | .bl b => if b = true then Φ (.bl true) M1 else db Γ M1 Φ
  | _ => False) := ⟨i_orV⟩
instance st_i_notV  : Stp (dNotV da Γ M Φ) (da Γ M fun d M1 => match d with
  | .bl b => Φ (.bl (!b)) M1
  | _ => False) := ⟨i_notV⟩
instance st_i_if  : Stp (dIf dt da db Γ M Φ) (dt Γ M fun b M1 => if b = true then da Γ M1 Φ else db Γ M1 Φ) := ⟨i_if⟩
instance st_i_ifT {dv : DT} : Stp (dIfT dt du dv Γ M Ψ) (dt Γ M fun b M1 => if b = true then du Γ M1 Ψ else dv Γ M1 Ψ) := ⟨i_ifT⟩
instance st_i_chain  : Stp (dChain f f' da db dc Γ M Φ) (da Γ M fun x M1 => db Γ M1 fun y M2 => f x y M2 fun z M3 => match z with
  | .bl b => if b = true then dc Γ M3 fun w M4 => f' y w M4 Φ else Φ (.bl false) M3
  | _ => False) := ⟨i_chain⟩
instance st_i_itT {A B : Prop} : Stp (if true = true then A else B) (A) := ⟨i_itT⟩
instance st_i_itF {A B : Prop} : Stp (if false = true then A else B) (B) := ⟨i_itF⟩
instance st_i_itnT {A B : Prop} : Stp (if (!true) = true then A else B) (B) := ⟨i_itnT⟩
instance st_i_itnF {A B : Prop} : Stp (if (!false) = true then A else B) (A) := ⟨i_itnF⟩
instance st_i_seq  : Stp (dsSeq ds dr E Γ M) (ds { E with nx := fun Γ' M' => dr E Γ' M' } Γ M) := ⟨i_seq⟩
instance st_i_nil  : Stp (dsNil E Γ M) (E.nx Γ M) := ⟨i_nil⟩
instance st_i_expr  : Stp (dsExpr de E Γ M) (de Γ M fun _ M1 => E.nx Γ M1) := ⟨i_expr⟩
instance st_i_ret  : Stp (dsRet de E Γ M) (de Γ M E.rt) := ⟨i_ret⟩
instance st_i_ifs  : Stp (dsIf dt d1 d2 E Γ M) (dt Γ M fun b M1 => if b = true then d1 E Γ M1 else d2 E Γ M1) := ⟨i_ifs⟩
instance st_i_set  : Stp (dsSet i de E Γ M) (de Γ M fun d M1 => E.nx (Γ.set i (some d)) M1) := ⟨i_set⟩
instance st_i_par {j : Nat} : Stp (dsPar i j aa E Γ M) (aa Γ M fun ds M1 => match ds with
  | [a, b] => E.nx ((Γ.set i (some a)).set j (some b)) M1
  | _ => False) := ⟨i_par⟩
instance st_i_asgP {j : Nat} : Stp (dsAsgP i j de E Γ M) (de Γ M fun d M1 => match d with
  | .tup [a, b] => E.nx ((Γ.set i (some a)).set j (some b)) M1
  | _ => False) := ⟨i_asgP⟩
instance st_i_gName {Φ : Gam → Mem → Prop} : Stp (dgName i d Γ M Φ) (Φ (Γ.set i (some d)) M) := ⟨i_gName⟩
instance st_i_gPair {Φ : Gam → Mem → Prop} {j : Nat} {a b : D} : Stp (dgPair i j (.tup [a, b]) Γ M Φ) (Φ ((Γ.set i (some a)).set j (some b)) M) := ⟨i_gPair⟩
instance st_i_add {x y : Int} : Stp (fAdd (.int x) (.int y) M Φ) (Φ (.int (x + y)) M) := ⟨i_add⟩
instance st_i_sub {x y : Int} : Stp (fSub (.int x) (.int y) M Φ) (Φ (.int (x - y)) M) := ⟨i_sub⟩
instance st_i_neg  : Stp (dNeg da Γ M Φ) (da Γ M fun d M1 => match d with
  | .int i => Φ (.int (-i)) M1
  | _ => False) := ⟨i_neg⟩
instance st_i_cmp {p : Int → Int → Bool} {x y : Int} : Stp (fCmp p (.int x) (.int y) M Φ) (Φ (.bl (p x y)) M) := ⟨i_cmp⟩
instance st_i_eqi {x y : Int} : Stp (fEq (.int x) (.int y) M Φ) (Φ (.bl (decide (x = y))) M) := ⟨i_eqi⟩
instance st_i_eqs {x y : Str} : Stp (fEq (.str x) (.str y) M Φ) (Φ (.bl (decide (x = y))) M) := ⟨i_eqs⟩
instance st_i_eqb {x y : Bool} : Stp (fEq (.bl x) (.bl y) M Φ) (Φ (.bl (decide (x = y))) M) := ⟨i_eqb⟩
instance st_i_nei {x y : Int} : Stp (fNe (.int x) (.int y) M Φ) (Φ (.bl (!decide (x = y))) M) := ⟨i_nei⟩
instance st_i_nes {x y : Str} : Stp (fNe (.str x) (.str y) M Φ) (Φ (.bl (!decide (x = y))) M) := ⟨i_nes⟩
instance st_i_neb {x y : Bool} : Stp (fNe (.bl x) (.bl y) M Φ) (Φ (.bl (!decide (x = y))) M) := ⟨i_neb⟩
instance st_i_isN {x : D} : Stp (fIs x .non M Φ) (Φ (.bl (isNonD x)) M) := ⟨i_isN⟩
instance st_i_isB {x y : Bool} : Stp (fIs (.bl x) (.bl y) M Φ) (Φ (.bl (decide (x = y))) M) := ⟨i_isB⟩
instance st_i_isNotN {x : D} : Stp (fIsNot x .non M Φ) (Φ (.bl (!isNonD x)) M) := ⟨i_isNotN⟩
instance st_i_isNotB {x y : Bool} : Stp (fIsNot (.bl x) (.bl y) M Φ) (Φ (.bl (!decide (x = y))) M) := ⟨i_isNotB⟩
instance st_i_ins {c : Nat} {z : Str} : Stp (fIn (.str ⟨#[c]⟩) (.str z) M Φ) (Φ (.bl (decide (c ∈ z.cps.toList))) M) := ⟨i_ins⟩
instance st_i_notIns {c : Nat} {z : Str} : Stp (fNotIn (.str ⟨#[c]⟩) (.str z) M Φ) (Φ (.bl (!decide (c ∈ z.cps.toList))) M) := ⟨i_notIns⟩
instance st_i_neLF {ns : List Int} : Stp (fNe (.lst (ns.map .int)) (.lst []) M Φ) (Φ (.bl (!ns.isEmpty)) M) := ⟨i_neLF⟩
instance st_i_dput {dd di dv : DE} : Stp (dDPut dd di dv E Γ M) (dv Γ M fun v M1 => dd Γ M1 fun d M2 => di Γ M2 fun i M3 => ∃ p kvs key, d = .ptr p ∧ M3 p = some (.dK kvs) ∧ keyD i = some key ∧ kvs.length < sizeLine ∧ E.nx Γ (M3.set p (.dK (putD kvs key v)))) := ⟨i_dput⟩
instance st_i_sl {dl dh : DO} : Stp (dSl de dl dh Γ M Φ) (de Γ M fun d M1 => dl Γ M1 fun lo M2 => dh Γ M2 fun hi M3 => fSl d lo hi M3 Φ) := ⟨i_sl⟩
instance st_i_slM {dl dh : DO} : Stp (dSlM de dl dh Γ M Φ) (de Γ M fun d M1 => dl Γ M1 fun lo M2 => dh Γ M2 fun hi M3 => ∃ xs, lsD M3 d = some xs ∧ ∀ p, M3 p = none → Φ (.ptr p) (M3.set p (.lst (cutD xs lo hi)))) := ⟨i_slM⟩
instance st_i_oNo {Φ : Option Int → Mem → Prop} : Stp (doNo Γ M Φ) (Φ none M) := ⟨i_oNo⟩
instance st_i_oAt {Φ : Option Int → Mem → Prop} : Stp (doAt de Γ M Φ) (de Γ M fun d M1 => match d with
  | .int i => Φ (some i) M1
  | _ => False) := ⟨i_oAt⟩
instance st_i_slt {xs : List D} {lo hi : Option Int} : Stp (fSl (.tup xs) lo hi M Φ) (Φ (.tup (cutD xs lo hi)) M) := ⟨i_slt⟩
instance st_i_sll {xs : List D} {lo hi : Option Int} : Stp (fSl (.lst xs) lo hi M Φ) (Φ (.lst (cutD xs lo hi)) M) := ⟨i_sll⟩
instance st_i_rev  : Stp (dRev de Γ M Φ) (de Γ M fun d M1 => ∃ xs, lsD M1 d = some xs ∧ Φ (.lst xs.reverse) M1) := ⟨i_rev⟩
instance st_i_abs {x : Int} : Stp (fAbs [.int x] M Φ) (Φ (.int (x.natAbs : Int)) M) := ⟨i_abs⟩
instance st_i_max {x y : Int} : Stp (fMax2 [.int x, .int y] M Φ) (Φ (.int (max x y)) M) := ⟨i_max⟩
instance st_i_min {x y : Int} : Stp (fMin2 [.int x, .int y] M Φ) (Φ (.int (min x y)) M) := ⟨i_min⟩
instance st_i_int {x : Int} : Stp (fInt [.int x] M Φ) (Φ (.int x) M) := ⟨i_int⟩
instance st_i_lent {xs : List D} : Stp (fLen [.tup xs] M Φ) (Φ (.int (xs.length : Int)) M) := ⟨i_lent⟩
instance st_i_lenl {xs : List D} : Stp (fLen [.lst xs] M Φ) (Φ (.int (xs.length : Int)) M) := ⟨i_lenl⟩
instance st_i_lenc {xs : List D} : Stp (fLen [.scr xs] M Φ) (Φ (.int (xs.length : Int)) M) := ⟨i_lenc⟩
instance st_i_tupt {xs : List D} : Stp (fTuple [.tup xs] M Φ) (Φ (.tup xs) M) := ⟨i_tupt⟩
instance st_i_tupl {xs : List D} : Stp (fTuple [.lst xs] M Φ) (Φ (.tup xs) M) := ⟨i_tupl⟩
instance st_i_listl {xs : List D} : Stp (fListA [.lst xs] M Φ) (Φ (.lst xs) M) := ⟨i_listl⟩
instance st_i_listt {xs : List D} : Stp (fListA [.tup xs] M Φ) (Φ (.lst xs) M) := ⟨i_listt⟩
instance st_isi_non_int  : Stp (fIsi [.non, .ty "int"] M Φ) (Φ (.bl false) M) := ⟨isi_non_int⟩
instance st_isi_non_bool  : Stp (fIsi [.non, .ty "bool"] M Φ) (Φ (.bl false) M) := ⟨isi_non_bool⟩
instance st_isi_non_str  : Stp (fIsi [.non, .ty "str"] M Φ) (Φ (.bl false) M) := ⟨isi_non_str⟩
instance st_isi_non_tuple  : Stp (fIsi [.non, .ty "tuple"] M Φ) (Φ (.bl false) M) := ⟨isi_non_tuple⟩
instance st_isi_non_list  : Stp (fIsi [.non, .ty "list"] M Φ) (Φ (.bl false) M) := ⟨isi_non_list⟩
instance st_isi_non_dict  : Stp (fIsi [.non, .ty "dict"] M Φ) (Φ (.bl false) M) := ⟨isi_non_dict⟩
instance st_isi_bl_int {b : Bool} : Stp (fIsi [.bl b, .ty "int"] M Φ) (Φ (.bl true) M) := ⟨isi_bl_int⟩
instance st_isi_bl_bool {b : Bool} : Stp (fIsi [.bl b, .ty "bool"] M Φ) (Φ (.bl true) M) := ⟨isi_bl_bool⟩
instance st_isi_bl_str {b : Bool} : Stp (fIsi [.bl b, .ty "str"] M Φ) (Φ (.bl false) M) := ⟨isi_bl_str⟩
instance st_isi_bl_tuple {b : Bool} : Stp (fIsi [.bl b, .ty "tuple"] M Φ) (Φ (.bl false) M) := ⟨isi_bl_tuple⟩
instance st_isi_bl_list {b : Bool} : Stp (fIsi [.bl b, .ty "list"] M Φ) (Φ (.bl false) M) := ⟨isi_bl_list⟩
instance st_isi_bl_dict {b : Bool} : Stp (fIsi [.bl b, .ty "dict"] M Φ) (Φ (.bl false) M) := ⟨isi_bl_dict⟩
instance st_isi_int_int {i : Int} : Stp (fIsi [.int i, .ty "int"] M Φ) (Φ (.bl true) M) := ⟨isi_int_int⟩
instance st_isi_int_bool {i : Int} : Stp (fIsi [.int i, .ty "bool"] M Φ) (Φ (.bl false) M) := ⟨isi_int_bool⟩
instance st_isi_int_str {i : Int} : Stp (fIsi [.int i, .ty "str"] M Φ) (Φ (.bl false) M) := ⟨isi_int_str⟩
instance st_isi_int_tuple {i : Int} : Stp (fIsi [.int i, .ty "tuple"] M Φ) (Φ (.bl false) M) := ⟨isi_int_tuple⟩
instance st_isi_int_list {i : Int} : Stp (fIsi [.int i, .ty "list"] M Φ) (Φ (.bl false) M) := ⟨isi_int_list⟩
instance st_isi_int_dict {i : Int} : Stp (fIsi [.int i, .ty "dict"] M Φ) (Φ (.bl false) M) := ⟨isi_int_dict⟩
instance st_isi_str_int {x : Str} : Stp (fIsi [.str x, .ty "int"] M Φ) (Φ (.bl false) M) := ⟨isi_str_int⟩
instance st_isi_str_bool {x : Str} : Stp (fIsi [.str x, .ty "bool"] M Φ) (Φ (.bl false) M) := ⟨isi_str_bool⟩
instance st_isi_str_str {x : Str} : Stp (fIsi [.str x, .ty "str"] M Φ) (Φ (.bl true) M) := ⟨isi_str_str⟩
instance st_isi_str_tuple {x : Str} : Stp (fIsi [.str x, .ty "tuple"] M Φ) (Φ (.bl false) M) := ⟨isi_str_tuple⟩
instance st_isi_str_list {x : Str} : Stp (fIsi [.str x, .ty "list"] M Φ) (Φ (.bl false) M) := ⟨isi_str_list⟩
instance st_isi_str_dict {x : Str} : Stp (fIsi [.str x, .ty "dict"] M Φ) (Φ (.bl false) M) := ⟨isi_str_dict⟩
instance st_isi_tup_int {xs : List D} : Stp (fIsi [.tup xs, .ty "int"] M Φ) (Φ (.bl false) M) := ⟨isi_tup_int⟩
instance st_isi_tup_bool {xs : List D} : Stp (fIsi [.tup xs, .ty "bool"] M Φ) (Φ (.bl false) M) := ⟨isi_tup_bool⟩
instance st_isi_tup_str {xs : List D} : Stp (fIsi [.tup xs, .ty "str"] M Φ) (Φ (.bl false) M) := ⟨isi_tup_str⟩
instance st_isi_tup_tuple {xs : List D} : Stp (fIsi [.tup xs, .ty "tuple"] M Φ) (Φ (.bl true) M) := ⟨isi_tup_tuple⟩
instance st_isi_tup_list {xs : List D} : Stp (fIsi [.tup xs, .ty "list"] M Φ) (Φ (.bl false) M) := ⟨isi_tup_list⟩
instance st_isi_tup_dict {xs : List D} : Stp (fIsi [.tup xs, .ty "dict"] M Φ) (Φ (.bl false) M) := ⟨isi_tup_dict⟩
instance st_isi_lst_int {xs : List D} : Stp (fIsi [.lst xs, .ty "int"] M Φ) (Φ (.bl false) M) := ⟨isi_lst_int⟩
instance st_isi_lst_bool {xs : List D} : Stp (fIsi [.lst xs, .ty "bool"] M Φ) (Φ (.bl false) M) := ⟨isi_lst_bool⟩
instance st_isi_lst_str {xs : List D} : Stp (fIsi [.lst xs, .ty "str"] M Φ) (Φ (.bl false) M) := ⟨isi_lst_str⟩
instance st_isi_lst_tuple {xs : List D} : Stp (fIsi [.lst xs, .ty "tuple"] M Φ) (Φ (.bl false) M) := ⟨isi_lst_tuple⟩
instance st_isi_lst_list {xs : List D} : Stp (fIsi [.lst xs, .ty "list"] M Φ) (Φ (.bl true) M) := ⟨isi_lst_list⟩
instance st_isi_lst_dict {xs : List D} : Stp (fIsi [.lst xs, .ty "dict"] M Φ) (Φ (.bl false) M) := ⟨isi_lst_dict⟩
instance st_isi_dic_int {kvs : List (Key × D)} : Stp (fIsi [.dic kvs, .ty "int"] M Φ) (Φ (.bl false) M) := ⟨isi_dic_int⟩
instance st_isi_dic_bool {kvs : List (Key × D)} : Stp (fIsi [.dic kvs, .ty "bool"] M Φ) (Φ (.bl false) M) := ⟨isi_dic_bool⟩
instance st_isi_dic_str {kvs : List (Key × D)} : Stp (fIsi [.dic kvs, .ty "str"] M Φ) (Φ (.bl false) M) := ⟨isi_dic_str⟩
instance st_isi_dic_tuple {kvs : List (Key × D)} : Stp (fIsi [.dic kvs, .ty "tuple"] M Φ) (Φ (.bl false) M) := ⟨isi_dic_tuple⟩
instance st_isi_dic_list {kvs : List (Key × D)} : Stp (fIsi [.dic kvs, .ty "list"] M Φ) (Φ (.bl false) M) := ⟨isi_dic_list⟩
instance st_isi_dic_dict {kvs : List (Key × D)} : Stp (fIsi [.dic kvs, .ty "dict"] M Φ) (Φ (.bl true) M) := ⟨isi_dic_dict⟩
instance st_i_bm {g : D → List D → Mem → Cont → Prop} : Stp (dBM g de aa Γ M Φ) (de Γ M fun d M1 => (lsR M1 d).isSome = true ∧ aa Γ M1 fun ds M2 => g d ds M2 Φ) := ⟨i_bm⟩
instance st_i_bm0 {g : D → List D → Mem → Cont → Prop} : Stp (dBM0 g de Γ M Φ) (de Γ M fun d M1 => (lsR M1 d).isSome = true ∧ g d [] M1 Φ) := ⟨i_bm0⟩
instance st_i_m1 {g : Str → D → Mem → Cont → Prop} : Stp (dM1 g da db Γ M Φ) (da Γ M fun d M1 => match d with
  | .str a => db Γ M1 fun e M2 => g a e M2 Φ
  | _ => False) := ⟨i_m1⟩
instance st_i_for {di : DI} {dg : DG} : Stp (dsFor di dg ds E Γ M) (di Γ M fun xs M1 => forRun dg ds E xs Γ M1) := ⟨i_for⟩
instance st_i_any  : Stp (diAny de Γ M Θ) (de Γ M fun d M1 => ∃ xs, itD d = some xs ∧ Θ xs M1) := ⟨i_any⟩
instance st_i_itl {xs : List D} {R : List D → Prop} : Stp (∃ ys, itD (.lst xs) = some ys ∧ R ys) (R xs) := ⟨i_itl⟩
instance st_i_itt {xs : List D} {R : List D → Prop} : Stp (∃ ys, itD (.tup xs) = some ys ∧ R ys) (R xs) := ⟨i_itt⟩
instance st_i_its {z : Str} {R : List D → Prop} : Stp (∃ ys, itD (.str z) = some ys ∧ R ys) (R (z.cps.toList.map fun c => .str ⟨#[c]⟩)) := ⟨i_its⟩
instance st_i_itc {xs : List D} {R : List D → Prop} : Stp (∃ ys, itD (.scr xs) = some ys ∧ R ys) (R xs) := ⟨i_itc⟩
instance st_i_rng1  : Stp (diRng1 aa Γ M Θ) (aa Γ M fun ds M1 => match ds with
  | [.int j] => -(2 ^ 62) ≤ j ∧ j < 2 ^ 62 ∧ Θ (rgD 0 j) M1
  | _ => False) := ⟨i_rng1⟩
instance st_i_rng2  : Stp (diRng2 aa Γ M Θ) (aa Γ M fun ds M1 => match ds with
  | [.int i, .int j] => (-(2 ^ 62) ≤ i ∧ i < 2 ^ 62 ∧ -(2 ^ 62) ≤ j ∧ j < 2 ^ 62) ∧ Θ (rgD i j) M1
  | _ => False) := ⟨i_rng2⟩
instance st_i_yes  : Stp (dtYes Γ M Ψ) (Ψ true M) := ⟨i_yes⟩
instance st_i_ixt0  : Stp (fIx (.tup (a :: xs)) (.int 0) M Φ) (Φ a M) := ⟨i_ixt0⟩
instance st_i_ixt1  : Stp (fIx (.tup (a :: b :: xs)) (.int 1) M Φ) (Φ b M) := ⟨i_ixt1⟩
instance st_i_ixt2  : Stp (fIx (.tup (a :: b :: c :: xs)) (.int 2) M Φ) (Φ c M) := ⟨i_ixt2⟩
instance st_i_ixl0  : Stp (fIx (.lst (a :: xs)) (.int 0) M Φ) (Φ a M) := ⟨i_ixl0⟩
instance st_i_ixl1  : Stp (fIx (.lst (a :: b :: xs)) (.int 1) M Φ) (Φ b M) := ⟨i_ixl1⟩
instance st_i_lcN  : Stp (dLc vs di dg dt de Γ M Φ) (di Γ M fun xs M1 => lcG (wipeG Γ vs) dg dt de Φ xs M1) := ⟨i_lcN⟩
instance st_i_lcNM  : Stp (dLcM vs di dg dt de Γ M Φ) (di Γ M fun xs M1 => lcGM (wipeG Γ vs) dg dt de Φ xs M1) := ⟨i_lcNM⟩
instance st_enum : Stp (diEnum aa Γ M Θ) (aa Γ M fun ds M1 => match ds with
  | [.lst xs] => Θ (enD 0 xs) M1
  | _ => False) := ⟨fun k => k⟩
instance st_zip : Stp (diZip aa Γ M Θ) (aa Γ M fun ds M1 => match ds with
  | [.lst xs, .lst ys] => Θ (zipD xs ys) M1
  | [.tup xs, .tup ys] => Θ (zipD xs ys) M1
  | _ => False) := ⟨fun k => k⟩
instance st_callX {fx : FSX} {Ξ : XCont} : Stp (dCallX fx Ξ aa Γ M Φ) (aa Γ M fun ds M1 => fx ds M1 Φ Ξ) := ⟨fun k => k⟩
instance st_caught {ok : Addr → Prop} {dx : XCont → DE} : Stp (dCaught ok dx Γ M Φ) (dx (fun C fs M' => ok C ∧ Φ (.exc C fs) M') Γ M (fun _ M' => Φ .non M')) := ⟨fun k => k⟩
instance st_raise0 {C : Addr} {Ξ : XCont} : Stp (dRaise0 C Ξ E Γ M) (Ξ C [] M) := ⟨fun k => k⟩
instance st_raise1 {C : Addr} {Ξ : XCont} {fld : Str} : Stp (dRaise1 C fld de Ξ E Γ M) (de Γ M fun d M1 => Ξ C [(fld, d)] M1) := ⟨fun k => k⟩
/-! steps with a side condition: their heads first -/
def mulG (x y : Int) (M : Mem) (Φ : Cont) : Prop := fMul (.int x) (.int y) M Φ
theorem g_mul {x y : Int} (k : mulG x y M Φ) : fMul (.int x) (.int y) M Φ := k
theorem k_mulL {x y : Int} (h1 : -(2 ^ 64) < x) (h2 : x < 2 ^ 64) (k : Φ (.int (x * y)) M) : mulG x y M Φ := i_mulL h1 h2 k
theorem k_mulR {x y : Int} (h1 : -(2 ^ 64) < y) (h2 : y < 2 ^ 64) (k : Φ (.int (x * y)) M) : mulG x y M Φ := i_mulR h1 h2 k
def modG (x y : Int) (M : Mem) (Φ : Cont) : Prop := fMod (.int x) (.int y) M Φ
theorem g_mod {x y : Int} (k : modG x y M Φ) : fMod (.int x) (.int y) M Φ := k
theorem k_mod {x y : Int} (h : 0 < y) (k : Φ (.int (x % y)) M) : modG x y M Φ := i_mod h k
def fdivG (x y : Int) (M : Mem) (Φ : Cont) : Prop := fFdiv (.int x) (.int y) M Φ
theorem g_fdiv {x y : Int} (k : fdivG x y M Φ) : fFdiv (.int x) (.int y) M Φ := k
theorem k_fdiv {x y : Int} (h1 : 0 < y) (h2 : y < 4294967296) (k : Φ (.int (x / y)) M) : fdivG x y M Φ := i_fdivc h1 h2 k
def dgetG (p : Addr) (e : D) (M : Mem) (Φ : Cont) : Prop := fDGet (.ptr p) e M Φ
theorem g_dget {p : Addr} (k : dgetG p e M Φ) : fDGet (.ptr p) e M Φ := k
theorem k_dget {p : Addr} {kvs : List (Key × D)} {key : Key} {x : D} (h1 : M p = some (.dK kvs)) (h2 : keyD e = some key) (h3 : valD kvs key = some x) (k : Φ x M) : dgetG p e M Φ := i_dget h1 h2 h3 k
def lenG (p : Addr) (M : Mem) (Φ : Cont) : Prop := fLen [.ptr p] M Φ
theorem g_len {p : Addr} (k : lenG p M Φ) : fLen [.ptr p] M Φ := k
theorem k_len {p : Addr} (h : M p = some (.lst xs)) (k : Φ (.int (xs.length : Int)) M) : lenG p M Φ := i_lenp h k
def tupG (p : Addr) (M : Mem) (Φ : Cont) : Prop := fTuple [.ptr p] M Φ
theorem g_tup {p : Addr} (k : tupG p M Φ) : fTuple [.ptr p] M Φ := k
theorem k_tup {p : Addr} (h : M p = some (.lst xs)) (k : Φ (.tup xs) M) : tupG p M Φ := i_tupp h k
def listG (p : Addr) (M : Mem) (Φ : Cont) : Prop := fListA [.ptr p] M Φ
theorem g_list {p : Addr} (k : listG p M Φ) : fListA [.ptr p] M Φ := k
theorem k_list {p : Addr} (h : M p = some (.lst xs)) (k : Φ (.lst xs) M) : listG p M Φ := i_listp h k
def szlG (xs : List D) (A : Prop) : Prop := xs.length ≤ sizeLine ∧ A
theorem g_szl {A : Prop} (k : szlG xs A) : xs.length ≤ sizeLine ∧ A := k
theorem k_szl {A : Prop} (h : xs.length ≤ 1000) (k : A) : szlG xs A := ⟨Nat.le_trans h (by rw [sizeLine_eq]; decide), k⟩
def someG (M : Mem) (p : Addr) (A : Prop) : Prop := (lsR M (.ptr p)).isSome = true ∧ A
theorem g_some {p : Addr} {A : Prop} (k : someG M p A) : (lsR M (.ptr p)).isSome = true ∧ A := k
theorem k_some {p : Addr} {A : Prop} (h : M p = some (.lst xs)) (k : A) : someG M p A := i_some h k
end
end DL

/-! DLv: calls with keywords only. -/
namespace DL
open PySem PySem.Spec PyProof.Rows L2
/-- the def that the module's x names keeps fs, called by the names kns -/
structure HasK (P : Program) (w : World) (K : PySem.W.Frag) (mg : Str → Option Value) (base : Heap) (T : List (Addr × Str)) (x : Str) (k n : Nat) (fs : FS) (kns : List Str) : Prop where
  len : ∀ ds M Φ, fs ds M Φ → ds.length = n
  ex : ∃ (f : Addr) (fd : FuncData) (ps : List Str), ps.length = n ∧ FnOk P w K mg base CX0 k f fd ps (FSp K T n fs) ∧ mg x = some (.ref f) ∧ PySem.W.keepIn K (.ref f) = true ∧ ∀ (s : Shared) (us : List Value), us.length = n → K.In s.heap → BindsTo s fd ⟨[], kns.zip us⟩ (ps.zip us)
structure HasXK (P : Program) (w : World) (K : PySem.W.Frag) (mg : Str → Option Value) (base : Heap) (T : List (Addr × Str)) (x : Str) (k n : Nat) (fs : FSX) (kns : List Str) : Prop where
  len : ∀ ds M Φ Ξ, fs ds M Φ Ξ → ds.length = n
  ex : ∃ (f : Addr) (fd : FuncData) (ps : List Str), ps.length = n ∧ FnOk P w K mg base (L2.CX P w) k f fd ps (FSpX K T n fs) ∧ mg x = some (.ref f) ∧ PySem.W.keepIn K (.ref f) = true ∧ ∀ (s : Shared) (us : List Value), us.length = n → K.In s.heap → BindsTo s fd ⟨[], kns.zip us⟩ (ps.zip us)
def KwOf (P : Program) (w : World) (K : PySem.W.Frag) (mg : Str → Option Value) (base : Heap) (T : List (Addr × Str)) (x : Str) (k n : Nat) (fs : FS) (fd : FuncData) (ps : List Str) : Prop :=
  ∀ kns : List Str, (∀ (s : Shared) (us : List Value), us.length = n → K.In s.heap → BindsTo s fd ⟨[], kns.zip us⟩ (ps.zip us)) → HasK P w K mg base T x k n fs kns
def KwOfX (P : Program) (w : World) (K : PySem.W.Frag) (mg : Str → Option Value) (base : Heap) (T : List (Addr × Str)) (x : Str) (k n : Nat) (fs : FSX) (fd : FuncData) (ps : List Str) : Prop :=
  ∀ kns : List Str, (∀ (s : Shared) (us : List Value), us.length = n → K.In s.heap → BindsTo s fd ⟨[], kns.zip us⟩ (ps.zip us)) → HasXK P w K mg base T x k n fs kns
theorem bindsK {K : PySem.W.Frag} {x qual : Str} {st : Stmt} {f : Addr} {fd : FuncData} {ps kns : List Str} {n : Nat} (F : Fun K x qual st f fd)
    (h : ∀ (kV doc pm : Value) (an : Option Addr) (cdv ct : Value) (us : List Value), us.length = n → bindArgs (PySem.W.fnOf x qual (defArgs st) (defBody st) (defScope st) .none kV doc pm an cdv ct) ⟨[], kns.zip us⟩ = pure (ps.zip us)) :
    ∀ (s : Shared) (us : List Value), us.length = n → K.In s.heap → BindsTo s fd ⟨[], kns.zip us⟩ (ps.zip us) := by
  obtain ⟨oc, od, kV, doc, pm, an, cdv, ct, osl, rfl, lk, hcd⟩ := F.ex
  exact fun s us hl _ => .of_eq (h kV doc pm an cdv ct us hl)
theorem okDK {P : Program} {w : World} {K : PySem.W.Frag} {mg : Str → Option Value} {base : Heap} {T : List (Addr × Str)} {x qual : Str} {st : Stmt} {f : Addr} {fd : FuncData} {N ps : List Str} {k : Nat} {fs : FS} (F : Fun K x qual st f fd) (S : FnScope N ps (defScope st)) (hm : mg x = some (.ref f)) (hb : L2.Binds K fd ps [])
    (len : ∀ ds M Φ, fs ds M Φ → ds.length = ps.length)
    (body : ∀ (cdv : Value) (A : Around) (outer : List Env) (s : Shared) (H : Hp) (E : XK), Room k (A.deeper (envOfC qual (defScope st) s.heap.objs.size f cdv)) →
      ∃ dsb, XSs (cxOf CX0 P w K mg base N qual (defScope st) f cdv A outer s H E).nox T (defBody st) dsb ∧ ∀ ds M Φ, fs ds M Φ → dsb { nx := fun _ M' => drp Φ .non M', rt := drp Φ } (startG N ds) M) :
    Has P w K mg base T x (k + 1) ps.length fs ∧ KwOf P w K mg base T x (k + 1) ps.length fs fd ps := by
  have F' : FnOk P w K mg base CX0 (k + 1) f fd ps (FSp K T ps.length fs) := by
    refine F.ok S (fun vs H Q E h => ?_) (fun cdv A outer s H vs Q E hr h => ?_)
    · obtain ⟨ds, M, Φ, h, _⟩ := h
      exact h
    · obtain ⟨ds, M, Φ, hl, r, m, t, h, g⟩ := h
      obtain ⟨dsb, hx, hd⟩ := body cdv A outer s H E hr
      refine ⟨_, hx, startG N ds, M, _, start_env r m t, hd ds M Φ h, fun σ' H' Γ' M' φ k' e' => ?_, fun _ _ _ _ φ => φ.elim, fun _ _ _ _ φ => φ.elim, g.drp⟩
      exact g.drp _ _ _ _ φ k' e'.mem .non
  exact ⟨⟨len, f, fd, ps, rfl, F', hm, F.kp, hb⟩, fun kns h => ⟨len, f, fd, ps, rfl, F', hm, F.kp, h⟩⟩
theorem okDXK {P : Program} {w : World} {K : PySem.W.Frag} {mg : Str → Option Value} {base : Heap} {T : List (Addr × Str)} {x qual : Str} {st : Stmt} {f : Addr} {fd : FuncData} {N ps : List Str} {k : Nat} {fs : FSX} (F : Fun K x qual st f fd) (S : FnScope N ps (defScope st)) (hm : mg x = some (.ref f)) (hb : L2.Binds K fd ps [])
    (len : ∀ ds M Φ Ξ, fs ds M Φ Ξ → ds.length = ps.length) (mono : ∀ ds M Φ Ξ Ξ', fs ds M Φ Ξ → (∀ C fs M, Ξ C fs M → Ξ' C fs M) → fs ds M Φ Ξ')
    (body : ∀ (cdv : Value) (A : Around) (outer : List Env) (s : Shared) (H : Hp) (E : XK) (Ξ : XCont), Room k (A.deeper (envOfC qual (defScope st) s.heap.objs.size f cdv)) →
      Takes (cxOf (L2.CX P w) P w K mg base N qual (defScope st) f cdv A outer s H E) (fun cls d _ H => E cls d H) → Ξ = XiE K T H E →
      ∃ dsb : DS, XSs (cxOf (L2.CX P w) P w K mg base N qual (defScope st) f cdv A outer s H E) T (defBody st) dsb ∧ ∀ ds M Φ, fs ds M Φ Ξ → dsb { nx := fun _ M' => drp Φ .non M', rt := drp Φ } (startG N ds) M) :
    HasX P w K mg base T x (k + 1) ps.length fs ∧ KwOfX P w K mg base T x (k + 1) ps.length fs fd ps := by
  have F' : FnOk P w K mg base (L2.CX P w) (k + 1) f fd ps (FSpX K T ps.length fs) := by
    refine F.okX S (fun vs H Q E h => ?_) (fun cdv A outer s H vs Q E hr h => ?_)
    · obtain ⟨ds, M, Φ, Ξ, h, _⟩ := h
      exact h
    · obtain ⟨ds, M, Φ, Ξ, hl, r, m, t, h, g, gx⟩ := h
      obtain ⟨dsb, hx, hd⟩ := body cdv A outer s H E _ hr (takes_of rfl rfl rfl rfl) rfl
      refine ⟨_, hx, startG N ds, M, _, start_env r m t, hd ds M Φ (mono _ _ _ _ _ h fun C fs M z cls d H' k m r => gx C fs M cls d H' z k m r), fun σ' H' Γ' M' φ k' e' => ?_, fun _ _ _ _ φ => φ.elim, fun _ _ _ _ φ => φ.elim, g.drp⟩
      exact g.drp _ _ _ _ φ k' e'.mem .non
  exact ⟨⟨len, f, fd, ps, rfl, F', hm, F.kp, hb⟩, fun kns h => ⟨len, f, fd, ps, rfl, F', hm, F.kp, h⟩⟩
abbrev XKw (X : Cx) (T : List (Addr × Str)) (kws : List Keyword) (da : DA) : Prop := PK X kws (liftA X.K T da)
section
variable {X : Cx} {T : List (Addr × Str)} {x : Str} {k n : Nat} {p pos kp : Pos} {nm : Option Str} {e : Expr} {kws : List Keyword} {de : DE} {da : DA} {kns : List Str}
theorem pk_weak {t t' : TA} (h : PK X kws t) (w : ∀ σ H Q, t' σ H Q → t σ H Q) : PK X kws t' := ⟨fun pos pins s σ H Q I q => h.run pos pins s σ H Q I (w _ _ _ q)⟩
theorem xk_nil : XKw X T [] daNil := pk_weak pk_nil fun σ H Q q => by
  obtain ⟨Γ, M, Φ, e, q, g⟩ := q
  exact g [] H [] M q .refl e.mem .nil
theorem xk_cons (he : XE X T e de) (hr : XKw X T kws da) : XKw X T (⟨nm, e, kp⟩ :: kws) (daCons de da) := pk_weak (pk_cons he hr) fun σ H Q q => by
  obtain ⟨Γ, M, Φ, env, h, k⟩ := q
  refine ⟨Γ, M, _, env, h, fun v1 H1 d1 M1 φ1 k1 m1 r1 => ⟨Γ, M1, _, env.go k1 m1, φ1, fun v2 H2 d2 M2 φ2 k2 m2 r2 => ?_⟩⟩
  exact k _ _ _ _ φ2 (k1.trans k2) m2 (.cons (r1.mono k2) r2)
theorem vals_len : ∀ {vs : List V} {us : List Value}, Vals vs us → vs.length = us.length
  | _, _, .nil => rfl
  | _, _, .cons _ t => by rw [List.length_cons, List.length_cons, vals_len t]
theorem xe_callK {fs : FS} (h : HasK X.prog X.w X.K X.mg X.base T x k n fs kns)
    (hr : Room k X.A) (hg : Gl X x) (ha : XKw X T kws da) (hall : (backToKw pos (keywordEach kws X.env)).all (·.1.isSome) = true := by rfl) (hks : (backToKw pos (keywordEach kws X.env)).filterMap (·.1) = kns := by rfl)
    (hdb : (x == ("__debug__" : Str)) = false := by decide) (hpl : ((backTo pos (starEach [] X.env)).any (·.1) || (backToKw pos (keywordEach kws X.env)).any (·.1.isNone)) = false := by rfl) :
    XE X T (.Call (.Name x p) [] kws pos) (dCall fs da) := by
  obtain ⟨len, f, fd, ps, hn, F, hm, hk, hb⟩ := h
  refine ⟨fun pins s σ H Q I q => ?_⟩
  obtain ⟨Γ, M, Φ, env, h, g⟩ := q
  refine wpAny_Call_Name_kw (ld_glob I hg hm ?_ hdb)
  refine PySem.W.callWith_KW0 (h₀ := X.base) I.ok.mod.kin hk hall ?_ hpl
  refine thn (ha.run pos pins s σ H (fun zs H1 => ∃ ds M1, Reps X.K H1 zs ds ∧ MOk X.K H1 M1 ∧ Kp T H H1 ∧ fs ds M1 Φ) I ⟨Γ, M, _, env, h, fun vs H1 ds M1 φ1 k1 m1 r1 => ⟨ds, M1, r1, m1, k1, φ1⟩⟩) fun ws s2 ⟨zs, H2, I2, rz, q2⟩ => ⟨I2.kIn, ?_⟩
  obtain ⟨ds, M1, r1, m1, k1, φ1⟩ := q2
  have l1 : zs.length = n := by rw [r1.length]; exact len _ _ _ φ1
  have l2 : ws.length = n := by rw [← vals_len rz]; exact l1
  rw [hks]
  have hsp : FSp X.K T n fs zs H2 Q E0 := ⟨ds, M1, Φ, l1, r1, m1, k1.tab env.tab, φ1, g.from k1⟩
  refine wpAny_call (codeAny_mono (F.run X.A X.stack s2 H2 ⟨[], kns.zip ws⟩ ws zs Q E0 hr I2.env0 (hb s2 ws l2 I2.kIn) rz hsp) fun r s' hq => ?_)
  cases r with
  | error e => exact (show False from hq).elim
  | ok fl =>
    cases fl with
    | ret u => exact I2.after hq
    | next => exact False.elim hq
    | brk => exact False.elim hq
    | cont => exact False.elim hq
theorem xe_callNK {fs : FSX} (h : HasXK X.prog X.w X.K X.mg X.base T x k n fs kns)
    (hr : Room k X.A) (hg : Gl X x) (ha : XKw X T kws da) (hall : (backToKw pos (keywordEach kws X.env)).all (·.1.isSome) = true := by rfl) (hks : (backToKw pos (keywordEach kws X.env)).filterMap (·.1) = kns := by rfl)
    (hdb : (x == ("__debug__" : Str)) = false := by decide) (hpl : ((backTo pos (starEach [] X.env)).any (·.1) || (backToKw pos (keywordEach kws X.env)).any (·.1.isNone)) = false := by rfl) :
    XE X T (.Call (.Name x p) [] kws pos) (dCallX fs noX da) := by
  obtain ⟨len, f, fd, ps, hn, F, hm, hk, hb⟩ := h
  refine ⟨fun pins s σ H Q I q => ?_⟩
  obtain ⟨Γ, M, Φ, env, h, g⟩ := q
  refine wpAny_Call_Name_kw (ld_glob I hg hm ?_ hdb)
  refine PySem.W.callWith_KW0 (h₀ := X.base) I.ok.mod.kin hk hall ?_ hpl
  refine thn (ha.run pos pins s σ H (fun zs H1 => ∃ ds M1, Reps X.K H1 zs ds ∧ MOk X.K H1 M1 ∧ Kp T H H1 ∧ fs ds M1 Φ noX) I ⟨Γ, M, _, env, h, fun vs H1 ds M1 φ1 k1 m1 r1 => ⟨ds, M1, r1, m1, k1, φ1⟩⟩) fun ws s2 ⟨zs, H2, I2, rz, q2⟩ => ⟨I2.kIn, ?_⟩
  obtain ⟨ds, M1, r1, m1, k1, φ1⟩ := q2
  have l1 : zs.length = n := by rw [r1.length]; exact len _ _ _ _ φ1
  have l2 : ws.length = n := by rw [← vals_len rz]; exact l1
  rw [hks]
  have hsp : FSpX X.K T n fs zs H2 Q E0 := ⟨ds, M1, Φ, noX, l1, r1, m1, k1.tab env.tab, φ1, g.from k1, fun _ _ _ _ _ _ z => z.elim⟩
  refine wpAny_call (codeAny_mono (F.run X.A X.stack s2 H2 ⟨[], kns.zip ws⟩ ws zs Q E0 hr I2.env0 (hb s2 ws l2 I2.kIn) rz hsp) fun r s' hq => ?_)
  cases r with
  | error e => exact passL pins σ H2 s2 e s' I2 hq
  | ok fl =>
    cases fl with
    | ret u => exact I2.after hq
    | next => exact False.elim hq
    | brk => exact False.elim hq
    | cont => exact False.elim hq
end
end DL

/-! DLz: the end of a row: what the written part says of classes and tables, read by tests. -/
namespace DL
open PySem PySem.Spec PyProof.Rows L2
section
variable {K : PySem.W.Frag} {mg : Str → Option Value} {h : Heap} {C f : Addr}
theorem b2 {a b : Bool} (h : (a && b) = true) : a = true ∧ b = true := Bool.and_eq_true_iff.mp h
def oexB (K : PySem.W.Frag) (C : Addr) : Bool := (match K.lookup C with
  | some ⟨.type t, _, .cls cd, sl⟩ => t == "type" && (match cd.mro, sl.toList with
    | .ref C' :: bm, [_, _, _, _, some (.builtin n), _] => C' == C && (n == "ValueError.__new__" && (cd.hasDict && (!cd.hasDel && PySem.HandSPX.refsVE bm)))
    | _, _ => false)
  | _ => false) && (decide (PySem.W.findIn K (.ref C) "__setattr__" = some (some (.builtin "object.__setattr__"))) && (decide (PySem.W.subIn K (.ref C) (.type "BaseException") = some true) && (decide (PySem.W.typeIn K (.ref C) = some (.type "type")) && PySem.W.keepIn K (.ref C))))
theorem oexB_ok (h : oexB K C = true) : OexC K C := by
  obtain ⟨h1, h⟩ := b2 h
  obtain ⟨h2, h⟩ := b2 h
  obtain ⟨h3, h⟩ := b2 h
  obtain ⟨h4, h5⟩ := b2 h
  refine ⟨?_, of_decide_eq_true h2, of_decide_eq_true h3, of_decide_eq_true h4, h5⟩
  split at h1
  · rename_i t dd cd sl ho
    obtain ⟨ht, h1⟩ := b2 h1
    split at h1
    · rename_i C' bm k0 k1 k2 k3 n k5 hm hs
      obtain ⟨e1, h1⟩ := b2 h1
      obtain ⟨e2, h1⟩ := b2 h1
      obtain ⟨e3, h1⟩ := b2 h1
      obtain ⟨e4, e5⟩ := b2 h1
      have e1 := beq_iff_eq.mp e1
      have e2 := beq_iff_eq.mp e2
      have ht := beq_iff_eq.mp ht
      subst e1 e2 ht
      obtain ⟨nm, bs, mro, ns, qn, hd, sn, sub, ab, col, del⟩ := cd
      dsimp only at hm e3 e4
      have e4 : del = false := by simpa using e4
      subst hm e3 e4
      have hsl : sl = #[k0, k1, k2, k3, some (.builtin "ValueError.__new__"), k5] := by
        obtain ⟨l⟩ := sl
        simp only at hs
        rw [hs]
      subst hsl
      exact ⟨nm, qn, ns, bs, bm, sn, sub, ab, col, dd, k0, k1, k2, k3, k5, ho, e5⟩
    · cases h1
  · cases h1
def excSB (K : PySem.W.Frag) (C : Addr) : Bool := PySem.W.excIn K C [.type "ValueError", .type "Exception", .type "BaseException", .type "object"] "ValueError.__new__" && (PySem.W.keepIn K (.ref C) && (decide (PySem.W.subIn K (.ref C) (.type "BaseException") = some true) && decide (PySem.W.typeIn K (.ref C) = some (.type "type"))))
theorem excSB_ok {x : Str} (h : excSB K C = true) (g : mg x = some (.ref C)) : ExcS K mg x C := by
  obtain ⟨h1, h⟩ := b2 h
  obtain ⟨h2, h⟩ := b2 h
  obtain ⟨h3, h4⟩ := b2 h
  exact ⟨h1, g, h2, of_decide_eq_true h3, of_decide_eq_true h4⟩
def excCB (K : PySem.W.Frag) (D : Addr) : Bool := decide (PySem.W.findIn K (.ref D) "__getattribute__" = some (some (.builtin "BaseException.__getattribute__"))) && (decide (PySem.W.findIn K (.ref D) "__getattr__" = some none) &&
  (decide (PySem.W.subIn K (.ref D) (.type "BaseException") = some true) && (PySem.W.hasDictIn K D && (decide (PySem.W.findIn K (.ref D) "__class__" = some (some (.builtin "object.__class__"))) &&
  (decide (PySem.W.specialIn K (.builtin "object.__class__") "__get__" = some (some (.builtin "getset_descriptor.__get__"))) && (decide (PySem.W.takesIn K (.builtin "object.__class__") = some true) && decide (PySem.W.mroIn K D (.type "object") = some true)))))))
theorem excCB_ok (h : excCB K C = true) : ExcD K C := by
  obtain ⟨h1, h⟩ := b2 h
  obtain ⟨h2, h⟩ := b2 h
  obtain ⟨h3, h⟩ := b2 h
  obtain ⟨h4, h⟩ := b2 h
  obtain ⟨h5, h⟩ := b2 h
  obtain ⟨h6, h⟩ := b2 h
  obtain ⟨h7, h8⟩ := b2 h
  exact ⟨⟨of_decide_eq_true h1, of_decide_eq_true h2, of_decide_eq_true h3, h4, of_decide_eq_true h5, of_decide_eq_true h6, of_decide_eq_true h7, of_decide_eq_true h8⟩, ⟨of_decide_eq_true h1, of_decide_eq_true h2, of_decide_eq_true h3, h4⟩⟩
/-! ### an own __init__ -/
abbrev SupV : Type := Option (Str × Str × Arguments × FuncBody × Scope × Addr × Addr)
def supObs (K : PySem.W.Frag) (f : Addr) : SupV := match K.lookup f with
  | some ⟨_, _, .func fd, _⟩ => some (fd.name, fd.qualname, fd.params, fd.body, fd.scope, fd.globals, fd.builtins)
  | _ => none
def supB (K : PySem.W.Frag) (f C : Addr) (file q : Str) : Bool := match K.lookup f with
  | some ⟨_, _, .func fd, _⟩ => (match fd.code, fd.closure, fd.defaults with
    | .ref cda, [(x, cc)], .none => x == "__class__" && (PySem.W.codeIn K (.ref cda) q && ((match K.lookup cda with
      | some ⟨_, _, .fields vs, _⟩ => (match (vs[2]? : Option Value) with
        | some (.str fl _) => file == fl
        | _ => false)
      | _ => false) && (match K.lookup cc with
      | some ⟨_, _, .cell (some (.ref C')), _⟩ => C' == C
      | _ => false)))
    | _, _, _ => false)
  | _ => false
/-- how such an __init__ is written -/
def SupS (sI : Stmt) (q s1 s2 fld : Str) : Prop := ∃ (p0 p1 p2 p3 p4 p5 p6 p7 p8 p9 : Pos) (pl : Addr → Addr → Addr → Addr → Sem Bool), defBody sI = [.Expr (.Call (.Attribute (.Call (.Name "super" p0) [] [] p1) "__init__" p2) [.Name s2 p3] [] p4) p5, .Assign [.Attribute (.Name s1 p6) fld p7] (.Name s2 p8) p9] ∧
  ∀ f cda cc L : Addr, eval (.Call (.Attribute (.Call (.Name "super" p0) [] [] p1) "__init__" p2) [.Name s2 p3] [] p4) (PySem.W.ksEnv q (defScope sI) L f (.ref cda) cc) = (do
      let ov ← attributeBase (.Call (.Name "super" p0) [] [] p1) "__init__" (PySem.W.ksEnv q (defScope sI) L f (.ref cda) cc) (eval (.Call (.Name "super" p0) [] [] p1) (PySem.W.ksEnv q (defScope sI) L f (.ref cda) cc))
      standAt p2.atName
      let (fm, first) ← holding [ov] (getMethod ov "__init__" (pl f cda cc L))
      callWith p4 fm first (backTo p4 (starEach [.Name s2 p3] (PySem.W.ksEnv q (defScope sI) L f (.ref cda) cc))) [])
/-- its scope -/
structure SupC (sI : Stmt) (s1 s2 : Str) : Prop where
  hd : ∃ ar : Arg, ((defArgs sI).posonlyargs ++ (defArgs sI).args).head? = some ar ∧ ar.arg = s1
  co : (defScope sI).isCoroutine = false
  ge : (defScope sI).isGenerator = false
  ki : (defScope sI).kind = .function
  ce : ∀ x ∈ (defScope sI).names, x.2 ≠ .cell
  fr : ∀ x ∈ (defScope sI).names, x.2 = .free → x.1 = "__class__"
  su : (defScope sI).names.lookup ("super" : Str) = some .globalImplicit
  kc : (defScope sI).names.lookup ("__class__" : Str) = some .free
  k1 : (defScope sI).names.lookup s1 = some .local
  k2 : (defScope sI).names.lookup s2 = some .local
  ne : s1 ≠ s2
  d1 : (s1 == ("__debug__" : Str)) = false
  d2 : (s2 == ("__debug__" : Str)) = false
  bi : ∀ (q : Str) (cc : Addr) (kV doc pm cd ct : Value) (an : Option Addr) (us : List Value), us.length = 2 → bindArgs (PySem.W.ksFn "__init__" q (defArgs sI) (defBody sI) (defScope sI) .none kV doc pm an cd ct cc) ⟨us, []⟩ = pure ([s1, s2].zip us)
def excMkB (P : Program) (K : PySem.W.Frag) (C : Addr) (q fld : Str) : Bool := oexB K C && (supB K (He.ma K C "__init__") C P.main.file q && (decide (PySem.W.mroIn K C (.ref C) = some true) && ((P.main.scope.names.lookup ("super" : Str)).isSome == false &&
  (decide (PySem.W.ks_superIn K C C "__init__" = some (some (.builtin "ValueError.__init__"))) && (decide (PySem.W.subIn K (.ref C) (.type "ValueError") = some true) && (decide (PySem.W.nsIn K cStatics "thirdparty.any" = some none) && (decide (PySem.W.findIn K (.ref C) fld = some none) &&
  (decide (PySem.W.findIn K (.ref C) "__init__" = some (some (.ref (He.ma K C "__init__")))) && decide (PySem.W.typeIn K (.ref (He.ma K C "__init__")) = some (.type "function"))))))))))
theorem sup_ex {P : Program} {sI : Stmt} {q s1 s2 fld : Str} (S : SupS sI q s1 s2 fld) (Z : SupC sI s1 s2) (ho : supObs K f = (some (("__init__" : Str), q, defArgs sI, FuncBody.stmts (defBody sI), defScope sI, mainGlobals, builtinsNs) : SupV)) (hb : supB K f C P.main.file q = true) (hC : OexC K C)
    (m1 : PySem.W.mroIn K C (.ref C) = some true) (m2 : mg "super" = none) (m3 : (P.main.scope.names.lookup ("super" : Str)).isSome = false) (m4 : PySem.W.ks_superIn K C C "__init__" = some (some (.builtin "ValueError.__init__"))) (m5 : PySem.W.subIn K (.ref C) (.type "ValueError") = some true)
    (m6 : PySem.W.nsIn K cStatics "thirdparty.any" = some none) (m7 : PySem.W.findIn K (.ref C) fld = some none) : ∃ fd, SupF P K mg C f fd s1 s2 fld ∧ L2.Binds K fd [s1, s2] [] := by
  unfold supObs at ho
  unfold supB at hb
  cases hk : K.lookup f with
  | none => rw [hk] at ho; cases ho
  | some o =>
    obtain ⟨oc, od, dt, osl⟩ := o
    rw [hk] at ho hb
    cases dt with
    | func fd =>
      obtain ⟨n1, n2, n3, n4, n5, n6, n7, n8, n9, n10, n11, n12, n13, n14, n15⟩ := fd
      have e2 : (some (n1, n2, n3, n4, n5, n6, n15) : SupV) = (some (("__init__" : Str), q, defArgs sI, FuncBody.stmts (defBody sI), defScope sI, mainGlobals, builtinsNs) : SupV) := ho
      simp only [Option.some.injEq, Prod.mk.injEq] at e2
      obtain ⟨h1, h2, h3, h4, h5, h6, h7⟩ := e2
      subst h1 h2 h3 h4 h5 h6 h7
      dsimp only at hb
      split at hb
      · rename_i cda x cc
        obtain ⟨g1, hb⟩ := b2 hb
        obtain ⟨g2, hb⟩ := b2 hb
        obtain ⟨g3, g4⟩ := b2 hb
        have g1 := beq_iff_eq.mp g1
        subst g1
        cases hd : K.lookup cda with
        | none => rw [hd] at g3; cases g3
        | some od2 =>
          obtain ⟨ccl, cdd, dt2, ccs⟩ := od2
          rw [hd] at g3
          cases dt2 with
          | fields vs =>
            dsimp only at g3
            split at g3
            · rename_i fl tf hv
              cases hc : K.lookup cc with
              | none => rw [hc] at g4; cases g4
              | some oc3 =>
                obtain ⟨cl, cld, dt3, csl⟩ := oc3
                rw [hc] at g4
                split at g4
                · rename_i C' heq
                  cases heq
                  have g4 := beq_iff_eq.mp g4
                  subst g4
                  obtain ⟨p0, p1, p2, p3, p4, p5, p6, p7, p8, p9, pl, hbody, hev⟩ := S
                  obtain ⟨ar, ha1, ha2⟩ := Z.hd
                  refine ⟨_, ⟨hC, ⟨_, defArgs sI, defBody sI, defScope sI, .none, n9, n10, n11, n14, oc, n12, od, osl, cda, cc, ccl, cl, cdd, cld, vs, ccs, csl, fl, tf, ar, p0, p1, p2, p3, p4, p5, p6, p7, p8, p9, pl f cda cc, rfl, hbody, ?_, g2, ha1, ha2, hd, hv, g3, hc, Z.co, Z.ge, Z.ki, Z.ce, Z.fr, Z.su, Z.kc, Z.k1, Z.k2, fun L => hev f cda cc L⟩, Z.ne, Z.d1, Z.d2, m1, m2, m3, m4, m5, m6, m7⟩, ?_⟩
                  · exact hk
                  · exact .all fun us hl => Z.bi _ _ _ _ _ _ _ _ us hl
                · cases g4
            · cases g3
          | _ => cases g3
      · cases hb
    | _ => cases ho
theorem excMk_ok {P : Program} {w : World} {base : Heap} {x : Str} {sI : Stmt} {q s1 s2 fld : Str} (hb : excMkB P K C q fld = true) (S : SupS sI q s1 s2 fld) (Z : SupC sI s1 s2) (ho : supObs K (He.ma K C "__init__") = (some (("__init__" : Str), q, defArgs sI, FuncBody.stmts (defBody sI), defScope sI, mainGlobals, builtinsNs) : SupV))
    (g : mg x = some (.ref C)) (m2 : mg "super" = none) : ExcMk P w K mg base x C fld ∧ PySem.W.findIn K (.ref C) fld = some none := by
  obtain ⟨h1, hb⟩ := b2 hb
  obtain ⟨h2, hb⟩ := b2 hb
  obtain ⟨h3, hb⟩ := b2 hb
  obtain ⟨h4, hb⟩ := b2 hb
  obtain ⟨h5, hb⟩ := b2 hb
  obtain ⟨h6, hb⟩ := b2 hb
  obtain ⟨h7, hb⟩ := b2 hb
  obtain ⟨h8, hb⟩ := b2 hb
  obtain ⟨h9, h10⟩ := b2 hb
  obtain ⟨fd, SF, B⟩ := sup_ex S Z ho h2 (oexB_ok h1) (of_decide_eq_true h3) m2 (beq_iff_eq.mp h4) (of_decide_eq_true h5) (of_decide_eq_true h6) (of_decide_eq_true h7) (of_decide_eq_true h8)
  exact ⟨⟨oexB_ok h1, g, _, fd, s1, s2, SF, of_decide_eq_true h9, of_decide_eq_true h10, B⟩, of_decide_eq_true h8⟩
/-! ### tables of makers of lambdas -/
def tc (K : PySem.W.Frag) (x : Str) : Addr := ((PySem.W.tabIn K x).getD (0, 0)).1
def tP (K : PySem.W.Frag) (x : Str) : Addr := ((PySem.W.tabIn K x).getD (0, 0)).2
def tabB (K : PySem.W.Frag) (ts : List Addr) (x : Str) : Bool := match PySem.W.tabIn K x with
  | some (c, P) => PySem.W.codeHdIn K c P && ((K.lookup P).isNone && ts.contains P)
  | none => false
theorem tabB_ok {ts : List Addr} {x : Str} (X : K.In h) (hT : ∀ P ∈ ts, h.get? P = some (PySem.W.tabObj #[])) (b : tabB K ts x = true) :
    h.get? (tP K x) = some { cls := .none, data := .fields #[] } ∧ K.lookup (tP K x) = none ∧ PySem.W.CodeHd h (tc K x) (tP K x) := by
  unfold tabB at b
  unfold tP tc
  split at b
  · rename_i c P e
    obtain ⟨h1, b⟩ := b2 b
    obtain ⟨h2, h3⟩ := b2 b
    rw [e]
    exact ⟨hT P (by simpa using h3), by simpa using h2, PySem.W.codeHd_of_K X h1⟩
  · cases b
theorem tabB_code {ts : List Addr} {x : Str} {f : Addr} {oc : Value} {od : Option Addr} {fd : FuncData} {osl : Array (Option Value)} (b : tabB K ts x = true) (hg : PySem.W.nsIn K mainGlobals x = some (some (.ref f))) (l : K.lookup f = some ⟨oc, od, .func fd, osl⟩) : fd.code = .ref (tc K x) := by
  unfold tabB at b
  unfold tc
  split at b
  · rename_i c P e
    rw [e]
    unfold PySem.W.tabIn at e
    rw [hg] at e
    dsimp only at e
    rw [l] at e
    dsimp only at e
    split at e
    · rename_i c' hc
      split at e
      · split at e
        · cases e; exact hc
        · cases e
      · cases e
    · cases e
  · cases b
theorem tabs0 {H : Hp} : ∀ {T : List (Addr × Str)}, (∀ p ∈ T, H p.1 = some (.tbl #[])) → LamX.Tabs T H := fun {T} h p hp => .nil (h p hp)
end
end DL

/-! DLw: the law's own def: the script, whatever it is, is frozen at the start. -/
namespace DL
open PySem PySem.Spec PyProof.Rows L2
def LawSp (K : PySem.W.Frag) (T : List (Addr × Str)) (n : Nat) : Sp := fun vs H Q _ => ∃ (a : Addr) (ns : List Int), vs = [.ref a] ∧ ns.length ≤ n ∧ (∀ z ∈ ns, Builtin.Int.intBits z ≤ 1048576) ∧ SqL K H a (ns.map V.int) ∧ LamX.Tabs T H ∧ ∀ H', Q (.bl true) H'
theorem pss_pre {X : Cx} {st : List Stmt} {t : TS} (h : PSs X st t) : PSs X st (fun Dn σ H => t Dn σ H ∨ ∃ p o, H p = some o ∧ Chg o ∧ ∀ ob, t Dn σ (upd H p (.frz ob o))) := ⟨fun pins s σ H D I q => by
  rcases q with q | ⟨p, o, h1, h2, q⟩
  · exact h.run pins s σ H D I q
  · obtain ⟨ob, I2⟩ := inv_frzO I h1 h2
    exact h.run pins s σ _ D I2 (q ob)⟩
theorem reps_ints {K : PySem.W.Frag} {H : Hp} : ∀ ns : List Int, Reps K H (ns.map V.int) (ns.map D.int)
  | [] => .nil
  | n :: ns => .cons (.int n) (reps_ints ns)
/-- the reading at the start -/
theorem law_read {K : PySem.W.Frag} {T : List (Addr × Str)} {N : List Str} {n : Nat} {fs : FS} {dsb : DS} {vs : List V} {H : Hp} {Q : VK} {E : XK}
    (hfs : ∀ (ns : List Int) (M : Mem) (Φ : Cont), ns.length ≤ n → (∀ z ∈ ns, Builtin.Int.intBits z ≤ 1048576) → Φ (.bl true) M → fs [.scr (ns.map .int)] M Φ)
    (hd : ∀ ds M Φ, fs ds M Φ → dsb { nx := fun _ M' => drp Φ .non M', rt := drp Φ } (startG N ds) M) (h : LawSp K T n vs H Q E) :
    liftS K T dsb { nx := fun _ H' => Q .non H', rt := Q } (start N vs) H ∨ ∃ p o, H p = some o ∧ Chg o ∧ ∀ ob, liftS K T dsb { nx := fun _ H' => Q .non H', rt := Q } (start N vs) (upd H p (.frz ob o)) := by
  obtain ⟨a, ns, rfl, hl, hbits, hs, ht, hq⟩ := h
  have fin : ∀ H1 : Hp, FzL K H1 a (ns.map V.int) → LamX.Tabs T H1 → liftS K T dsb { nx := fun _ H' => Q .non H', rt := Q } (start N [.ref a]) H1 := fun H1 h1 t1 => by
    refine ⟨startG N [.scr (ns.map .int)], fun _ => none, _, start_env (.cons (.scr h1 (reps_ints ns)) .nil) (fun a m e => by cases e) t1, hd _ _ (fun d _ => d = .bl true) (hfs ns _ _ hl hbits rfl), ?_, fun _ _ _ _ φ => φ.elim, fun _ _ _ _ φ => φ.elim, ?_⟩
    · rintro σ' H' Γ' M' ⟨M, s, φ⟩ _ _
      cases φ
    · rintro v H' d M' ⟨M, s, rfl⟩ _ _ r
      cases r
      exact hq H'
  rcases hs with (hs | ⟨o, hs⟩) | hs
  · refine .inr ⟨a, _, hs, True.intro, fun ob => fin _ (.inl ⟨ob, upd_same⟩) ((Kp.mut (T := T) hs True.intro).tab ht)⟩
  · exact .inl (fin H (.inl ⟨o, hs⟩) ht)
  · exact .inl (fin H (.inr hs) ht)
theorem okLawL {P : Program} {w : World} {K : PySem.W.Frag} {mg : Str → Option Value} {base : Heap} {T : List (Addr × Str)} {x qual : Str} {st : Stmt} {f c : Addr} {kV doc pm ct oc : Value} {an od : Option Addr} {osl : Array (Option Value)} {N : List Str} {p : Str} {k n : Nat} {fs : FS}
    (lk : K.lookup f = some ⟨oc, od, .func (PySem.W.fnOf x qual (defArgs st) (defBody st) (defScope st) .none kV doc pm an (.ref c) ct), osl⟩) (hcd : PySem.W.codeIn K (.ref c) qual = true) (S : FnScope N [p] (defScope st))
    (hfs : ∀ (ns : List Int) (M : Mem) (Φ : Cont), ns.length ≤ n → (∀ z ∈ ns, Builtin.Int.intBits z ≤ 1048576) → Φ (.bl true) M → fs [.scr (ns.map .int)] M Φ)
    (body : ∀ (A : Around) (outer : List Env) (s : Shared) (H : Hp) (E : XK), Room k (A.deeper (envOfC qual (defScope st) s.heap.objs.size f (.ref c))) →
      ∃ dsb, XSs (cxOf CX0 P w K mg base N qual (defScope st) f (.ref c) A outer s H E).nox T (defBody st) dsb ∧ ∀ ds M Φ, fs ds M Φ → dsb { nx := fun _ M' => drp Φ .non M', rt := drp Φ } (startG N ds) M) :
    FnOk P w K mg base CX0 (k + 1) f (PySem.W.fnOf x qual (defArgs st) (defBody st) (defScope st) .none kV doc pm an (.ref c) ct) [p] (LawSp K T n) := by
  refine fn_of lk hcd S (fun vs H Q E h => ?_) (fun A outer s H vs Q E hr h => ?_)
  · obtain ⟨a, ns, rfl, _⟩ := h
    rfl
  · obtain ⟨dsb, hx, hd⟩ := body A outer s H E hr
    exact ⟨_, pss_pre hx.nox, law_read hfs hd h⟩
theorem okLaw {P : Program} {w : World} {K : PySem.W.Frag} {mg : Str → Option Value} {base : Heap} {T : List (Addr × Str)} {x qual : Str} {st : Stmt} {f : Addr} {fd : FuncData} {N : List Str} {p : Str} {k n : Nat} {fs : FS} (F : Fun K x qual st f fd) (S : FnScope N [p] (defScope st))
    (hfs : ∀ (ns : List Int) (M : Mem) (Φ : Cont), ns.length ≤ n → (∀ z ∈ ns, Builtin.Int.intBits z ≤ 1048576) → Φ (.bl true) M → fs [.scr (ns.map .int)] M Φ)
    (body : ∀ (cdv : Value) (A : Around) (outer : List Env) (s : Shared) (H : Hp) (E : XK), Room k (A.deeper (envOfC qual (defScope st) s.heap.objs.size f cdv)) →
      ∃ dsb, XSs (cxOf CX0 P w K mg base N qual (defScope st) f cdv A outer s H E).nox T (defBody st) dsb ∧ ∀ ds M Φ, fs ds M Φ → dsb { nx := fun _ M' => drp Φ .non M', rt := drp Φ } (startG N ds) M) :
    FnOk P w K mg base CX0 (k + 1) f fd [p] (LawSp K T n) := by
  refine F.ok S (fun vs H Q E h => ?_) (fun cdv A outer s H vs Q E hr h => ?_)
  · obtain ⟨a, ns, rfl, _⟩ := h
    rfl
  · obtain ⟨dsb, hx, hd⟩ := body cdv A outer s H E hr
    exact ⟨_, pss_pre hx, law_read hfs hd h⟩
end DL

/-! DLy: a lambda handed on: x(lambda: .., 'w'), x's first row error = _law_caught(action), its second a return. -/
namespace DL
open PySem PySem.Spec PyProof.Rows L2
theorem un_sub {fs fs' : List Addr} {H H1 : Hp} {h h1 : Heap} (u : Un fs' [] H H1 h h1) (hb : ∀ b ∈ fs', b ∈ fs ∨ h.get? b = none) : Un fs [] H H1 h h1 where
  keep b o q n i j := u.keep b o q n (fun z => by
    rcases hb b z with z | z
    · exact i z
    · rw [z] at q; cases q) j
  slot b o q n _ j := u.any q n j
  free := u.free
  there := u.there
  tups := u.tups
  frzs := u.frzs
  tbls := u.tbls
section
variable {X : Cx} {pins : List (Addr × Obj)} {σ : L2.St} {H HZ : Hp} {s s1 : Shared}
/-- the lambda's body runs, wherever it is called -/
theorem lam_run {A : Around} {outer : List Env} {E : XK} {Q : VK} {f c' : Addr} {pm ctv : Value} {params : Arguments} {body : Expr} {scope : Scope} {k : Nat} {tb : TE} (I : Inv X pins σ H s) (L : LamX.LamS X.env.scope scope) (e0 : Env0 X.prog X.w X.K X.mg X.base A outer s1 HZ) (hr : Room (k + 1) A)
    (un : Un (frs X.stack) [] H HZ s.heap s1.heap) (of1 : s1.heap.get? f = some (PySem.W.kla_obj "<lambda>" (X.env.qual ++ "<lambda>") params body scope (cloFrom X.env.cells scope.names []) pm c' ctv)) (hc : HZ c' = some (LamX.CodeO c' (X.env.qual ++ "<lambda>")))
    (hbind : bindArgs (PySem.W.kla_fn "<lambda>" (X.env.qual ++ "<lambda>") params body scope (cloFrom X.env.cells scope.names []) pm (.ref c') ctv) ⟨[], []⟩ = pure [])
    (hbody : ∀ (A : Around) (outer : List Env) (s : Shared) (H : Hp), Room k (A.deeper (LamX.lamEnv X scope s.heap.objs.size f c')) → PE (LamX.lamCx X A outer s H E scope f c') body tb) (ht : tb σ HZ Q) :
    codeAny (model X.prog X.w) A (.call (.ref f) ⟨[], []⟩) (CR (L2.CX X.prog X.w) outer X.prog X.w HZ s1 Q E) s1 := by
  obtain ⟨⟨oc, vs, t, hoc, hdc, hvc⟩, _⟩ := e0.hok c' _ hc
  have lim : s1.heap.NoLimit := e0.mod.nolimit.keeps fun b o e => (e0.bs b o e).1
  refine PySem.W.kla_callFunE hr.depth of1 rfl L.co L.gen rfl ⟨c', oc, vs, t, rfl, hoc, hdc, hvc⟩ (by
    rw [hbind]
    refine wpAny_pure (wpAny_newFunctionEnv (fun y hy => (L.own y hy).2) (fun y hy => absurd hy (by simp)) (fun h₁ hns hsb => ⟨lim.fresh _ hsb, ?_⟩) L.kind)
    refine PySem.W.kla_codeExpr (wpAny_mono ((hbody A outer s1 HZ (hr.deeper _)).run [] _ _ HZ Q (LamX.lam_start2 (E := E) (f := f) (c' := c') (tk := s1.toks + ([] : List (Str × Value)).length) I L e0 hr.hd un hns fun b o e => hsb.extBut b o (Nat.ne_of_lt (Heap.lt_size e)) (Heap.get?_push_of_some _ e)) ht) (fun v s' hq => ?_) fun e s' hq => hq)
    obtain ⟨w', H', J', rv, q⟩ := hq
    exact ⟨w', H', J'.os, J'.bare, J'.base, J'.hok, rv, q⟩)
/-- a(), in any def on the way -/
theorem pe_act2 {CXg : CXT} {Eg : XK} {Ng : List Str} {qg : Str} {sg : Scope} {g f c' : Addr} {cdg pm ctv : Value} {params : Arguments} {body : Expr} {scope : Scope} {k i : Nat} {a : Str} {pn : List (Addr × Obj)} {xe : Value → Shared → Prop} {W : WX} {E : XK} {tb : TE} {p1 p2 : Pos} {A2 : Around} {outer2 : List Env} {s2 : Shared} {H2 : Hp}
    (I : Inv X pins σ H s) (L : LamX.LamS X.env.scope scope) (hf : s.heap.get? f = some (PySem.W.kla_obj "<lambda>" (X.env.qual ++ "<lambda>") params body scope (cloFrom X.env.cells scope.names []) pm c' ctv)) (hfn : H f = none) (hfr : f ∉ frs X.stack)
    (u2 : Un (frs X.stack) [] H H2 s.heap s2.heap) (hs1 : ∀ b ∈ frs X.stack, b ∈ frs outer2) (hs2 : ∀ b ∈ frs outer2, b ∈ frs X.stack ∨ s.heap.get? b = none)
    (hbind : bindArgs (PySem.W.kla_fn "<lambda>" (X.env.qual ++ "<lambda>") params body scope (cloFrom X.env.cells scope.names []) pm (.ref c') ctv) ⟨[], []⟩ = pure [])
    (tk : Takes ((cxOf CXg X.prog X.w X.K X.mg X.base Ng qg sg g cdg A2 outer2 s2 H2 Eg).tr pn xe) W) (hW : ∀ cls d σ' H', E cls d H' → W cls d σ' H') (hr : Room (k + 1) (A2.deeper (envOfC qg sg s2.heap.objs.size g cdg)))
    (hbody : ∀ (A : Around) (outer : List Env) (s : Shared) (H : Hp), Room k (A.deeper (LamX.lamEnv X scope s.heap.objs.size f c')) → PE (LamX.lamCx X A outer s H E scope f c') body tb)
    (hN : Ng[i]? = some a) (hv : Vis sg a) (hd : (a == ("__debug__" : Str)) = false := by decide) (hcd : (a == ("__classdict__" : Str)) = false := by decide) :
    PE ((cxOf CXg X.prog X.w X.K X.mg X.base Ng qg sg g cdg A2 outer2 s2 H2 Eg).tr pn xe) (.Call (.Name a p1) [] [] p2)
      (fun σZ HZ Q => σZ[i]? = some (some (.ref f)) ∧ HZ c' = some (LamX.CodeO c' (X.env.qual ++ "<lambda>")) ∧ tb σ HZ Q) := by
  refine ⟨fun pinsZ sZ σZ HZ Q IZ h => wpAny_Call_Name_kw (thn ((pe_var (pos := p1) (i := i) hN hv hd hcd).run pinsZ sZ σZ HZ (fun v H1 => v = .ref f ∧ H1 = HZ) IZ ⟨.ref f, h.1, rfl, rfl⟩) fun u s1 ⟨v, H1, I1, r1, q1⟩ => ?_)⟩
  obtain ⟨_, hc, ht⟩ := h
  obtain ⟨rfl, rfl⟩ := q1
  obtain rfl : u = Value.ref f := r1
  have un : Un (frs X.stack) [] H H1 s.heap s1.heap := un_sub ((u2.mono hs1 (fun b hb => hb)).trans I1.base) hs2
  have of1 := un.keep f _ hf hfn hfr (by simp)
  have rc := lam_run (X := X) (E := E) (Q := Q) (A := A2.deeper (envOfC qg sg s2.heap.objs.size g cdg)) (outer := envOfC qg sg s2.heap.objs.size g cdg :: outer2) I L I1.env0 hr un of1 hc hbind hbody ht
  have hx : Passes (L2.CX X.prog X.w) ((cxOf CXg X.prog X.w X.K X.mg X.base Ng qg sg g cdg A2 outer2 s2 H2 Eg).tr pn xe) E := passes_call tk hW
  refine PySem.W.callWith_F0 ⟨_, _, _, _, of1⟩ (wpAny_call (codeAny_mono rc fun r s' hq => ?_))
  cases r with
  | error e => exact hx pinsZ σZ H1 s1 e s' I1 hq
  | ok fl =>
    cases fl with
    | ret u => exact I1.after hq
    | next => exact False.elim hq
    | brk => exact False.elim hq
    | cont => exact False.elim hq
end
/-- a def of the module, as the written part holds it -/
structure DefK (K : PySem.W.Frag) (mg : Str → Option Value) (x : Str) (st : Stmt) (g : Addr) (ps : List Str) : Prop where
  gx : mg x = some (.ref g)
  kp : PySem.W.keepIn K (.ref g) = true
  ex : ∃ (oc : Value) (od : Option Addr) (kV doc pm : Value) (an : Option Addr) (cdv ct : Value) (osl : Array (Option Value)),
    K.lookup g = some ⟨oc, od, .func (PySem.W.fnOf x x (defArgs st) (defBody st) (defScope st) .none kV doc pm an cdv ct), osl⟩ ∧ PySem.W.codeIn K cdv x = true ∧
    L2.Binds K (PySem.W.fnOf x x (defArgs st) (defBody st) (defScope st) .none kV doc pm an cdv ct) ps []
section
variable {X : Cx} {pins : List (Addr × Obj)} {σ : L2.St} {H1 : Hp} {s1 s2 : Shared}
/-- _law_caught(a) in the def that got the lambda -/
theorem pe_pass {x a : Str} {sg : Scope} {g gC f c' : Addr} {cdg pm ctv cW : Value} {stc : Stmt} {ok : Addr → Prop} {Ng : List Str} {params : Arguments} {body : Expr} {scope : Scope} {k : Nat} {t : XK → TE} {p1 p2 p3 : Pos}
    (I : Inv X pins σ H1 s1) (L : LamX.LamS X.env.scope scope) (hf : s1.heap.get? f = some (PySem.W.kla_obj "<lambda>" (X.env.qual ++ "<lambda>") params body scope (cloFrom X.env.cells scope.names []) pm c' ctv)) (hfn : H1 f = none) (hfr : f ∉ frs X.stack) (hs : s2.heap = s1.heap)
    (hbind : bindArgs (PySem.W.kla_fn "<lambda>" (X.env.qual ++ "<lambda>") params body scope (cloFrom X.env.cells scope.names []) pm (.ref c') ctv) ⟨[], []⟩ = pure [])
    (hbody : ∀ (A : Around) (outer : List Env) (s : Shared) (H : Hp) (E : XK), Room k (A.deeper (LamX.lamEnv X scope s.heap.objs.size f c')) → PE (LamX.lamCx X A outer s H E scope f c') body (t E))
    (C : CaughtK X.K X.mg stc gC cW ok) (S : CaughtS stc) (Sc : FnScope ["action", "found", "error"] ["action"] (defScope stc)) (hva : Vis (defScope stc) "action") (hlf : (defScope stc).names.lookup ("found" : Str) = some .local) (hle : (defScope stc).names.lookup ("error" : Str) = some .local) (hge : (defScope stc).names.lookup ("WebError" : Str) = some .globalImplicit)
    (hN : Ng[0]? = some a) (hv : Vis sg a) (hgc : sg.names.lookup ("_law_caught" : Str) = some .globalImplicit) (hr : Room (k + 2) (X.A.deeper (envOfC x sg s2.heap.objs.size g cdg)))
    (hd : (a == ("__debug__" : Str)) = false := by decide) (hcd : (a == ("__classdict__" : Str)) = false := by decide) :
    PE (cxOf C8.CX0 X.prog X.w X.K X.mg X.base Ng x sg g cdg X.A X.stack s2 H1 C8.E0).nox (.Call (.Name "_law_caught" p1) [.Name a p2] [] p3)
      (fun σZ HZ Q => σZ[0]? = some (some (.ref f)) ∧ HZ c' = some (LamX.CodeO c' (X.env.qual ++ "<lambda>")) ∧ TCaught X.K cW (fun E H' Q' => t E σ H' Q') HZ Q) := by
  obtain ⟨oc, od, kV, doc, pmc, an, cdv, ct, osl, lk, hcd', hb⟩ := C.ex
  obtain ⟨j, q1, q2, q3, q4, q5, q6, q7, q8, q9, qa, qb, qc, qd, qe, hst⟩ := S
  rw [hst] at lk hb
  refine ⟨fun pinsZ sZ σZ HZ Q IZ h => ?_⟩
  obtain ⟨h1, h2, h3⟩ := h
  have hgl : Gl (cxOf C8.CX0 X.prog X.w X.K X.mg X.base Ng x sg g cdg X.A X.stack s2 H1 C8.E0).nox "_law_caught" := hgc
  refine wpAny_Call_Name_kw (ld_glob IZ hgl C.gx (PySem.W.callWith_K (h₀ := X.base) IZ.ok.mod.kin C.kp ?_ (by rfl) (by rfl)) (by decide))
  show wpAny _ _ (spliced (backTo p3 (starEach [.Name a p2] (cxOf C8.CX0 X.prog X.w X.K X.mg X.base Ng x sg g cdg X.A X.stack s2 H1 C8.E0).nox.env))) _ _ sZ
  refine thn ((pa_cons (X := (cxOf C8.CX0 X.prog X.w X.K X.mg X.base Ng x sg g cdg X.A X.stack s2 H1 C8.E0).nox) (pe_var (pos := p2) (i := 0) hN hv hd hcd) pa_nil).run p3 pinsZ sZ σZ HZ (fun vs H' => vs = [.ref f] ∧ H' = HZ) IZ ⟨.ref f, h1, rfl, rfl⟩) fun us s3 ⟨vs, H3, I3, r3, e3⟩ => ⟨I3.kIn, ?_⟩
  obtain ⟨rfl, rfl⟩ := e3
  obtain rfl := Vals.ref1 r3
  have u2 : Un (frs X.stack) [] H1 H3 s1.heap s3.heap := by
    have := I3.base
    rw [← hs]
    exact this
  have rc : codeAny (model X.prog X.w) (X.A.deeper (envOfC x sg s2.heap.objs.size g cdg)) (.call (.ref gC) ⟨[.ref f], []⟩) (CR C8.CX0 (envOfC x sg s2.heap.objs.size g cdg :: X.stack) X.prog X.w H3 s3 Q C8.E0) s3 := by
    refine LamX.run_ofS (N := ["action", "found", "error"]) (ps := ["action"]) (us := [.ref f]) (vs := [.ref f]) lk hcd' Sc hr I3.env0 (hb s3 [.ref f] I3.kIn rfl) (.cons rfl .nil) rfl fun hr' => ?_
    have act : ∀ (W : WX) (pn : List (Addr × Obj)) (xe : Value → Shared → Prop) (E : XK) (p1 p2 : Pos), Takes ((cxOf C8.CX0 X.prog X.w X.K X.mg X.base ["action", "found", "error"] "_law_caught" (defScope stc) gC cdv (X.A.deeper (envOfC x sg s2.heap.objs.size g cdg)) (envOfC x sg s2.heap.objs.size g cdg :: X.stack) s3 H3 C8.E0).tr pn xe) W → (∀ cls d σ' H', E cls d H' → W cls d σ' H') →
        PE ((cxOf C8.CX0 X.prog X.w X.K X.mg X.base ["action", "found", "error"] "_law_caught" (defScope stc) gC cdv (X.A.deeper (envOfC x sg s2.heap.objs.size g cdg)) (envOfC x sg s2.heap.objs.size g cdg :: X.stack) s3 H3 C8.E0).tr pn xe) (.Call (.Name "action" p1) [] [] p2)
          (fun σZ HZ Q => σZ[0]? = some (some (.ref f)) ∧ HZ c' = some (LamX.CodeO c' (X.env.qual ++ "<lambda>")) ∧ t E σ HZ Q) := by
      intro W pn xe E p1 p2 tk hW
      refine pe_act2 (X := X) (CXg := C8.CX0) (Eg := C8.E0) (Ng := ["action", "found", "error"]) (qg := "_law_caught") (sg := defScope stc) (g := gC) (cdg := cdv) (k := k) (tb := t E) (pm := pm) (ctv := ctv) (E := E) (A2 := X.A.deeper (envOfC x sg s2.heap.objs.size g cdg)) (outer2 := envOfC x sg s2.heap.objs.size g cdg :: X.stack) (s2 := s3) (H2 := H3) (i := 0) I L hf hfn hfr u2 (fun b hb => ?_) (fun b hb => ?_) hbind tk hW hr' (fun A outer s H hr2 => hbody A outer s H E hr2) rfl hva (by decide) (by decide)
      · show b ∈ frs (envOfC x sg s2.heap.objs.size g cdg :: X.stack)
        exact List.mem_cons_of_mem _ hb
      · have hb' : b ∈ s2.heap.objs.size :: frs X.stack := hb
        rcases List.mem_cons.mp hb' with rfl | z
        · right
          rw [hs]
          cases e : s1.heap.get? s1.heap.objs.size with
          | none => rfl
          | some o => exact absurd (Heap.lt_size e) (Nat.lt_irrefl _)
        · exact .inl z
    have gv := caught_gives (X := (cxOf C8.CX0 X.prog X.w X.K X.mg X.base Ng x sg g cdg X.A X.stack s2 H1 C8.E0).nox) (x := "_law_caught") (g := gC) (cdg := cdv) (q := X.env.qual ++ "<lambda>") (j := j) (p1 := q1) (p2 := q2) (p3 := q3) (p4 := q4) (p5 := q5) (p6 := q6) (p7 := q7) (p8 := q8) (p9 := q9) (pa := qa) (pb := qb) (pc := qc) (pd := qd) (pe := qe) (cW := cW)
      (Ng := ["action", "found", "error"]) (a := "action") (fnd := "found") (err := "error") (we := "WebError") (sg := defScope stc) rfl Sc.nd hlf hle hge C.we (by decide) (by decide) (by decide) f c' s3 H3 Q (fun E H' Q' => t E σ H' Q')
    obtain ⟨t', ht', hq'⟩ := gv act h2 h3
    exact ⟨t', ht'.nox, hq'⟩
  refine wpAny_call (codeAny_mono rc fun r s' hq => ?_)
  cases r with
  | error e => exact (show False from hq).elim
  | ok fl =>
    cases fl with
    | ret u => exact I3.after hq
    | next => exact False.elim hq
    | brk => exact False.elim hq
    | cont => exact False.elim hq
end
/-- x(lambda: body, 'w'): what is made of the exception that is held, or of None -/
def dLam2 (ok : Addr → Prop) (de : XCont → DE) (z : Str) (dE : DE) : DE := fun Γ M Φ => de (fun C fs M' => ok C ∧ dE [none, some (.str z), some (.exc C fs)] M' Φ) Γ M (fun _ M' => dE [none, some (.str z), some .non] M' Φ)
/-- how such a def is written -/
def PassS (st : Stmt) (a err : Str) (e : Expr) : Prop := ∃ (pa pb pc pd pe pf : Pos), defBody st = [.Assign [.Name err pa] (.Call (.Name "_law_caught" pb) [.Name a pc] [] pd) pe, .Return (some e) pf]
section
variable {X : Cx} {T : List (Addr × Str)}
theorem xe_lam2 {st stc : Stmt} {x a wd err z : Str} {g gC c P : Addr} {cW : Value} {ok : Addr → Prop} {k j : Nat} {de : XCont → DE} {dE : DE} {e : Expr} {params : Arguments} {body : Expr} {scope : Scope} {p lpos pos pz : Pos}
    (DK : DefK X.K X.mg x st g [a, wd]) (PS_ : PassS st a err e) (Sg : FnScope [a, wd, err] [a, wd] (defScope st)) (hvg : Vis (defScope st) a) (hlg : (defScope st).names.lookup err = some .local) (hgc : (defScope st).names.lookup ("_law_caught" : Str) = some .globalImplicit)
    (hE : ∀ (cdv : Value) (A : Around) (outer : List Env) (s : Shared) (H : Hp), Room (k + 2) (A.deeper (envOfC x (defScope st) s.heap.objs.size g cdv)) → XE (cxOf C8.CX0 X.prog X.w X.K X.mg X.base [a, wd, err] x (defScope st) g cdv A outer s H C8.E0).nox T e dE)
    (C : CaughtK X.K X.mg stc gC cW ok) (S : CaughtS stc) (Sc : FnScope ["action", "found", "error"] ["action"] (defScope stc)) (hva : Vis (defScope stc) "action") (hlf : (defScope stc).names.lookup ("found" : Str) = some .local) (hle : (defScope stc).names.lookup ("error" : Str) = some .local) (hge : (defScope stc).names.lookup ("WebError" : Str) = some .globalImplicit)
    (LK : LamK X.base X.mg T c P X.env.qual) (hg : Gl X x) (hcode : X.env.code = .ref c) (hr : Room (k + 3) X.A) (hL : LamX.LamS X.env.scope scope) (hdef : defaultsOf params X.env = ([], []))
    (hbind : ∀ (q : Str) (cl : List (Str × Addr)) (pm cv ctv : Value), bindArgs (PySem.W.kla_fn "<lambda>" q params body scope cl pm cv ctv) ⟨[], []⟩ = pure [])
    (hbody : ∀ (A : Around) (outer : List Env) (s : Shared) (H : Hp) (E : XK) (f c' : Addr), Room k (A.deeper (LamX.lamEnv X scope s.heap.objs.size f c')) → Takes (LamX.lamCx X A outer s H E scope f c') (fun cls d _ H => E cls d H) → PE (LamX.lamCx X A outer s H E scope f c') body (liftX X.K T de E))
    (hdb : (x == ("__debug__" : Str)) = false := by decide) (hd : (a == ("__debug__" : Str)) = false := by decide) (hcd : (a == ("__classdict__" : Str)) = false := by decide) :
    XE X T (.Call (.Name x p) [.Lambda params body scope lpos, .Constant (.str z) j pz] [] pos) (dLam2 ok de z dE) := by
  obtain ⟨oc, od, kV, doc, pmg, an, cdv, ct, osl, lk, hcg, hb⟩ := DK.ex
  obtain ⟨pa, pb, pc, pd, pe', pf, hst⟩ := PS_
  rw [hst] at lk hb
  refine ⟨fun pins s σ H Q I q => ?_⟩
  obtain ⟨Γ, M, Φ, env, h, gs⟩ := q
  refine wpAny_Call_Name_kw (ld_glob I hg DK.gx (PySem.W.callWith_K (h₀ := X.base) I.ok.mod.kin DK.kp ?_ (by rfl) (by rfl)) hdb)
  show wpAny _ _ (spliced ((false, eval (.Lambda params body scope lpos) X.env) :: backTo pos (starEach [.Constant (.str z) j pz] X.env))) _ _ s
  refine Calls.spliced_cons (LamX.lam_make2 I LK.tb hcode LK.mem LK.un env.tab hdef (hL.has I.ok) fun f c' pm' ctv H1 s' I1 eN T1 hf hfn hfr hco => ?_)
  show wpAny _ _ (spliced ((false, eval (.Constant (.str z) j pz) X.env) :: backTo pos (starEach [] X.env))) _ _ s'
  refine Calls.spliced_cons (Calls.Constant_str (Calls.spliced_nil ⟨(I1.tok _).kIn, ?_⟩))
  have I2 : Inv X pins σ H1 { s' with toks := s'.toks + 1 } := I1.tok _
  have k1 : Kp T H H1 := extN_kp eN T1
  have m1 : MOk X.K H1 M := env.mem.kp k1 fun b o h c => eN b o h fun ps z => by subst z; exact c
  have rc : codeAny (model X.prog X.w) X.A (.call (.ref g) ⟨[.ref f, .str z s'.toks], []⟩) (CR C8.CX0 X.stack X.prog X.w H1 { s' with toks := s'.toks + 1 } Q C8.E0) { s' with toks := s'.toks + 1 } := by
    refine LamX.run_ofS (N := [a, wd, err]) (ps := [a, wd]) (us := [.ref f, .str z s'.toks]) (vs := [.ref f, .str z]) lk hcg Sg hr I2.env0 (hb _ [.ref f, .str z s'.toks] I2.kIn rfl) (.cons rfl (.cons ⟨_, rfl⟩ .nil)) rfl fun hr' => ?_
    have P1 := pe_pass (X := X) (x := x) (a := a) (sg := defScope st) (g := g) (gC := gC) (cdg := cdv) (Ng := [a, wd, err]) (s1 := s') (s2 := { s' with toks := s'.toks + 1 }) (k := k) (t := liftX X.K T de) (p1 := pb) (p2 := pc) (p3 := pd) (ctv := ctv) (pm := pm') (params := params) (body := body) (scope := scope) (f := f) (c' := c')
      I1 hL hf hfn hfr rfl (hbind _ _ _ _ _) (fun A outer s H E hr2 => hbody A outer s H E f c' hr2 (takes_of rfl rfl rfl rfl)) C S Sc hva hlf hle hge rfl hvg hgc hr' hd hcd
    have P2 := hE cdv X.A X.stack { s' with toks := s'.toks + 1 } H1 hr'
    refine ⟨_, (pss_cons (ps_set (pos := pe') (pos' := pa) (i := 2) Sg.nd rfl (.inl hlg) P1) (pss_one (ps_ret (pos := pf) P2))).nox, ?_⟩
    have fin : ∀ (v : V) (d : D) (M' : Mem) (H' : Hp), Kp T H1 H' → MOk X.K H' M' → Rep X.K H' v d → dE [none, some (.str z), some d] M' Φ → lift X.K T dE [some (.ref f), some (.str z), some v] H' Q := fun v d M' H' k m r φ => by
      refine ⟨[none, some (.str z), some d], M', Φ, ⟨fun i d' hi => ?_, rfl, m, k.tab T1⟩, φ, gs.from (k1.trans k)⟩
      match i, hi with
      | 1, hi => cases hi; exact ⟨_, rfl, .str _⟩
      | 2, hi => cases hi; exact ⟨_, rfl, r⟩
    refine ⟨rfl, hco, Γ, M, _, _, env.go k1 m1, h, fun v H' d M' φ k m r => fin .non .non M' H' k m .non φ, fun C fs M' cls d H' φ k m r => ?_⟩
    obtain ⟨hC, φ⟩ := φ
    obtain ⟨rfl, r⟩ := r
    refine ⟨‹CaughtK X.K X.mg stc gC cW ok›.hok C hC, fun a oe na zc hf => ?_⟩
    have k2 : Kp T H' (upd H' a (pinO a oe)) := .new na
    rcases r with ⟨rfl, rfl⟩ | ⟨dd, vs, rfl, hd, rf⟩
    · exact .inl (fin _ _ _ _ (k.trans k2) (m.new na) (.exc (fs := []) ⟨oe, none, _, upd_same, zc, hf, .inl ⟨rfl, rfl⟩⟩ .nil) φ)
    · have nad : dd ≠ a := fun z => by rw [z, na] at hd; cases hd
      have hd2 : (upd H' a (pinO a oe)) dd = some (.xd vs) := by rw [upd_ne nad]; exact hd
      refine .inr ⟨dd, vs, hd2, fun od => ?_⟩
      have k3 : Kp T (upd H' a (pinO a oe)) (upd (upd H' a (pinO a oe)) dd (.frz od (.xd vs))) := xd_kp hd2
      refine fin _ _ _ _ ((k.trans k2).trans k3) ((m.new na).kp k3 fun b o h c => ?_) (.exc ⟨oe, some dd, _, k3.frz _ _ _ upd_same, zc, hf, .inr ⟨dd, od, rfl, upd_same⟩⟩ (rf.mono (k2.trans k3))) φ
      rw [upd_ne fun z => ?_]
      · exact h
      · subst z
        rw [hd2] at h
        cases h
        exact c
  refine wpAny_call (codeAny_mono rc fun r s2 hq => ?_)
  cases r with
  | error e => exact (show False from hq).elim
  | ok fl =>
    cases fl with
    | ret u => exact I2.after hq
    | next => exact False.elim hq
    | brk => exact False.elim hq
    | cont => exact False.elim hq
end
end DL

/-! DLzip: zip of a list with a tuple. -/
namespace DL
open PySem PySem.Spec PyProof.Rows L2
/-- a list at a and a tuple at b, the items in new pairs -/
def ItzLT (K : PySem.W.Frag) (a b : Addr) : It where
  go i H := ∃ (xs ys : List V) (x y : V), SqL K H a xs ∧ SqT K H b ys ∧ xs[i]? = some x ∧ ys[i]? = some y
  yld i H v H' := ∃ T x y, v = .ref T ∧ H T = none ∧ H' = upd H T (.tup [x, y]) ∧ (∀ xs, SqL K H a xs → xs[i]? = some x) ∧ ∀ ys, SqT K H b ys → ys[i]? = some y
  stop i H := ∃ xs ys : List V, SqL K H a xs ∧ SqT K H b ys ∧ (xs.length = i ∧ i ≤ ys.length ∨ ys.length = i ∧ i ≤ xs.length)
theorem sep_LT {z TI TO i1 i2 a b : Addr} (D : ZipApart z TI TO i1 i2 a b) : ZipSep2 z TI TO i1 i2 [i1, a] [i2, b] := by
  obtain ⟨⟩ := D
  constructor <;> first
    | assumption
    | (simp only [List.mem_cons, List.not_mem_nil, or_false, not_or]; constructor <;> first | assumption | (apply Ne.symm; assumption))
    | simp
theorem mem5 {c z TI TO i1 i2 : Addr} (h : c ∈ [z, TI, TO, i1, i2]) : c = z ∨ c = TI ∨ c = TO ∨ c = i1 ∨ c = i2 := by simpa using h
theorem turn_zipLT {P : Program} {w : World} {K : PySem.W.Frag} {elts : List Expr} {kk : Nat} {tpos : Pos} {a b z TI TO i1 i2 : Addr} (D : ZipApart z TI TO i1 i2 a b) :
    Turn P w K (.Tuple elts kk tpos) (ItzLT K a b) [z, TI, TO, i1, i2] z (fun i h => IsZip h z TI TO .none ∧ IsTupOf2 h TI (.ref i1) (.ref i2) ∧ (∃ x y, IsTupOf2 h TO x y) ∧ h.IsListIter i1 a i ∧ h.IsTupleIter i2 b i) where
  mem := by simp
  obj i h st c hc := by
    obtain ⟨h1, h2, ⟨x, y, h3⟩, ⟨o1, e1, _, d1⟩, ⟨o2, e2, _, d2⟩⟩ := st
    rcases mem5 hc with rfl | rfl | rfl | rfl | rfl
    · exact ⟨_, h1, fun v q => nomatch q⟩
    · exact ⟨_, h2, fun v q => nomatch q⟩
    · exact ⟨_, h3, fun v q => nomatch q⟩
    · exact ⟨o1, e1, fun v q => by rw [d1] at q; cases q⟩
    · exact ⟨o2, e2, fun v q => by rw [d2] at q; cases q⟩
  keep i h h' st k := by
    obtain ⟨h1, h2, ⟨x, y, h3⟩, h4, h5⟩ := st
    exact ⟨k z (by simp) _ h1, k TI (by simp) _ h2, ⟨x, y, k TO (by simp) _ h3⟩, h4.at fun o => k i1 (by simp) o, h5.at fun o => k i2 (by simp) o⟩
  item := by
    rintro X rfl rfl rfl hc i pins s σ H E I hf ⟨hz, hTI, ⟨x0, y0, hTO⟩, h1, h2⟩ ⟨xs, ys, x, y, qx, qy, hx, hy⟩
    obtain ⟨its, rv, p, _⟩ := I.list qx
    obtain ⟨its2, rv2, p2, _⟩ := I.tuple qy
    obtain ⟨u, hu, ru⟩ := rv.get hx
    obtain ⟨u2, hu2, ru2⟩ := rv2.get hy
    have lt1 : i < its.toArray.size := by
      have := (List.getElem?_eq_some_iff.mp hu).1
      simpa using this
    have lt2 : i < its2.toArray.size := by
      have := (List.getElem?_eq_some_iff.mp hu2).1
      simpa using this
    have hh : X.A.in1.handled = none := I.ok.hd hc
    have hzl : z < s.heap.objs.size := Heap.lt_size hz
    have lts : ∀ c ∈ [z, TI, TO, i1, i2], c < s.heap.objs.size := fun c hc => by
      obtain ⟨o1, e1, _⟩ := h1
      obtain ⟨o2, e2, _⟩ := h2
      rcases mem5 hc with rfl | rfl | rfl | rfl | rfl
      · exact hzl
      · exact Heap.lt_size hTI
      · exact Heap.lt_size hTO
      · exact Heap.lt_size e1
      · exact Heap.lt_size e2
    refine wpAny_pyNext_zipD2_item (sep_LT D) (Draws.list hh i1 a D.l1i1 its.toArray) (Draws.tuple hh i2 b D.l2i2 its2.toArray) hz hTI hTO ⟨h1, p.isList⟩ ⟨h2, p2⟩ lt1 lt2 fun v1 v2 h' tk e1 e2 z' TO' st1 st2 hT hsz hk => ?_
    have e1 : v1 = u := by simpa [hu] using e1.symm
    have e2 : v2 = u2 := by simpa [hu2] using e2.symm
    subst e1 e2
    refine ⟨_, rfl, wpAny_letOwnedTupleGo_zip (s := { s with heap := h', toks := tk }) z' fun h'' z'' sb => ?_⟩
    have hT2 : h''.get? s.heap.objs.size = some { cls := .type "tuple", data := .seq #[v1, v2] } := (sb.2 _ (Nat.ne_of_gt hzl)).trans hT
    have I1 : Inv X pins σ (upd H s.heap.objs.size (.tup [x, y])) { s with heap := h'', toks := tk } :=
      I.turnedNew (t' := tk) (ch := [z, TI, TO, i1, i2]) (fun c o hb q => (sb.2 c (fun q' => hb (by simp [q']))).trans (hk c o (fun q' => hb (by simp [q'])) (fun q' => hb (by simp [q'])) (fun q' => hb (by simp [q'])) (fun q' => hb (by simp [q'])) q)) hf (Nat.le_refl _) ⟨by show 2 ≤ sizeLine; decide, [v1, v2], .cons ru (.cons ru2 .nil), ⟨_, hT2, rfl, _, rfl⟩⟩
    refine ⟨.ref s.heap.objs.size, _, I1, rfl, ⟨_, x, y, rfl, I.hok.fresh (Nat.le_refl _), rfl, fun l hl => by rw [I.list_inj hl qx]; exact hx, fun l hl => by rw [I.tuple_inj hl qy]; exact hy⟩,
      ⟨z'', (sb.2 _ D.TIz).trans (hk _ _ D.TIz D.TITO D.TIi1 D.TIi2 hTI), ⟨v1, v2, (sb.2 _ D.TOz).trans TO'⟩, st1.1.at fun o q => (sb.2 _ D.i1z).trans q, st2.1.at fun o q => (sb.2 _ D.i2z).trans q⟩, fun c hcm => by
        rw [upd_ne (Nat.ne_of_lt (lts c hcm))]
        exact (hf c hcm).1⟩
  done := by
    rintro X rfl rfl rfl hc i pins s σ H E I hf ⟨hz, hTI, ⟨x0, y0, hTO⟩, h1, h2⟩ ⟨xs, ys, qx, qy, hend⟩
    obtain ⟨its, rv, p, _⟩ := I.list qx
    obtain ⟨its2, rv2, p2, _⟩ := I.tuple qy
    have l1 := rv.length
    have l2 := rv2.length
    have z1 : its.toArray.size = its.length := by simp
    have z2 : its2.toArray.size = its2.length := by simp
    have hh : X.A.in1.handled = none := I.ok.hd hc
    exact wpAny_pyNext_zipD2_end (sep_LT D) (Draws.list hh i1 a D.l1i1 its.toArray) (Draws.tuple hh i2 b D.l2i2 its2.toArray) hz hTI hTO ⟨h1, p.isList⟩ ⟨h2, p2⟩ (by omega) (by omega) (by omega) fun h' tk hk => ⟨rfl, I.turnedL (t' := tk) (ch := [z, TI, TO, i1, i2]) (fun c o hb q =>
      hk c o (fun q' => hb (by simp [q'])) (fun q' => hb (by simp [q'])) (fun q' => hb (by simp [q'])) (fun q' => hb (by simp [q'])) q) hf⟩
  self A i s Q E st h := wpAny_pyIter_zip st.1 h
def iZipLT (K : PySem.W.Frag) (ta : TA) : TI := fun σ H R => ta σ H fun vs H1 => ∃ a b xs ys, vs = [.ref a, .ref b] ∧ SqL K H1 a xs ∧ SqT K H1 b ys ∧ R (ItzLT K a b) H1
theorem pi_zipLT {X : Cx} {e e2 : Expr} {ta : TA} {p pos tpos : Pos} {elts : List Expr} {kk : Nat} (hg : Gl X "zip") (hm : X.mg "zip" = none) (ha : PA X [e, e2] ta)
    (hs : starEach [e, e2] X.env = (false, eval e X.env) :: starEach [e2] X.env := by rfl) (hpl : (backTo pos (starEach [e2] X.env)).any (·.1) = false := by rfl) :
    PI X (.Tuple elts kk tpos) (.Call (.Name "zip" p) [e, e2] [] pos) (iZipLT X.K ta) := by
  refine ⟨fun pins s σ H R I h => Call_ (ld_blt I hg hm PyProof.Rows.boot_zip (PyProof.Rows.callWith_type1 (thn (ha.run pos pins s σ H _ I h) fun us s1 ⟨vs, H1, I1, r1, q1⟩ => ?_) hs hpl))⟩
  obtain ⟨a, b, xs, ys, rfl, qx, qy, q⟩ := q1
  obtain ⟨ua, ub, rfl, ra, rb⟩ := vals2 r1
  obtain rfl : ua = Value.ref a := ra
  obtain rfl : ub = Value.ref b := rb
  obtain ⟨its, rv, p1, _⟩ := I1.list qx
  obtain ⟨its2, rv2, p2, _⟩ := I1.tuple qy
  obtain ⟨o2, ho2, _⟩ := id p2
  refine zip_begins2 (begins_list a its.toArray) (begins_tuple b its2.toArray) p1.isList p2 fun h' hz hTI hTO h1 h2 hsz hk => wpAny_pyIter_zip hz ?_
  have I2 : Inv X pins σ H1 { s1 with heap := h' } := I1.kept (t' := s1.toks) hk
  refine ⟨s1.heap.objs.size + 4, [s1.heap.objs.size + 4, s1.heap.objs.size + 2, s1.heap.objs.size + 3, s1.heap.objs.size, s1.heap.objs.size + 1], _, _, H1, rfl, I2, turn_zipLT (PySem.W.ktu_apart s1.heap.objs.size a b p1.lt (Heap.lt_size ho2)), ⟨hz, hTI, ⟨_, _, hTO⟩, ⟨_, h1, rfl, rfl⟩, ⟨_, h2, rfl, rfl⟩⟩, fun c hcm => ?_, q⟩
  have hle : s1.heap.objs.size ≤ c := by rcases mem5 hcm with rfl | rfl | rfl | rfl | rfl <;> omega
  exact I1.fpOk hle (I1.hok.fresh hle)
end DL

/-! DLo: zip of a list with a tuple, in of nested data, max of tuples, sums, comprehensions of two generators, tuples backwards. -/
namespace DL
open PySem PySem.Spec PyProof.Rows L2
/-! ### zip -/
def diZipLT (da : DA) : DI := fun Γ M Φ => da Γ M fun ds M1 => match ds with
  | [.lst xs, .tup ys] => Φ (zipD xs ys) M1
  | _ => False
section
variable {X : Cx} {T : List (Addr × Str)} {pos : Pos}
theorem xi_zipLT {e e2 : Expr} {da : DA} {p tpos : Pos} {elts : List Expr} {kk : Nat} (hg : Gl X "zip") (hm : X.mg "zip" = none) (ha : XA X T [e, e2] da)
    (hs : starEach [e, e2] X.env = (false, eval e X.env) :: starEach [e2] X.env := by rfl) (hpl : (backTo pos (starEach [e2] X.env)).any (·.1) = false := by rfl) :
    XI X T (.Tuple elts kk tpos) (.Call (.Name "zip" p) [e, e2] [] pos) (diZipLT da) := pi_weak (pi_zipLT hg hm ha hs hpl) fun σ H R q => by
  obtain ⟨Γ, M, Φ, env, h, k⟩ := q
  refine ⟨Γ, M, _, env, h, fun vs H1 ds M1 φ1 k1 m1 r1 => ?_⟩
  split at φ1
  · rename_i xs ys
    obtain ⟨v, u, rfl, rv, ru⟩ := reps2 r1
    cases rv with
    | @lst a vx _ hf hr =>
      cases ru with
      | @tup b vy _ hf2 hr2 =>
        refine ⟨a, b, vx, vy, rfl, .inl (.inr hf), .of hf2, k _ _ _ _ φ1 k1 m1 fun H2 k2 => ?_⟩
        have s1 := sq_still (K := X.K) (T := T) (.inr hf) H2 k2
        have s2 : SqT X.K H2 b vy := .of (k2.tup _ _ hf2)
        have lz : (zipD xs ys).length = min vx.length vy.length := by unfold zipD; rw [List.length_zipWith, hr.length, hr2.length]
        refine ⟨fun i d hd => ?_, ⟨vx, vy, s1, s2, by rw [lz]; omega⟩⟩
        obtain ⟨dx, dy, h1, h2, rfl⟩ := zipD_at hd
        obtain ⟨x, hx, qx⟩ := hr.get h1
        obtain ⟨y, hy, qy⟩ := hr2.get h2
        refine ⟨⟨vx, vy, x, y, s1, s2, hx, hy⟩, fun z H3 w => ?_⟩
        obtain ⟨T0, x', y', rfl, hT, rfl, w1, w2⟩ := w
        have e1 := w1 vx s1; rw [hx] at e1; cases e1
        have e2 := w2 vy s2; rw [hy] at e2; cases e2
        have kn : Kp T H2 (upd H2 T0 (.tup [x, y])) := .new hT
        exact ⟨fun a u q => by rw [upd_ne (ne_of_none q hT)]; exact q, .tup upd_same (.cons ((qx.mono k2).mono kn) (.cons ((qy.mono k2).mono kn) .nil))⟩
  · exact φ1.elim
end
/-! ### x in (.., ..), nested -/
def rInDT (K : PySem.W.Frag) (neg : Bool) : R2 := fun x y H Q => ∃ d ds, Dp K H x d ∧ Dp K H y (.tuple ds) ∧ SeqAt.shaped d = true ∧ SeqAt.shaped (.tuple ds) = true ∧ Q (.bl (if neg = true then !ds.any fun z => PyData.eqv z d else ds.any fun z => PyData.eqv z d)) H
section
variable {X : Cx} {T : List (Addr × Str)} {K : PySem.W.Frag} {pos : Pos} {a b : Expr} {da db : DE}
theorem op_inDT (hu : X.A.units + 65 < cLine) : OpR X (compareOp .In) (rInDT X.K false) := by
  rintro pins s σ H x y v u Q I rx ry ⟨d, ds, hd, he, sd, se, q⟩
  obtain ⟨as, r1⟩ := Dp.reads I d x v hd rx
  obtain ⟨bs, r2⟩ := Dp.reads I (.tuple ds) y u he ry
  exact SeqAt.in_tuple_reads r2 r1 (SeqAt.canLay_of_shaped se) (SeqAt.canLay_of_shaped sd) (room_in_shaped sd hu) ⟨.bl _, H, I, rfl, q⟩
theorem op_notInDT (hu : X.A.units + 65 < cLine) : OpR X (compareOp .NotIn) (rInDT X.K true) := by
  rintro pins s σ H x y v u Q I rx ry ⟨d, ds, hd, he, sd, se, q⟩
  obtain ⟨as, r1⟩ := Dp.reads I d x v hd rx
  obtain ⟨bs, r2⟩ := Dp.reads I (.tuple ds) y u he ry
  exact SeqAt.notIn_tuple_reads r2 r1 (SeqAt.canLay_of_shaped se) (SeqAt.canLay_of_shaped sd) (room_in_shaped sd hu) ⟨.bl _, H, I, rfl, q⟩
def fInDT (neg : Bool) : D → D → Mem → Cont → Prop := fun d e M Φ => ∃ x ys, pyM M d = some x ∧ pyM M e = some (.tuple ys) ∧ SeqAt.shaped x = true ∧ SeqAt.shaped (.tuple ys) = true ∧ Φ (.bl (if neg = true then !ys.any fun z => PyData.eqv z x else ys.any fun z => PyData.eqv z x)) M
theorem d_inDT {neg : Bool} : R2D K T (rInDT K neg) (fInDT neg) := by
  intro x y d e H M Φ Q rx ry m q g
  obtain ⟨px, pys, h1, h2, h3, h4, φ⟩ := q
  exact ⟨px, pys, pyM_rep rx m h1, pyM_rep ry m h2, h3, h4, g.now m φ (.bl _)⟩
theorem units65 {k : Nat} {A : Around} (hr : Room k A) : A.units + 65 < cLine := by
  have := hr.un
  omega
theorem xe_inDT (hu : X.A.units + 65 < cLine) (ha : XE X T a da) (hb : XE X T b db) (hm : behindInMarks .In b = false := by rfl) : XE X T (.Compare a [.In] [b] pos) (dBin (fInDT false) da db) := xe_cmp (op_inDT hu) d_inDT ha hb hm
theorem xe_notInDT (hu : X.A.units + 65 < cLine) (ha : XE X T a da) (hb : XE X T b db) (hm : behindInMarks .NotIn b = false := by rfl) : XE X T (.Compare a [.NotIn] [b] pos) (dBin (fInDT true) da db) := xe_cmp (op_notInDT hu) d_inDT ha hb hm
theorem xt_inDT (hu : X.A.units + 65 < cLine) (ha : XE X T a da) (hb : XE X T b db) (hm : behindInMarks .In b = false := by rfl) : XT X T (.Compare a [.In] [b] pos) (dB (dBin (fInDT false) da db)) := xt_cmp (op_inDT hu) d_inDT ha hb hm
theorem xt_notInDT (hu : X.A.units + 65 < cLine) (ha : XE X T a da) (hb : XE X T b db) (hm : behindInMarks .NotIn b = false := by rfl) : XT X T (.Compare a [.NotIn] [b] pos) (dB (dBin (fInDT true) da db)) := xt_cmp (op_notInDT hu) d_inDT ha hb hm
end
/-! ### max of a tuple, sum of a list -/
def rMaxT (K : PySem.W.Frag) : List V → Hp → VK → Prop := fun vs H Q => ∃ (a : Addr) (ns : List Int), vs = [V.ref a] ∧ SqT K H a (ns.map V.int) ∧ 0 < ns.length ∧ ∀ m, m ∈ ns → (∀ y ∈ ns, y ≤ m) → Q (.int m) H
section
variable {X : Cx} {T : List (Addr × Str)} {K : PySem.W.Frag}
theorem max_tup {prog : Program} {w : World} {A : Around} {E : Value → Shared → Prop} {s : Shared} {l : Addr} {its : List Value} {ns : List Int} {Q : Value → Shared → Prop} (hh : A.handled = none) (hl : s.heap.IsTuple l its.toArray) (hi : IntsAre its ns) (hne : 0 < ns.length)
    (h : ∀ h' tk M t', (∀ b o, s.heap.get? b = some o → h'.get? b = some o) → M ∈ ns → (∀ a ∈ ns, a ≤ M) → Q (.int M t') { s with heap := h', toks := tk }) : wpAny (model prog w) A (call (.builtin "max") [.ref l]) Q E s := by
  obtain ⟨xs, e⟩ := hi.allInts.items
  have hn : numsOf (intItems xs).toList = ns := by rw [← e]; exact hi.numsOf
  rw [nums_intItems] at hn
  subst hn
  rw [e] at hl
  obtain ⟨ol, hol, _⟩ := id hl
  have hlt : l < s.heap.objs.size := Heap.lt_size hol
  have keepO : ∀ {h' : Heap}, (∀ b o, b ∉ [s.heap.objs.size] → (s.heap.push { cls := .type "tuple_iterator", data := .fields #[.ref l, .int 0 0] }).get? b = some o → h'.get? b = some o) → ∀ b o, s.heap.get? b = some o → h'.get? b = some o := fun hk b o e =>
    hk b o (fun z => by rw [List.mem_singleton.mp z] at e; exact absurd (Heap.lt_size e) (Nat.lt_irrefl _)) (Heap.get?_push_of_some _ e)
  refine call_max_walk (wpAny_pyIter_tuple hl ?_)
  refine ⟨_, _, _, _, _, _, _, rfl, Walks.tuple (A := A.in1) hh s.heap.objs.size l (Nat.ne_of_lt hlt) (intItems xs), ⟨⟨_, Heap.get?_push_size _ rfl, rfl, rfl⟩, hl.push _⟩, fun b hb => ?_, by simpa [intItems] using hne, CmpOf.ints_gt (numAt xs) (fun _ _ => intItems_at), fun v h' tk hP hk => ?_⟩
  · show b < (s.heap.push _).objs.size
    rw [Heap.size_push]
    simp only [List.mem_cons, List.not_mem_nil, or_false] at hb
    rcases hb with rfl | rfl
    · exact Nat.lt_succ_self _
    · exact Nat.lt_succ_of_lt hlt
  · obtain ⟨t, rfl⟩ := intItems_at hP
    obtain ⟨g1, g2⟩ := argBest_gt (numAt xs) ((intItems xs).size - 1)
    have hsz : 0 < xs.size := by simpa using hne
    have esz : (intItems xs).size = xs.size := by simp [intItems]
    refine h h' tk _ t (keepO hk) ?_ fun a ha => ?_
    · rw [numAt_eq]
      exact PySem.getD_mem (by rw [List.length_map, Array.length_toList]; omega)
    · obtain ⟨j, hj, rfl⟩ := mem_getD ha
      rw [List.length_map, Array.length_toList] at hj
      rw [← numAt_eq]
      exact g2 j (by omega)
theorem cr_maxT (hc : X.calm = true) : CallR X (.builtin "max") (rMaxT X.K) := by
  rintro pins s σ H vs us Q I r ⟨a, ns, rfl, hs, hne, q⟩
  obtain ⟨its, rv, hl, _⟩ := I.tuple hs
  rw [Vals.ref1 r]
  exact max_tup (I.ok.hd hc) hl rv.ints hne fun h' tk m t' hk h1 h2 => ⟨.int _, H, I.kept hk, ⟨_, rfl⟩, q m h1 h2⟩
theorem ints_rep {H : Hp} : ∀ {ns : List Int} {vs : List V}, Reps K H vs (ns.map D.int) → vs = ns.map V.int
  | [], _, r => by cases r; rfl
  | b :: bs, _, r => by
    rw [List.map_cons] at r
    cases r with
    | cons a t => cases a; rw [ints_rep t]; rfl
def fMaxT : List D → Mem → Cont → Prop := fun ds M Φ => ∃ ns : List Int, ds = [.tup (ns.map .int)] ∧ 0 < ns.length ∧ ∀ m, m ∈ ns → (∀ y ∈ ns, y ≤ m) → Φ (.int m) M
theorem d_maxT : CRD K T (rMaxT K) fMaxT := by
  rintro xs ds H M Φ Q r m ⟨ns, rfl, h1, h2⟩ g
  obtain ⟨v, rfl, rv⟩ := reps1 r
  cases rv with
  | tup a b => rw [ints_rep b] at a; exact ⟨_, ns, rfl, .of a, h1, fun n hn hm => g.now m (h2 n hn hm) (.int _)⟩
def fSum : List D → Mem → Cont → Prop := fun ds M Φ => ∃ (d : D) (ns : List Int), ds = [d] ∧ lsD M d = some (ns.map .int) ∧ Φ (.int ns.sum) M
theorem d_sum : CRD K T (rSum K) fSum := by
  rintro xs ds H M Φ Q r m ⟨d, ns, rfl, h1, h2⟩ g
  obtain ⟨v, rfl, rv⟩ := reps1 r
  obtain ⟨a, vs, rfl, h3, h4⟩ := lsD_rep rv m h1
  rw [ints_rep h4] at h3
  exact ⟨a, ns, rfl, h3, g.now m h2 (.int _)⟩
end
end DL

/-! DLp: comprehensions of two generators; tuples backwards. -/
namespace DL
open PySem PySem.Spec PyProof.Rows L2
section
variable {K : PySem.W.Frag} {T : List (Addr × Str)}
/-- the inner loop: the items ys, what goes on behind it -/
def compIn (p : Addr) (Γv : Gam) (dg : DG) (dt : DT) (de : DE) (k : List D → Mem → Prop) : List D → List D → Mem → Prop
  | [], acc, M => k acc M
  | y :: ys, acc, M => dg y Γv M fun Γ2 M2 => dt Γ2 M2 fun b M3 =>
      if b = true then de Γ2 M3 fun d M4 => M4 p = some (.lst acc) ∧ acc.length < sizeLine ∧ compIn p Γv dg dt de k ys (acc ++ [d]) (M4.set p (.lst (acc ++ [d])))
      else compIn p Γv dg dt de k ys acc M3
def compRun2 (p : Addr) (Γw : Gam) (vs1 : List Nat) (dg : DG) (dt : DT) (di1 : DI) (dg1 : DG) (dt1 : DT) (de : DE) (Φ : List D → Mem → Prop) : List D → List D → Mem → Prop
  | [], acc, M => M p = some (.lst acc) ∧ Φ acc M
  | x :: xs, acc, M => dg x Γw M fun Γ2 M2 => dt Γ2 M2 fun b M3 =>
      if b = true then di1 Γ2 M3 fun ys M4 => compIn p (wipeG Γ2 vs1) dg1 dt1 de (fun acc' M' => compRun2 p Γw vs1 dg dt di1 dg1 dt1 de Φ xs acc' M') ys acc M4
      else compRun2 p Γw vs1 dg dt di1 dg1 dt1 de Φ xs acc M3
def dLcP2 (vs vs1 : List Nat) (di : DI) (dg : DG) (dt : DT) (di1 : DI) (dg1 : DG) (dt1 : DT) (de : DE) (Γ : Gam) (M : Mem) (Φ : Addr → List D → Mem → Prop) : Prop :=
  di Γ M fun xs M1 => ∀ p, M1 p = none → compRun2 p (wipeG Γ vs) vs1 dg dt di1 dg1 dt1 de (Φ p) xs [] (M1.set p (.lst []))
theorem lift_lc2 {vs vs1 : List Nat} {di di1 : DI} {g g1 : TG} {dg dg1 : DG} {dt dt1 : DT} {de : DE} (tg_ : TgOk K T vs g dg) (tg1 : TgOk K T vs1 g1 dg1) {Γ : Gam} {M : Mem} {Φ : Addr → List D → Mem → Prop} {σ : Sg} {H : Hp} {Q : VK} (env : EnvOk K T Γ M σ H) (h : dLcP2 vs vs1 di dg dt di1 dg1 dt1 de Γ M Φ)
    (k : ∀ p ws acc H' M', Φ p acc M' → M' p = some (.lst acc) → Kp T H H' → MOk K H' M' → H' p = some (.lst ws) → Reps K H' ws acc → Q (.ref p) H') : tLc2 (liftI K T di) g (liftT K T dt) (liftI K T di1) g1 (liftT K T dt1) (lift K T de) vs vs1 σ H Q := by
  refine ⟨Γ, M, _, env, h, fun J xs H1 M1 φ k1 m1 w p np => ?_⟩
  have kp : Kp T H1 (upd H1 p (.lst [])) := .new np
  have mp : MOk K (upd H1 p (.lst [])) (M1.set p (.lst [])) := m1.put (m := .lst []) kp .nil
  have e0 : EnvOk K T Γ (M1.set p (.lst [])) σ (upd H1 p (.lst [])) := env.go (k1.trans kp) mp
  refine ⟨fun i m H' => ∃ M' acc, EnvOk K T Γ M' σ H' ∧ Kp T H1 H' ∧ i ≤ xs.length ∧ m = xs.length - i ∧ compRun2 p (wipeG Γ vs) vs1 dg dt di1 dg1 dt1 de (Φ p) (xs.drop i) acc M', ⟨xs.length, _, [], e0, kp, Nat.zero_le _, by simp, by simpa using φ p (m1.free np)⟩, ?_⟩
  rintro i mm H' ⟨M', acc, env', k', hi', rfl, φ'⟩
  obtain ⟨wi, ws⟩ := w H' k'
  by_cases hlt : i < xs.length
  · right
    have hx : xs[i]? = some xs[i] := by simp [hlt]
    obtain ⟨go, yld⟩ := wi i _ hx
    refine ⟨go, fun H2 => ∃ M2 acc2, EnvOk K T Γ M2 σ H2 ∧ Kp T H1 H2 ∧ compRun2 p (wipeG Γ vs) vs1 dg dt di1 dg1 dt1 de (Φ p) (xs.drop (i + 1)) acc2 M2, fun H2 n2 => ?_, fun x H2 y => ?_⟩
    · obtain ⟨M2, acc2, e2, k2, f2⟩ := n2
      exact ⟨xs.length - (i + 1), by omega, M2, acc2, e2, k2, hlt, rfl, f2⟩
    · obtain ⟨ex, rx⟩ := yld x H2 y
      have kx : Kp T H' H2 := .ext ex
      rw [List.drop_eq_getElem_cons hlt] at φ'
      have e2 := env'.go kx (env'.mem.ext ex)
      refine tg_.run _ _ _ _ _ _ _ _ (wipe_env e2 vs) rx φ' fun σ3 Γ3 φ3 e3 hw => ⟨by rw [hw]; exact wipe_idem _ _, ?_⟩
      refine ⟨Γ3, M', _, e3, φ3, fun b H4 M4 φ4 k4 m4 => ?_⟩
      cases b with
      | true =>
        refine ⟨Γ3, M4, _, e3.go k4 m4, φ4, fun J1 ys H5 M5 φ5 k5 m5 w5 => ?_⟩
        have e5 : EnvOk K T Γ3 M5 σ3 H5 := (e3.go k4 m4).go k5 m5
        have env5 : EnvOk K T Γ M5 σ H5 := env'.go (kx.trans (k4.trans k5)) m5
        have k15 : Kp T H1 H5 := k'.trans (kx.trans (k4.trans k5))
        refine ⟨fun j n H6 => ∃ M6 acc6, EnvOk K T Γ3 M6 σ3 H6 ∧ EnvOk K T Γ M6 σ H6 ∧ Kp T H5 H6 ∧ j ≤ ys.length ∧ n = ys.length - j ∧ compIn p (wipeG Γ3 vs1) dg1 dt1 de (fun acc' M' => compRun2 p (wipeG Γ vs) vs1 dg dt di1 dg1 dt1 de (Φ p) (xs.drop (i + 1)) acc' M') (ys.drop j) acc6 M6, ⟨ys.length, M5, acc, e5, env5, .refl, Nat.zero_le _, by simp, by simpa using φ5⟩, ?_⟩
        rintro j n H6 ⟨M6, acc6, e6, env6, k6, hj, rfl, φ6⟩
        obtain ⟨wi6, ws6⟩ := w5 H6 k6
        by_cases hlt2 : j < ys.length
        · right
          have hy : ys[j]? = some ys[j] := by simp [hlt2]
          obtain ⟨go6, yld6⟩ := wi6 j _ hy
          refine ⟨go6, fun H7 => ∃ M7 acc7, EnvOk K T Γ3 M7 σ3 H7 ∧ EnvOk K T Γ M7 σ H7 ∧ Kp T H5 H7 ∧ compIn p (wipeG Γ3 vs1) dg1 dt1 de (fun acc' M' => compRun2 p (wipeG Γ vs) vs1 dg dt di1 dg1 dt1 de (Φ p) (xs.drop (i + 1)) acc' M') (ys.drop (j + 1)) acc7 M7, fun H7 n7 => ?_, fun x7 H7 y7 => ?_⟩
          · obtain ⟨M7, acc7, a1, a2, a3, a4⟩ := n7
            exact ⟨ys.length - (j + 1), by omega, M7, acc7, a1, a2, a3, hlt2, rfl, a4⟩
          · obtain ⟨ex7, rx7⟩ := yld6 x7 H7 y7
            have kx7 : Kp T H6 H7 := .ext ex7
            rw [List.drop_eq_getElem_cons hlt2] at φ6
            have m7 := e6.mem.ext ex7
            refine tg1.run _ _ _ _ _ _ _ _ (wipe_env (e6.go kx7 m7) vs1) rx7 φ6 fun σ8 Γ8 φ8 e8 hw8 => ⟨by rw [hw8]; exact wipe_idem _ _, ?_⟩
            refine ⟨Γ8, M6, _, e8, φ8, fun b9 H9 M9 φ9 k9 m9 => ?_⟩
            cases b9 with
            | true =>
              refine ⟨Γ8, M9, _, e8.go k9 m9, φ9, fun v H10 d M10 φ10 k10 m10 r10 => ?_⟩
              obtain ⟨hp, hl, φ11⟩ := φ10
              obtain ⟨o, h1, h2⟩ := m10 _ _ hp
              cases o <;> first | exact h2.elim | skip
              rename_i us
              have kk : Kp T H10 (upd H10 p (.lst (us ++ [v]))) := Kp.mut h1 True.intro
              have h2' : Reps K H10 us acc6 := h2
              have m11 := m10.put (m := .lst (acc6 ++ [d])) kk (h2'.append (.cons r10 .nil))
              exact ⟨us, h1, by rw [h2'.length]; exact hl, _, _, e6.go (kx7.trans ((k9.trans k10).trans kk)) m11, env6.go (kx7.trans ((k9.trans k10).trans kk)) m11, k6.trans (kx7.trans ((k9.trans k10).trans kk)), φ11⟩
            | false => exact ⟨M9, acc6, e6.go (kx7.trans k9) m9, env6.go (kx7.trans k9) m9, k6.trans (kx7.trans k9), φ9⟩
        · left
          have e : j = ys.length := by omega
          subst e
          rw [List.drop_length] at φ6
          exact ⟨ws6, M6, acc6, env6, k15.trans k6, φ6⟩
      | false => exact ⟨M4, acc, env'.go (kx.trans k4) m4, k'.trans (kx.trans k4), φ4⟩
  · left
    have e : i = xs.length := by omega
    subst e
    rw [List.drop_length] at φ'
    obtain ⟨hp, φ⟩ := φ'
    obtain ⟨o, h1, h2⟩ := env'.mem _ _ hp
    cases o <;> first | exact h2.elim | skip
    rename_i us
    exact ⟨ws, k p us acc _ M' φ hp (k1.trans k') env'.mem h1 h2⟩
def dLc2 (vs vs1 : List Nat) (di : DI) (dg : DG) (dt : DT) (di1 : DI) (dg1 : DG) (dt1 : DT) (de : DE) : DE := fun Γ M Φ => dLcP2 vs vs1 di dg dt di1 dg1 dt1 de Γ M fun p acc M' => Φ (.lst acc) (M'.del p)
end
section
variable {X : Cx} {T : List (Addr × Str)} {elt tg iter tg1 iter1 : Expr} {ifs ifs1 : List Expr} {scope : Scope} {own : List (Str × Nat)} {vs1 : List Nat} {pos : Pos} {di di1 : DI} {g g1 : TG} {dg dg1 : DG} {dt dt1 : DT} {de : DE}
theorem xe_lc2 (hc : X.calm = true) (hN : X.N.Nodup) (hi : XI X T tg iter di) (ok : BlkOk X.N X.env.scope scope own) (hv : ∀ i ∈ vs1, i ∈ own.map (·.2)) (tg_ : TgOk X.K T (own.map (·.2)) g dg) (tg1_ : TgOk X.K T vs1 g1 dg1)
    (hg : ∀ (s : Shared) (H : Hp) (C : Addr) (cl : List (Str × Addr)) (fp : List Addr), PG (X.blk s H scope (compEnvC scope cl C X.env) fp) tg g) (ht : ∀ (s : Shared) (H : Hp) (C : Addr) (cl : List (Str × Addr)) (fp : List Addr), PTs (X.blk s H scope (compEnvC scope cl C X.env) fp) ifs (liftT X.K T dt))
    (hi1 : ∀ (s : Shared) (H : Hp) (C : Addr) (cl : List (Str × Addr)) (fp : List Addr), XI (X.blk s H scope (compEnvC scope cl C X.env) fp) T tg1 iter1 di1)
    (hg1 : ∀ (s : Shared) (H : Hp) (C : Addr) (cl : List (Str × Addr)) (fp : List Addr), PG (X.blk s H scope (compEnvC scope cl C X.env) fp) tg1 g1) (ht1 : ∀ (s : Shared) (H : Hp) (C : Addr) (cl : List (Str × Addr)) (fp : List Addr), PTs (X.blk s H scope (compEnvC scope cl C X.env) fp) ifs1 (liftT X.K T dt1))
    (he : ∀ (s : Shared) (H : Hp) (C : Addr) (cl : List (Str × Addr)) (fp : List Addr), XE (X.blk s H scope (compEnvC scope cl C X.env) fp) T elt de) (hs : ∀ x, foldedSetIterable iter X.env x = pure x := by intro _; rfl) (hs1 : ∀ env x, foldedSetIterable iter1 env x = pure x := by intro _ _; rfl) :
    XE X T (.ListComp elt [⟨tg, iter, ifs, 0⟩, ⟨tg1, iter1, ifs1, 0⟩] scope pos) (dLc2 (own.map (·.2)) vs1 di dg dt di1 dg1 dt1 de) := pe_weak (pe_fz (pe_lc2 hc hN hi ok hv hg ht hi1 hg1 ht1 he hs hs1)) fun σ H Q q => by
  obtain ⟨Γ, M, Φ, env, h, k⟩ := q
  refine lift_lc2 tg_ tg1_ env h fun p ws acc H' M' φ hp k' m' h1 h2 => .inl ⟨p, _, rfl, h1, True.intro, fun ob => ?_⟩
  have kk : Kp T H' (upd H' p (.frz ob (.lst ws))) := Kp.mut h1 True.intro
  exact k _ _ _ _ φ (k'.trans kk) (m'.drop kk) (.lst ⟨ob, upd_same⟩ (Reps.mono kk h2))
end
section
variable {Γ Γw : Gam} {M : Mem} {Φ : Cont} {vs vs1 : List Nat} {xs : List D} {di di1 : DI} {dg dg1 : DG} {dt dt1 : DT} {de : DE}
def lcG2 (Γw : Gam) (vs1 : List Nat) (dg : DG) (dt : DT) (di1 : DI) (dg1 : DG) (dt1 : DT) (de : DE) (Φ : Cont) (xs : List D) (M1 : Mem) : Prop := ∀ p, M1 p = none → compRun2 p Γw vs1 dg dt di1 dg1 dt1 de (fun acc M' => Φ (.lst acc) (M'.del p)) xs [] (M1.set p (.lst []))
instance st_lc2 : Stp (dLc2 vs vs1 di dg dt di1 dg1 dt1 de Γ M Φ) (di Γ M fun xs M1 => lcG2 (wipeG Γ vs) vs1 dg dt di1 dg1 dt1 de Φ xs M1) := ⟨fun k => k⟩
/-- the inner loop, pure: filter and map -/
theorem compIn_map {p : Addr} {Γv : Gam} {k : List D → Mem → Prop} (f : D → Option D) {ys : List D} (hy : ∀ y ∈ ys, ∀ M' : Mem, Sub M M' → ∀ F : Option D → Mem → Prop, F (f y) M' → dg y Γv M' fun Γ2 M2 => dt Γ2 M2 fun b M3 => if b = true then de Γ2 M3 fun d M4 => F (some d) M4 else F none M3)
    (hp : M p = none) : ∀ (zs acc : List D), (∀ z ∈ zs, z ∈ ys) → acc.length + zs.length ≤ sizeLine → k (acc ++ zs.filterMap f) (M.set p (.lst (acc ++ zs.filterMap f))) → compIn p Γv dg dt de k zs acc (M.set p (.lst acc))
  | [], acc, _, _, h => by rw [List.filterMap_nil, List.append_nil] at h; exact h
  | z :: zs, acc, hm, hz, h => by
    rw [List.length_cons] at hz
    refine hy z (hm z List.mem_cons_self) (M.set p (.lst acc)) (sub_set hp) (fun o M4 => match o with
      | some d => M4 p = some (.lst acc) ∧ acc.length < sizeLine ∧ compIn p Γv dg dt de k zs (acc ++ [d]) (M4.set p (.lst (acc ++ [d])))
      | none => compIn p Γv dg dt de k zs acc M4) ?_
    cases e : f z with
    | some d =>
      rw [List.filterMap_cons_some e] at h
      refine ⟨Mem.set_same, by omega, ?_⟩
      rw [Mem.set_set]
      exact compIn_map f hy hp zs (acc ++ [d]) (fun q hq => hm q (List.mem_cons_of_mem _ hq)) (by rw [List.length_append, List.length_singleton]; omega) (by rw [List.append_assoc]; exact h)
    | none =>
      rw [List.filterMap_cons_none e] at h
      exact compIn_map f hy hp zs acc (fun q hq => hm q (List.mem_cons_of_mem _ hq)) (by omega) h
/-- pure: each item gives a list -/
theorem lc2_by (g : D → List D) (hl : (xs.flatMap g).length ≤ sizeLine) (hx : ∀ x ∈ xs, ∀ (p : Addr) (acc : List D), M p = none → acc.length + (g x).length ≤ sizeLine → ∀ F : List D → Mem → Prop, F (acc ++ g x) (M.set p (.lst (acc ++ g x))) →
      dg x Γw (M.set p (.lst acc)) fun Γ2 M2 => dt Γ2 M2 fun b M3 => if b = true then di1 Γ2 M3 fun ys M4 => compIn p (wipeG Γ2 vs1) dg1 dt1 de F ys acc M4 else F acc M3)
    (k : Φ (.lst (xs.flatMap g)) M) : lcG2 Γw vs1 dg dt di1 dg1 dt1 de Φ xs M := by
  intro p hp
  have key : ∀ (ys acc : List D), (∀ y ∈ ys, y ∈ xs) → acc.length + (ys.flatMap g).length ≤ sizeLine → acc ++ ys.flatMap g = xs.flatMap g → compRun2 p Γw vs1 dg dt di1 dg1 dt1 de (fun acc M' => Φ (.lst acc) (M'.del p)) ys acc (M.set p (.lst acc)) := by
    intro ys
    induction ys with
    | nil =>
      intro acc _ _ e
      refine ⟨Mem.set_same, ?_⟩
      show Φ _ ((M.set p _).del p)
      rw [List.flatMap_nil, List.append_nil] at e
      rw [del_set hp, e]
      exact k
    | cons y ys ih =>
      intro acc hm hz e
      rw [List.flatMap_cons, List.length_append] at hz
      rw [List.flatMap_cons, ← List.append_assoc] at e
      exact hx y (hm y List.mem_cons_self) p acc hp (by omega) _ (ih (acc ++ g y) (fun q hq => hm q (List.mem_cons_of_mem _ hq)) (by rw [List.length_append]; omega) e)
  exact key xs [] (fun _ h => h) (by simpa using hl) (by simp)
end
/-! ### t[::-1] of a tuple -/
section
variable {prog : Program} {w : World} {A : Around} {E : Value → Shared → Prop} {s : Shared}
theorem back_parts {sl : Addr} {vl vu vs : Value} {n : Nat} {Q : Int × Int × Nat → Shared → Prop} (hs : s.heap.IsSliceOf sl vl vu vs) (pl : IsPart vl none) (pu : IsPart vu none) (ps : IsPart vs (some (-1)))
    (h : Q ((n : Int) - 1, -1, n) s) : wpAny (model prog w) A (Builtin.Slice.sliceApplied (.ref sl) (pure (n : Int))) Q E s := by
  obtain ⟨os, hos, hcs, hds⟩ := id hs
  unfold Builtin.Slice.sliceApplied Builtin.Slice.sliceFields
  refine wpAny_bind (wpAny_bind (wpAny_field hos hds (x := vl) rfl (wpAny_bind (wpAny_field hos hds (x := vu) rfl (wpAny_bind (wpAny_field hos hds (x := vs) rfl (wpAny_pure (wpAny_bind (HT.slicePart_ ps ?_)))))))))
  show wpAny _ _ (if ((-1 : Int) == 0) = true then _ else _) _ _ s
  rw [if_neg (by decide)]
  refine wpAny_bind (HT.slicePart_ pl (wpAny_bind (HT.slicePart_ pu (wpAny_bind (wpAny_pure ?_)))))
  show wpAny _ _ (match Builtin.Slice.sliceAdjust none none (-1) (n : Int) with | (lo, hi) => pure (lo, (-1 : Int), Builtin.Slice.slicePlaces lo hi (-1))) _ _ s
  have e1 : Builtin.Slice.sliceAdjust none none (-1) (n : Int) = ((n : Int) - 1, -1) := by unfold Builtin.Slice.sliceAdjust; simp
  have e2 : Builtin.Slice.slicePlaces ((n : Int) - 1) (-1) (-1) = n := by
    unfold Builtin.Slice.slicePlaces
    rw [if_neg (by decide)]
    by_cases hn : n = 0
    · subst hn; rfl
    · rw [if_pos (by omega)]
      have : ((n : Int) - 1 - -1 - 1) / (- -1) = (n : Int) - 1 := by simp
      rw [this]
      omega
  rw [e1]
  show wpAny _ _ (pure ((n : Int) - 1, (-1 : Int), Builtin.Slice.slicePlaces ((n : Int) - 1) (-1) (-1))) _ _ s
  rw [e2]
  exact wpAny_pure h
theorem fm_map {α β : Type} {f : α → Option β} {g : α → β} : ∀ {l : List α}, (∀ m ∈ l, f m = some (g m)) → l.filterMap f = l.map g
  | [], _ => rfl
  | x :: l, h => by rw [List.filterMap_cons_some (h x List.mem_cons_self), List.map_cons, fm_map fun m hm => h m (List.mem_cons_of_mem _ hm)]
theorem back_pick (xs : Array Value) : ((List.range xs.size).filterMap fun (m : Nat) => xs[(((xs.size : Int) - 1) + (m : Int) * (-1)).toNat]?).toArray = xs.toList.reverse.toArray := by
  congr 1
  have e : ∀ m ∈ List.range xs.size, xs[(((xs.size : Int) - 1) + (m : Int) * (-1)).toNat]? = some (xs.toList.reverse.getD m .none) := fun m hm => by
    have hm := List.mem_range.mp hm
    have e1 : (((xs.size : Int) - 1) + (m : Int) * (-1)).toNat = xs.size - 1 - m := by omega
    rw [e1]
    have hl : m < xs.toList.reverse.length := by simpa using hm
    rw [List.getD_eq_getElem?_getD, List.getElem?_eq_getElem hl, Option.getD_some, List.getElem_reverse]
    rw [Array.getElem?_eq_getElem (by omega)]
    simp
  rw [fm_map e]
  refine List.ext_getElem (by simp) fun i h1 h2 => ?_
  rw [List.getElem_map, List.getElem_range, List.getD_eq_getElem?_getD, List.getElem?_eq_getElem h2, Option.getD_some]
theorem back_tup {t sl : Addr} {items : Array Value} {vl vu vs : Value} {Q : Value → Shared → Prop} (ht : IsTup s.heap t items) (hs : s.heap.IsSliceOf sl vl vu vs) (pl : IsPart vl none) (pu : IsPart vu none) (ps : IsPart vs (some (-1)))
    (h : Q (.ref s.heap.objs.size) { s with heap := s.heap.push { cls := .type "tuple", data := .seq items.toList.reverse.toArray } }) (hsz : items.size ≤ sizeLine) : wpAny (model prog w) A (getItem (.ref t) (.ref sl)) Q E s := by
  have hrev : sizeOk (.seq items.toList.reverse.toArray) := by
    show items.toList.reverse.toArray.size ≤ sizeLine
    simpa using hsz
  obtain ⟨os, hos, hcs, hds⟩ := id hs
  have hTs : s.TypeIs (.ref sl) "slice" := ⟨os, hos, hcs⟩
  unfold getItem
  try with_reducible refine wpAny_holding ?_
  first | refine wpAny_bind (wpAny_pure ?_) | skip
  refine wpAny_bind (wpAny_sequenceKey ht.typeIs (by decide) (wpAny_bind (wpAny_callSpecial?_slot (name := Str.ofString "__getitem__") ht.typeIs PyProof.Rows.slot_tuple_getitem (wpAny_call_entry PyProof.Rows.slot_tuple_getitem ht.typeIs entry_tuple_getitem ?_ (args_tuple_getitem _ _)))))
  show wpAny _ _ (Builtin.Tuple.tupleItemsOf (.ref t) >>= _) _ _ s
  refine wpAny_bind (tupleItemsOf_ ht (wpAny_bind (wpAny_typeOf hTs ?_)))
  rw [if_pos (by decide)]
  refine wpAny_bind (back_parts hs pl pu ps ?_)
  have hno : ¬ ((((items.size : Int) - 1) == 0 && (-1 : Int) == 1 && items.size == items.size) = true) := by
    rw [show ((-1 : Int) == 1) = false by decide, Bool.and_false, Bool.false_and]
    exact Bool.false_ne_true
  show wpAny _ _ (if (((items.size : Int) - 1) == 0 && (-1 : Int) == 1 && items.size == items.size) = true then _ else _) _ _ s
  rw [if_neg hno, back_pick]
  first
    | exact wpAny_bind (m := Builtin.Tuple.tupleExact _) (wpAny_newObj_type (wpAny_pure ⟨_, rfl, wpAny_pure h⟩) hrev)
    | exact wpAny_bind (m := Builtin.Tuple.tupleExact _) (wpAny_newObj_type (wpAny_bind (wpAny_pure (wpAny_pure ⟨_, rfl, wpAny_pure h⟩))) hrev)
    | exact wpAny_bind (wpAny_bind (m := Builtin.Tuple.tupleExact _) (wpAny_newObj_type (wpAny_pure (wpAny_pure ⟨_, rfl, wpAny_pure h⟩)) hrev))
    | exact wpAny_bind (wpAny_bind (m := Builtin.Tuple.tupleExact _) (wpAny_newObj_type (wpAny_pure ⟨_, rfl, wpAny_pure h⟩) hrev))
end
section
variable {X : Cx} {T : List (Addr × Str)}
def tRevT (K : PySem.W.Frag) (te : TE) : TE := fun σ H Q => te σ H fun x H1 => ∃ a xs, x = .ref a ∧ SqT K H1 a xs ∧ ∀ p, H1 p = none → Q (.ref p) (upd H1 p (.tup xs.reverse))
theorem pe_revT {e : Expr} {te : TE} {k : Nat} {p1 p2 p3 pos : Pos} (he : PE X e te) : PE X (.Subscript e (.Slice none none (some (.UnaryOp .USub (.Constant (.int 1) k p1) p2)) p3) pos) (tRevT X.K te) := by
  refine ⟨fun pins s σ H Q I h => Subscript_ (thn (he.run pins s σ H _ I h) fun v s1 ⟨x, H1, I1, r1, q1⟩ => ?_)⟩
  obtain ⟨a, xs, rfl, hx, q⟩ := q1
  cases r1
  have hst : PO X (some (.UnaryOp .USub (.Constant (.int 1) k p1) p2)) (tPart (tUn (rU fun i => .int (-i)) (tC (.int 1)))) := po_some (pe_un un_neg pe_int)
  refine wpAny_Slice (thn (po_none.run pins s1 σ H1 (fun o H2 => o = none ∧ H2 = H1) I1 ⟨rfl, rfl⟩) fun vl s2 ⟨l, H2, I2, pl, el, e2⟩ => ?_)
  obtain ⟨rfl, rfl⟩ : l = none ∧ H2 = H1 := ⟨el, e2⟩
  refine thn (po_none.run pins s2 σ H2 (fun o H3 => o = none ∧ H3 = H2) I2 ⟨rfl, rfl⟩) fun vu s3 ⟨u, H3, I3, pu, eu, e3⟩ => ?_
  obtain ⟨rfl, rfl⟩ : u = none ∧ H3 = H2 := ⟨eu, e3⟩
  refine thn (hst.run pins s3 σ H3 (fun o H4 => o = some (-1) ∧ H4 = H3) I3 ⟨1, rfl, -1, rfl, rfl, rfl⟩) fun vs s4 ⟨o, H4, I4, ps, eo, e4⟩ => ?_
  obtain ⟨rfl, rfl⟩ : o = some (-1) ∧ H4 = H3 := ⟨eo, e4⟩
  have I5 : Inv X pins σ H4 { s4 with heap := s4.heap.push { cls := .type "slice", data := .fields #[vl, vu, vs] } } := I4.kept (t' := s4.toks) fun b ob q => Heap.get?_push_of_some _ q
  obtain ⟨its, r, ht, hz⟩ := I5.tuple hx
  have hlen := r.length
  show wpAny (model X.prog X.w) X.A (subscriptTail e (.Slice none none (some (.UnaryOp .USub (.Constant (.int 1) k p1) p2)) p3) (.ref a) (.ref s4.heap.objs.size)) (EP X pins σ Q) X.xe { s4 with heap := s4.heap.push { cls := .type "slice", data := .fields #[vl, vu, vs] } }
  refine tail_any (ops := [.ref a, .ref s4.heap.objs.size]) ht.typeIs PyProof.Rows.slot_tuple_getitem.lookup (back_tup ht (Heap.IsSliceOf.new _ vl vu vs) pl pu ps ?_ (by rw [List.size_toArray]; omega)) (by with_unfolding_all rfl)
  refine ⟨.ref _, _, I5.laid (t' := s4.toks) (o := .tup xs.reverse) (fun b ob q => Heap.get?_push_of_some _ q) (Nat.le_refl _) ?_, rfl, q _ (I5.hok.fresh (Nat.le_refl _))⟩
  exact ⟨by rw [List.length_reverse]; exact hz, _, r.reverse, ⟨_, Heap.get?_push_size _ rfl, rfl, _, rfl⟩⟩
def dRevT (de : DE) : DE := fun Γ M Φ => de Γ M fun d M1 => match d with
  | .tup xs => Φ (.tup xs.reverse) M1
  | _ => False
theorem xe_revT {e : Expr} {de : DE} {k : Nat} {p1 p2 p3 pos : Pos} (he : XE X T e de) : XE X T (.Subscript e (.Slice none none (some (.UnaryOp .USub (.Constant (.int 1) k p1) p2)) p3) pos) (dRevT de) := pe_weak (pe_revT he) fun σ H Q q => by
  obtain ⟨Γ, M, Φ, env, h, k⟩ := q
  refine ⟨Γ, M, _, env, h, fun v1 H1 d1 M1 φ1 k1 m1 r1 => ?_⟩
  cases d1 <;> first | exact φ1.elim | skip
  cases r1 with
  | tup a b => exact ⟨_, _, rfl, .of a, fun p n => (k.from k1).newT m1 n φ1 b.reverse⟩
instance st_revT {Γ : Gam} {M : Mem} {Φ : Cont} {de : DE} : Stp (dRevT de Γ M Φ) (de Γ M fun d M1 => match d with
  | .tup xs => Φ (.tup xs.reverse) M1
  | _ => False) := ⟨fun k => k⟩
end
end DL

/-! DLq: y = [.. two generators], y a local; xs[i] = e; what a def that hands a lambda on returns. -/
namespace DL
open PySem PySem.Spec PyProof.Rows L2
section
variable {X : Cx} {T : List (Addr × Str)} {elt tg iter tg1 iter1 : Expr} {ifs ifs1 : List Expr} {scope : Scope} {own : List (Str × Nat)} {vs1 : List Nat} {pos : Pos} {di di1 : DI} {g g1 : TG} {dg dg1 : DG} {dt dt1 : DT} {de : DE}
theorem xs_setLc2 {i : Nat} {y : Str} {py spos : Pos} (hc : X.calm = true) (hN : X.N.Nodup) (hy : X.N[i]? = some y) (hyl : X.env.scope.names.lookup y = some .local)
    (hsw : swapsWith (.ListComp elt [⟨tg, iter, ifs, 0⟩, ⟨tg1, iter1, ifs1, 0⟩] scope pos) (some (.Name y py)) spos.line X.env = pure true) (hi : XI X T tg iter di) (ok : BlkOk X.N X.env.scope scope own) (hv : ∀ i ∈ vs1, i ∈ own.map (·.2)) (tg_ : TgOk X.K T (own.map (·.2)) g dg) (tg1_ : TgOk X.K T vs1 g1 dg1)
    (hg : ∀ (s : Shared) (H : Hp) (C : Addr) (cl : List (Str × Addr)) (fp : List Addr), PG (X.blk s H scope (compEnvC scope cl C X.env) fp) tg g) (ht : ∀ (s : Shared) (H : Hp) (C : Addr) (cl : List (Str × Addr)) (fp : List Addr), PTs (X.blk s H scope (compEnvC scope cl C X.env) fp) ifs (liftT X.K T dt))
    (hi1 : ∀ (s : Shared) (H : Hp) (C : Addr) (cl : List (Str × Addr)) (fp : List Addr), XI (X.blk s H scope (compEnvC scope cl C X.env) fp) T tg1 iter1 di1)
    (hg1 : ∀ (s : Shared) (H : Hp) (C : Addr) (cl : List (Str × Addr)) (fp : List Addr), PG (X.blk s H scope (compEnvC scope cl C X.env) fp) tg1 g1) (ht1 : ∀ (s : Shared) (H : Hp) (C : Addr) (cl : List (Str × Addr)) (fp : List Addr), PTs (X.blk s H scope (compEnvC scope cl C X.env) fp) ifs1 (liftT X.K T dt1))
    (he : ∀ (s : Shared) (H : Hp) (C : Addr) (cl : List (Str × Addr)) (fp : List Addr), XE (X.blk s H scope (compEnvC scope cl C X.env) fp) T elt de) (hs : ∀ x, foldedSetIterable iter X.env x = pure x := by intro _; rfl) (hs1 : ∀ env x, foldedSetIterable iter1 env x = pure x := by intro _ _; rfl) :
    XS X T (.Assign [.Name y py] (.ListComp elt [⟨tg, iter, ifs, 0⟩, ⟨tg1, iter1, ifs1, 0⟩] scope pos) spos) (dsSet i (dLc2 (own.map (·.2)) vs1 di dg dt di1 dg1 dt1 de)) := ps_weak (ps_fz (ps_setLc2 hc hN hy hyl hsw hi ok hv hg ht hi1 hg1 ht1 he hs hs1)) fun Dn σ H q => by
  obtain ⟨Γ, M, E, env, h, hn, hb, hct, hr⟩ := q
  refine lift_lc2 tg_ tg1_ env h fun p ws acc H' M' φ hp k' m' h1 h2 => .inl ⟨p, _, h1, True.intro, fun ob => ?_⟩
  have kk : Kp T H' (upd H' p (.frz ob (.lst ws))) := Kp.mut h1 True.intro
  exact hn _ _ _ _ φ (k'.trans kk) ((env.go (k'.trans kk) (m'.drop kk)).set i (.lst ⟨ob, upd_same⟩ (Reps.mono kk h2)))
end
/-- what such a def returns: the expression -/
def retE (st : Stmt) : Expr := match defBody st with
  | [_, .Return (some e) _] => e
  | _ => .Constant .none 0 ⟨0, 0, 0, 0⟩
theorem d_isXK {X : Cx} {T : List (Addr × Str)} {K : PySem.W.Frag} (h : X.K = K) : CRD X.K T (rIsX X.K) (fIsX K) := by subst h; exact d_isX
theorem xe_attrK {X : Cx} {T : List (Addr × Str)} {K : PySem.W.Frag} (h : X.K = K) {e : Expr} {n : Str} {de : DE} {pos : Pos} (he : XE X T e de) (hb : attributeBase e n X.env (eval e X.env) = eval e X.env := by rfl) : XE X T (.Attribute e n pos) (dAttr K n de) := by subst h; exact xe_attr he hb
/-! ### xs[i] = e -/
theorem reps_set {K : PySem.W.Frag} {H : Hp} {v : V} {d : D} (r : Rep K H v d) : ∀ {vs : List V} {ds : List D} {j : Nat}, Reps K H vs ds → Reps K H (vs.set j v) (ds.set j d)
  | _, _, _, .nil => .nil
  | _, _, 0, .cons _ t => .cons r t
  | _, _, _ + 1, .cons h t => .cons h (reps_set r t)
def dLPut (dd di dv : DE) : DS := fun E Γ M => dv Γ M fun v M1 => dd Γ M1 fun d M2 => di Γ M2 fun i M3 => ∃ p xs k j, d = .ptr p ∧ i = .int k ∧ M3 p = some (.lst xs) ∧ ixN xs.length k = some j ∧ E.nx Γ (M3.set p (.lst (xs.set j v)))
section
variable {X : Cx} {T : List (Addr × Str)}
theorem xs_lput {o i value : Expr} {dd di dv : DE} {pos pos' : Pos} (ho : XE X T o dd) (hi : XE X T i di) (hv : XE X T value dv) (hs : swapsWithSole [.Subscript o i pos'] value pos.line X.env = pure false := by rfl) (hw : swappedStores [.Subscript o i pos'] value X.env = pure none := by rfl)
    (h1 : (assignEach [.Subscript o i pos'] X.env).map (·.2) = [assign (.Subscript o i pos') X.env] := by rfl)
    (ha : ∀ v, assign (.Subscript o i pos') X.env v = (do
      let ov ← holding [v] (eval o X.env)
      let iv ← holding [v, ov] (eval i X.env)
      standAt pos'
      holding [v, ov, iv] (setItem ov iv v)
      release [v, ov, iv] []) := by intro _; rfl) :
    XS X T (.Assign [.Subscript o i pos'] value pos) (dLPut dd di dv) := ps_weak (ps_asg hv (pg_sub ho hi set_list ha) hs hw h1) fun Dn σ H q => by
  obtain ⟨Γ, M, E, env, h, hn, hb, hc, hr⟩ := q
  refine ⟨Γ, M, _, env, h, fun v1 H1 d1 M1 φ1 k1 m1 r1 => ⟨Γ, M1, _, env.go k1 m1, φ1, fun v2 H2 d2 M2 φ2 k2 m2 r2 => ⟨Γ, M2, _, (env.go k1 m1).go k2 m2, φ2, fun v3 H3 d3 M3 φ3 k3 m3 r3 => ?_⟩⟩⟩
  obtain ⟨p, xs, k, j, rfl, rfl, h1, h2, φ⟩ := φ3
  cases r2
  cases r3
  obtain ⟨o, h4, h5⟩ := m3 _ _ h1
  cases o <;> first | exact h5.elim | skip
  rename_i ks
  have h5' : Reps X.K H3 ks xs := h5
  have kk : Kp T H3 (upd H3 p (.lst (ks.set j v1))) := Kp.mut h4 True.intro
  have m4 := m3.put (m := .lst (xs.set j d1)) kk (reps_set ((r1.mono k2).mono k3) h5')
  exact ⟨p, ks, k, j, rfl, rfl, h4, by rw [h5'.length]; exact h2, hn _ _ _ _ φ (((k1.trans k2).trans k3).trans kk) ((((env.go k1 m1).go k2 m2).go k3 m3).go kk m4)⟩
end
section
variable {Γ : Gam} {M : Mem}
instance st_lput {dd di dv : DE} {E : DEnds} : Stp (dLPut dd di dv E Γ M) (dv Γ M fun v M1 => dd Γ M1 fun d M2 => di Γ M2 fun i M3 => ∃ p xs k j, d = .ptr p ∧ i = .int k ∧ M3 p = some (.lst xs) ∧ ixN xs.length k = some j ∧ E.nx Γ (M3.set p (.lst (xs.set j v)))) := ⟨fun k => k⟩
end
end DL

/-! DLenum: enumerate of a tuple. -/
namespace PySem
set_option maxHeartbeats 2000000 in
theorem meets_enumerate_new1 {v : Value} {o : Obj} {H : Heap → Prop} (B : Begins v o H) :
    Meets (Builtin.«enumerate.__new__» ⟨[.type "enumerate", v], []⟩) (fun _ R s => H s.heap ∧
      R (.ok (.ret (.ref (s.heap.push o).objs.size))) { s with heap := (s.heap.push o).push { cls := .type "enumerate", data := .fields #[.none, .bool false, .ref s.heap.objs.size, rawInt 0, .none, .none] } }) :=
  .of_wp fun prog w A R s h => by
    obtain ⟨hp, g, d, tk, os⟩ := s; obtain ⟨h1, h⟩ := h
    have hsub := sub_enumerate
    have q1 : ∀ {A' : Around} {E : Value → Shared → Prop} {Q : Value → Shared → Prop}, Q (.ref hp.objs.size) ⟨hp.push o, g, d, tk, os⟩ → wpAny (model prog w) A' (pyIter v) Q E ⟨hp, g, d, tk, os⟩ :=
      fun q => B.iter prog w _ _ ⟨hp, g, d, tk, os⟩ _ h1 q
    wp_walk using q1
    refine wpAny_stack_any fun st => wpAny_pure ?_
    split
    · rename_i c _ _ _ _ _
      cases (c == Value.type "enumerate")
      · wp_walk using q1
        exact ⟨_, rfl, h⟩
      · wp_walk using q1
        exact ⟨_, rfl, h⟩
    · wp_walk using q1
      exact ⟨_, rfl, h⟩
section
variable {prog : Program} {w : World} {A : Around} {E : Value → Shared → Prop} {s : Shared}
theorem enum_begins1 {v : Value} {o : Obj} {H : Heap → Prop} {Q : Value → Shared → Prop} (B : Begins v o H) (h1 : H s.heap)
    (h : ∀ h', IsEnum h' (s.heap.objs.size + 1) s.heap.objs.size 0 .none → h'.get? s.heap.objs.size = some o → h'.objs.size = s.heap.objs.size + 2 →
      (∀ b o, s.heap.get? b = some o → h'.get? b = some o) → Q (.ref (s.heap.objs.size + 1)) { s with heap := h' }) :
    wpAny (model prog w) A (call (.type "enumerate") [v]) Q E s := by
  refine callType_new F.called_enumerate (by decide) (F.typeCall_enumerate_1 _) (F.newCall_enumerate_1 _) (fun obj => F.args_object_init_2 obj _) F.entry_enumerate_new
    (meets_enumerate_new1 B) ⟨h1, ?_⟩
  have hz : (s.heap.push o).objs.size = s.heap.objs.size + 1 := Heap.size_push ..
  show _ ∧ _
  rw [hz]
  have he : IsEnum ((s.heap.push o).push { cls := .type "enumerate", data := .fields #[.none, .bool false, .ref s.heap.objs.size, rawInt 0, .none, .none] }) (s.heap.objs.size + 1) s.heap.objs.size 0 .none := by
    have := Heap.get?_push_size (s.heap.push o) (o := { cls := .type "enumerate", data := .fields #[.none, .bool false, .ref s.heap.objs.size, rawInt 0, .none, .none] }) rfl
    rw [hz] at this; exact this
  refine ⟨⟨_, he, rfl⟩, h _ he (Heap.get?_push_of_some _ (Heap.get?_push_size _ B.free)) (by rw [Heap.size_push, hz]) fun b o x => Heap.get?_push_of_some _ (Heap.get?_push_of_some _ x)⟩
end
end PySem
namespace DL
open PySem PySem.Spec PyProof.Rows L2
def IteT (K : PySem.W.Frag) (a : Addr) : It where
  go i H := ∃ (xs : List V) (x : V), SqT K H a xs ∧ xs[i]? = some x
  yld i H v H' := ∃ T x, v = .ref T ∧ H T = none ∧ H' = upd H T (.tup [.int (i : Nat), x]) ∧ ∀ xs, SqT K H a xs → xs[i]? = some x
  stop i H := ∃ xs : List V, SqT K H a xs ∧ xs.length = i
theorem turn_enumT {P : Program} {w : World} {K : PySem.W.Frag} {elts : List Expr} {kk : Nat} {tpos : Pos} (a e it : Addr) (hai : a ≠ it) (hea : e ≠ a) :
    Turn P w K (.Tuple elts kk tpos) (IteT K a) [e, it] e (fun i h => (∃ old, IsEnum h e it ((i : Nat) : Int) old) ∧ h.IsTupleIter it a i ∧ e ≠ it) where
  mem := by simp
  obj := fun i h st b hb => by
    obtain ⟨⟨old, he⟩, ⟨o, ho, hc, hd⟩, _⟩ := st
    have e' : b = e ∨ b = it := by simpa using hb
    rcases e' with z | z
    · rw [z]; exact ⟨_, he, fun v q => nomatch q⟩
    · rw [z]; exact ⟨o, ho, fun v q => by rw [hd] at q; cases q⟩
  keep := fun i h h' st k => let ⟨⟨old, he⟩, hi, hne⟩ := st; ⟨⟨old, k e (by simp) _ he⟩, hi.at fun o q => k it (by simp) o q, hne⟩
  item := by
    intro X hP hw hK hc i pins s σ H E I hf st hg
    subst hP hw hK
    obtain ⟨⟨old, he⟩, hit, hne⟩ := st
    obtain ⟨xs, x, hq, hx⟩ := hg
    obtain ⟨its, rv, p, hz⟩ := I.tuple hq
    obtain ⟨u, hu, ru⟩ := rv.get hx
    have hel : e < s.heap.objs.size := Heap.lt_size he
    have hil : it < s.heap.objs.size := by obtain ⟨_, q, _⟩ := hit; exact Heap.lt_size q
    have hh : X.A.in1.handled = none := I.ok.hd hc
    have lt1 : i < its.toArray.size := by
      have := (List.getElem?_eq_some_iff.mp hu).1
      simpa using this
    refine wpAny_pyNext_enum_itemD (Draws.tuple hh it a hai its.toArray) he ⟨hit, p⟩ lt1 hne (by simp [hne, hea]) fun v h' tk e1 ho st1 hT hsz hk => ?_
    have e1 : v = u := by simpa [hu] using e1.symm
    subst e1
    refine ⟨_, rfl, wpAny_letOwnedTupleGo_enum (s := { s with heap := h', toks := tk + 1 }) ho fun h'' he' sb => ?_⟩
    have hT2 : h''.get? s.heap.objs.size = some { cls := .type "tuple", data := .seq #[.int i tk, v] } := (sb.2 _ (Nat.ne_of_gt hel)).trans hT
    have new : ObjOk X.prog X.w (upd H s.heap.objs.size (.tup [.int (i : Nat), x])) h'' s.heap.objs.size (.tup [.int (i : Nat), x]) :=
      ⟨by show 2 ≤ sizeLine; decide, [.int i tk, v], .cons ⟨_, rfl⟩ (.cons ru .nil), ⟨_, hT2, rfl, _, rfl⟩⟩
    have I1 : Inv X pins σ (upd H s.heap.objs.size (.tup [.int (i : Nat), x])) { s with heap := h'', toks := tk + 1 } :=
      I.turnedNew (t' := tk + 1) (ch := [e, it]) (fun b ob hb q => (sb.2 b (fun z => hb (by simp [z]))).trans (hk b ob (fun z => hb (by simp [z])) (fun z => hb (by simp [z])) q)) hf (Nat.le_refl _) new
    refine ⟨.ref s.heap.objs.size, _, I1, rfl, ⟨_, x, rfl, I.hok.fresh (Nat.le_refl _), rfl, fun ys hy => by rw [I.tuple_inj hy hq]; exact hx⟩, ⟨⟨v, ?_⟩, st1.1.at fun o q => (sb.2 it (Ne.symm hne)).trans q, hne⟩, fun b hb => ?_⟩
    · have e1 : ((i + 1 : Nat) : Int) = (i : Int) + 1 := by omega
      rw [e1]; exact he'
    · have hb' : b < s.heap.objs.size := by
        have e' : b = e ∨ b = it := by simpa using hb
        rcases e' with z | z
        · rw [z]; exact hel
        · rw [z]; exact hil
      rw [upd_ne (Nat.ne_of_lt hb')]
      exact (hf b hb).1
  done := by
    intro X hP hw hK hc i pins s σ H E I hf st hg
    subst hP hw hK
    obtain ⟨⟨old, he⟩, hit, hne⟩ := st
    obtain ⟨xs, hq, hx⟩ := hg
    obtain ⟨its, rv, p, hz⟩ := I.tuple hq
    obtain ⟨f0, f1, f2, f3, f4, f5⟩ := hf it (by simp)
    have hl := rv.length
    have hh : X.A.in1.handled = none := I.ok.hd hc
    have ei : i = its.toArray.size := by simp; omega
    exact wpAny_pyNext_enum_endD (Draws.tuple hh it a hai its.toArray) he ⟨by rw [← ei]; exact hit, p⟩ fun h' eb => ⟨rfl, I.turned (t' := s.toks) (fun b o hb q => eb b o hb q) f0 f1 f3 f4 f5⟩
  self := fun A i s Q E st h => let ⟨⟨_, he⟩, _⟩ := st; wpAny_pyIter_enum he h
def iEnumT (K : PySem.W.Frag) (ta : TA) : TI := fun σ H R => ta σ H fun vs H1 => ∃ a xs, vs = [.ref a] ∧ SqT K H1 a xs ∧ R (IteT K a) H1
theorem pi_enumT {X : Cx} {e : Expr} {ta : TA} {p pos tpos : Pos} {elts : List Expr} {kk : Nat} (hg : Gl X "enumerate") (hm : X.mg "enumerate" = none) (ha : PA X [e] ta) (hs : starEach [e] X.env = [(false, eval e X.env)] := by rfl) :
    PI X (.Tuple elts kk tpos) (.Call (.Name "enumerate" p) [e] [] pos) (iEnumT X.K ta) := by
  refine ⟨fun pins s σ H R I h => ?_⟩
  refine Call_ (ld_blt I hg hm PyProof.Rows.boot_enumerate (PyProof.Rows.callWith_type1 (thn (ha.run pos pins s σ H _ I h) fun us s1 ⟨vs, H1, I1, r1, q1⟩ => ?_) hs rfl))
  obtain ⟨a, xs, ex, hq, q⟩ := q1
  subst ex
  cases r1 with
  | cons r rr =>
    cases rr
    cases r
    obtain ⟨its, rv, p', hz⟩ := I1.tuple hq
    obtain ⟨oa, hoa, _⟩ := id p'
    have hal : a < s1.heap.objs.size := Heap.lt_size hoa
    refine enum_begins1 (begins_tuple a its.toArray) p' fun h' he hit hsz hk => wpAny_pyIter_enum he ?_
    have I2 : Inv X pins σ H1 { s1 with heap := h' } := I1.kept (t' := s1.toks) hk
    refine ⟨s1.heap.objs.size + 1, [s1.heap.objs.size + 1, s1.heap.objs.size], _, _, H1, rfl, I2, turn_enumT a (s1.heap.objs.size + 1) s1.heap.objs.size (Nat.ne_of_lt hal) (Nat.ne_of_gt (Nat.lt_succ_of_lt hal)), ⟨⟨.none, he⟩, ⟨_, hit, rfl, rfl⟩, Nat.succ_ne_self _⟩, fun b hb => ?_, q⟩
    have e' : b = s1.heap.objs.size + 1 ∨ b = s1.heap.objs.size := by simpa using hb
    have hle : s1.heap.objs.size ≤ b := by
      rcases e' with z | z
      · rw [z]; exact Nat.le_add_right _ _
      · rw [z]; exact Nat.le_refl _
    exact I1.fpOk hle (I1.hok.fresh hle)
def diEnumT (da : DA) : DI := fun Γ M Φ => da Γ M fun ds M1 => match ds with
  | [.tup xs] => Φ (enD 0 xs) M1
  | _ => False
section
variable {X : Cx} {T : List (Addr × Str)} {pos : Pos}
theorem xi_enumT {e : Expr} {da : DA} {p tpos : Pos} {elts : List Expr} {kk : Nat} (hg : Gl X "enumerate") (hm : X.mg "enumerate" = none) (ha : XA X T [e] da) (hs : starEach [e] X.env = [(false, eval e X.env)] := by rfl) :
    XI X T (.Tuple elts kk tpos) (.Call (.Name "enumerate" p) [e] [] pos) (diEnumT da) := pi_weak (pi_enumT hg hm ha hs) fun σ H R q => by
  obtain ⟨Γ, M, Φ, env, h, k⟩ := q
  refine ⟨Γ, M, _, env, h, fun vs H1 ds M1 φ1 k1 m1 r1 => ?_⟩
  split at φ1
  · rename_i xs
    obtain ⟨v, rfl, rv⟩ := reps1 r1
    cases rv with
    | @tup a vs _ hf hr =>
      refine ⟨a, vs, rfl, .of hf, k _ _ _ _ φ1 k1 m1 fun H2 k2 => ?_⟩
      have hs : SqT X.K H2 a vs := .of (k2.tup _ _ hf)
      refine ⟨fun i d hd => ?_, ⟨vs, hs, by rw [enD_len, hr.length]⟩⟩
      obtain ⟨d', h1, rfl⟩ := enD_at 0 i xs d hd
      obtain ⟨v, hv, rv⟩ := hr.get h1
      refine ⟨⟨vs, v, hs, hv⟩, fun x H3 y => ?_⟩
      obtain ⟨T0, x0, rfl, hT, rfl, y⟩ := y
      have e := y vs hs
      rw [hv] at e; cases e
      have kn : Kp T H2 (upd H2 T0 (.tup [.int (i : Nat), v])) := .new hT
      refine ⟨fun a u q => by rw [upd_ne (ne_of_none q hT)]; exact q, .tup upd_same ?_⟩
      rw [Nat.zero_add]
      exact .cons (.int _) (.cons ((rv.mono k2).mono kn) .nil)
  · exact φ1.elim
end
instance st_enumT {Γ : Gam} {M : Mem} {da : DA} {Φ : List D → Mem → Prop} : Stp (diEnumT da Γ M Φ) (da Γ M fun ds M1 => match ds with
  | [.tup xs] => Φ (enD 0 xs) M1
  | _ => False) := ⟨fun k => k⟩
end DL

/-! Sp1: the draws of the laws: what stands in the store, the promises. -/
namespace DL
open PySem PySem.Spec PyProof.Rows L2
/-- the draws' dict at d, its list of great ones at l; at most n turns so far -/
def DrM (gs cs : List Int) (r t : Int) (l : Addr) : List (Key × D) := [(.inr "great", .ptr l), (.inr "cells", .lst (cs.map .int)), (.inr "rest", .int r), (.inr "turn", .int t)]
structure Dr (M : Mem) (d l : Addr) (n : Nat) : Prop where
  ne : l ≠ d
  ex : ∃ (gs cs : List Int) (r t : Int), M d = some (.dK (DrM gs cs r t l)) ∧ M l = some (.lst (gs.map .int)) ∧ (∀ g ∈ gs, 0 ≤ g) ∧ 0 ≤ r ∧ 0 ≤ t ∧ t ≤ n
/-- all but the draws stays -/
def Ev (M M' : Mem) (d l : Addr) : Prop := ∀ a, a ≠ d → a ≠ l → M' a = M a
theorem Ev.refl {M : Mem} {d l : Addr} : Ev M M d l := fun _ _ _ => rfl
theorem Ev.trans {M M1 M2 : Mem} {d l : Addr} (a : Ev M M1 d l) (b : Ev M1 M2 d l) : Ev M M2 d l := fun c h1 h2 => (b c h1 h2).trans (a c h1 h2)
theorem Dr.mono {M : Mem} {d l : Addr} {n m : Nat} (h : Dr M d l n) (le : n ≤ m) : Dr M d l m := by
  obtain ⟨ne, gs, cs, r, t, h1, h2, h3, h4, h5, h6⟩ := h
  exact ⟨ne, gs, cs, r, t, h1, h2, h3, h4, h5, by omega⟩
section
variable {κ : Type} [DecidableEq κ] {k k' : κ} {d e : D} {kvs : List (κ × D)}
theorem valD_hit : valD ((k, d) :: kvs) k = some d := by simp [valD]
theorem valD_skip (h : k' ≠ k) : valD ((k', d) :: kvs) k = valD kvs k := by simp [valD, List.find?_cons, h]
theorem putD_skip (h : k' ≠ k) : putD ((k', d) :: kvs) k e = (k', d) :: putD kvs k e := by
  unfold putD
  rw [List.any_cons, decide_eq_false h, Bool.false_or]
  split
  · rw [List.map_cons, if_neg h]
  · rfl
theorem putD_hit (h : ∀ p ∈ kvs, p.1 ≠ k) : putD ((k, d) :: kvs) k e = (k, e) :: kvs := by
  unfold putD
  rw [List.any_cons, decide_eq_true rfl, Bool.true_or, if_pos rfl, List.map_cons, if_pos rfl]
  congr 1
  exact (List.map_congr_left fun p hp => show (if p.1 = k then (p.1, e) else p) = id p from if_neg (h p hp)).trans (List.map_id _)
end
theorem ne_gc : (Sum.inr "great" : Key) ≠ (Sum.inr "cells" : Key) := by decide +kernel
theorem ne_gr : (Sum.inr "great" : Key) ≠ (Sum.inr "rest" : Key) := by decide +kernel
theorem ne_gt : (Sum.inr "great" : Key) ≠ (Sum.inr "turn" : Key) := by decide +kernel
theorem ne_cr : (Sum.inr "cells" : Key) ≠ (Sum.inr "rest" : Key) := by decide +kernel
theorem ne_ct : (Sum.inr "cells" : Key) ≠ (Sum.inr "turn" : Key) := by decide +kernel
theorem ne_rt : (Sum.inr "rest" : Key) ≠ (Sum.inr "turn" : Key) := by decide +kernel
section
variable {gs cs : List Int} {r t x : Int} {l : Addr}
theorem dr_great : valD (DrM gs cs r t l) (.inr "great") = some (.ptr l) := valD_hit
theorem dr_cells : valD (DrM gs cs r t l) (.inr "cells") = some (.lst (cs.map .int)) := by unfold DrM; rw [valD_skip ne_gc, valD_hit]
theorem dr_rest : valD (DrM gs cs r t l) (.inr "rest") = some (.int r) := by unfold DrM; rw [valD_skip ne_gr, valD_skip ne_cr, valD_hit]
theorem dr_turn : valD (DrM gs cs r t l) (.inr "turn") = some (.int t) := by unfold DrM; rw [valD_skip ne_gt, valD_skip ne_ct, valD_skip ne_rt, valD_hit]
theorem dr_put_rest : putD (DrM gs cs r t l) (.inr "rest") (.int x) = DrM gs cs x t l := by
  unfold DrM
  rw [putD_skip ne_gr, putD_skip ne_cr, putD_hit]
  intro p hp
  rcases List.mem_singleton.mp hp with rfl
  exact ne_rt.symm
theorem dr_put_turn : putD (DrM gs cs r t l) (.inr "turn") (.int x) = DrM gs cs r x l := by
  unfold DrM
  rw [putD_skip ne_gt, putD_skip ne_ct, putD_skip ne_rt, putD_hit]
  intro p hp
  cases hp
theorem dr_len : (DrM gs cs r t l).length < sizeLine := by rw [sizeLine_eq]; show 4 < _; decide
end
def fs__law_blended : FS := fun ds M Φ => ∃ d l cs gs r t, ds = [.ptr d] ∧ M d = some (.dK (DrM gs cs r t l)) ∧ 0 ≤ t ∧ t ≤ 1000000000 ∧ ∀ x : Int, 0 ≤ x → Φ (.int x) (M.set d (.dK (DrM gs cs r (t + 1) l)))
theorem len__law_blended : ∀ ds M Φ, fs__law_blended ds M Φ → ds.length = 1 := by rintro ds M Φ ⟨d, l, cs, gs, r, t, rfl, _⟩; rfl
def fs__law_draw : FS := fun ds M Φ => ∃ d l n room, ds = [.ptr d, .int room] ∧ Dr M d l n ∧ n ≤ 1000000000 ∧ 0 < room ∧ room.natAbs.log2 < 9000 ∧ ∀ (x : Int) (M' : Mem), 0 ≤ x → x < room → Dr M' d l (n + 1) → Ev M M' d l → Φ (.int x) M'
theorem len__law_draw : ∀ ds M Φ, fs__law_draw ds M Φ → ds.length = 2 := by rintro ds M Φ ⟨d, l, n, room, rfl, _⟩; rfl
end DL

/-! Sp2: webs and their texts: plain data, the promises. -/
namespace DL
open PySem PySem.Spec PyProof.Rows L2 TL
def pairD (t : Int × Int) : D := .tup [.int t.1, .int t.2]
def webD (n : Int) (ts : List (Int × Int)) : D := .tup [.str "web", .int n, .tup (ts.map pairD)]
structure GoodW (n : Int) (ts : List (Int × Int)) : Prop where
  lo : 1 ≤ n
  hi : n ≤ 8
  len : ts.length ≤ 12
  ok : ∀ t ∈ ts, 0 ≤ t.1 ∧ t.1 ≤ t.2 ∧ t.2 < n
mutual
def puD : D → Bool
  | .non => true
  | .bl _ => true
  | .int _ => true
  | .str x => decide (x.length ≤ 1000000)
  | .tup xs => puAll xs && decide (xs.length ≤ 1000000)
  | .lst xs => puAll xs && decide (xs.length ≤ 1000000)
  | .dic _ => true
  | _ => false
def puAll : List D → Bool
  | [] => true
  | x :: xs => puD x && puAll xs
end
theorem puAll_mem : ∀ {xs : List D} {x : D}, puAll xs = true → x ∈ xs → puD x = true
  | y :: ys, x, h, hx => by
    rw [puAll, Bool.and_eq_true] at h
    rcases List.mem_cons.mp hx with rfl | hx
    · exact h.1
    · exact puAll_mem h.2 hx
def tyS : D → String
  | .non => "NoneType"
  | .bl _ => "bool"
  | .int _ => "int"
  | .str _ => "str"
  | .tup _ => "tuple"
  | .lst _ => "list"
  | .dic _ => "dict"
  | _ => ""
theorem tyD_pu {M : Mem} {d : D} (h : puD d = true) : tyD M d = some (tyS d) := by
  cases d <;> first | rfl | cases h
def isWholeD : D → Bool
  | .int _ => true
  | _ => false
def isBelowD : D → Int → Bool
  | .int i, b => decide (0 ≤ i) && decide (i < b)
  | _, _ => false
def isPairD (n : Int) : D → Bool
  | .tup [a, b] => isBelowD a n && isBelowD b n && (match a, b with
    | .int i, .int j => decide (i ≤ j)
    | _, _ => false)
  | _ => false
def isW3 : D → D → D → Bool
  | .str s, .int n, .tup ts => decide (s = "web") && (decide (1 ≤ n) && decide (n ≤ 8)) && decide ((ts.length : Int) ≤ 12) && ts.all (isPairD n)
  | _, _, _ => false
def isWebD : D → Bool
  | .tup [a, b, c] => isW3 a b c
  | _ => false
def fs_is_whole : FS := fun ds M Φ => ∃ d, ds = [d] ∧ puD d = true ∧ Φ (.bl (isWholeD d)) M
theorem len_is_whole : ∀ ds M Φ, fs_is_whole ds M Φ → ds.length = 1 := by rintro ds M Φ ⟨d, rfl, _⟩; rfl
def fs_is_below : FS := fun ds M Φ => ∃ d b, ds = [d, .int b] ∧ puD d = true ∧ Φ (.bl (isBelowD d b)) M
theorem len_is_below : ∀ ds M Φ, fs_is_below ds M Φ → ds.length = 2 := by rintro ds M Φ ⟨d, b, rfl, _⟩; rfl
def fs_is_pair : FS := fun ds M Φ => ∃ n d, ds = [.int n, d] ∧ puD d = true ∧ Φ (.bl (isPairD n d)) M
theorem len_is_pair : ∀ ds M Φ, fs_is_pair ds M Φ → ds.length = 2 := by rintro ds M Φ ⟨n, d, rfl, _⟩; rfl
def fs_is_web : FS := fun ds M Φ => ∃ d, ds = [d] ∧ puD d = true ∧ Φ (.bl (isWebD d)) M
theorem len_is_web : ∀ ds M Φ, fs_is_web ds M Φ → ds.length = 1 := by rintro ds M Φ ⟨d, rfl, _⟩; rfl
def fs_need_web (c : Addr) : FSX := fun ds M Φ Ξ => ∃ d, ds = [d] ∧ puD d = true ∧ (isWebD d = true → Φ .non M) ∧ (isWebD d = false → Ξ c [] M)
theorem len_need_web {c : Addr} : ∀ ds M Φ Ξ, fs_need_web c ds M Φ Ξ → ds.length = 1 := by rintro ds M Φ Ξ ⟨d, rfl, _⟩; rfl
theorem mono_need_web {c : Addr} : ∀ ds M Φ Ξ Ξ', fs_need_web c ds M Φ Ξ → (∀ C fs M, Ξ C fs M → Ξ' C fs M) → fs_need_web c ds M Φ Ξ' := by rintro ds M Φ Ξ Ξ' ⟨d, rfl, h1, h2, h3⟩ k; exact ⟨d, rfl, h1, h2, fun e => k _ _ _ (h3 e)⟩
def fs_need_text (c : Addr) : FSX := fun ds M Φ Ξ => ∃ d, ds = [d] ∧ puD d = true ∧ ((∃ z, d = .str z) → Φ .non M) ∧ ((∀ z, d ≠ .str z) → Ξ c [("at", .int (-1))] M)
theorem len_need_text {c : Addr} : ∀ ds M Φ Ξ, fs_need_text c ds M Φ Ξ → ds.length = 1 := by rintro ds M Φ Ξ ⟨d, rfl, _⟩; rfl
theorem mono_need_text {c : Addr} : ∀ ds M Φ Ξ Ξ', fs_need_text c ds M Φ Ξ → (∀ C fs M, Ξ C fs M → Ξ' C fs M) → fs_need_text c ds M Φ Ξ' := by rintro ds M Φ Ξ Ξ' ⟨d, rfl, h1, h2, h3⟩ k; exact ⟨d, rfl, h1, h2, fun e => k _ _ _ (h3 e)⟩
end DL

/-! Tx: the plain law of texts: numbers, pieces, words. -/
namespace DL
open PySem PySem.Spec PyProof.Rows L2 TL
def digB (c : Nat) : Bool := decide (48 ≤ c) && decide (c ≤ 57)
def numOf : List Nat → Option Nat
  | [a] => if digB a = true then some (a - 48) else none
  | [a, b] => if (digB a && digB b) = true then (if a = 48 then none else some ((a - 48) * 10 + (b - 48))) else none
  | _ => none
theorem digB_iff {c : Nat} : digB c = true ↔ 48 ≤ c ∧ c ≤ 57 := by unfold digB; rw [Bool.and_eq_true, decide_eq_true_eq, decide_eq_true_eq]
theorem dig_in (c : Nat) : decide (c ∈ (Str.ofString "0123456789").cps.toList) = digB c := by
  have e : (Str.ofString "0123456789").cps.toList = [48, 49, 50, 51, 52, 53, 54, 55, 56, 57] := by decide +kernel
  rw [e, Bool.eq_iff_iff, decide_eq_true_eq, digB_iff]
  simp only [List.mem_cons, List.not_mem_nil, or_false]
  omega
theorem numL2 : ∀ i < 10, ∀ j < 10, i ≠ 0 → numL (i * 10 + j) = [48 + i, 48 + j] := by decide +kernel
theorem numL2z : ∀ j < 10, numL (0 * 10 + j) ≠ [48, 48 + j] := by decide +kernel
theorem num_key {l : List Nat} (h1 : 1 ≤ l.length) (h2 : l.length ≤ 2) (hd : l.all digB = true) : numOf l = if numL (NumText.digitsVal l) = l then some (NumText.digitsVal l) else none := by
  match l, h1, h2 with
  | [a], _, _ =>
    simp only [List.all_cons, List.all_nil, Bool.and_true] at hd
    have ha := digB_iff.mp hd
    have e : NumText.digitsVal [a] = a - 48 := by simp [NumText.digitsVal]
    rw [e, numL_lt (by omega), numOf, if_pos hd, if_pos (by congr 1; omega)]
  | [a, b], _, _ =>
    simp only [List.all_cons, List.all_nil, Bool.and_true] at hd
    have hab := Bool.and_eq_true_iff.mp hd
    have ha := digB_iff.mp hab.1
    have hb := digB_iff.mp hab.2
    have e : NumText.digitsVal [a, b] = (a - 48) * 10 + (b - 48) := by simp [NumText.digitsVal]
    rw [e, numOf, if_pos hd]
    by_cases z : a = 48
    · rw [if_pos z, if_neg]
      subst z
      have := numL2z (b - 48) (by omega)
      rw [show 48 + (b - 48) = b by omega] at this
      exact this
    · rw [if_neg z, numL2 (a - 48) (by omega) (b - 48) (by omega) (by omega), if_pos]
      rw [show 48 + (a - 48) = a by omega, show 48 + (b - 48) = b by omega]
theorem numOf_num {l : List Nat} {n : Nat} (h : numOf l = some n) : numL n = l ∧ n < 100 := by
  have sh : l.length = 1 ∨ l.length = 2 := by
    match l, h with
    | [], h => cases h
    | [_], _ => exact .inl rfl
    | [_, _], _ => exact .inr rfl
    | _ :: _ :: _ :: _, h => cases h
  have hd : l.all digB = true := by
    match l, h with
    | [], h => cases h
    | [a], h =>
      rw [numOf] at h
      by_cases c : digB a = true
      · simp [c]
      · rw [if_neg c] at h; cases h
    | [a, b], h =>
      rw [numOf] at h
      by_cases c : (digB a && digB b) = true
      · simpa using c
      · rw [if_neg c] at h; cases h
    | _ :: _ :: _ :: _, h => cases h
  have k := num_key (by omega) (by omega) hd
  rw [k] at h
  by_cases c : numL (NumText.digitsVal l) = l
  · rw [if_pos c] at h
    cases h
    refine ⟨c, ?_⟩
    have b : ∀ x ∈ l, x - 48 ≤ 9 := fun x hx => by have := digB_iff.mp (List.all_eq_true.mp hd x hx); omega
    match l, sh with
    | [a], _ => simp [NumText.digitsVal]; have := b a (by simp); omega
    | [a, c], _ => simp [NumText.digitsVal]; have := b a (by simp); have := b c (by simp); omega
    | [], sh => simp at sh
    | _ :: _ :: _ :: _, sh => simp at sh
  · rw [if_neg c] at h; cases h
theorem num_numOf : ∀ n < 100, numOf (numL n) = some n := by decide +kernel
def optI : Option Nat → D
  | some n => .int n
  | none => .non
def optT : Option (List Nat) → D
  | some l => .tup (l.map fun (n : Nat) => D.int n)
  | none => .non
def optAll : List (Option Nat) → Option (List Nat)
  | [] => some []
  | none :: _ => none
  | some n :: r => (optAll r).map (n :: ·)
theorem optAll_none : ∀ {os : List (Option Nat)}, optAll os = none ↔ ∃ o ∈ os, o = none
  | [] => by simp [optAll]
  | none :: r => by simp [optAll]
  | some n :: r => by simp [optAll, optAll_none (os := r)]
theorem optAll_some : ∀ {os : List (Option Nat)} {l : List Nat}, optAll os = some l → os = l.map some
  | [], l, h => by cases h; rfl
  | none :: r, l, h => by cases h
  | some n :: r, l, h => by
    rw [optAll] at h
    cases e : optAll r with
    | none => rw [e] at h; cases h
    | some m => rw [e] at h; cases h; rw [List.map_cons, ← optAll_some e]
def inner (l : List Nat) : List Nat := (l.drop 1).dropLast
def numsOf (l : List Nat) : Option (List Nat) :=
  if l.length < 2 ∨ l.head? ≠ some 40 ∨ l.getLast? ≠ some 41 then none else if l.length = 2 then some [] else optAll ((spl [44] 0 [] (inner l)).map numOf)
def tieOf (n : Int) (p : List Nat) : Option (Int × Int) := match numsOf p with
  | some [a, b] => if a ≤ b ∧ (b : Int) < n then some ((a : Int), (b : Int)) else none
  | _ => none
def takeT (n : Int) : Nat → List (List Nat) → List (Int × Int)
  | 0, _ => []
  | _ + 1, [] => []
  | k + 1, p :: ps => match tieOf n p with
    | some t => t :: takeT n k ps
    | none => []
def webL : List Nat := [119, 101, 98]
def readN (n : Int) (ps : List (List Nat)) : Sum Nat (Int × List (Int × Int)) :=
  if 1 ≤ n ∧ n ≤ 8 then (if (takeT n 12 ps).length = ps.length then .inr (n, takeT n 12 ps) else .inl ((takeT n 12 ps).length + 2)) else .inl 1
def readW : List (List Nat) → Sum Nat (Int × List (Int × Int))
  | [] => .inl 0
  | w :: r => if w ≠ webL then .inl 0 else match r with
    | [] => .inl 1
    | v :: ps => match numOf v with
      | none => .inl 1
      | some n => readN n ps
def words (l : List Nat) : List (List Nat) := spl [32] 0 [] l
theorem pair_tie (n : Int) (p : List Nat) : isPairD n (optT (numsOf p)) = (tieOf n p).isSome := by
  unfold tieOf
  cases e : numsOf p with
  | none => rfl
  | some l =>
    match l with
    | [] => rfl
    | [_] => rfl
    | [a, b] =>
      show (((decide (0 ≤ (a : Int)) && decide ((a : Int) < n)) && (decide (0 ≤ (b : Int)) && decide ((b : Int) < n))) && decide ((a : Int) ≤ b)) = (if a ≤ b ∧ (b : Int) < n then some ((a : Int), (b : Int)) else none).isSome
      by_cases h : a ≤ b ∧ (b : Int) < n
      · rw [if_pos h]
        simp only [Option.isSome_some, Bool.and_eq_true, decide_eq_true_eq]
        omega
      · rw [if_neg h]
        simp only [Option.isSome_none, Bool.and_eq_false_iff, decide_eq_false_iff_not]
        omega
    | _ :: _ :: _ :: _ => rfl
theorem tie_data {n : Int} {p : List Nat} {t : Int × Int} (h : tieOf n p = some t) : optT (numsOf p) = pairD t ∧ 0 ≤ t.1 ∧ t.1 ≤ t.2 ∧ t.2 < n := by
  unfold tieOf at h
  split at h
  · rename_i a b e
    split at h
    · rename_i c
      cases h
      rw [e]
      exact ⟨rfl, by omega, by omega, c.2⟩
    · cases h
  · cases h
theorem takeT_ok {n : Int} : ∀ {k : Nat} {ps : List (List Nat)}, (takeT n k ps).length ≤ k ∧ (takeT n k ps).length ≤ ps.length ∧ ∀ t ∈ takeT n k ps, 0 ≤ t.1 ∧ t.1 ≤ t.2 ∧ t.2 < n
  | 0, _ => ⟨Nat.le_refl _, Nat.zero_le _, fun t h => by cases h⟩
  | k + 1, [] => ⟨Nat.zero_le _, Nat.zero_le _, fun t h => by cases h⟩
  | k + 1, p :: ps => by
    rw [takeT]
    cases e : tieOf n p with
    | none => exact ⟨Nat.zero_le _, Nat.zero_le _, fun t h => by cases h⟩
    | some t =>
      obtain ⟨h1, h2, h3⟩ := takeT_ok (n := n) (k := k) (ps := ps)
      refine ⟨by simp; omega, by simp; omega, fun t' h => ?_⟩
      rcases List.mem_cons.mp h with rfl | h
      · exact (tie_data e).2
      · exact h3 t' h
end DL
namespace DL
open PySem PySem.Spec PyProof.Rows L2 TL
theorem spl1_hit {s : Nat} {acc r : List Nat} : spl [s] 0 acc (s :: r) = acc :: spl [s] 0 [] r := spl_hit (by simp [pre])
theorem spl1_miss {s c : Nat} {acc r : List Nat} (h : c ≠ s) : spl [s] 0 acc (c :: r) = spl [s] 0 (acc ++ [c]) r := spl_miss (by simp [pre, h])
theorem spl_ne {s : Nat} : ∀ (l acc : List Nat), spl [s] 0 acc l ≠ []
  | [], acc => by rw [spl_nil]; simp
  | c :: r, acc => by
    by_cases h : c = s
    · subst h; rw [spl1_hit]; simp
    · rw [spl1_miss h]; exact spl_ne r _
theorem joinL_cons {S p : List Nat} {ps : List (List Nat)} (h : ps ≠ []) : joinL S (p :: ps) = p ++ (S ++ joinL S ps) := by
  cases ps with
  | nil => exact absurd rfl h
  | cons q r => rfl
theorem joinL_spl {s : Nat} : ∀ (l acc : List Nat), joinL [s] (spl [s] 0 acc l) = acc ++ l
  | [], acc => by rw [spl_nil, List.append_nil]; rfl
  | c :: r, acc => by
    by_cases h : c = s
    · subst h
      rw [spl1_hit, joinL_cons (spl_ne _ _), joinL_spl r []]
      rfl
    · rw [spl1_miss h, joinL_spl r]
      simp
theorem spl_free {s : Nat} : ∀ (l acc : List Nat), s ∉ acc → ∀ p ∈ spl [s] 0 acc l, s ∉ p
  | [], acc, ha => by rw [spl_nil]; intro p hp; rw [List.mem_singleton.mp hp]; exact ha
  | c :: r, acc, ha => by
    by_cases h : c = s
    · subst h
      rw [spl1_hit]
      intro p hp
      rcases List.mem_cons.mp hp with rfl | hp
      · exact ha
      · exact spl_free r [] (by simp) p hp
    · rw [spl1_miss h]
      exact spl_free r _ (by simp [ha, Ne.symm h])
theorem spl_len {s : Nat} : ∀ (l acc : List Nat), (spl [s] 0 acc l).length ≤ l.length + 1 ∧ ∀ p ∈ spl [s] 0 acc l, p.length ≤ acc.length + l.length
  | [], acc => by rw [spl_nil]; exact ⟨by simp, fun p hp => by rw [List.mem_singleton.mp hp]; simp⟩
  | c :: r, acc => by
    by_cases h : c = s
    · subst h
      rw [spl1_hit]
      obtain ⟨h1, h2⟩ := spl_len (s := c) r []
      refine ⟨by simp; omega, fun p hp => ?_⟩
      rcases List.mem_cons.mp hp with rfl | hp
      · simp
      · have := h2 p hp; simp at this; simp; omega
    · rw [spl1_miss h]
      obtain ⟨h1, h2⟩ := spl_len (s := s) r (acc ++ [c])
      refine ⟨by simp; omega, fun p hp => ?_⟩
      have := h2 p hp; simp at this; simp; omega
def pieceL (is : List Nat) : List Nat := 40 :: (joinL [44] (is.map numL) ++ [41])
def webTextL (n : Int) (ts : List (Int × Int)) : List Nat := joinL [32] (webL :: numL n.toNat :: ts.map fun t => pieceL [t.1.toNat, t.2.toNat])
theorem inner_piece (l : List Nat) : inner (40 :: (l ++ [41])) = l := by unfold inner; simp
theorem nums_piece {is : List Nat} (h0 : is ≠ []) (h : ∀ i ∈ is, i < 100) : numsOf (pieceL is) = some is := by
  have hs : spl [44] 0 [] (joinL [44] (is.map numL)) = is.map numL := spl_join (by simpa using h0) fun p hp => by
    obtain ⟨i, _, rfl⟩ := List.mem_map.mp hp
    exact numL_free (.inl (by omega))
  have hl : (joinL [44] (is.map numL)).length ≠ 0 := by
    cases is with
    | nil => exact absurd rfl h0
    | cons i r =>
      intro z
      have z' := List.length_eq_zero_iff.mp z
      cases r with
      | nil => exact numL_ne i z'
      | cons j r => rw [List.map_cons, joinL_cons (by simp)] at z'; simp at z'
  unfold numsOf
  rw [if_neg, if_neg]
  · show optAll ((spl [44] 0 [] (inner (40 :: (joinL [44] (is.map numL) ++ [41])))).map numOf) = _
    rw [inner_piece, hs, List.map_map]
    clear hs hl h0
    induction is with
    | nil => rfl
    | cons i r ih =>
      rw [List.map_cons, Function.comp, num_numOf i (h i (by simp)), optAll, ih fun j hj => h j (List.mem_cons_of_mem _ hj)]
      rfl
  · unfold pieceL; simp; simpa using hl
  · unfold pieceL
    rw [← List.cons_append, List.getLast?_concat]
    simp
theorem tie_piece {n : Int} {t : Int × Int} (h : 0 ≤ t.1 ∧ t.1 ≤ t.2 ∧ t.2 < n) (hn : n ≤ 8) : tieOf n (pieceL [t.1.toNat, t.2.toNat]) = some t := by
  unfold tieOf
  rw [nums_piece (by simp) (by intro i hi; simp at hi; omega)]
  show (if t.1.toNat ≤ t.2.toNat ∧ (t.2.toNat : Int) < n then _ else _) = _
  rw [if_pos (by omega)]
  obtain ⟨a, b⟩ := t
  simp only at h ⊢
  rw [Int.toNat_of_nonneg (by omega), Int.toNat_of_nonneg (by omega)]
theorem piece_tie {n : Int} {p : List Nat} {t : Int × Int} (h : tieOf n p = some t) : pieceL [t.1.toNat, t.2.toNat] = p := by
  unfold tieOf at h
  split at h
  · rename_i a b e
    split at h
    · cases h
      unfold numsOf at e
      split at e
      · cases e
      · rename_i c
        simp only [not_or, Nat.not_lt, ne_eq, Classical.not_not] at c
        split at e
        · cases e
        · have os := optAll_some e
          have hp : p = 40 :: (inner p ++ [41]) := by
            obtain ⟨c1, c2, c3⟩ := c
            cases p with
            | nil => simp at c1
            | cons x r =>
              simp at c2
              subst c2
              unfold inner
              have r0 : r ≠ [] := by intro z; subst z; simp at c1
              have : r.getLast r0 = 41 := by
                rw [List.getLast?_cons, List.getLast?_eq_some_getLast r0] at c3
                simpa using c3
              have h2 := List.dropLast_concat_getLast r0
              rw [this] at h2
              simp [h2]
          have hm : spl [44] 0 [] (inner p) = [numL a, numL b] := by
            match hx : spl [44] 0 [] (inner p), os with
            | [x, y], os =>
              simp at os
              rw [(numOf_num os.1).1, (numOf_num os.2).1]
            | [], os => simp at os
            | [_], os => simp at os
            | _ :: _ :: _ :: _, os => simp at os
          have hj := joinL_spl (s := 44) (inner p) []
          rw [hm, List.nil_append] at hj
          unfold pieceL
          simp only [Int.toNat_natCast]
          rw [List.map_cons, List.map_cons, List.map_nil, hj, ← hp]
    · cases h
  · cases h
end DL

/-! Sp3: the promises about texts. -/
namespace DL
open PySem PySem.Spec PyProof.Rows L2 TL
def strL (l : List Nat) : D := .str ⟨l.toArray⟩
def oneC (x : D) : Nat := match x with
  | .str z => z.cps.toList.headD 0
  | _ => 0
theorem atI_zero {α : Type} {c : α} {r : List α} : atI (c :: r) 0 = some c := by
  unfold atI ixN
  rw [if_pos (by omega), if_pos (by simp only [List.length_cons]; omega)]
  rfl
theorem atI_last {α : Type} {l : List α} {c : α} (h : l.getLast? = some c) : atI l (-1) = some c := by
  have hl : l ≠ [] := fun z => by rw [z] at h; cases h
  have h0 : 0 < l.length := List.length_pos_iff.mpr hl
  have e : ixN l.length (-1) = some (l.length - 1) := by
    unfold ixN
    first
      | (rw [if_neg (by omega), if_pos (by omega)]; congr 1; omega)
      | (simp; omega)
  unfold atI
  rw [e]
  show l[l.length - 1]? = some c
  rw [← List.getLast?_eq_getElem?]
  exact h
theorem tl_cut_inner {z : Str} (h : 2 ≤ z.length) : tl (cutS z (some 1) (some (-1))) = inner (tl z) := by
  have hl : z.length = (tl z).length := len_tl z
  have e1 : HT.sIx z.length 0 (some 1) = 1 := by unfold HT.sIx; simp; omega
  have e2 : HT.sIx z.length z.length (some (-1)) = z.length - 1 := by unfold HT.sIx; simp; omega
  unfold cutS
  rw [e1, e2]
  show ((tl z).drop 1).take _ = _
  unfold inner
  rw [List.dropLast_eq_take, List.length_drop, ← hl]
theorem tl_cut_head {z : Str} (h : 1 ≤ z.length) : tl (cutS z none (some 1)) = (tl z).take 1 := by
  have e2 : HT.sIx z.length z.length (some 1) = 1 := by unfold HT.sIx; simp; omega
  unfold cutS
  rw [HT.sIx_none, e2]
  rfl
theorem tl_cut_last {z : Str} (h : 1 ≤ z.length) : tl (cutS z (some (-1)) none) = (tl z).drop (z.length - 1) := by
  have hl : z.length = (tl z).length := len_tl z
  have e1 : HT.sIx z.length 0 (some (-1)) = z.length - 1 := by unfold HT.sIx; simp; omega
  unfold cutS
  rw [HT.sIx_none, e1]
  show ((tl z).drop _).take _ = _
  rw [List.take_of_length_le (by rw [List.length_drop]; omega)]
theorem last_drop {l : List Nat} {c : Nat} (h : l.getLast? = some c) : l.drop (l.length - 1) = [c] := by
  obtain ⟨ys, rfl⟩ := List.getLast?_eq_some_iff.mp h
  simp
theorem split_words {z y : Str} {s : Nat} (ey : tl y = [s]) (hk : y.cps.all (· < 256) = true) : Txt.split z y = (spl [s] 0 [] (tl z)).map fun l => (⟨l.toArray⟩ : Str) := by
  refine map_tl_inj ?_
  rw [split_spl z y (by rw [ey]; simp) (kind_ok hk), ey, List.map_map]
  show _ = List.map id _
  rw [List.map_id]
theorem puAll_ints : ∀ l : List Nat, puAll (l.map fun (n : Nat) => D.int n) = true
  | [] => rfl
  | n :: l => by rw [List.map_cons, puAll, puAll_ints l]; rfl
theorem pu_nums {p : List Nat} (h : p.length ≤ 1000000) : puD (optT (numsOf p)) = true := by
  cases e : numsOf p with
  | none => rfl
  | some l =>
    have hl : l.length ≤ 1000000 := by
      unfold numsOf at e
      split at e
      · cases e
      · rename_i c
        split at e
        · cases e; simp
        · have os := congrArg List.length (optAll_some e)
          rw [List.length_map, List.length_map] at os
          have h1 := (spl_len (s := 44) (inner p) []).1
          have h2 : (inner p).length = p.length - 2 := by unfold inner; rw [List.length_dropLast, List.length_drop]; omega
          omega
    show (puAll (l.map fun (n : Nat) => D.int n) && decide ((l.map fun (n : Nat) => D.int n).length ≤ 1000000)) = true
    rw [puAll_ints, Bool.true_and, decide_eq_true_eq, List.length_map]
    exact hl
theorem readW_ne {w : List Nat} {r : List (List Nat)} (h : w ≠ webL) : readW (w :: r) = .inl 0 := by simp [readW, h]
theorem readW_1 : readW [webL] = .inl 1 := by simp [readW]
theorem readW_none {v : List Nat} {ps : List (List Nat)} (h : numOf v = none) : readW (webL :: v :: ps) = .inl 1 := by simp [readW, h]
theorem readW_some {v : List Nat} {ps : List (List Nat)} {n : Nat} (h : numOf v = some n) : readW (webL :: v :: ps) = readN n ps := by simp [readW, h]
theorem cut2 {a b : D} {xs : List D} : cutD (a :: b :: xs) (some 2) none = xs := by
  have e : HT.sIx (a :: b :: xs).length 0 (some 2) = 2 := by unfold HT.sIx; simp
  unfold cutD
  rw [HT.sIx_none, e]
  show xs.take _ = xs
  exact List.take_of_length_le (by simp)
theorem pair_of {n : Int} {d : D} (h : isPairD n d = true) : ∃ t : Int × Int, d = pairD t ∧ 0 ≤ t.1 ∧ t.1 ≤ t.2 ∧ t.2 < n := by
  unfold isPairD at h
  split at h
  · rename_i a b
    simp only [Bool.and_eq_true] at h
    obtain ⟨⟨h1, h2⟩, h3⟩ := h
    split at h3
    · rename_i i j
      simp only [isBelowD, Bool.and_eq_true, decide_eq_true_eq] at h1 h2 h3
      exact ⟨(i, j), rfl, h1.1, h3, h2.2⟩
    · cases h3
  · cases h
theorem pairs_of {n : Int} : ∀ {ds : List D}, ds.all (isPairD n) = true → ∃ ts : List (Int × Int), ds = ts.map pairD ∧ ∀ t ∈ ts, 0 ≤ t.1 ∧ t.1 ≤ t.2 ∧ t.2 < n
  | [], _ => ⟨[], rfl, fun t h => by cases h⟩
  | d :: ds, h => by
    rw [List.all_cons, Bool.and_eq_true] at h
    obtain ⟨t, rfl, ht⟩ := pair_of h.1
    obtain ⟨ts, rfl, hts⟩ := pairs_of h.2
    exact ⟨t :: ts, rfl, fun q hq => by
      rcases List.mem_cons.mp hq with rfl | hq
      · exact ht
      · exact hts q hq⟩
theorem isWeb_good {d : D} (h : isWebD d = true) : ∃ n ts, d = webD n ts ∧ GoodW n ts := by
  unfold isWebD at h
  split at h
  · rename_i a b c
    unfold isW3 at h
    split at h
    · rename_i s n ts
      simp only [Bool.and_eq_true, decide_eq_true_eq] at h
      obtain ⟨⟨⟨rfl, h1, h2⟩, h3⟩, h4⟩ := h
      obtain ⟨qs, rfl, hq⟩ := pairs_of h4
      rw [List.length_map] at h3
      exact ⟨n, qs, rfl, h1, h2, by omega, hq⟩
    · cases h
  · cases h
theorem pair_is {n : Int} {t : Int × Int} (h : 0 ≤ t.1 ∧ t.1 ≤ t.2 ∧ t.2 < n) : isPairD n (pairD t) = true := by
  show ((decide (0 ≤ t.1) && decide (t.1 < n)) && (decide (0 ≤ t.2) && decide (t.2 < n)) && decide (t.1 ≤ t.2)) = true
  simp only [Bool.and_eq_true, decide_eq_true_eq]
  omega
theorem good_is {n : Int} {ts : List (Int × Int)} (g : GoodW n ts) : isWebD (webD n ts) = true := by
  show (decide ((Str.ofString "web") = Str.ofString "web") && (decide (1 ≤ n) && decide (n ≤ 8)) && decide (((ts.map pairD).length : Int) ≤ 12) && (ts.map pairD).all (isPairD n)) = true
  have h4 : (ts.map pairD).all (isPairD n) = true := by
    rw [List.all_map, List.all_eq_true]
    exact fun t ht => pair_is (g.ok t ht)
  rw [h4, decide_eq_true rfl, decide_eq_true g.lo, decide_eq_true g.hi, decide_eq_true (by rw [List.length_map]; have := g.len; omega)]
  rfl
theorem puAll_pairs : ∀ ts : List (Int × Int), puAll (ts.map pairD) = true
  | [] => rfl
  | t :: ts => by rw [List.map_cons, puAll, puAll_pairs ts]; rfl
theorem good_pu {n : Int} {ts : List (Int × Int)} (g : GoodW n ts) : puD (webD n ts) = true := by
  have h1 : decide ((Str.ofString "web").length ≤ 1000000) = true := by decide +kernel
  have h2 : decide ((ts.map pairD).length ≤ 1000000) = true := by rw [decide_eq_true_eq, List.length_map]; have := g.len; omega
  show ((decide ((Str.ofString "web").length ≤ 1000000) && (true && ((puAll (ts.map pairD) && decide ((ts.map pairD).length ≤ 1000000)) && true))) && decide ((3 : Nat) ≤ 1000000)) = true
  rw [h1, h2, puAll_pairs]
  rfl
theorem i_ones {M : Mem} {Φ : Cont} {xs : List D} {p : D → Bool} (k : Φ (.bl (xs.any p)) M) : fNe (.lst (xs.filterMap fun x => if p x = true then some (.int 1) else none)) (.lst []) M Φ := by
  have e : (xs.filterMap fun x => if p x = true then some (D.int 1) else none) = ((xs.filter p).map fun _ => (1 : Int)).map D.int := by
    clear k
    induction xs with
    | nil => rfl
    | cons x r ih =>
      by_cases h : p x = true
      · rw [List.filterMap_cons_some (by rw [if_pos h]), List.filter_cons_of_pos h, List.map_cons, List.map_cons, ih]
      · rw [List.filterMap_cons_none (by rw [if_neg h]), List.filter_cons_of_neg h]
        exact ih
  rw [e]
  refine i_neLF ?_
  have : (!((xs.filter p).map fun _ => (1 : Int)).isEmpty) = xs.any p := by
    rw [List.isEmpty_map]
    cases h : xs.any p with
    | true =>
      obtain ⟨x, hx, hp⟩ := List.any_eq_true.mp h
      cases q : xs.filter p with
      | nil => exact absurd (List.mem_filter.mpr ⟨hx, hp⟩) (by rw [q]; simp)
      | cons _ _ => rfl
    | false =>
      have : xs.filter p = [] := List.filter_eq_nil_iff.mpr fun x hx hp => by rw [List.any_eq_false] at h; exact h x hx hp
      rw [this]; rfl
  rw [this]
  exact k
def fs_number_from : FS := fun ds M Φ => ∃ w : Str, ds = [.str w] ∧ w.length ≤ 1000000 ∧ Φ (optI (numOf (tl w))) M
theorem len_number_from : ∀ ds M Φ, fs_number_from ds M Φ → ds.length = 1 := by rintro ds M Φ ⟨d, rfl, _⟩; rfl
def fs__law_number_of : FS := fs_number_from
theorem len__law_number_of : ∀ ds M Φ, fs__law_number_of ds M Φ → ds.length = 1 := len_number_from
def fs_numbers_from : FS := fun ds M Φ => ∃ w : Str, ds = [.str w] ∧ w.length ≤ 1000000 ∧ Φ (optT (numsOf (tl w))) M
theorem len_numbers_from : ∀ ds M Φ, fs_numbers_from ds M Φ → ds.length = 1 := by rintro ds M Φ ⟨d, rfl, _⟩; rfl
def fs__law_numbers_of : FS := fs_numbers_from
theorem len__law_numbers_of : ∀ ds M Φ, fs__law_numbers_of ds M Φ → ds.length = 1 := len_numbers_from
def fs_piece_of_numbers : FS := fun ds M Φ => ∃ t : Int × Int, ds = [pairD t] ∧ 0 ≤ t.1 ∧ t.1 < 100 ∧ 0 ≤ t.2 ∧ t.2 < 100 ∧ Φ (strL (pieceL [t.1.toNat, t.2.toNat])) M
theorem len_piece_of_numbers : ∀ ds M Φ, fs_piece_of_numbers ds M Φ → ds.length = 1 := by rintro ds M Φ ⟨d, rfl, _⟩; rfl
def fs__law_piece_text : FS := fs_piece_of_numbers
theorem len__law_piece_text : ∀ ds M Φ, fs__law_piece_text ds M Φ → ds.length = 1 := len_piece_of_numbers
def fs_web_line : FS := fun ds M Φ => ∃ n ts, ds = [webD n ts] ∧ GoodW n ts ∧ Φ (strL (webTextL n ts)) M
theorem len_web_line : ∀ ds M Φ, fs_web_line ds M Φ → ds.length = 1 := by rintro ds M Φ ⟨n, ts, rfl, _⟩; rfl
def fs__law_web_text : FS := fs_web_line
theorem len__law_web_text : ∀ ds M Φ, fs__law_web_text ds M Φ → ds.length = 1 := len_web_line
def fs_web_text (c : Addr) : FSX := fun ds M Φ Ξ => ∃ d, ds = [d] ∧ puD d = true ∧ (∀ n ts, d = webD n ts → GoodW n ts → Φ (strL (webTextL n ts)) M) ∧ (isWebD d = false → Ξ c [] M)
theorem len_web_text {c : Addr} : ∀ ds M Φ Ξ, fs_web_text c ds M Φ Ξ → ds.length = 1 := by rintro ds M Φ Ξ ⟨d, rfl, _⟩; rfl
theorem mono_web_text {c : Addr} : ∀ ds M Φ Ξ Ξ', fs_web_text c ds M Φ Ξ → (∀ C fs M, Ξ C fs M → Ξ' C fs M) → fs_web_text c ds M Φ Ξ' := by rintro ds M Φ Ξ Ξ' ⟨d, rfl, h1, h2, h3⟩ k; exact ⟨d, rfl, h1, h2, fun e => k _ _ _ (h3 e)⟩
def fs_ties_told : FS := fun ds M Φ => ∃ (n : Int) (ps : List Str), ds = [.int n, .lst (ps.map .str)] ∧ ps.length ≤ 1000000 ∧ (∀ p ∈ ps, p.length ≤ 1000000) ∧ Φ (.tup ((takeT n 12 (ps.map tl)).map pairD)) M
theorem len_ties_told : ∀ ds M Φ, fs_ties_told ds M Φ → ds.length = 2 := by rintro ds M Φ ⟨n, ps, rfl, _⟩; rfl
def toldR (r : Sum Nat (Int × List (Int × Int))) (c : Addr) (M : Mem) (Φ : Cont) (Ξ : XCont) : Prop := match r with
  | .inl at_ => Ξ c [("at", .int (at_ : Nat))] M
  | .inr w => Φ (webD w.1 w.2) M
theorem toldR_mono {r : Sum Nat (Int × List (Int × Int))} {c : Addr} {M : Mem} {Φ : Cont} {Ξ Ξ' : XCont} (h : toldR r c M Φ Ξ) (k : ∀ C fs M, Ξ C fs M → Ξ' C fs M) : toldR r c M Φ Ξ' := by
  cases r with
  | inl a => exact k _ _ _ h
  | inr w => exact h
def fs_web_told (c : Addr) : FSX := fun ds M Φ Ξ => ∃ ws : List Str, ds = [.lst (ws.map .str)] ∧ ws ≠ [] ∧ ws.length ≤ 1000000 ∧ (∀ p ∈ ws, p.length ≤ 1000000) ∧ toldR (readW (ws.map tl)) c M Φ Ξ
theorem len_web_told {c : Addr} : ∀ ds M Φ Ξ, fs_web_told c ds M Φ Ξ → ds.length = 1 := by rintro ds M Φ Ξ ⟨ws, rfl, _⟩; rfl
theorem mono_web_told {c : Addr} : ∀ ds M Φ Ξ Ξ', fs_web_told c ds M Φ Ξ → (∀ C fs M, Ξ C fs M → Ξ' C fs M) → fs_web_told c ds M Φ Ξ' := by rintro ds M Φ Ξ Ξ' ⟨d, rfl, h1, h2, h3, h4⟩ k; exact ⟨d, rfl, h1, h2, h3, toldR_mono h4 k⟩
def fs_read_web (c : Addr) : FSX := fun ds M Φ Ξ => ∃ d, ds = [d] ∧ puD d = true ∧ (∀ z, d = .str z → z.length ≤ 900000 ∧ toldR (readW (words (tl z))) c M Φ Ξ) ∧ ((∀ z, d ≠ .str z) → Ξ c [("at", .int (-1))] M)
theorem len_read_web {c : Addr} : ∀ ds M Φ Ξ, fs_read_web c ds M Φ Ξ → ds.length = 1 := by rintro ds M Φ Ξ ⟨ws, rfl, _⟩; rfl
theorem mono_read_web {c : Addr} : ∀ ds M Φ Ξ Ξ', fs_read_web c ds M Φ Ξ → (∀ C fs M, Ξ C fs M → Ξ' C fs M) → fs_read_web c ds M Φ Ξ' := by rintro ds M Φ Ξ Ξ' ⟨d, rfl, h1, h2, h3⟩ k; exact ⟨d, rfl, h1, fun z e => ⟨(h2 z e).1, toldR_mono (h2 z e).2 k⟩, fun e => k _ _ _ (h3 e)⟩
def fs__law_is_web : FS := fs_is_web
theorem len__law_is_web : ∀ ds M Φ, fs__law_is_web ds M Φ → ds.length = 1 := len_is_web
def webOfR (r : Sum Nat (Int × List (Int × Int))) (M : Mem) (Φ : Cont) : Prop := match r with
  | .inl at_ => Φ (.tup [.non, .int (at_ : Nat)]) M
  | .inr w => Φ (.tup [webD w.1 w.2, .non]) M
def fs__law_web_of : FS := fun ds M Φ => ∃ z : Str, ds = [.str z] ∧ z.length ≤ 900000 ∧ webOfR (readW (words (tl z))) M Φ
theorem len__law_web_of : ∀ ds M Φ, fs__law_web_of ds M Φ → ds.length = 1 := by rintro ds M Φ ⟨z, rfl, _⟩; rfl
theorem enD_get {xs : List D} {i : Nat} {x : D} (h : (enD 0 xs)[i]? = some x) : ∃ d, xs[i]? = some d ∧ x = .tup [.int (i : Int), d] := by
  obtain ⟨d, h1, h2⟩ := enD_at 0 i xs x h
  exact ⟨d, h1, by rw [h2, Nat.zero_add]⟩
end DL

/-! Sp4: the promises of the drawing defs. -/
namespace DL
open PySem PySem.Spec PyProof.Rows L2 TL
/-- any part of it may be compared with [] -/
def ShD (xs : List D) : Prop := ∀ zs : List D, (∀ z ∈ zs, z ∈ xs) → ∃ ys, D.pyAll zs = some ys ∧ SeqAt.shaped (.list ys) = true
theorem pyAll_empty : ∀ {zs : List D} {ys : List PyData}, D.pyAll zs = some ys → ys.isEmpty = zs.isEmpty
  | [], ys, h => by cases h; rfl
  | z :: zs, ys, h => by
    rw [D.pyAll] at h
    cases e1 : z.py with
    | none => rw [e1] at h; cases h
    | some a =>
      cases e2 : D.pyAll zs with
      | none => rw [e1, e2] at h; cases h
      | some b => rw [e1, e2] at h; cases h; rfl
theorem i_neP {M : Mem} {Φ : Cont} {p : Addr} {zs : List D} (h : M p = some (.lst zs)) (hs : ∃ ys, D.pyAll zs = some ys ∧ SeqAt.shaped (.list ys) = true) (k : Φ (.bl (!zs.isEmpty)) M) : fNe (.ptr p) (.lst []) M Φ := by
  obtain ⟨ys, h1, h2⟩ := hs
  refine fNe_py (x := .list ys) (y := .list []) (by rw [pyM_p h, h1]; rfl) rfl h2 (by decide +kernel) ?_
  rw [eqv_nil, pyAll_empty h1]
  exact k
theorem sub_del {M : Mem} {p : Addr} : Sub (M.del p) M := fun a m h => by
  by_cases e : a = p
  · rw [e, Mem.del_same] at h; cases h
  · rw [Mem.del_ne e] at h; exact h
theorem perm_erase {α : Type} : ∀ {xs : List α} {i : Nat} (h : i < xs.length), (xs[i] :: xs.eraseIdx i).Perm xs
  | x :: xs, 0, _ => by simp
  | x :: xs, i + 1, h => by
    have ih := perm_erase (xs := xs) (i := i) (by simpa using h)
    simp only [List.getElem_cons_succ, List.eraseIdx_cons_succ]
    exact (List.Perm.swap x _ _).trans (ih.cons x)
def unP : D → Int × Int
  | .tup [.int a, .int b] => (a, b)
  | _ => (0, 0)
theorem unP_pair (t : Int × Int) : unP (pairD t) = t := rfl
theorem pairs_back {ts : List (Int × Int)} {zs : List D} (h : ∀ z ∈ zs, z ∈ ts.map pairD) : zs = (zs.map unP).map pairD := by
  rw [List.map_map]
  conv => lhs; rw [← List.map_id zs]
  refine List.map_congr_left fun z hz => ?_
  obtain ⟨t, _, rfl⟩ := List.mem_map.mp (h z hz)
  rfl
theorem py_pairs : ∀ ts : List (Int × Int), D.pyAll (ts.map pairD) = some (ts.map fun t => .tuple [.int t.1, .int t.2])
  | [] => rfl
  | t :: ts => by
    rw [List.map_cons, D.pyAll, py_pairs ts]
    rfl
theorem lay_pairs : ∀ ts : List (Int × Int), PyData.canLayAll0 (ts.map fun t => PyData.tuple [.int t.1, .int t.2]) = true
  | [] => rfl
  | t :: ts => by
    rw [List.map_cons, PyData.canLayAll0, lay_pairs ts]
    rfl
theorem depth_pairs : ∀ ts : List (Int × Int), PyData.depthAll (ts.map fun t => PyData.tuple [.int t.1, .int t.2]) ≤ 1
  | [] => Nat.zero_le _
  | t :: ts => by
    rw [List.map_cons, PyData.depthAll]
    have := depth_pairs ts
    have h1 : PyData.depth (.tuple [.int t.1, .int t.2]) ≤ 1 := by simp [PyData.depth, PyData.depthAll]
    omega
theorem shD_pairs (ts : List (Int × Int)) : ShD (ts.map pairD) := fun zs h => by
  rw [pairs_back h]
  refine ⟨_, py_pairs _, ?_⟩
  generalize zs.map unP = ts
  unfold SeqAt.shaped
  have := depth_pairs ts
  simp only [PyData.canLay0, lay_pairs, PyData.depth]
  simp
  omega
theorem perm_pairs {ts : List (Int × Int)} {ys : List D} (h : ys.Perm (ts.map pairD)) : ∃ qs : List (Int × Int), ys = qs.map pairD ∧ qs.Perm ts := by
  refine ⟨ys.map unP, pairs_back fun z hz => h.subset hz, ?_⟩
  have := h.map unP
  rw [List.map_map] at this
  rwa [show (ts.map (unP ∘ pairD)) = ts from by rw [show (unP ∘ pairD) = id from rfl, List.map_id]] at this
instance st_pairs0 {Γ : Gam} {M : Mem} {R : List (D × D) → Mem → Prop} : Stp (dPairs [] Γ M R) (R [] M) := ⟨fun k => k⟩
instance st_pairs1 {Γ : Gam} {M : Mem} {R : List (D × D) → Mem → Prop} {k v : DE} {r : List (DE × DE)} : Stp (dPairs ((k, v) :: r) Γ M R) (k Γ M fun a M1 => v Γ M1 fun b M2 => dPairs r Γ M2 fun ps M3 => R ((a, b) :: ps) M3) := ⟨fun k => k⟩
def greats (ns : List Int) : List Int := ns.filterMap fun i => if (1000000000000000000 : Int) ≤ (i.natAbs : Int) then some ((i.natAbs : Int) - 1000000000000000000) else none
def fs__law_begun : FS := fun ds M Φ => ∃ ns : List Int, ds = [.scr (ns.map .int)] ∧ ns.length ≤ 1000000 ∧ ∀ (d l : Addr) (M' : Mem), M d = none → M l = none → Dr M' d l 0 → Ev M M' d l → Φ (.ptr d) M'
theorem len__law_begun : ∀ ds M Φ, fs__law_begun ds M Φ → ds.length = 1 := by rintro ds M Φ ⟨ns, rfl, _⟩; rfl
def fs__law_pick : FS := fun ds M Φ => ∃ (d l : Addr) (n : Nat) (xs : List D), ds = [.ptr d, .lst xs] ∧ Dr M d l n ∧ n ≤ 1000000000 ∧ xs ≠ [] ∧ xs.length ≤ 1000000 ∧ ∀ x ∈ xs, ∀ M', Dr M' d l (n + 1) → Ev M M' d l → Φ x M'
theorem len__law_pick : ∀ ds M Φ, fs__law_pick ds M Φ → ds.length = 2 := by rintro ds M Φ ⟨d, l, n, xs, rfl, _⟩; rfl
def fs__law_shuffled : FS := fun ds M Φ => ∃ (d l : Addr) (n : Nat) (xs : List D), ds = [.ptr d, .lst xs] ∧ Dr M d l n ∧ n + xs.length ≤ 1000000000 ∧ xs.length ≤ 1000000 ∧ ShD xs ∧ ∀ (ys : List D) (M' : Mem), ys.length = xs.length → (∀ y ∈ ys, y ∈ xs) → ys.Perm xs → Dr M' d l (n + xs.length) → Ev M M' d l → Φ (.lst ys) M'
theorem len__law_shuffled : ∀ ds M Φ, fs__law_shuffled ds M Φ → ds.length = 2 := by rintro ds M Φ ⟨d, l, n, xs, rfl, _⟩; rfl
def nrm (t : Int × Int) : Int × Int := (min t.1 t.2, max t.1 t.2)
def fs__law_made : FS := fun ds M Φ => ∃ (n : Int) (ts : List (Int × Int)), ds = [.int n, .lst (ts.map pairD)] ∧ ts.length ≤ 1000000 ∧ Φ (webD n (ts.map nrm)) M
theorem len__law_made : ∀ ds M Φ, fs__law_made ds M Φ → ds.length = 2 := by rintro ds M Φ ⟨n, ts, rfl, _⟩; rfl
def fs__law_shuffled_web : FS := fun ds M Φ => ∃ (d l : Addr) (n : Nat) (k : Int) (ts : List (Int × Int)), ds = [.ptr d, .int k, .lst (ts.map pairD)] ∧ Dr M d l n ∧ n + ts.length ≤ 1000000000 ∧ ts.length ≤ 1000000 ∧ ∀ (qs : List (Int × Int)) (M' : Mem), qs.Perm ts → Dr M' d l (n + ts.length) → Ev M M' d l → Φ (webD k (qs.map nrm)) M'
theorem len__law_shuffled_web : ∀ ds M Φ, fs__law_shuffled_web ds M Φ → ds.length = 3 := by rintro ds M Φ ⟨d, l, n, k, ts, rfl, _⟩; rfl
def fs__law_is_truth : FS := fun ds M Φ => ∃ b, ds = [.bl b, .bl b] ∧ Φ (.bl true) M
theorem len__law_is_truth : ∀ ds M Φ, fs__law_is_truth ds M Φ → ds.length = 2 := by rintro ds M Φ ⟨b, rfl, _⟩; rfl
theorem Dr.ne_new {M : Mem} {d l p : Addr} {n : Nat} (h : Dr M d l n) (hp : M p = none) : p ≠ d ∧ p ≠ l := by
  obtain ⟨ne, gs, cs, r, t, h1, h2, _⟩ := h
  exact ⟨(fun z => by rw [z, h1] at hp; cases hp), (fun z => by rw [z, h2] at hp; cases hp)⟩
theorem Dr.set {M : Mem} {d l p : Addr} {n : Nat} {o : MO} (h : Dr M d l n) (h1 : p ≠ d) (h2 : p ≠ l) : Dr (M.set p o) d l n := by
  obtain ⟨ne, gs, cs, r, t, a, b, c⟩ := h
  exact ⟨ne, gs, cs, r, t, by rw [Mem.set_ne h1.symm]; exact a, by rw [Mem.set_ne h2.symm]; exact b, c⟩
theorem Dr.del {M : Mem} {d l p : Addr} {n : Nat} (h : Dr M d l n) (h1 : p ≠ d) (h2 : p ≠ l) : Dr (M.del p) d l n := by
  obtain ⟨ne, gs, cs, r, t, a, b, c⟩ := h
  exact ⟨ne, gs, cs, r, t, by rw [Mem.del_ne h1.symm]; exact a, by rw [Mem.del_ne h2.symm]; exact b, c⟩
def fs__law_odd : FS := fun ds M Φ => ∃ (d l : Addr) (n : Nat), ds = [.ptr d] ∧ Dr M d l n ∧ n ≤ 1000000000 ∧ ∀ (x : D) (M' : Mem), puD x = true → isWebD x = false → Dr M' d l (n + 1) → Ev M M' d l → Φ x M'
theorem len__law_odd : ∀ ds M Φ, fs__law_odd ds M Φ → ds.length = 1 := by rintro ds M Φ ⟨d, l, n, rfl, _⟩; rfl
def fs__law_one_letter : FS := fun ds M Φ => ∃ (d l : Addr) (n : Nat) (z : Str), ds = [.ptr d, .str z] ∧ Dr M d l n ∧ n + 3 ≤ 1000000000 ∧ z.length ≤ 100000 ∧ ∀ (y : Str) (M' : Mem), y.length ≤ z.length + 1 → Dr M' d l (n + 3) → Ev M M' d l → Φ (.str y) M'
theorem len__law_one_letter : ∀ ds M Φ, fs__law_one_letter ds M Φ → ds.length = 2 := by rintro ds M Φ ⟨d, l, n, z, rfl, _⟩; rfl
end DL

/-! Sp5: the promises of the judges of the law. -/
namespace DL
open PySem PySem.Spec PyProof.Rows L2 TL
structure IsK (K : PySem.W.Frag) (bt bw we : Addr) : Prop where
  dt : ExcC K bt
  dw : ExcC K bw
  tt : PySem.W.kitOne K (.ref bt) (.ref bt) = some true
  tw : PySem.W.kitOne K (.ref bt) (.ref bw) = some false
  te : PySem.W.kitOne K (.ref bt) (.ref we) = some true
  tv : PySem.W.kitOne K (.ref bt) (.type "ValueError") = some true
  wt : PySem.W.kitOne K (.ref bw) (.ref bt) = some false
  ww : PySem.W.kitOne K (.ref bw) (.ref bw) = some true
  we_ : PySem.W.kitOne K (.ref bw) (.ref we) = some true
  wv : PySem.W.kitOne K (.ref bw) (.type "ValueError") = some true
def fs__law_is_kind (bt bw : Addr) : FS := fun ds M Φ => ∃ (C : Addr) (fs : List (Str × D)) (word : Str), ds = [.exc C fs, .str word] ∧ ((C = bt ∧ word = "BadText") ∨ (C = bw ∧ word = "BadWeb")) ∧ Φ (.bl true) M
theorem len__law_is_kind {bt bw : Addr} : ∀ ds M Φ, fs__law_is_kind bt bw ds M Φ → ds.length = 2 := by rintro ds M Φ ⟨C, fs, w, rfl, _⟩; rfl
theorem i_isx {K : PySem.W.Frag} {M : Mem} {Φ : Cont} {C A : Addr} {fs : List (Str × D)} {b : Bool} (h1 : ExcC K C) (h2 : PySem.W.kitOne K (.ref C) (.ref A) = some b) (k : Φ (.bl b) M) : fIsX K [.exc C fs, .ptr A] M Φ := ⟨h1, b, h2, k⟩
theorem i_isxT {K : PySem.W.Frag} {M : Mem} {Φ : Cont} {C : Addr} {n : String} {fs : List (Str × D)} {b : Bool} (h1 : ExcC K C) (h2 : PySem.W.kitOne K (.ref C) (.type n) = some b) (k : Φ (.bl b) M) : fIsX K [.exc C fs, .ty n] M Φ := ⟨h1, b, h2, k⟩
/-- plain data without dicts, at most n deep -/
def saD : Nat → D → Bool
  | _, .non => true
  | _, .bl _ => true
  | _, .int _ => true
  | _, .str x => PyData.strOk x
  | n + 1, .tup xs => xs.all (saD n)
  | n + 1, .lst xs => xs.all (saD n)
  | _, _ => false
mutual
def szD : D → Nat
  | .tup xs => 1 + szA xs
  | .lst xs => 1 + szA xs
  | _ => 1
def szA : List D → Nat
  | [] => 0
  | x :: xs => szD x + szA xs
end
theorem szD_pos (d : D) : 1 ≤ szD d := by cases d <;> simp [szD]
theorem szA_len : ∀ xs : List D, xs.length ≤ szA xs
  | [] => Nat.zero_le _
  | x :: xs => by rw [szA, List.length_cons]; have := szA_len xs; have := szD_pos x; omega
theorem szA_app : ∀ xs ys : List D, szA (xs ++ ys) = szA xs + szA ys
  | [], ys => by rw [List.nil_append, szA, Nat.zero_add]
  | x :: xs, ys => by rw [List.cons_append, szA, szA, szA_app]; omega
theorem saD_up : ∀ {n : Nat} {d : D}, saD n d = true → saD (n + 1) d = true
  | 0, d, h => by cases d <;> first | (cases h; done) | exact h
  | n + 1, d, h => by
    cases d <;> first | (cases h; done) | exact h | skip
    all_goals
      rename_i xs
      show xs.all (saD (n + 1)) = true
      exact List.all_eq_true.mpr fun x hx => saD_up (List.all_eq_true.mp (show xs.all (saD n) = true from h) x hx)
def PyOk (n : Nat) (d : D) : Prop := ∃ y, d.py = some y ∧ y.canLay0 = true ∧ y.depth ≤ n
theorem pyAll_ok {n : Nat} : ∀ {xs : List D}, (∀ x ∈ xs, PyOk n x) → ∃ ys, D.pyAll xs = some ys ∧ PyData.canLayAll0 ys = true ∧ PyData.depthAll ys ≤ n
  | [], _ => ⟨[], rfl, rfl, Nat.zero_le _⟩
  | x :: xs, h => by
    obtain ⟨y, h1, h2, h3⟩ := h x (by simp)
    obtain ⟨ys, h4, h5, h6⟩ := pyAll_ok (xs := xs) fun z hz => h z (List.mem_cons_of_mem _ hz)
    refine ⟨y :: ys, by rw [D.pyAll, h1, h4]; rfl, by rw [PyData.canLayAll0, h2, h5]; rfl, by rw [PyData.depthAll]; omega⟩
theorem sa_py : ∀ {n : Nat} {d : D}, saD n d = true → PyOk n d
  | 0, d, h => by
    cases d <;> first | (cases h; done) | exact ⟨_, rfl, h, by simp [PyData.depth]⟩
  | n + 1, d, h => by
    cases d <;> first | (cases h; done) | exact ⟨_, rfl, h, by simp [PyData.depth]⟩ | skip
    all_goals
      rename_i xs
      obtain ⟨ys, h1, h2, h3⟩ := pyAll_ok fun x hx => sa_py (List.all_eq_true.mp (show xs.all (saD n) = true from h) x hx)
      refine ⟨_, by rw [D.py, h1]; rfl, by simp [PyData.canLay0, h2], by simp [PyData.depth]; omega⟩
theorem sh_pairs {n : Nat} (hn : n ≤ 40) {ws : List D} (h : ∀ w ∈ ws, saD n w = true) : ∃ ys, D.pyAll (ws.map fun x => D.tup [x, x]) = some ys ∧ SeqAt.shaped (.list ys) = true := by
  obtain ⟨ys, h1, h2, h3⟩ := pyAll_ok (n := n + 1) (xs := ws.map fun x => D.tup [x, x]) fun x hx => by
    obtain ⟨w, hw, rfl⟩ := List.mem_map.mp hx
    obtain ⟨y, a, b, c⟩ := sa_py (h w hw)
    refine ⟨.tuple [y, y], ?_, ?_, ?_⟩
    · show (D.pyAll [w, w]).map PyData.tuple = _
      rw [D.pyAll, D.pyAll, a]; rfl
    · simp [PyData.canLay0, PyData.canLayAll0, b]
    · simp [PyData.depth, PyData.depthAll]; omega
  refine ⟨ys, h1, ?_⟩
  unfold SeqAt.shaped
  simp only [PyData.canLay0, h2, PyData.depth]
  simp
  omega
theorem zip_self : ∀ xs : List D, zipD xs xs = xs.map fun x => D.tup [x, x]
  | [] => rfl
  | x :: xs => by show D.tup [x, x] :: zipD xs xs = _; rw [zip_self]; rfl
def fs__law_same : FS := fun ds M Φ => ∃ d, ds = [d, d] ∧ saD 40 d = true ∧ szD d ≤ 1000000 ∧ Φ (.bl true) M
theorem len__law_same : ∀ ds M Φ, fs__law_same ds M Φ → ds.length = 2 := by rintro ds M Φ ⟨d, rfl, _⟩; rfl
section
variable {M : Mem} {Φ : Cont}
instance isn_bl {b : Bool} : Stp (fIs (.bl b) .non M Φ) (Φ (.bl false) M) := ⟨fun k => i_isN k⟩
instance isnn_bl {b : Bool} : Stp (fIsNot (.bl b) .non M Φ) (Φ (.bl true) M) := ⟨fun k => i_isNotN k⟩
instance isn_int {i : Int} : Stp (fIs (.int i) .non M Φ) (Φ (.bl false) M) := ⟨fun k => i_isN k⟩
instance isnn_int {i : Int} : Stp (fIsNot (.int i) .non M Φ) (Φ (.bl true) M) := ⟨fun k => i_isNotN k⟩
instance isn_str {x : Str} : Stp (fIs (.str x) .non M Φ) (Φ (.bl false) M) := ⟨fun k => i_isN k⟩
instance isnn_str {x : Str} : Stp (fIsNot (.str x) .non M Φ) (Φ (.bl true) M) := ⟨fun k => i_isNotN k⟩
instance isn_tup {xs : List D} : Stp (fIs (.tup xs) .non M Φ) (Φ (.bl false) M) := ⟨fun k => i_isN k⟩
instance isnn_tup {xs : List D} : Stp (fIsNot (.tup xs) .non M Φ) (Φ (.bl true) M) := ⟨fun k => i_isNotN k⟩
instance isn_lst {xs : List D} : Stp (fIs (.lst xs) .non M Φ) (Φ (.bl false) M) := ⟨fun k => i_isN k⟩
instance isnn_lst {xs : List D} : Stp (fIsNot (.lst xs) .non M Φ) (Φ (.bl true) M) := ⟨fun k => i_isNotN k⟩
instance isn_dic {xs : List (Key × D)} : Stp (fIs (.dic xs) .non M Φ) (Φ (.bl false) M) := ⟨fun k => i_isN k⟩
instance isnn_dic {xs : List (Key × D)} : Stp (fIsNot (.dic xs) .non M Φ) (Φ (.bl true) M) := ⟨fun k => i_isNotN k⟩
instance isn_non : Stp (fIs .non .non M Φ) (Φ (.bl true) M) := ⟨fun k => i_isN k⟩
instance isnn_non : Stp (fIsNot .non .non M Φ) (Φ (.bl false) M) := ⟨fun k => i_isNotN k⟩
instance is2_int {i : Int} : Stp (fIsi [.int i, .tup [.ty "int", .ty "str"]] M Φ) (Φ (.bl true) M) := ⟨fun k => i_isi2 (t := "int") (b := true) (b' := false) rfl (by decide +kernel) (by decide +kernel) k⟩
instance is2_str {x : Str} : Stp (fIsi [.str x, .tup [.ty "int", .ty "str"]] M Φ) (Φ (.bl true) M) := ⟨fun k => i_isi2 (t := "str") (b := false) (b' := true) rfl (by decide +kernel) (by decide +kernel) k⟩
instance is2_tup {xs : List D} : Stp (fIsi [.tup xs, .tup [.ty "int", .ty "str"]] M Φ) (Φ (.bl false) M) := ⟨fun k => i_isi2 (t := "tuple") (b := false) (b' := false) rfl (by decide +kernel) (by decide +kernel) k⟩
instance is2_lst {xs : List D} : Stp (fIsi [.lst xs, .tup [.ty "int", .ty "str"]] M Φ) (Φ (.bl false) M) := ⟨fun k => i_isi2 (t := "list") (b := false) (b' := false) rfl (by decide +kernel) (by decide +kernel) k⟩
end
end DL

/-! Sp6: the promises of _law_reads, the law. -/
namespace DL
open PySem PySem.Spec PyProof.Rows L2 TL
def fs__law_reads : FS := fun ds M Φ => ∃ z : Str, ds = [.str z] ∧ z.length ≤ 400000 ∧ Φ (.bl true) M
theorem len__law_reads : ∀ ds M Φ, fs__law_reads ds M Φ → ds.length = 1 := by rintro ds M Φ ⟨z, rfl, _⟩; rfl
theorem takeT_all {n : Int} : ∀ {k : Nat} {ps : List (List Nat)}, (takeT n k ps).length = ps.length → ps = (takeT n k ps).map fun t => pieceL [t.1.toNat, t.2.toNat]
  | 0, ps, h => by
    cases ps with
    | nil => rfl
    | cons p ps => simp [takeT] at h
  | k + 1, [], _ => rfl
  | k + 1, p :: ps, h => by
    rw [takeT] at h ⊢
    cases e : tieOf n p with
    | none => rw [e] at h; simp at h
    | some t =>
      rw [e] at h
      simp only [List.length_cons, Nat.add_right_cancel_iff] at h
      show p :: ps = pieceL [t.1.toNat, t.2.toNat] :: (takeT n k ps).map _
      rw [piece_tie e, ← takeT_all h]
theorem readW_inr {ws : List (List Nat)} {n : Int} {ts : List (Int × Int)} (h : readW ws = .inr (n, ts)) : ∃ (v : List Nat) (ps : List (List Nat)), ws = webL :: v :: ps ∧ numL n.toNat = v ∧ GoodW n ts ∧ takeT n 12 ps = ts ∧ ts.length = ps.length := by
  match ws, h with
  | [], h => cases h
  | [w], h =>
    by_cases hw : w = webL
    · subst hw; rw [readW_1] at h; cases h
    · rw [readW_ne hw] at h; cases h
  | w :: v :: ps, h =>
    by_cases hw : w = webL
    · subst hw
      cases hv : numOf v with
      | none => rw [readW_none hv] at h; cases h
      | some m =>
        rw [readW_some hv] at h
        unfold readN at h
        split at h
        · rename_i hm
          split at h
          · rename_i hl
            cases h
            have tk := takeT_ok (n := (m : Int)) (k := 12) (ps := ps)
            exact ⟨v, ps, rfl, (numOf_num hv).1, ⟨hm.1, hm.2, tk.1, tk.2.2⟩, rfl, hl⟩
          · cases h
        · cases h
    · rw [readW_ne hw] at h; cases h
theorem readW_text {l : List Nat} {n : Int} {ts : List (Int × Int)} (h : readW (words l) = .inr (n, ts)) : GoodW n ts ∧ webTextL n ts = l := by
  obtain ⟨v, ps, h1, h2, h3, h4, h5⟩ := readW_inr h
  refine ⟨h3, ?_⟩
  have hj := joinL_spl (s := 32) l []
  unfold words at h1
  rw [h1, List.nil_append] at hj
  unfold webTextL
  rw [h2]
  subst h4
  rw [← takeT_all h5]
  exact hj
theorem words_text {n : Int} {ts : List (Int × Int)} (g : GoodW n ts) : readW (words (webTextL n ts)) = .inr (n, ts) := by
  have hn : 0 ≤ n := by have := g.lo; omega
  have hp : ∀ l : List (Int × Int), (∀ t ∈ l, 0 ≤ t.1 ∧ t.1 ≤ t.2 ∧ t.2 < n) → ∀ k, l.length ≤ k → takeT n k (l.map fun t => pieceL [t.1.toNat, t.2.toNat]) = l := by
    intro l
    induction l with
    | nil => intro _ k _; cases k <;> rfl
    | cons t l ih =>
      intro h k hk
      cases k with
      | zero => simp at hk
      | succ k =>
        rw [List.map_cons, takeT, tie_piece (h t (by simp)) g.hi]
        show t :: takeT n k _ = _
        rw [ih (fun q hq => h q (by simp [hq])) k (by simpa using hk)]
  have hw : words (webTextL n ts) = webL :: numL n.toNat :: ts.map fun t => pieceL [t.1.toNat, t.2.toNat] := by
    unfold words webTextL
    refine spl_join (by simp) fun p hp => ?_
    rcases List.mem_cons.mp hp with rfl | hp
    · decide
    rcases List.mem_cons.mp hp with rfl | hp
    · exact numL_free (.inl (by omega))
    obtain ⟨t, _, rfl⟩ := List.mem_map.mp hp
    unfold pieceL
    show 32 ∉ 40 :: ((numL t.1.toNat ++ ([44] ++ numL t.2.toNat)) ++ [41])
    simp only [List.mem_cons, List.mem_append, List.not_mem_nil, or_false, not_or]
    exact ⟨by decide, ⟨numL_free (.inl (by omega)), by decide, numL_free (.inl (by omega))⟩, by decide⟩
  rw [hw, readW_some (n := n.toNat) (num_numOf _ (by have := g.hi; omega)), Int.toNat_of_nonneg hn]
  unfold readN
  rw [if_pos ⟨g.lo, g.hi⟩, hp ts g.ok 12 g.len, if_pos (by rw [List.length_map])]
theorem takeT_take {n : Int} : ∀ {k : Nat} {ps : List (List Nat)}, takeT n k (ps.take (takeT n k ps).length) = takeT n k ps
  | 0, ps => rfl
  | k + 1, [] => rfl
  | k + 1, p :: ps => by
    cases e : tieOf n p with
    | none => simp [takeT, e]
    | some t =>
      have h1 : takeT n (k + 1) (p :: ps) = t :: takeT n k ps := by simp [takeT, e]
      rw [h1, List.length_cons, List.take_succ_cons]
      show takeT n (k + 1) (p :: ps.take (takeT n k ps).length) = _
      simp only [takeT, e]
      rw [takeT_take]
theorem readW_cut {ws : List (List Nat)} {a : Nat} (h : readW ws = .inl a) (h2 : 2 ≤ a) : ∃ n ts, readW (ws.take a) = .inr (n, ts) ∧ GoodW n ts := by
  match ws, h with
  | [], h => cases h; omega
  | [w], h =>
    by_cases hw : w = webL
    · subst hw; rw [readW_1] at h; cases h; omega
    · rw [readW_ne hw] at h; cases h; omega
  | w :: v :: ps, h =>
    by_cases hw : w = webL
    · subst hw
      cases hv : numOf v with
      | none => rw [readW_none hv] at h; cases h; omega
      | some m =>
        rw [readW_some hv] at h
        unfold readN at h
        split at h
        · rename_i hm
          split at h
          · cases h
          · cases h
            have tk := takeT_ok (n := (m : Int)) (k := 12) (ps := ps)
            refine ⟨m, takeT m 12 ps, ?_, hm.1, hm.2, tk.1, tk.2.2⟩
            rw [List.take_succ_cons, List.take_succ_cons, readW_some hv]
            unfold readN
            rw [if_pos hm, takeT_take, if_pos (by rw [List.length_take]; omega)]
        · cases h; omega
    · rw [readW_ne hw] at h; cases h; omega
theorem webD_sa {n : Int} {ts : List (Int × Int)} (g : GoodW n ts) : saD 40 (webD n ts) = true ∧ szD (webD n ts) ≤ 1000000 := by
  have h1 : ∀ l : List (Int × Int), (l.map pairD).all (saD 38) = true := fun l => by
    rw [List.all_map, List.all_eq_true]
    intro t _
    rfl
  have h2 : ∀ l : List (Int × Int), szA (l.map pairD) = 3 * l.length := fun l => by
    induction l with
    | nil => rfl
    | cons t l ih =>
      rw [List.map_cons, szA, ih, List.length_cons]
      have : szD (pairD t) = 3 := rfl
      omega
  constructor
  · show (PyData.strOk "web" && (true && ((ts.map pairD).all (saD 38) && true))) = true
    rw [h1]
    decide +kernel
  · show 1 + (1 + (1 + ((1 + szA (ts.map pairD)) + 0))) ≤ _
    rw [h2]
    have := g.len
    omega
instance st_attr {K : PySem.W.Frag} {n : Str} {de : DE} {Γ : Gam} {M : Mem} {Φ : Cont} : Stp (dAttr K n de Γ M Φ) (de Γ M fun d M1 => match d with
  | .exc C fs => XfC K C ∧ PySem.W.findIn K (.ref C) n = some none ∧ ∃ e, fs.lookup n = some e ∧ Φ e M1
  | _ => False) := ⟨fun k => k⟩
theorem webD_inj {n m : Int} {ts us : List (Int × Int)} (h : webD n ts = webD m us) : n = m ∧ ts = us := by
  unfold webD at h
  injection h with h
  injection h with _ h
  injection h with h1 h
  injection h with h2 _
  injection h1 with h1
  injection h2 with h2
  refine ⟨h1, ?_⟩
  have := congrArg (List.map unP) h2
  rwa [List.map_map, List.map_map, show (unP ∘ pairD) = id from rfl, List.map_id, List.map_id] at this
theorem cutTake {xs : List D} {k : Nat} : cutD xs none (some (k : Int)) = xs.take k := by
  unfold cutD
  simp only [HT.sIx_none, HT.sIx_nat, List.drop_zero, Nat.sub_zero]
  rw [← List.take_take, List.take_length]
theorem sum_spl {s : Nat} : ∀ (l acc : List Nat), ((spl [s] 0 acc l).map List.length).sum ≤ acc.length + l.length
  | [], acc => by rw [spl_nil]; simp
  | c :: r, acc => by
    by_cases h : c = s
    · subst h
      rw [spl1_hit, List.map_cons, List.sum_cons]
      have := sum_spl (s := c) r []
      simp only [List.length_nil, List.length_cons] at *
      omega
    · rw [spl1_miss h]
      have := sum_spl (s := s) r (acc ++ [c])
      simp only [List.length_append, List.length_singleton, List.length_cons, List.length_nil] at *
      omega
theorem sum_take : ∀ (l : List Nat) (k : Nat), (l.take k).sum ≤ l.sum
  | [], k => by simp
  | x :: l, 0 => by simp
  | x :: l, k + 1 => by rw [List.take_succ_cons, List.sum_cons, List.sum_cons]; have := sum_take l k; omega
theorem joinL_len : ∀ ps : List (List Nat), (joinL [32] ps).length ≤ (ps.map List.length).sum + ps.length
  | [] => Nat.zero_le _
  | [p] => by show p.length ≤ _; simp
  | p :: q :: r => by
    show (p ++ ([32] ++ joinL [32] (q :: r))).length ≤ _
    have := joinL_len (q :: r)
    simp only [List.length_append, List.length_singleton, List.map_cons, List.sum_cons, List.length_cons, List.length_nil] at *
    omega
end DL

/-! Sq7: the drawn webs (Sp7, of any greatest numbers of places, ties); the law's own promise. -/
namespace DL
open PySem PySem.Spec PyProof.Rows L2 TL
def fs__law_web : FS := fun ds M Φ => ∃ (d l : Addr) (n pl mo : Nat), ds = [.ptr d, .int (pl : Int), .int (mo : Int)] ∧ 1 ≤ pl ∧ pl ≤ 8 ∧ mo ≤ 12 ∧ Dr M d l n ∧ n + 100 ≤ 1000000000 ∧ ∀ (kk : Int) (ts : List (Int × Int)) (M' : Mem), GoodW kk ts → Dr M' d l (n + 100) → Ev M M' d l → Φ (webD kk ts) M'
theorem len__law_web : ∀ ds M Φ, fs__law_web ds M Φ → ds.length = 3 := by rintro ds M Φ ⟨d, l, n, pl, mo, rfl, _⟩; rfl
/-- places of a web of n -/
def InR (n : Int) (t : Int × Int) : Prop := 0 ≤ t.1 ∧ t.1 < n ∧ 0 ≤ t.2 ∧ t.2 < n
theorem good_nrm {n : Int} {ts qs : List (Int × Int)} (h1 : 1 ≤ n) (h8 : n ≤ 8) (hl : ts.length ≤ 12) (hr : ∀ t ∈ ts, InR n t) (hp : qs.Perm ts) : GoodW n (qs.map nrm) := by
  refine ⟨h1, h8, by rw [List.length_map, hp.length_eq]; exact hl, fun t ht => ?_⟩
  obtain ⟨q, hq, rfl⟩ := List.mem_map.mp ht
  obtain ⟨a, b, c, d⟩ := hr q (hp.subset hq)
  unfold nrm
  dsimp only
  omega
/-- the ties of a ring, a pair for each place -/
def ringD (n : Int) : List (Int × Int) := (List.range n.toNat).map fun (i : Nat) => ((i : Int), ((i : Int) + 1) % n)
theorem Ev.skip {M M' : Mem} {d l p : Addr} {o : MO} (h : Ev M M' d l) (hp : M p = none) : Ev M ((M'.set p o).del p) d l := fun a h1 h2 => by
  by_cases e : a = p
  · rw [e, Mem.del_same, hp]
  · rw [Mem.del_ne e, Mem.set_ne e]; exact h a h1 h2
theorem del_put {M : Mem} {p : Addr} {o : MO} (h : M p = some o) : (M.del p).set p o = M := by
  funext a
  by_cases e : a = p
  · rw [e, Mem.set_same, h]
  · rw [Mem.set_ne e, Mem.del_ne e]
/-- the draws go on beside a list that is being made -/
theorem beside {M M2 : Mem} {d l p : Addr} {n : Nat} {o : MO} (hd : Dr M d l n) (hp : M p = none) (ev : Ev (M.set p o) M2 d l) : M2 p = some o ∧ Ev M (M2.del p) d l := by
  obtain ⟨h1, h2⟩ := hd.ne_new hp
  refine ⟨by rw [ev p h1 h2, Mem.set_same], fun a a1 a2 => ?_⟩
  by_cases e : a = p
  · rw [e, Mem.del_same, hp]
  · rw [Mem.del_ne e, ev a a1 a2, Mem.set_ne e]
theorem Dr.sub {M M' : Mem} {d l : Addr} {n : Nat} (h : Dr M d l n) (s : Sub M M') : Dr M' d l n := by
  obtain ⟨ne, gs, cs, r, t, h1, h2, h3⟩ := h
  exact ⟨ne, gs, cs, r, t, s _ _ h1, s _ _ h2, h3⟩
theorem Sub.none_ {M M' : Mem} (s : Sub M M') {p : Addr} (h : M' p = none) : M p = none := by
  cases q : M p with
  | none => rfl
  | some m => rw [s _ _ q] at h; cases h
/-- the store at the end, without what was made on the way -/
theorem clean {M M' : Mem} {d l : Addr} {n : Nat} (hd : Dr M' d l n) (s : ∀ a, a ≠ d → a ≠ l → ∀ m, M a = some m → M' a = some m) : ∃ M2, Sub M2 M' ∧ Dr M2 d l n ∧ Ev M M2 d l := by
  refine ⟨fun a => if a = d ∨ a = l then M' a else M a, fun a m h => ?_, ?_, fun a h1 h2 => if_neg (by simp [h1, h2])⟩
  · dsimp only at h
    split at h
    · exact h
    · rename_i q
      simp only [not_or] at q
      exact s a q.1 q.2 m h
  · obtain ⟨ne, gs, cs, r, t, h1, h2, h3⟩ := hd
    exact ⟨ne, gs, cs, r, t, (if_pos (Or.inl rfl)).trans h1, (if_pos (Or.inr rfl)).trans h2, h3⟩
def rgI (lo hi : Int) : List Int := (List.range (hi - lo).toNat).map fun i => lo + (i : Nat)
theorem rgD_I (lo hi : Int) : rgD lo hi = (rgI lo hi).map .int := by unfold rgD rgI; rw [List.map_map]; rfl
theorem rgD_len {lo hi : Int} : (rgD lo hi).length = (hi - lo).toNat := by unfold rgD; rw [List.length_map, List.length_range]
theorem rgI_len {lo hi : Int} : (rgI lo hi).length = (hi - lo).toNat := by unfold rgI; rw [List.length_map, List.length_range]
theorem rgI_mem {lo hi x : Int} (h : x ∈ rgI lo hi) : lo ≤ x ∧ x < hi := by
  unfold rgI at h
  obtain ⟨i, hi', rfl⟩ := List.mem_map.mp h
  have := List.mem_range.mp hi'
  omega
theorem rgD_mem {lo hi : Int} {x : D} (h : x ∈ rgD lo hi) : ∃ i : Int, lo ≤ i ∧ i < hi ∧ x = .int i := by
  rw [rgD_I] at h
  obtain ⟨i, h1, rfl⟩ := List.mem_map.mp h
  exact ⟨i, (rgI_mem h1).1, (rgI_mem h1).2, rfl⟩
theorem rgD_get {lo hi : Int} {i : Nat} {x : D} (h : (rgD lo hi)[i]? = some x) : lo + (i : Int) < hi ∧ x = .int (lo + (i : Int)) := by
  have h1 := (List.getElem?_eq_some_iff.mp h).1
  rw [rgD_len] at h1
  refine ⟨by omega, ?_⟩
  unfold rgD at h
  rw [List.getElem?_map, List.getElem?_range h1] at h
  exact (Option.some.inj h).symm
theorem i_share {p : Prop} [Decidable p] {A B : Prop} (c : Prop) (h2 : c → B) (h1 : p → (c → B) → A) (h3 : ¬ p → c) : if decide p = true then A else B := by
  by_cases h : p
  · rw [decide_eq_true h]; exact i_itT (h1 h h2)
  · rw [decide_eq_false h]; exact i_itF (h2 (h3 h))
theorem i_share1 {p : Prop} [Decidable p] {A B : Prop} (c : Prop) (h1 : p → c) (hA : c → A) (hB : ¬ p → (c → A) → B) : if decide p = true then A else B := by
  by_cases h : p
  · rw [decide_eq_true h]; exact i_itT (hA (h1 h))
  · rw [decide_eq_false h]; exact i_itF (hB h hA)
theorem rep_pairs {k : Nat} {t : Int × Int} {ts : List (Int × Int)} : (List.replicate k [pairD t]).flatten ++ ts.map pairD = (List.replicate k t ++ ts).map pairD := by
  rw [List.flatten_replicate_singleton, List.map_append, List.map_replicate]
theorem log_small {x : Int} (h0 : 0 ≤ x) (h : x < 1000000000) : x.natAbs.log2 < 9000 := by
  by_cases e : x = 0
  · subst e; decide
  · have : x.natAbs.log2 < 64 := by rw [Nat.log2_lt (by omega)]; omega
    omega
/-- the draws' turn in a store with one list more, which is then dropped -/
theorem drop_beside {M M' : Mem} {d l p : Addr} {n : Nat} (hd : Dr M' d l n) (hp : M p = none) (hpd : p ≠ d ∧ p ≠ l) (s : ∀ a, a ≠ d → a ≠ l → a ≠ p → M' a = M a) : Dr (M'.del p) d l n ∧ Ev M (M'.del p) d l := by
  refine ⟨hd.del hpd.1 hpd.2, fun a h1 h2 => ?_⟩
  by_cases e : a = p
  · rw [e, Mem.del_same, hp]
  · rw [Mem.del_ne e]; exact s a h1 h2 e
def fs_law : FS := fun ds M Φ => ∃ ns : List Int, ds = [.scr (ns.map .int)] ∧ ns.length ≤ 63 ∧ Φ (.bl true) M
theorem hfs_law : ∀ (ns : List Int) (M : Mem) (Φ : Cont), ns.length ≤ 63 → (∀ z ∈ ns, Builtin.Int.intBits z ≤ 1048576) → Φ (.bl true) M → fs_law [.scr (ns.map .int)] M Φ := fun ns M Φ h _ k => ⟨ns, rfl, h, k⟩
theorem len_law : ∀ ds M Φ, fs_law ds M Φ → ds.length = 1 := by rintro ds M Φ ⟨ns, rfl, _⟩; rfl
theorem Ev.sub {M M' : Mem} {d l : Addr} (h : Ev M M' d l) (nd : M d = none) (nl : M l = none) : Sub M M' := fun a m q => by
  rw [h a (fun z => by rw [z, nd] at q; cases q) (fun z => by rw [z, nl] at q; cases q)]; exact q
end DL

/-! Tq: dyeings place by place: plain. -/
namespace DL
def tiedI (ts : List (Int × Int)) (a b : Int) : Bool := ts.any fun t => decide (t.1 = min a b) && decide (t.2 = max a b)
def tied (ts : List (Int × Int)) (a b : Nat) : Bool := tiedI ts (a : Int) (b : Int)
def topD (l : List Nat) : Nat := l.foldl (fun m x => max m (x + 1)) 0
theorem topD_nil : topD [] = 0 := rfl
theorem topD_snoc (l : List Nat) (c : Nat) : topD (l ++ [c]) = max (topD l) (c + 1) := by unfold topD; rw [List.foldl_append]; rfl
def barred (ts : List (Int × Int)) (g : List Nat) : List Nat := (List.range g.length).filterMap fun o => if tied ts o g.length = true then g[o]? else none
def opens (ts : List (Int × Int)) (k : Nat) (g : List Nat) : List Nat := if tied ts g.length g.length = true then [] else (List.range (min k (topD g + 1))).filter fun d => !(barred ts g).contains d
inductive RG (ts : List (Int × Int)) : List Nat → Prop
  | nil : RG ts []
  | snoc {g : List Nat} {c : Nat} : RG ts g → tied ts g.length g.length = false → c ≤ topD g → c ∉ barred ts g → RG ts (g ++ [c])
section
variable {ts : List (Int × Int)} {k r : Nat} {g c : List Nat}
theorem RG.inv {x : Nat} (h : RG ts (g ++ [x])) : RG ts g ∧ tied ts g.length g.length = false ∧ x ≤ topD g ∧ x ∉ barred ts g := by
  generalize e : g ++ [x] = l at h
  cases h with
  | nil => simp at e
  | snoc a b c d =>
    obtain ⟨rfl, e2⟩ := List.append_inj' e rfl
    cases e2
    exact ⟨a, b, c, d⟩
theorem RG.pre : ∀ {c g : List Nat}, RG ts (g ++ c) → RG ts g := by
  intro c
  induction c with
  | nil => intro g h; simpa using h
  | cons x c ih =>
    intro g h
    have : RG ts ((g ++ [x]) ++ c) := by simpa using h
    exact (ih this).inv.1
theorem opens_mem {x : Nat} : x ∈ opens ts k g ↔ tied ts g.length g.length = false ∧ x < k ∧ x ≤ topD g ∧ x ∉ barred ts g := by
  unfold opens
  by_cases h : tied ts g.length g.length = true
  · rw [if_pos h]; simp [h]
  · rw [if_neg h]
    have h' : tied ts g.length g.length = false := by simpa using h
    simp only [List.mem_filter, List.mem_range, Bool.not_eq_true', List.contains_eq_mem, decide_eq_false_iff_not, h', true_and]
    constructor
    · rintro ⟨a, b⟩; exact ⟨by omega, by omega, b⟩
    · rintro ⟨a, b, d⟩; exact ⟨by omega, d⟩
def firstF (ts : List (Int × Int)) (k : Nat) : Nat → List Nat → Option (List Nat)
  | 0, g => some g
  | r + 1, g => (opens ts k g).findSome? fun d => firstF ts k r (g ++ [d])
theorem first_some : ∀ {r : Nat} {g c : List Nat}, RG ts g → (∀ x ∈ g, x < k) → firstF ts k r g = some c → RG ts c ∧ c.length = g.length + r ∧ ∀ x ∈ c, x < k := by
  intro r
  induction r with
  | zero => intro g c h1 h2 h; cases h; exact ⟨h1, rfl, h2⟩
  | succ r ih =>
    intro g c h1 h2 h
    obtain ⟨d, hd, e⟩ := List.exists_of_findSome?_eq_some h
    obtain ⟨a1, a2, a3, a4⟩ := opens_mem.mp hd
    obtain ⟨b1, b2, b3⟩ := ih (h1.snoc a1 a3 a4) (fun x hx => by
      rcases List.mem_append.mp hx with hx | hx
      · exact h2 x hx
      · rcases List.mem_singleton.mp hx with rfl; exact a2) e
    exact ⟨b1, by rw [b2, List.length_append, List.length_singleton]; omega, b3⟩
theorem first_none : ∀ {r : Nat} {g c : List Nat}, firstF ts k r g = none → RG ts (g ++ c) → c.length = r → (∀ x ∈ c, x < k) → False := by
  intro r
  induction r with
  | zero => intro g c h; cases h
  | succ r ih =>
    intro g c h hg hl hx
    cases c with
    | nil => simp at hl
    | cons x c =>
      have h2 : RG ts ((g ++ [x]) ++ c) := by simpa using hg
      obtain ⟨a1, a2, a3, a4⟩ := (RG.pre h2).inv
      have hm : x ∈ opens ts k g := opens_mem.mpr ⟨a2, hx x (by simp), a3, a4⟩
      have e := List.findSome?_eq_none_iff.mp h x hm
      exact ih e h2 (by simpa using hl) fun y hy => hx y (List.mem_cons_of_mem _ hy)
/-- proper at each tie -/
theorem barred_mem {x : Nat} : x ∈ barred ts g ↔ ∃ o, o < g.length ∧ tied ts o g.length = true ∧ g[o]? = some x := by
  unfold barred
  rw [List.mem_filterMap]
  constructor
  · rintro ⟨o, ho, e⟩
    split at e
    · rename_i h; exact ⟨o, List.mem_range.mp ho, h, e⟩
    · cases e
  · rintro ⟨o, ho, h, e⟩
    exact ⟨o, List.mem_range.mpr ho, by rw [if_pos h]; exact e⟩
theorem tied_mem {a b : Nat} (h : a ≤ b) : tied ts a b = true ↔ ((a : Int), (b : Int)) ∈ ts := by
  unfold tied tiedI
  rw [List.any_eq_true]
  have e1 : min (a : Int) (b : Int) = a := by omega
  have e2 : max (a : Int) (b : Int) = b := by omega
  rw [e1, e2]
  constructor
  · rintro ⟨t, ht, e⟩
    simp only [Bool.and_eq_true, decide_eq_true_eq] at e
    obtain ⟨t1, t2⟩ := t
    obtain ⟨rfl, rfl⟩ := e
    exact ht
  · intro h; exact ⟨_, h, by simp⟩
def PropG (ts : List (Int × Int)) (g : List Nat) : Prop := ∀ a b : Nat, a ≤ b → b < g.length → ((a : Int), (b : Int)) ∈ ts → a ≠ b ∧ g[a]? ≠ g[b]?
theorem RG.prop (h : RG ts g) : PropG ts g := by
  induction h with
  | nil => intro a b _ hb; simp at hb
  | @snoc g c hg h1 h2 h3 ih =>
    intro a b hab hb ht
    rw [List.length_append, List.length_singleton] at hb
    by_cases hbl : b < g.length
    · have := ih a b hab hbl ht
      rw [List.getElem?_append_left (by omega), List.getElem?_append_left hbl]
      exact this
    · have e : b = g.length := by omega
      subst e
      have hne : a ≠ g.length := fun z => by
        subst z
        rw [(tied_mem (Nat.le_refl _)).mpr ht] at h1
        cases h1
      refine ⟨hne, ?_⟩
      have hal : a < g.length := by omega
      rw [List.getElem?_append_left hal, List.getElem?_append_right (Nat.le_refl _), Nat.sub_self]
      intro e
      exact h3 (barred_mem.mpr ⟨a, hal, (tied_mem (by omega)).mpr ht, by rw [e]; rfl⟩)
theorem snoc_ind {P : List Nat → Prop} (h0 : P []) (h1 : ∀ l c, P l → P (l ++ [c])) (l : List Nat) : P l := by
  have key : ∀ r : List Nat, P r.reverse := fun r => by
    induction r with
    | nil => exact h0
    | cons x r ih => rw [List.reverse_cons]; exact h1 _ _ ih
  have := key l.reverse
  rwa [List.reverse_reverse] at this
theorem topD_mem {l : List Nat} : ∀ {x : Nat}, x ∈ l → x < topD l := by
  refine snoc_ind (P := fun l => ∀ {x : Nat}, x ∈ l → x < topD l) (fun {x} h => by cases h) (fun l c ih x h => ?_) l
  rw [topD_snoc]
  rcases List.mem_append.mp h with h | h
  · have := ih h; omega
  · rcases List.mem_singleton.mp h with rfl; omega
theorem topD_le {l : List Nat} {m : Nat} (h : ∀ x ∈ l, x < m) : topD l ≤ m := by
  refine snoc_ind (P := fun l => (∀ x ∈ l, x < m) → topD l ≤ m) (fun _ => Nat.zero_le _) (fun l c ih h => ?_) l h
  rw [topD_snoc]
  have := ih fun x hx => h x (by simp [hx])
  have := h c (by simp)
  omega
theorem RG.top_len (h : RG ts g) : topD g ≤ g.length := by
  induction h with
  | nil => exact Nat.le_refl _
  | snoc a b c d ih => rw [topD_snoc, List.length_append, List.length_singleton]; omega
/-- pigeonhole -/
theorem nodup_le : ∀ {m : Nat} {l : List Nat}, l.Nodup → (∀ x ∈ l, x < m) → l.length ≤ m := by
  intro m
  induction m with
  | zero =>
    intro l _ h
    cases l with
    | nil => exact Nat.le_refl _
    | cons x l => exact absurd (h x (by simp)) (Nat.not_lt_zero _)
  | succ m ih =>
    intro l hn h
    have h1 := ih (l := l.erase m) (hn.erase m) fun x hx => by
      have := h x (List.mem_of_mem_erase hx)
      have : x ≠ m := fun z => by subst z; exact (List.Nodup.mem_erase_iff hn).mp hx |>.1 rfl
      omega
    have h2 := List.length_erase (a := m) (l := l)
    split at h2 <;> omega
/-! ### all partings, as sequences of dyes -/
def exts (ts : List (Int × Int)) (g : List Nat) : List (List Nat) := (g ++ [topD g]) :: ((List.range (topD g)).filter fun d => !(barred ts g).contains d).map fun d => g ++ [d]
def GL (ts : List (Int × Int)) : Nat → List (List Nat)
  | 0 => [[]]
  | p + 1 => if tied ts p p = true then [] else (GL ts p).flatMap (exts ts)
theorem barred_top {x : Nat} (h : x ∈ barred ts g) : x < topD g := by
  obtain ⟨o, ho, _, e⟩ := barred_mem.mp h
  exact topD_mem (List.mem_of_getElem? e)
theorem exts_mem : c ∈ exts ts g ↔ ∃ x, c = g ++ [x] ∧ x ≤ topD g ∧ x ∉ barred ts g := by
  unfold exts
  simp only [List.mem_cons, List.mem_map, List.mem_filter, List.mem_range, Bool.not_eq_true', List.contains_eq_mem, decide_eq_false_iff_not]
  constructor
  · rintro (rfl | ⟨d, ⟨h1, h2⟩, rfl⟩)
    · exact ⟨_, rfl, Nat.le_refl _, fun h => absurd (barred_top h) (Nat.lt_irrefl _)⟩
    · exact ⟨d, rfl, by omega, h2⟩
  · rintro ⟨x, rfl, h1, h2⟩
    by_cases e : x = topD g
    · subst e; exact .inl rfl
    · exact .inr ⟨x, ⟨by omega, h2⟩, rfl⟩
theorem GL_mem : ∀ {p : Nat} {g : List Nat}, g ∈ GL ts p ↔ RG ts g ∧ g.length = p := by
  intro p
  induction p with
  | zero =>
    intro g
    constructor
    · intro h; rcases List.mem_singleton.mp h with rfl; exact ⟨.nil, rfl⟩
    · rintro ⟨_, h⟩; rw [List.length_eq_zero_iff] at h; subst h; exact List.mem_singleton.mpr rfl
  | succ p ih =>
    intro g
    rw [GL]
    constructor
    · intro h
      split at h
      · cases h
      · rename_i ht
        obtain ⟨g0, h0, h1⟩ := List.mem_flatMap.mp h
        obtain ⟨a, rfl⟩ := ih.mp h0
        obtain ⟨x, rfl, h2, h3⟩ := exts_mem.mp h1
        exact ⟨a.snoc (by simpa using ht) h2 h3, by rw [List.length_append, List.length_singleton]⟩
    · rintro ⟨h, hl⟩
      cases h with
      | nil => simp at hl
      | @snoc g x a b c d =>
        rw [List.length_append, List.length_singleton] at hl
        have hl : g.length = p := by omega
        subst hl
        rw [b]
        exact List.mem_flatMap.mpr ⟨g, ih.mpr ⟨a, rfl⟩, exts_mem.mpr ⟨x, rfl, c, d⟩⟩
def cnt (ts : List (Int × Int)) (n s : Nat) : Nat := (GL ts n).countP fun g => decide (topD g = s)
theorem cnt_pos {n s : Nat} : 0 < cnt ts n s ↔ ∃ g, RG ts g ∧ g.length = n ∧ topD g = s := by
  unfold cnt
  rw [List.countP_pos_iff]
  constructor
  · rintro ⟨g, h1, h2⟩
    obtain ⟨a, b⟩ := GL_mem.mp h1
    exact ⟨g, a, b, by simpa using h2⟩
  · rintro ⟨g, a, b, e⟩; exact ⟨g, GL_mem.mpr ⟨a, b⟩, by simpa using e⟩
def fallP (k : Int) : Nat → Int
  | 0 => 1
  | m + 1 => fallP k m * (k - (m : Int))
theorem fall_pos {k : Nat} : ∀ {m : Nat}, m ≤ k → 0 < fallP (k : Int) m
  | 0, _ => by show (0 : Int) < 1; decide
  | m + 1, h => Int.mul_pos (fall_pos (by omega)) (by omega)
theorem fall_zero {k : Nat} : ∀ {m : Nat}, k < m → fallP (k : Int) m = 0
  | m + 1, h => by
    rw [fallP]
    by_cases e : k < m
    · rw [fall_zero e, Int.zero_mul]
    · have : m = k := by omega
      subst this
      rw [Int.sub_self, Int.mul_zero]
def manyD (ts : List (Int × Int)) (n k : Nat) : Int := ((List.range (n + 1)).map fun s => ((cnt ts n s : Nat) : Int) * fallP (k : Int) s).sum
theorem sum_nn : ∀ {l : List Int}, (∀ x ∈ l, 0 ≤ x) → 0 ≤ l.sum ∧ (0 < l.sum ↔ ∃ x ∈ l, 0 < x)
  | [], _ => ⟨by simp, by simp⟩
  | x :: l, h => by
    obtain ⟨h1, h2⟩ := sum_nn (l := l) fun y hy => h y (List.mem_cons_of_mem _ hy)
    have h0 := h x List.mem_cons_self
    rw [List.sum_cons]
    refine ⟨by omega, ?_⟩
    constructor
    · intro hp
      by_cases hx : 0 < x
      · exact ⟨x, List.mem_cons_self, hx⟩
      · obtain ⟨y, hy, h3⟩ := h2.mp (by omega)
        exact ⟨y, List.mem_cons_of_mem _ hy, h3⟩
    · rintro ⟨y, hy, h3⟩
      rcases List.mem_cons.mp hy with rfl | hy
      · omega
      · have := h2.mpr ⟨y, hy, h3⟩; omega
theorem many_nn {n k : Nat} : 0 ≤ manyD ts n k ∧ (0 < manyD ts n k ↔ ∃ g, RG ts g ∧ g.length = n ∧ topD g ≤ k) := by
  unfold manyD
  obtain ⟨h1, h2⟩ := sum_nn (l := (List.range (n + 1)).map fun s => ((cnt ts n s : Nat) : Int) * fallP (k : Int) s) fun x hx => by
    obtain ⟨s, _, rfl⟩ := List.mem_map.mp hx
    by_cases e : s ≤ k
    · exact Int.mul_nonneg (by omega) (Int.le_of_lt (fall_pos e))
    · rw [fall_zero (by omega), Int.mul_zero]; exact Int.le_refl _
  refine ⟨h1, h2.trans ⟨?_, ?_⟩⟩
  · rintro ⟨x, hx, hp⟩
    obtain ⟨s, _, rfl⟩ := List.mem_map.mp hx
    by_cases e : s ≤ k
    · have hc : 0 < cnt ts n s := by
        rcases Nat.eq_zero_or_pos (cnt ts n s) with z | z
        · rw [z] at hp; simp at hp
        · exact z
      obtain ⟨g, a, b, d⟩ := cnt_pos.mp hc
      exact ⟨g, a, b, by omega⟩
    · rw [fall_zero (by omega), Int.mul_zero] at hp; exact absurd hp (Int.lt_irrefl _)
  · rintro ⟨g, a, b, d⟩
    refine ⟨_, List.mem_map.mpr ⟨topD g, List.mem_range.mpr (by have := a.top_len; omega), rfl⟩, ?_⟩
    exact Int.mul_pos (by have := cnt_pos.mpr ⟨g, a, b, rfl⟩; omega) (fall_pos d)
/-- the least number -/
def sizesD (ts : List (Int × Int)) (n : Nat) : List Nat := (List.range (n + 1)).filter fun s => decide (0 < cnt ts n s)
theorem sizes_mem {n s : Nat} : s ∈ sizesD ts n ↔ ∃ g, RG ts g ∧ g.length = n ∧ topD g = s := by
  unfold sizesD
  rw [List.mem_filter, decide_eq_true_eq, List.mem_range]
  constructor
  · rintro ⟨_, h⟩; exact cnt_pos.mp h
  · rintro ⟨g, a, b, e⟩; exact ⟨by have := a.top_len; omega, cnt_pos.mpr ⟨g, a, b, e⟩⟩
theorem sizes_head {n s : Nat} {rest : List Nat} (h : sizesD ts n = s :: rest) : (∃ g, RG ts g ∧ g.length = n ∧ topD g = s) ∧ ∀ g, RG ts g → g.length = n → s ≤ topD g := by
  have hs : (sizesD ts n).Pairwise (· < ·) := by
    unfold sizesD
    exact List.Pairwise.filter _ List.pairwise_lt_range
  refine ⟨sizes_mem.mp (by rw [h]; exact List.mem_cons_self), fun g a b => ?_⟩
  have hm := sizes_mem.mpr ⟨g, a, b, rfl⟩
  rw [h] at hs hm
  rcases List.mem_cons.mp hm with e | e
  · omega
  · exact Nat.le_of_lt ((List.pairwise_cons.mp hs).1 _ e)
theorem no_loops {n : Nat} (h : ∀ a, a < n → tied ts a a = false) : ∃ g, RG ts g ∧ g.length = n := by
  induction n with
  | zero => exact ⟨[], .nil, rfl⟩
  | succ n ih =>
    obtain ⟨g, hg, rfl⟩ := ih fun a ha => h a (by omega)
    exact ⟨g ++ [topD g], hg.snoc (h _ (by omega)) (Nat.le_refl _) fun z => absurd (barred_top z) (Nat.lt_irrefl _), by simp⟩
theorem loops_none (hg : RG ts g) {a : Nat} (ha : a < g.length) : tied ts a a = false := by
  cases e : tied ts a a with
  | false => rfl
  | true =>
    have := hg.prop a a (Nat.le_refl _) ha ((tied_mem (Nat.le_refl _)).mp e)
    exact absurd rfl this.1
/-! ### the dyes as they first come -/
theorem canon {f : List Nat} {m : Nat} (hp : PropG ts f) (hm : ∀ x ∈ f, x < m) : ∃ g, RG ts g ∧ g.length = f.length ∧ topD g ≤ m := by
  have key : ∀ f : List Nat, PropG ts f → ∃ (seen g : List Nat), seen.Nodup ∧ (∀ x ∈ seen, x ∈ f) ∧ RG ts g ∧ g.length = f.length ∧ topD g = seen.length ∧ ∀ i, i < f.length → ∃ x y, f[i]? = some x ∧ g[i]? = some y ∧ seen[y]? = some x := by
    refine snoc_ind ?_ ?_
    · intro _; exact ⟨[], [], List.nodup_nil, fun _ h => h, .nil, rfl, rfl, fun i h => by simp at h⟩
    · intro l c ih hp
      obtain ⟨seen, g, h1, h2, h3, h4, h5, h6⟩ := ih fun a b hab hb ht => by
        have := hp a b hab (by rw [List.length_append]; omega) ht
        rw [List.getElem?_append_left (by omega), List.getElem?_append_left hb] at this
        exact this
      have hloop : tied ts g.length g.length = false := by
        cases e : tied ts g.length g.length with
        | false => rfl
        | true =>
          have := hp g.length g.length (Nat.le_refl _) (by rw [List.length_append, List.length_singleton]; omega) ((tied_mem (Nat.le_refl _)).mp e)
          exact absurd rfl this.1
      have fin : ∀ (seen' : List Nat) (y : Nat), seen'.Nodup → (∀ x ∈ seen', x ∈ l ++ [c]) → y ≤ topD g → seen'[y]? = some c → max (topD g) (y + 1) = seen'.length → (∀ (z x : Nat), seen[z]? = some x → seen'[z]? = some x) →
          ∃ (seen g : List Nat), seen.Nodup ∧ (∀ x ∈ seen, x ∈ l ++ [c]) ∧ RG ts g ∧ g.length = (l ++ [c]).length ∧ topD g = seen.length ∧ ∀ i, i < (l ++ [c]).length → ∃ x y, (l ++ [c])[i]? = some x ∧ g[i]? = some y ∧ seen[y]? = some x := by
        intro seen' y n1 n2 n3 n4 n5 n6
        refine ⟨seen', g ++ [y], n1, n2, h3.snoc hloop n3 (fun hb => ?_), by simp [h4], by rw [topD_snoc, n5], fun i hi => ?_⟩
        · obtain ⟨o, ho, ht, e⟩ := barred_mem.mp hb
          have hq := hp o g.length (by omega) (by rw [List.length_append, List.length_singleton]; omega) ((tied_mem (by omega)).mp ht)
          obtain ⟨x, y', e1, e2, e3⟩ := h6 o (by omega)
          rw [e] at e2
          cases e2
          have e4 := n6 _ _ e3
          rw [n4] at e4
          cases e4
          refine hq.2 ?_
          rw [List.getElem?_append_left (by omega), e1, h4, List.getElem?_append_right (Nat.le_refl _), Nat.sub_self]
          rfl
        · rw [List.length_append, List.length_singleton] at hi
          by_cases hil : i < l.length
          · obtain ⟨x, y', e1, e2, e3⟩ := h6 i hil
            exact ⟨x, y', by rw [List.getElem?_append_left hil]; exact e1, by rw [List.getElem?_append_left (by omega)]; exact e2, n6 _ _ e3⟩
          · have : i = l.length := by omega
            subst this
            exact ⟨c, y, by rw [List.getElem?_append_right (Nat.le_refl _), Nat.sub_self]; rfl, by rw [← h4, List.getElem?_append_right (Nat.le_refl _), Nat.sub_self]; rfl, n4⟩
      by_cases hc : c ∈ seen
      · obtain ⟨y, hy, e⟩ := List.getElem_of_mem hc
        refine fin seen y h1 (fun x hx => List.mem_append_left _ (h2 x hx)) (by omega) (by rw [← e]; simp [hy]) (by omega) fun _ _ h => h
      · refine fin (seen ++ [c]) seen.length ?_ (fun x hx => ?_) (by omega) (by rw [List.getElem?_append_right (Nat.le_refl _), Nat.sub_self]; rfl) (by rw [List.length_append, List.length_singleton]; omega) fun z x e => ?_
        · rw [List.nodup_append]
          refine ⟨h1, by simp, fun a ha b hb e => ?_⟩
          rcases List.mem_singleton.mp hb with rfl
          subst e
          exact hc ha
        · rcases List.mem_append.mp hx with hx | hx
          · exact List.mem_append_left _ (h2 x hx)
          · exact List.mem_append_right _ hx
        · rw [List.getElem?_append_left (List.getElem?_eq_some_iff.mp e).1]; exact e
  obtain ⟨seen, g, h1, h2, h3, h4, h5, h6⟩ := key f hp
  exact ⟨g, h3, h4, by rw [h5]; exact nodup_le h1 fun x hx => hm x (h2 x hx)⟩
end
end DL

/-! Tq2: papers of dyeings, partings in lots, the least numbers: plain. -/
namespace DL
section
variable {ts : List (Int × Int)} {k r : Nat} {g c : List Nat}
/-! ### trees of no dyeing -/
def natD (g : List Nat) : D := .tup (g.map fun (n : Nat) => .int (n : Int))
def shutT (ts : List (Int × Int)) (k : Nat) : Nat → List Nat → D
  | 0, _ => .tup []
  | r + 1, g => .tup ((opens ts k g).map fun d => shutT ts k r (g ++ [d]))
def isShutF (ts : List (Int × Int)) (k : Nat) : Nat → List Nat → D → Bool
  | 0, _, _ => false
  | r + 1, g, v => match v with
    | .tup vs => decide (vs.length = (opens ts k g).length) && ((opens ts k g).zip vs).all fun p => isShutF ts k r (g ++ [p.1]) p.2
    | _ => false
theorem zip_map_all {α β : Type} {f : α → β} {p : α × β → Bool} : ∀ {l : List α}, (∀ a ∈ l, p (a, f a) = true) → (l.zip (l.map f)).all p = true
  | [], _ => rfl
  | a :: l, h => by
    rw [List.map_cons, List.zip_cons_cons, List.all_cons, h a (by simp), zip_map_all fun b hb => h b (by simp [hb])]
    rfl
theorem shut_is : ∀ {r : Nat} {g : List Nat}, firstF ts k r g = none → isShutF ts k r g (shutT ts k r g) = true
  | 0, g, h => by cases h
  | r + 1, g, h => by
    have h' := List.findSome?_eq_none_iff.mp h
    show (decide (((opens ts k g).map fun d => shutT ts k r (g ++ [d])).length = (opens ts k g).length) && ((opens ts k g).zip ((opens ts k g).map fun d => shutT ts k r (g ++ [d]))).all fun p => isShutF ts k r (g ++ [p.1]) p.2) = true
    rw [List.length_map, decide_eq_true rfl, Bool.true_and]
    exact zip_map_all fun d hd => shut_is (h' d hd)
/-- place by place, all at once -/
def lvl (ts : List (Int × Int)) (k r : Nat) (L : List (List Nat × D)) : Bool := L.all fun x => isShutF ts k r x.1 x.2
def kids (ts : List (Int × Int)) (k : Nat) (x : List Nat × D) : List (List Nat × D) := match x.2 with
  | .tup vs => ((opens ts k x.1).zip vs).map fun p => (x.1 ++ [p.1], p.2)
  | _ => []
def kidOk (ts : List (Int × Int)) (k : Nat) (x : List Nat × D) : Bool := match x.2 with
  | .tup vs => decide (vs.length = (opens ts k x.1).length)
  | _ => false
theorem shut_kids {x : List Nat × D} : isShutF ts k (r + 1) x.1 x.2 = (kidOk ts k x && lvl ts k r (kids ts k x)) := by
  obtain ⟨g, v⟩ := x
  unfold kidOk kids lvl
  cases v <;> try rfl
  rename_i vs
  show _ = (decide (vs.length = (opens ts k g).length) && (((opens ts k g).zip vs).map fun p => (g ++ [p.1], p.2)).all fun x => isShutF ts k r x.1 x.2)
  rw [List.all_map]
  rfl
theorem lvl_step {L : List (List Nat × D)} : lvl ts k (r + 1) L = (L.all (kidOk ts k) && lvl ts k r (L.flatMap (kids ts k))) := by
  induction L with
  | nil => rfl
  | cons x L ih =>
    have e : lvl ts k (r + 1) (x :: L) = (isShutF ts k (r + 1) x.1 x.2 && lvl ts k (r + 1) L) := rfl
    rw [e, ih, shut_kids, List.all_cons, List.flatMap_cons]
    have e2 : lvl ts k r (kids ts k x ++ L.flatMap (kids ts k)) = (lvl ts k r (kids ts k x) && lvl ts k r (L.flatMap (kids ts k))) := by
      unfold lvl
      rw [List.all_append]
    rw [e2]
    cases kidOk ts k x <;> cases lvl ts k r (kids ts k x) <;> cases L.all (kidOk ts k) <;> rfl
/-- how many there may be -/
def fct : Nat → Nat
  | 0 => 1
  | p + 1 => fct p * (p + 1)
theorem opens_len : (opens ts k g).length ≤ topD g + 1 := by
  unfold opens
  split
  · exact Nat.zero_le _
  · have := List.length_filter_le (fun d => !(barred ts g).contains d) (List.range (min k (topD g + 1)))
    rw [List.length_range] at this
    omega
theorem kids_len {x : List Nat × D} : (kids ts k x).length ≤ topD x.1 + 1 := by
  unfold kids
  split
  · rw [List.length_map, List.length_zip]
    have := opens_len (ts := ts) (k := k) (g := x.1)
    omega
  · exact Nat.zero_le _
theorem flat_len {α β : Type} {f : α → List β} {m : Nat} : ∀ {l : List α}, (∀ a ∈ l, (f a).length ≤ m) → (l.flatMap f).length ≤ l.length * m
  | [], _ => by simp
  | a :: l, h => by
    rw [List.flatMap_cons, List.length_append, List.length_cons, Nat.succ_mul]
    have h1 := h a (by simp)
    have h2 := flat_len (l := l) fun b hb => h b (by simp [hb])
    omega
theorem exts_len : (exts ts g).length ≤ topD g + 1 := by
  unfold exts
  rw [List.length_cons, List.length_map]
  have := List.length_filter_le (fun d => !(barred ts g).contains d) (List.range (topD g))
  rw [List.length_range] at this
  omega
theorem GL_len : ∀ p, (GL ts p).length ≤ fct p
  | 0 => Nat.le_refl _
  | p + 1 => by
    rw [GL]
    split
    · exact Nat.zero_le _
    · refine Nat.le_trans (flat_len (m := p + 1) fun g hg => ?_) (Nat.mul_le_mul_right _ (GL_len p))
      obtain ⟨h1, h2⟩ := GL_mem.mp hg
      have h3 := h1.top_len
      have h4 := exts_len (ts := ts) (g := g)
      omega
/-! ### lots of places -/
def blk (g : List Nat) (j : Nat) : List Nat := (List.range g.length).filter fun o => g[o]? == some j
def blocks (g : List Nat) : List (List Nat) := (List.range (topD g)).map (blk g)
theorem blk_snoc {j x : Nat} : blk (g ++ [x]) j = if x = j then blk g j ++ [g.length] else blk g j := by
  unfold blk
  rw [List.length_append, List.length_singleton, List.range_succ, List.filter_append]
  have e1 : (List.range g.length).filter (fun o => (g ++ [x])[o]? == some j) = (List.range g.length).filter fun o => g[o]? == some j := by
    refine List.filter_congr fun o ho => ?_
    rw [List.getElem?_append_left (List.mem_range.mp ho)]
  rw [e1]
  have e2 : (g ++ [x])[g.length]? = some x := by rw [List.getElem?_append_right (Nat.le_refl _), Nat.sub_self]; rfl
  by_cases h : x = j
  · subst h
    rw [if_pos rfl, List.filter_cons_of_pos (by rw [e2]; simp)]
    rfl
  · rw [if_neg h, List.filter_cons_of_neg (by rw [e2]; simpa using h)]
    simp
theorem blk_top : blk g (topD g) = [] := by
  unfold blk
  rw [List.filter_eq_nil_iff]
  intro o ho h
  have : g[o]? = some (topD g) := by simpa using h
  exact absurd (topD_mem (List.mem_of_getElem? this)) (Nat.lt_irrefl _)
theorem blocks_new : blocks (g ++ [topD g]) = blocks g ++ [[g.length]] := by
  unfold blocks
  rw [topD_snoc, show max (topD g) (topD g + 1) = topD g + 1 by omega, List.range_succ, List.map_append]
  congr 1
  · refine List.map_congr_left fun j hj => ?_
    have := List.mem_range.mp hj
    rw [blk_snoc, if_neg (by omega)]
  · rw [List.map_singleton, blk_snoc, if_pos rfl, blk_top]
    rfl
theorem blocks_len : (blocks g).length = topD g := by unfold blocks; rw [List.length_map, List.length_range]
theorem blocks_get {d : Nat} (h : d < topD g) : (blocks g)[d]? = some (blk g d) := by
  unfold blocks
  rw [List.getElem?_map, List.getElem?_range h]
  rfl
theorem blocks_at {d : Nat} (h : d < topD g) : blocks (g ++ [d]) = (blocks g).take d ++ [blk g d ++ [g.length]] ++ (blocks g).drop (d + 1) := by
  refine List.ext_getElem? fun i => ?_
  have hl : (blocks (g ++ [d])).length = topD g := by rw [blocks_len, topD_snoc]; omega
  by_cases hi : i < topD g
  · rw [blocks_get (by rw [topD_snoc]; omega), blk_snoc]
    by_cases e : d = i
    · subst e
      rw [if_pos rfl, List.append_assoc, List.getElem?_append_right (by rw [List.length_take, blocks_len]; omega), List.length_take, blocks_len, show d - min d (topD g) = 0 by omega]
      rfl
    · rw [if_neg e]
      by_cases h2 : i < d
      · rw [List.append_assoc, List.getElem?_append_left (by rw [List.length_take, blocks_len]; omega), List.getElem?_take_of_lt h2, blocks_get hi]
      · rw [List.append_assoc, List.getElem?_append_right (by rw [List.length_take, blocks_len]; omega), List.length_take, blocks_len, List.getElem?_append_right (by simp; omega), List.getElem?_drop]
        rw [show d + 1 + (i - min d (topD g) - [blk g d ++ [g.length]].length) = i by simp; omega, blocks_get hi]
  · rw [List.getElem?_eq_none (by omega), List.getElem?_eq_none]
    simp only [List.length_append, List.length_take, List.length_drop, blocks_len, List.length_singleton]
    omega
theorem tiedI_comm {a b : Int} : tiedI ts a b = tiedI ts b a := by
  unfold tiedI
  rw [Int.min_comm, Int.max_comm]
theorem blk_barred {d : Nat} : ((blk g d).any fun o => tied ts g.length o) = (barred ts g).contains d := by
  rw [Bool.eq_iff_iff, List.any_eq_true, List.contains_eq_mem, decide_eq_true_eq, barred_mem]
  constructor
  · rintro ⟨o, ho, h⟩
    unfold blk at ho
    obtain ⟨h1, h2⟩ := List.mem_filter.mp ho
    exact ⟨o, List.mem_range.mp h1, by unfold tied at h ⊢; rw [tiedI_comm]; exact h, by simpa using h2⟩
  · rintro ⟨o, h1, h2, h3⟩
    refine ⟨o, ?_, by unfold tied at h2 ⊢; rw [tiedI_comm]; exact h2⟩
    unfold blk
    exact List.mem_filter.mpr ⟨List.mem_range.mpr h1, by simp [h3]⟩
theorem blk_len {d : Nat} : (blk g d).length ≤ g.length := by
  unfold blk
  have := List.length_filter_le (fun o => g[o]? == some d) (List.range g.length)
  rw [List.length_range] at this
  exact this
/-! ### judged by dyes -/
def intAt (xs : List D) (i : Int) : Int := match xs[i.toNat]? with
  | some (.int j) => j
  | _ => 0
def dyeOk (k : Int) : D → Bool
  | .int i => decide (0 ≤ i) && decide (i < k)
  | _ => false
def isDyD (n : Int) (ts : List (Int × Int)) (k : Int) : D → Bool
  | .tup xs => decide ((xs.length : Int) = n) && xs.all (dyeOk k) && ts.all fun t => !decide (intAt xs t.1 = intAt xs t.2)
  | _ => false
theorem intAt_nat {i : Nat} {x : Nat} (h : g[i]? = some x) : intAt (g.map fun (n : Nat) => D.int (n : Int)) (i : Int) = x := by
  unfold intAt
  rw [show ((i : Int)).toNat = i by omega, List.getElem?_map, h]
  rfl
end
end DL

/-! Tq3: the least number of dyes: plain. -/
namespace DL
section
variable {ts : List (Int × Int)} {k r n s : Nat} {g c : List Nat}
def leastD (ts : List (Int × Int)) (n : Nat) : D := match sizesD ts n with
  | [] => .non
  | s :: _ => .int (s : Int)
theorem sizes_loop (h : ∃ t ∈ ts, t.1 = t.2 ∧ 0 ≤ t.1 ∧ t.1 < (n : Int)) : sizesD ts n = [] := by
  obtain ⟨t, ht, e, h0, h1⟩ := h
  cases q : sizesD ts n with
  | nil => rfl
  | cons s r =>
    obtain ⟨⟨g, hg, hl, _⟩, _⟩ := sizes_head q
    have hn := loops_none hg (a := t.1.toNat) (by omega)
    have : tied ts t.1.toNat t.1.toNat = true := (tied_mem (Nat.le_refl _)).mpr (by
      rw [Int.toNat_of_nonneg h0]
      obtain ⟨x, y⟩ := t
      have e : x = y := e
      subst e
      exact ht)
    rw [this] at hn
    cases hn
theorem sizes_some (h : ∀ t ∈ ts, t.1 ≠ t.2) : ∃ s r, sizesD ts n = s :: r := by
  obtain ⟨g, hg, hl⟩ := no_loops (ts := ts) (n := n) fun a ha => by
    cases q : tied ts a a with
    | false => rfl
    | true => exact absurd rfl (h _ ((tied_mem (Nat.le_refl _)).mp q))
  have := sizes_mem.mpr ⟨g, hg, hl, rfl⟩
  cases q : sizesD ts n with
  | nil => rw [q] at this; cases this
  | cons s r => exact ⟨s, r, rfl⟩
theorem many_none (h : sizesD ts n = []) : manyD ts n k = 0 := by
  obtain ⟨h1, h2⟩ := many_nn (ts := ts) (n := n) (k := k)
  have : ¬ 0 < manyD ts n k := fun z => by
    obtain ⟨g, a, b, _⟩ := h2.mp z
    have := sizes_mem.mpr ⟨g, a, b, rfl⟩
    rw [h] at this
    cases this
  omega
theorem many_least (h : sizesD ts n = s :: c) (hn : 1 ≤ n) : 1 ≤ s ∧ s ≤ n ∧ 0 < manyD ts n s ∧ manyD ts n (s - 1) = 0 := by
  obtain ⟨⟨g, hg, hl, ht⟩, h2⟩ := sizes_head h
  have hs : 1 ≤ s := by
    cases g with
    | nil => simp at hl; omega
    | cons x g => have := topD_mem (l := x :: g) (x := x) (by simp); omega
  refine ⟨hs, by have := hg.top_len; omega, many_nn.2.mpr ⟨g, hg, hl, by omega⟩, ?_⟩
  obtain ⟨h3, h4⟩ := many_nn (ts := ts) (n := n) (k := s - 1)
  have : ¬ 0 < manyD ts n (s - 1) := fun z => by
    obtain ⟨g', a, b, d⟩ := h4.mp z
    have := h2 g' a b
    omega
  omega
theorem first_many {g' : List Nat} : (∃ c, firstF ts k n [] = some c) ↔ 0 < manyD ts n k := by
  rw [many_nn.2]
  constructor
  · rintro ⟨c, e⟩
    obtain ⟨a, b, d⟩ := first_some .nil (fun x h => by cases h) e
    exact ⟨c, a, by simpa using b, topD_le d⟩
  · rintro ⟨g, a, b, d⟩
    cases q : firstF ts k n [] with
    | some c => exact ⟨c, rfl⟩
    | none => exact (first_none q (by simpa using a) b fun x hx => by have := topD_mem hx; omega).elim
theorem prop_tied (hp : PropG ts g) {a b : Nat} (ha : a < g.length) (hb : b < g.length) (h : tied ts a b = true) : a ≠ b ∧ g[a]? ≠ g[b]? := by
  by_cases e : a ≤ b
  · exact hp a b e hb ((tied_mem e).mp h)
  · have h' : tied ts b a = true := by unfold tied at h ⊢; rw [tiedI_comm]; exact h
    have := hp b a (by omega) ha ((tied_mem (by omega)).mp h')
    exact ⟨fun z => this.1 z.symm, fun z => this.2 z.symm⟩
theorem clique_le (h : sizesD ts n = s :: c) {few : List Nat} (h1 : few.Pairwise fun a b => tied ts a b = true) (h2 : ∀ a ∈ few, a < n) : few.length ≤ s := by
  obtain ⟨⟨g, hg, hl, ht⟩, _⟩ := sizes_head h
  have e : (few.map fun a => g.getD a 0).length = few.length := List.length_map ..
  rw [← e]
  refine nodup_le ?_ fun x hx => ?_
  · rw [List.Nodup, List.pairwise_map]
    refine h1.imp_of_mem fun {a b} ha hb hab q => ?_
    have la := h2 a ha
    have lb := h2 b hb
    have := (prop_tied hg.prop (by omega) (by omega) hab).2
    rw [List.getD_eq_getElem?_getD, List.getD_eq_getElem?_getD, List.getElem?_eq_getElem (by omega), List.getElem?_eq_getElem (by omega)] at q
    rw [List.getElem?_eq_getElem (by omega), List.getElem?_eq_getElem (by omega)] at this
    exact this (congrArg some q)
  · obtain ⟨a, ha, rfl⟩ := List.mem_map.mp hx
    have la := h2 a ha
    rw [← ht, List.getD_eq_getElem?_getD, List.getElem?_eq_getElem (by omega)]
    exact topD_mem (List.getElem_mem _)
theorem least_step (h : sizesD ts n = s :: c) {a : Nat} (ha : a + 1 < n) : ∃ s' c', sizesD (ts ++ [((a : Int), (a : Int) + 1)]) n = s' :: c' ∧ (s' = s ∨ s' = s + 1) := by
  obtain ⟨⟨g, hg, hl, ht⟩, h2⟩ := sizes_head h
  have up : ∃ g', RG (ts ++ [((a : Int), (a : Int) + 1)]) g' ∧ g'.length = n ∧ topD g' ≤ s + 1 := by
    have := canon (ts := ts ++ [((a : Int), (a : Int) + 1)]) (f := g.set (a + 1) s) (m := s + 1) ?_ ?_
    · rw [List.length_set, hl] at this; exact this
    · intro i j hij hj hm
      rw [List.length_set] at hj
      have hlt : ∀ {i x : Nat}, g[i]? = some x → x ≠ s := fun {i x} e z => by
        have := topD_mem (List.mem_of_getElem? e)
        omega
      have hne : i ≠ j := by
        rcases List.mem_append.mp hm with hm | hm
        · exact (hg.prop i j hij hj hm).1
        · have := List.mem_singleton.mp hm
          injection this with e1 e2
          omega
      refine ⟨hne, ?_⟩
      have gi : ∃ x, g[i]? = some x := ⟨_, List.getElem?_eq_getElem (by omega)⟩
      have gj : ∃ x, g[j]? = some x := ⟨_, List.getElem?_eq_getElem (by omega)⟩
      obtain ⟨x, hx⟩ := gi
      obtain ⟨y, hy⟩ := gj
      by_cases e1 : a + 1 = i
      · subst e1
        rw [List.getElem?_set_self (by omega), List.getElem?_set_ne (by omega), hy]
        intro z
        exact hlt hy (Option.some.inj z).symm
      · by_cases e2 : a + 1 = j
        · subst e2
          rw [List.getElem?_set_self (by omega), List.getElem?_set_ne (by omega), hx]
          intro z
          exact hlt hx (Option.some.inj z)
        · rw [List.getElem?_set_ne (by omega), List.getElem?_set_ne (by omega)]
          rcases List.mem_append.mp hm with hm | hm
          · exact (hg.prop i j hij hj hm).2
          · have := List.mem_singleton.mp hm
            injection this with e3 e4
            omega
    · intro x hx
      rcases List.mem_or_eq_of_mem_set hx with hx | rfl
      · have := topD_mem hx; omega
      · omega
  obtain ⟨g', hg', hl', ht'⟩ := up
  have hm := sizes_mem.mpr ⟨g', hg', hl', rfl⟩
  cases q : sizesD (ts ++ [((a : Int), (a : Int) + 1)]) n with
  | nil => rw [q] at hm; cases hm
  | cons s' c' =>
    obtain ⟨⟨g1, hg1, hl1, ht1⟩, h3⟩ := sizes_head q
    have u1 := h3 g' hg' hl'
    obtain ⟨g2, hg2, hl2, ht2⟩ := canon (ts := ts) (f := g1) (m := topD g1) (fun i j hij hj hm => hg1.prop i j hij hj (List.mem_append_left _ hm)) fun x hx => topD_mem hx
    have u2 := h2 g2 hg2 (by omega)
    exact ⟨s', c', rfl, by omega⟩
end
end DL

/-! Sq8: the promises of the row of papers of dyeings. -/
namespace DL
open PySem PySem.Spec PyProof.Rows L2 TL
def inW (lo hi : Int) : D → Bool
  | .int i => decide (lo ≤ i) && decide (i ≤ hi)
  | _ => false
def fs_need_whole (c : Addr) : FSX := fun ds M Φ Ξ => ∃ (d : D) (lo hi : Int) (word : Str), ds = [d, .int lo, .int hi, .str word] ∧ puD d = true ∧ (inW lo hi d = true → Φ .non M) ∧ (inW lo hi d = false → Ξ c [("word", .str word)] M)
theorem len_need_whole {c : Addr} : ∀ ds M Φ Ξ, fs_need_whole c ds M Φ Ξ → ds.length = 4 := by rintro ds M Φ Ξ ⟨d, lo, hi, z, rfl, _⟩; rfl
theorem mono_need_whole {c : Addr} : ∀ ds M Φ Ξ Ξ', fs_need_whole c ds M Φ Ξ → (∀ C fs M, Ξ C fs M → Ξ' C fs M) → fs_need_whole c ds M Φ Ξ' := by rintro ds M Φ Ξ Ξ' ⟨d, lo, hi, z, rfl, h1, h2, h3⟩ k; exact ⟨d, lo, hi, z, rfl, h1, h2, fun e => k _ _ _ (h3 e)⟩
def fs_need_place : FSX := fun ds M Φ Ξ => ∃ (n a : Int) (ts : List (Int × Int)), ds = [webD n ts, .int a] ∧ 0 ≤ a ∧ a < n ∧ Φ .non M
theorem len_need_place : ∀ ds M Φ Ξ, fs_need_place ds M Φ Ξ → ds.length = 2 := by rintro ds M Φ Ξ ⟨n, a, ts, rfl, _⟩; rfl
theorem mono_need_place : ∀ ds M Φ Ξ Ξ', fs_need_place ds M Φ Ξ → (∀ C fs M, Ξ C fs M → Ξ' C fs M) → fs_need_place ds M Φ Ξ' := fun ds M Φ Ξ Ξ' h _ => h
def fs_need_dyes (cw cn : Addr) : FSX := fun ds M Φ Ξ => ∃ d kd, ds = [d, kd] ∧ puD d = true ∧ puD kd = true ∧ (isWebD d = true → inW 0 1000000 kd = true → Φ .non M) ∧ (isWebD d = false → Ξ cw [] M) ∧ (isWebD d = true → inW 0 1000000 kd = false → Ξ cn [("word", .str "k")] M)
theorem len_need_dyes {cw cn : Addr} : ∀ ds M Φ Ξ, fs_need_dyes cw cn ds M Φ Ξ → ds.length = 2 := by rintro ds M Φ Ξ ⟨d, kd, rfl, _⟩; rfl
theorem mono_need_dyes {cw cn : Addr} : ∀ ds M Φ Ξ Ξ', fs_need_dyes cw cn ds M Φ Ξ → (∀ C fs M, Ξ C fs M → Ξ' C fs M) → fs_need_dyes cw cn ds M Φ Ξ' := by rintro ds M Φ Ξ Ξ' ⟨d, kd, rfl, h1, h2, h3, h4, h5⟩ k; exact ⟨d, kd, rfl, h1, h2, h3, fun e => k _ _ _ (h4 e), fun e e' => k _ _ _ (h5 e e')⟩
def fs_made : FS := fun ds M Φ => ∃ (n : Int) (ts : List (Int × Int)), ds = [.int n, .tup (ts.map pairD)] ∧ ts.length ≤ 1000000 ∧ Φ (webD n (ts.map nrm)) M
theorem len_made : ∀ ds M Φ, fs_made ds M Φ → ds.length = 2 := by rintro ds M Φ ⟨n, ts, rfl, _⟩; rfl
def fs_web_put : FS := fun ds M Φ => ∃ (n a b : Int) (ts : List (Int × Int)), ds = [webD n ts, .int a, .int b] ∧ ts.length ≤ 100000 ∧ Φ (webD n ((ts ++ [(a, b)]).map nrm)) M
theorem len_web_put : ∀ ds M Φ, fs_web_put ds M Φ → ds.length = 3 := by rintro ds M Φ ⟨n, a, b, ts, rfl, _⟩; rfl
def fs_put : FSX := fun ds M Φ Ξ => ∃ (n a b : Int) (ts : List (Int × Int)), ds = [webD n ts, .int a, .int b] ∧ GoodW n ts ∧ ts.length < 12 ∧ 0 ≤ a ∧ a < n ∧ 0 ≤ b ∧ b < n ∧ Φ (webD n ((ts ++ [(a, b)]).map nrm)) M
theorem len_put : ∀ ds M Φ Ξ, fs_put ds M Φ Ξ → ds.length = 3 := by rintro ds M Φ Ξ ⟨n, a, b, ts, rfl, _⟩; rfl
theorem mono_put : ∀ ds M Φ Ξ Ξ', fs_put ds M Φ Ξ → (∀ C fs M, Ξ C fs M → Ξ' C fs M) → fs_put ds M Φ Ξ' := fun ds M Φ Ξ Ξ' h _ => h
def fs_is_tied : FS := fun ds M Φ => ∃ (n a b : Int) (ts : List (Int × Int)), ds = [webD n ts, .int a, .int b] ∧ Φ (.bl (tiedI ts a b)) M
theorem len_is_tied : ∀ ds M Φ, fs_is_tied ds M Φ → ds.length = 3 := by rintro ds M Φ ⟨n, a, b, ts, rfl, _⟩; rfl
def fs_is_dyeing_in : FS := fun ds M Φ => ∃ (n k : Int) (ts : List (Int × Int)) (v : D), ds = [webD n ts, .int k, v] ∧ GoodW n ts ∧ puD v = true ∧ Φ (.bl (isDyD n ts k v)) M
theorem len_is_dyeing_in : ∀ ds M Φ, fs_is_dyeing_in ds M Φ → ds.length = 3 := by rintro ds M Φ ⟨n, k, ts, v, rfl, _⟩; rfl
def fs__law_is_dyeing : FS := fs_is_dyeing_in
theorem len__law_is_dyeing : ∀ ds M Φ, fs__law_is_dyeing ds M Φ → ds.length = 3 := len_is_dyeing_in
def partD (g : List Nat) : D := .tup ((blocks g).map natD)
def fs_with_place : FS := fun ds M Φ => ∃ (n : Int) (ts : List (Int × Int)) (g : List Nat), ds = [webD n ts, .int (g.length : Int), partD g] ∧ g.length ≤ 8 ∧ topD g ≤ g.length ∧ Φ (.lst ((exts ts g).map partD)) M
theorem len_with_place : ∀ ds M Φ, fs_with_place ds M Φ → ds.length = 3 := by rintro ds M Φ ⟨n, ts, g, rfl, _⟩; rfl
def cntD (ts : List (Int × Int)) (n : Nat) : List Int := (List.range (n + 1)).map fun s => ((cnt ts n s : Nat) : Int)
def fs_counts_of_partings : FS := fun ds M Φ => ∃ (n : Int) (ts : List (Int × Int)), ds = [webD n ts] ∧ GoodW n ts ∧ Φ (.tup ((cntD ts n.toNat).map .int)) M
theorem len_counts_of_partings : ∀ ds M Φ, fs_counts_of_partings ds M Φ → ds.length = 1 := by rintro ds M Φ ⟨n, ts, rfl, _⟩; rfl
def fs_falling_product : FS := fun ds M Φ => ∃ (k : Int) (m : Nat), ds = [.int k, .int (m : Int)] ∧ 0 ≤ k ∧ k ≤ 1000000 ∧ m ≤ 1000 ∧ Φ (.int (fallP k m)) M
theorem len_falling_product : ∀ ds M Φ, fs_falling_product ds M Φ → ds.length = 2 := by rintro ds M Φ ⟨k, m, rfl, _⟩; rfl
def fs_many_dyeings : FSX := fun ds M Φ Ξ => ∃ (n : Int) (ts : List (Int × Int)) (k : Nat), ds = [webD n ts, .int (k : Int)] ∧ GoodW n ts ∧ k ≤ 1000000 ∧ Φ (.int (manyD ts n.toNat k)) M
theorem len_many_dyeings : ∀ ds M Φ Ξ, fs_many_dyeings ds M Φ Ξ → ds.length = 2 := by rintro ds M Φ Ξ ⟨n, ts, k, rfl, _⟩; rfl
theorem mono_many_dyeings : ∀ ds M Φ Ξ Ξ', fs_many_dyeings ds M Φ Ξ → (∀ C fs M, Ξ C fs M → Ξ' C fs M) → fs_many_dyeings ds M Φ Ξ' := fun ds M Φ Ξ Ξ' h _ => h
def opensD (ts : List (Int × Int)) (k : Nat) (g : List Nat) : D := .lst ((opens ts k g).map fun (d : Nat) => .int (d : Int))
def fs_open_dyes : FS := fun ds M Φ => ∃ (n : Int) (ts : List (Int × Int)) (k : Nat) (g : List Nat), ds = [webD n ts, .int (k : Int), natD g] ∧ GoodW n ts ∧ g.length ≤ 8 ∧ topD g ≤ 8 ∧ Φ (opensD ts k g) M
theorem len_open_dyes : ∀ ds M Φ, fs_open_dyes ds M Φ → ds.length = 3 := by rintro ds M Φ ⟨n, ts, k, g, rfl, _⟩; rfl
def fs__law_next : FS := fs_open_dyes
theorem len__law_next : ∀ ds M Φ, fs__law_next ds M Φ → ds.length = 3 := len_open_dyes
def optN : Option (List Nat) → D
  | none => .non
  | some g => natD g
def fs_first_dyeing : Nat → FS
  | 0 => fun _ _ _ => False
  | d + 1 => fun ds M Φ => ∃ (n : Int) (ts : List (Int × Int)) (k : Nat) (g : List Nat), ds = [webD n ts, .int (k : Int), natD g] ∧ GoodW n ts ∧ RG ts g ∧ g.length ≤ n.toNat ∧ n.toNat - g.length ≤ d ∧ Φ (optN (firstF ts k (n.toNat - g.length) g)) M
theorem len_first_dyeing : ∀ (d : Nat) ds M Φ, fs_first_dyeing d ds M Φ → ds.length = 3
  | 0, _, _, _, h => h.elim
  | d + 1, _, _, _, ⟨n, ts, k, g, e, _⟩ => by subst e; rfl
def fs_shut_tree : Nat → FS
  | 0 => fun _ _ _ => False
  | d + 1 => fun ds M Φ => ∃ (n : Int) (ts : List (Int × Int)) (k : Nat) (g : List Nat), ds = [webD n ts, .int (k : Int), natD g] ∧ GoodW n ts ∧ RG ts g ∧ g.length ≤ n.toNat ∧ n.toNat - g.length ≤ d ∧ firstF ts k (n.toNat - g.length) g = none ∧ Φ (shutT ts k (n.toNat - g.length) g) M
theorem len_shut_tree : ∀ (d : Nat) ds M Φ, fs_shut_tree d ds M Φ → ds.length = 3
  | 0, _, _, _, h => h.elim
  | d + 1, _, _, _, ⟨n, ts, k, g, e, _⟩ => by subst e; rfl
def fs_is_shut_tree : Nat → FS
  | 0 => fun _ _ _ => False
  | d + 1 => fun ds M Φ => ∃ (n : Int) (ts : List (Int × Int)) (k : Nat) (g : List Nat) (v : D), ds = [webD n ts, .int (k : Int), natD g, v] ∧ GoodW n ts ∧ RG ts g ∧ g.length ≤ n.toNat ∧ n.toNat - g.length ≤ d ∧ puD v = true ∧ Φ (.bl (isShutF ts k (n.toNat - g.length) g v)) M
theorem len_is_shut_tree : ∀ (d : Nat) ds M Φ, fs_is_shut_tree d ds M Φ → ds.length = 4
  | 0, _, _, _, h => h.elim
  | d + 1, _, _, _, ⟨n, ts, k, g, v, e, _⟩ => by subst e; rfl
def paperD (ts : List (Int × Int)) (n k : Nat) : D := match firstF ts k n [] with
  | some c => .tup [.bl true, natD c]
  | none => .tup [.bl false, shutT ts k n []]
def fs_dye_paper (cw cn : Addr) : FSX := fun ds M Φ Ξ => ∃ d kd, ds = [d, kd] ∧ puD d = true ∧ puD kd = true ∧ (∀ (n : Int) (ts : List (Int × Int)) (k : Nat), d = webD n ts → GoodW n ts → kd = .int (k : Int) → k ≤ 1000000 → Φ (paperD ts n.toNat k) M) ∧ (isWebD d = false → Ξ cw [] M) ∧ (isWebD d = true → inW 0 1000000 kd = false → Ξ cn [("word", .str "k")] M)
theorem len_dye_paper {cw cn : Addr} : ∀ ds M Φ Ξ, fs_dye_paper cw cn ds M Φ Ξ → ds.length = 2 := by rintro ds M Φ Ξ ⟨d, kd, rfl, _⟩; rfl
theorem mono_dye_paper {cw cn : Addr} : ∀ ds M Φ Ξ Ξ', fs_dye_paper cw cn ds M Φ Ξ → (∀ C fs M, Ξ C fs M → Ξ' C fs M) → fs_dye_paper cw cn ds M Φ Ξ' := by rintro ds M Φ Ξ Ξ' ⟨d, kd, rfl, h1, h2, h3, h4, h5⟩ k; exact ⟨d, kd, rfl, h1, h2, h3, fun e => k _ _ _ (h4 e), fun e e' => k _ _ _ (h5 e e')⟩
def isPaperD (n : Int) (ts : List (Int × Int)) (k : Nat) : D → Bool
  | .tup [h, x] => match h with
    | .bl true => isDyD n ts (k : Int) x
    | .bl false => isShutF ts k n.toNat [] x
    | _ => false
  | _ => false
def fs_is_dye_paper (cw cn : Addr) : FSX := fun ds M Φ Ξ => ∃ d kd v, ds = [d, kd, v] ∧ puD d = true ∧ puD kd = true ∧ puD v = true ∧ (∀ (n : Int) (ts : List (Int × Int)) (k : Nat), d = webD n ts → GoodW n ts → kd = .int (k : Int) → k ≤ 1000000 → Φ (.bl (isPaperD n ts k v)) M) ∧ (isWebD d = false → Ξ cw [] M) ∧ (isWebD d = true → inW 0 1000000 kd = false → Ξ cn [("word", .str "k")] M)
theorem len_is_dye_paper {cw cn : Addr} : ∀ ds M Φ Ξ, fs_is_dye_paper cw cn ds M Φ Ξ → ds.length = 3 := by rintro ds M Φ Ξ ⟨d, kd, v, rfl, _⟩; rfl
theorem mono_is_dye_paper {cw cn : Addr} : ∀ ds M Φ Ξ Ξ', fs_is_dye_paper cw cn ds M Φ Ξ → (∀ C fs M, Ξ C fs M → Ξ' C fs M) → fs_is_dye_paper cw cn ds M Φ Ξ' := by rintro ds M Φ Ξ Ξ' ⟨d, kd, v, rfl, h1, h2, h6, h3, h4, h5⟩ k; exact ⟨d, kd, v, rfl, h1, h2, h6, h3, fun e => k _ _ _ (h4 e), fun e e' => k _ _ _ (h5 e e')⟩
def fs_least_dyes (cw : Addr) : FSX := fun ds M Φ Ξ => ∃ d, ds = [d] ∧ puD d = true ∧ (∀ (n : Int) (ts : List (Int × Int)), d = webD n ts → GoodW n ts → Φ (leastD ts n.toNat) M) ∧ (isWebD d = false → Ξ cw [] M)
theorem len_least_dyes {cw : Addr} : ∀ ds M Φ Ξ, fs_least_dyes cw ds M Φ Ξ → ds.length = 1 := by rintro ds M Φ Ξ ⟨d, rfl, _⟩; rfl
theorem mono_least_dyes {cw : Addr} : ∀ ds M Φ Ξ Ξ', fs_least_dyes cw ds M Φ Ξ → (∀ C fs M, Ξ C fs M → Ξ' C fs M) → fs_least_dyes cw ds M Φ Ξ' := by rintro ds M Φ Ξ Ξ' ⟨d, rfl, h1, h2, h3⟩ k; exact ⟨d, rfl, h1, h2, fun e => k _ _ _ (h3 e)⟩
def wholesD : D → Bool
  | .tup xs => xs.all isWholeD
  | _ => false
def fs__law_are_wholes : FS := fun ds M Φ => ∃ v, ds = [v] ∧ puD v = true ∧ Φ (.bl (wholesD v)) M
theorem len__law_are_wholes : ∀ ds M Φ, fs__law_are_wholes ds M Φ → ds.length = 1 := by rintro ds M Φ ⟨v, rfl, _⟩; rfl
/-- trees of ints, at most n deep, nowhere wide -/
def taD : Nat → D → Bool
  | _, .int _ => true
  | n + 1, .tup xs => xs.all (taD n) && decide (xs.length ≤ 1000)
  | _, _ => false
def fs__law_bent : FS := fun ds M Φ => ∃ (d l : Addr) (n : Nat) (xs : List D), ds = [.ptr d, .tup xs] ∧ Dr M d l n ∧ n + 10 ≤ 1000000000 ∧ taD 12 (.tup xs) = true ∧ ∀ (y : D) (M' : Mem), puD y = true → Dr M' d l (n + 3) → Ev M M' d l → Φ y M'
theorem len__law_bent : ∀ ds M Φ, fs__law_bent ds M Φ → ds.length = 2 := by rintro ds M Φ ⟨d, l, n, xs, rfl, _⟩; rfl
def fs__law_far_number : FS := fun ds M Φ => ∃ (d l : Addr) (n : Nat), ds = [.ptr d, .int 0, .int 1000000] ∧ Dr M d l n ∧ n + 10 ≤ 1000000000 ∧ ∀ (y : D) (M' : Mem), puD y = true → inW 0 1000000 y = false → Dr M' d l (n + 2) → Ev M M' d l → Φ y M'
theorem len__law_far_number : ∀ ds M Φ, fs__law_far_number ds M Φ → ds.length = 3 := by rintro ds M Φ ⟨d, l, n, rfl, _⟩; rfl
def fs__law_is_paper : FS := fun ds M Φ => ∃ (n : Int) (ts : List (Int × Int)) (k : Nat) (v : D), ds = [webD n ts, .int (k : Int), v] ∧ GoodW n ts ∧ puD v = true ∧ Φ (.bl (isShutF ts k n.toNat [] v)) M
theorem len__law_is_paper : ∀ ds M Φ, fs__law_is_paper ds M Φ → ds.length = 3 := by rintro ds M Φ ⟨n, ts, k, v, rfl, _⟩; rfl
def fs__law_judged : FS := fun ds M Φ => ∃ (n : Int) (ts : List (Int × Int)) (k : Nat) (v : D), ds = [webD n ts, .int (k : Int), v] ∧ GoodW n ts ∧ puD v = true ∧ Φ (.bl (isPaperD n ts k v)) M
theorem len__law_judged : ∀ ds M Φ, fs__law_judged ds M Φ → ds.length = 3 := by rintro ds M Φ ⟨n, ts, k, v, rfl, _⟩; rfl
def fs__law_changed : FS := fun ds M Φ => ∃ (d l : Addr) (n : Nat) (b : Bool) (xs : List D), ds = [.ptr d, .tup [.bl b, .tup xs]] ∧ Dr M d l n ∧ n + 100 ≤ 1000000000 ∧ taD 12 (.tup xs) = true ∧ ∀ (y : D) (M' : Mem), puD y = true → Dr M' d l (n + 10) → Ev M M' d l → Φ y M'
theorem len__law_changed : ∀ ds M Φ, fs__law_changed ds M Φ → ds.length = 2 := by rintro ds M Φ ⟨d, l, n, b, xs, rfl, _⟩; rfl
def fs__law_goes : FS := fun ds M Φ => ∃ (d l : Addr) (m : Nat) (n : Int) (ts : List (Int × Int)) (k : Nat), ds = [.ptr d, webD n ts, .int (k : Int)] ∧ GoodW n ts ∧ k ≤ 1000000 ∧ Dr M d l m ∧ m + 1000 ≤ 1000000000 ∧ ∀ M' : Mem, Dr M' d l (m + 100) → Ev M M' d l → Φ (.bl true) M'
theorem len__law_goes : ∀ ds M Φ, fs__law_goes ds M Φ → ds.length = 3 := by rintro ds M Φ ⟨d, l, m, n, ts, k, rfl, _⟩; rfl
def fs__law_least_right : FS := fun ds M Φ => ∃ (d l : Addr) (m : Nat) (n : Int) (ts : List (Int × Int)), ds = [.ptr d, webD n ts] ∧ GoodW n ts ∧ Dr M d l m ∧ m + 100 ≤ 1000000000 ∧ ∀ M' : Mem, Dr M' d l (m + 100) → Ev M M' d l → Φ (.bl true) M'
theorem len__law_least_right : ∀ ds M Φ, fs__law_least_right ds M Φ → ds.length = 2 := by rintro ds M Φ ⟨d, l, m, n, ts, rfl, _⟩; rfl
end DL

/-! Sr1: small facts for the walks of the row of papers of dyeings. -/
namespace DL
open PySem PySem.Spec PyProof.Rows L2 TL
theorem fm_congr {α β : Type} {f g : α → Option β} : ∀ {l : List α}, (∀ a ∈ l, f a = g a) → l.filterMap f = l.filterMap g
  | [], _ => rfl
  | a :: l, h => by rw [List.filterMap_cons, List.filterMap_cons, h a (by simp), fm_congr fun b hb => h b (by simp [hb])]
section
variable {Γ : Gam} {M : Mem} {da : DA} {Θ : List D → Mem → Prop} {Φ : Cont} {ts : List (Int × Int)} {k : Nat} {g : List Nat}
instance st_zipLT : Stp (diZipLT da Γ M Θ) (da Γ M fun ds M1 => match ds with
  | [.lst xs, .tup ys] => Θ (zipD xs ys) M1
  | _ => False) := ⟨fun k => k⟩
def natI (g : List Nat) : List Int := g.map fun (n : Nat) => (n : Int)
theorem natD_I : natD g = .tup ((natI g).map .int) := by unfold natD natI; rw [List.map_map]; rfl
theorem natI_len : (natI g).length = g.length := List.length_map ..
theorem ne_tupI {ns : List Int} (k : Φ (.bl (!ns.isEmpty)) M) : fNe (.tup (ns.map .int)) (.tup []) M Φ := by
  refine fNe_py (x := .tuple (ns.map .int)) (y := .tuple []) (by show (D.pyAll _).map _ = _; rw [py_ints]; rfl) rfl ?_ (by decide +kernel) ?_
  · unfold SeqAt.shaped
    simp only [PyData.canLay0, canLay_ints, PyData.depth, depth_ints]
    decide
  · rw [show PyData.eqv (.tuple (ns.map .int)) (.tuple []) = ns.isEmpty from by cases ns <;> simp [PyData.eqv, PyData.eqvAll]]
    exact k
theorem top_max {m : Int} (h1 : m ∈ natI g) (h2 : ∀ y ∈ natI g, y ≤ m) : m + 1 = (topD g : Int) := by
  unfold natI at h1 h2
  obtain ⟨x, hx, rfl⟩ := List.mem_map.mp h1
  have a := topD_mem hx
  have b : topD g ≤ x + 1 := topD_le fun y hy => by
    have := h2 _ (List.mem_map_of_mem hy)
    omega
  omega
/-- the dyes of tied places before it -/
def barF (ts : List (Int × Int)) (g : List Nat) : D → Option D
  | .int o => if tiedI ts o (g.length : Int) = true then some (.int ((g.getD o.toNat 0 : Nat) : Int)) else none
  | _ => none
theorem bar_list : (rgD 0 (g.length : Int)).filterMap (barF ts g) = (natI (barred ts g)).map .int := by
  unfold rgD natI barred
  rw [List.filterMap_map, List.map_map, List.map_filterMap, show ((g.length : Int) - 0).toNat = g.length by omega]
  refine fm_congr fun o ho => ?_
  have ho := List.mem_range.mp ho
  show barF ts g (.int (0 + (o : Int))) = _
  rw [Int.zero_add]
  unfold barF
  dsimp only
  unfold tied
  split
  · rw [List.getElem?_eq_getElem ho]
    show some (D.int ((g.getD ((o : Int)).toNat 0 : Nat) : Int)) = some _
    rw [show ((o : Int)).toNat = o by omega, List.getD_eq_getElem?_getD, List.getElem?_eq_getElem ho]
    rfl
  · rfl
theorem flat_ints : ∀ ns : List Int, (ns.map D.int).all flatD = true
  | [] => rfl
  | n :: ns => by rw [List.map_cons, List.all_cons, flat_ints ns]; rfl
theorem eqF_ints {x : Int} : ∀ ns : List Int, ((ns.map D.int).any fun y => eqF y (.int x)) = decide (x ∈ ns)
  | [] => rfl
  | n :: ns => by
    rw [List.map_cons, List.any_cons, eqF_ints ns]
    have e : eqF (.int n) (.int x) = decide (n = x) := by unfold eqF vOf eqV; first | rfl | (by_cases h : n = x <;> simp [h])
    rw [e]
    by_cases h : n = x
    · subst h; simp
    · have h' : ¬ x = n := fun z => h z.symm
      simp [h, h']
def openF (ts : List (Int × Int)) (g : List Nat) : D → Option D
  | .int i => if i ∈ natI (barred ts g) then none else some (.int i)
  | _ => none
theorem open_list (h : tied ts g.length g.length = false) : (rgD 0 (min (k : Int) ((topD g : Int) + 1))).filterMap (openF ts g) = (opens ts k g).map fun (d : Nat) => D.int (d : Int) := by
  unfold rgD opens
  rw [if_neg (by rw [h]; exact Bool.false_ne_true), List.filterMap_map, show (min (k : Int) ((topD g : Int) + 1) - 0).toNat = min k (topD g + 1) by omega, ← List.filterMap_eq_filter, List.map_filterMap]
  refine fm_congr fun d _ => ?_
  show openF ts g (.int (0 + (d : Int))) = _
  rw [Int.zero_add]
  unfold openF natI
  dsimp only
  have e : ((d : Int) ∈ (barred ts g).map fun (n : Nat) => (n : Int)) ↔ d ∈ barred ts g := by
    rw [List.mem_map]
    constructor
    · rintro ⟨x, hx, e⟩
      have : x = d := by omega
      subst this
      exact hx
    · intro h; exact ⟨d, h, rfl⟩
  by_cases hd : d ∈ barred ts g
  · rw [if_pos (e.mpr hd)]
    simp [Option.guard, hd]
  · rw [if_neg fun z => hd (e.mp z)]
    simp [Option.guard, hd]
theorem atI_of {xs : List D} {i : Nat} {x : D} (h : xs[i]? = some x) : atI xs (i : Int) = some x := by
  unfold atI
  rw [ixN_of (List.getElem?_eq_some_iff.mp h).1]
  exact h
theorem natD_at {i : Nat} (h : i < g.length) : atI ((natI g).map D.int) (i : Int) = some (.int ((g.getD i 0 : Nat) : Int)) := by
  refine atI_of ?_
  unfold natI
  rw [List.map_map, List.getElem?_map, List.getElem?_eq_getElem h, List.getD_eq_getElem?_getD, List.getElem?_eq_getElem h]
  rfl
theorem natD_snoc {x : Nat} : D.tup ((natI g).map .int ++ [.int (x : Int)]) = natD (g ++ [x]) := by rw [natD_I]; unfold natI; rw [List.map_append, List.map_append]; rfl
theorem i_two {b : Bool} {A B C : Prop} (h1 : b = true → C → A) (h2 : b = false → C → B) (h : C) : if b = true then A else B := by
  cases b
  · rw [if_neg Bool.false_ne_true]; exact h2 rfl h
  · rw [if_pos rfl]; exact h1 rfl h
theorem drop_at {α : Type} {l : List α} {i : Nat} {x : α} (h : l[i]? = some x) : l.drop i = x :: l.drop (i + 1) := by
  obtain ⟨hi, e⟩ := List.getElem?_eq_some_iff.mp h
  rw [List.drop_eq_getElem_cons hi, e]
theorem map_at {α : Type} {f : α → D} {l : List α} {i : Nat} {x : D} (h : (l.map f)[i]? = some x) : ∃ a, l[i]? = some a ∧ x = f a := by
  rw [List.getElem?_map] at h
  cases e : l[i]? with
  | none => rw [e] at h; cases h
  | some a => rw [e] at h; exact ⟨a, rfl, (Option.some.inj h).symm⟩
theorem take_at {α : Type} {l : List α} {i : Nat} {x : α} (h : l[i]? = some x) : l.take (i + 1) = l.take i ++ [x] := by rw [List.take_succ, h]; rfl
theorem cutDrop {xs : List D} {k : Nat} : cutD xs (some (k : Int)) none = xs.drop k := by
  unfold cutD
  simp only [HT.sIx_none, HT.sIx_nat]
  by_cases h : k ≤ xs.length
  · rw [Nat.min_eq_left h, List.take_of_length_le (by rw [List.length_drop]; omega)]
  · rw [Nat.min_eq_right (by omega), List.drop_of_length_le (Nat.le_refl _), List.drop_of_length_le (by omega), List.take_nil]
theorem fct_le : ∀ {p : Nat}, p ≤ 8 → fct p ≤ 40320
  | 0, _ => by decide
  | 1, _ => by decide
  | 2, _ => by decide
  | 3, _ => by decide
  | 4, _ => by decide
  | 5, _ => by decide
  | 6, _ => by decide
  | 7, _ => by decide
  | 8, _ => by decide
  | n + 9, h => by omega
/-- the lot d of the parting, with a place more -/
theorem part_at {d : Nat} (h : d < topD g) : D.tup (((blocks g).map natD).take d ++ [D.tup ((natI (blk g d)).map .int ++ [.int (g.length : Int)])] ++ ((blocks g).map natD).drop (d + 1)) = partD (g ++ [d]) := by
  rw [natD_snoc]
  unfold partD
  rw [blocks_at h, List.map_append, List.map_append, List.map_take, List.map_drop]
  rfl
theorem part_new : D.tup ((blocks g).map natD ++ [D.tup [D.int (g.length : Int)]]) = partD (g ++ [topD g]) := by
  unfold partD
  rw [blocks_new, List.map_append]
  rfl
theorem range_filter_snoc {p : Nat → Bool} {i : Nat} : (List.range (i + 1)).filter p = (List.range i).filter p ++ if p i = true then [i] else [] := by
  rw [List.range_succ, List.filter_append]
  congr 1
  by_cases h : p i = true
  · rw [if_pos h, List.filter_cons_of_pos h]; rfl
  · rw [if_neg h, List.filter_cons_of_neg h]; rfl
/-- found, in the making -/
def partL (ts : List (Int × Int)) (g : List Nat) (i : Nat) : List D := partD (g ++ [topD g]) :: ((List.range i).filter fun d => !(barred ts g).contains d).map fun d => partD (g ++ [d])
theorem partL_end : partL ts g (topD g) = (exts ts g).map partD := by
  unfold partL exts
  rw [List.map_cons, List.map_map]
  rfl
theorem partL_len {i : Nat} : (partL ts g i).length ≤ i + 1 := by
  unfold partL
  rw [List.length_cons, List.length_map]
  have := List.length_filter_le (fun d => !(barred ts g).contains d) (List.range i)
  rw [List.length_range] at this
  omega
theorem partL_yes {i : Nat} (h : (barred ts g).contains i = false) : partL ts g (i + 1) = partL ts g i ++ [partD (g ++ [i])] := by
  unfold partL
  rw [range_filter_snoc, if_pos (by rw [h]; rfl), List.map_append]
  rfl
theorem partL_no {i : Nat} (h : (barred ts g).contains i = true) : partL ts g (i + 1) = partL ts g i := by
  unfold partL
  rw [range_filter_snoc, if_neg (by rw [h]; exact Bool.false_ne_true), List.append_nil]
end
section
variable {Γw : Gam} {M : Mem} {Φ : Cont} {vs1 : List Nat} {di1 : DI} {dg dg1 : DG} {dt dt1 : DT} {de : DE}
/-- pure: each item gives a list -/
theorem lc2_of {α : Type} (f : α → D) (l : List α) (g : α → List D) (hl : (l.flatMap g).length ≤ sizeLine) (hx : ∀ x ∈ l, ∀ (p : Addr) (acc : List D), M p = none → acc.length + (g x).length ≤ sizeLine → ∀ F : List D → Mem → Prop, F (acc ++ g x) (M.set p (.lst (acc ++ g x))) →
      dg (f x) Γw (M.set p (.lst acc)) fun Γ2 M2 => dt Γ2 M2 fun b M3 => if b = true then di1 Γ2 M3 fun ys M4 => compIn p (wipeG Γ2 vs1) dg1 dt1 de F ys acc M4 else F acc M3)
    (k : Φ (.lst (l.flatMap g)) M) : lcG2 Γw vs1 dg dt di1 dg1 dt1 de Φ (l.map f) M := by
  intro p hp
  have key : ∀ (ys : List α) (acc : List D), (∀ y ∈ ys, y ∈ l) → acc.length + (ys.flatMap g).length ≤ sizeLine → acc ++ ys.flatMap g = l.flatMap g → compRun2 p Γw vs1 dg dt di1 dg1 dt1 de (fun acc M' => Φ (.lst acc) (M'.del p)) (ys.map f) acc (M.set p (.lst acc)) := by
    intro ys
    induction ys with
    | nil =>
      intro acc _ _ e
      refine ⟨Mem.set_same, ?_⟩
      show Φ _ ((M.set p _).del p)
      rw [List.flatMap_nil, List.append_nil] at e
      rw [del_set hp, e]
      exact k
    | cons y ys ih =>
      intro acc hm hz e
      rw [List.flatMap_cons, List.length_append] at hz
      rw [List.flatMap_cons, ← List.append_assoc] at e
      exact hx y (hm y List.mem_cons_self) p acc hp (by omega) _ (ih (acc ++ g y) (fun q hq => hm q (List.mem_cons_of_mem _ hq)) (by rw [List.length_append]; omega) e)
  exact key l [] (fun _ h => h) (by simpa using hl) (by simp)
end
section
variable {ts : List (Int × Int)} {n : Nat}
theorem part_len {g : List Nat} : ((blocks g).map natD).length = topD g := by rw [List.length_map, blocks_len]
/-- how many of the first i have s lots -/
def cntI (L : List (List Nat)) (n : Nat) : List Int := (List.range (n + 1)).map fun s => ((L.countP fun g => decide (topD g = s) : Nat) : Int)
theorem cntI_nil : cntI [] n = List.replicate (n + 1) 0 := by
  unfold cntI
  refine List.ext_getElem (by simp) fun i h1 h2 => ?_
  rw [List.getElem_map, List.getElem_replicate]
  rfl
theorem cntI_at {L : List (List Nat)} {s : Nat} (h : s ≤ n) : (cntI L n)[s]? = some ((L.countP fun g => decide (topD g = s) : Nat) : Int) := by
  unfold cntI
  rw [List.getElem?_map, List.getElem?_range (by omega)]
  rfl
theorem cntI_snoc {L : List (List Nat)} {g : List Nat} (h : topD g ≤ n) : cntI (L ++ [g]) n = (cntI L n).set (topD g) (((L.countP fun q => decide (topD q = topD g) : Nat) : Int) + 1) := by
  refine List.ext_getElem? fun i => ?_
  by_cases hi : i ≤ n
  · rw [cntI_at hi, List.countP_append]
    by_cases e : topD g = i
    · subst e
      rw [List.getElem?_set_self (by unfold cntI; rw [List.length_map, List.length_range]; omega)]
      simp
    · rw [List.getElem?_set_ne e, cntI_at hi]
      simp [e]
  · rw [List.getElem?_eq_none (by unfold cntI; rw [List.length_map, List.length_range]; omega), List.getElem?_eq_none (by rw [List.length_set]; unfold cntI; rw [List.length_map, List.length_range]; omega)]
theorem cntI_len {L : List (List Nat)} : (cntI L n).length = n + 1 := by unfold cntI; rw [List.length_map, List.length_range]
theorem cnt_le {s : Nat} (h : n ≤ 8) : cnt ts n s ≤ 40320 := by
  unfold cnt
  have h1 := List.countP_le_length (p := fun g => decide (topD g = s)) (l := GL ts n)
  have h2 := GL_len (ts := ts) n
  have h3 := fct_le h
  omega
theorem cntD_at {i : Nat} {x : D} (h : ((cntD ts n).map D.int)[i]? = some x) : i ≤ n ∧ x = .int ((cnt ts n i : Nat) : Int) := by
  obtain ⟨a, h1, rfl⟩ := map_at h
  unfold cntD at h1
  have h2 := (List.getElem?_eq_some_iff.mp h1).1
  rw [List.length_map, List.length_range] at h2
  rw [List.getElem?_map, List.getElem?_range h2] at h1
  exact ⟨by omega, by rw [← Option.some.inj h1]⟩
theorem enD_map {f : D → Option D} {xs : List D} : ∀ {j : Nat}, (enD j xs).filterMap f = ((List.range xs.length).filterMap fun i => (xs[i]?).bind fun d => f (.tup [.int ((i + j : Nat) : Int), d])) := by
  induction xs with
  | nil => intro j; rfl
  | cons d ds ih =>
    intro j
    rw [enD, List.filterMap_cons, ih, List.length_cons, List.range_succ_eq_map, List.filterMap_cons, List.filterMap_map]
    have e : ((List.range ds.length).filterMap fun i => (ds[i]?).bind fun d => f (.tup [.int ((i + (j + 1) : Nat) : Int), d])) = (List.range ds.length).filterMap ((fun i => ((d :: ds)[i]?).bind fun d => f (.tup [.int ((i + j : Nat) : Int), d])) ∘ Nat.succ) := by
      refine fm_congr fun i _ => ?_
      show _ = (((d :: ds)[i + 1]?).bind fun d => f (.tup [.int ((i + 1 + j : Nat) : Int), d]))
      rw [List.getElem?_cons_succ, show i + (j + 1) = i + 1 + j by omega]
    rw [e]
    have e2 : ((d :: ds)[0]?.bind fun d => f (.tup [.int ((0 + j : Nat) : Int), d])) = f (.tup [.int (j : Nat), d]) := by
      rw [Nat.zero_add]
      rfl
    rw [e2]
theorem cnt_map {f : D → Option D} : (enD 0 ((cntD ts n).map D.int)).filterMap f = (List.range (n + 1)).filterMap fun (i : Nat) => f (.tup [.int (i : Int), .int ((cnt ts n i : Nat) : Int)]) := by
  rw [enD_map, show ((cntD ts n).map D.int).length = n + 1 from by unfold cntD; rw [List.length_map, List.length_map, List.length_range]]
  refine fm_congr fun i hi => ?_
  have hi := List.mem_range.mp hi
  cases q : ((cntD ts n).map D.int)[i]? with
  | none =>
    rw [List.getElem?_eq_none_iff] at q
    unfold cntD at q
    rw [List.length_map, List.length_map, List.length_range] at q
    omega
  | some x =>
    obtain ⟨_, rfl⟩ := cntD_at q
    rfl
theorem eq_ones {M : Mem} {Φ : Cont} {xs : List D} {p : D → Bool} (k : Φ (.bl (!xs.any p)) M) : fEq (.lst (xs.filterMap fun x => if p x = true then some (.int 1) else none)) (.lst []) M Φ := by
  have e : (xs.filterMap fun x => if p x = true then some (D.int 1) else none) = ((xs.filter p).map fun _ => (1 : Int)).map D.int := by
    clear k
    induction xs with
    | nil => rfl
    | cons x r ih =>
      by_cases h : p x = true
      · rw [List.filterMap_cons_some (by rw [if_pos h]), List.filter_cons_of_pos h, List.map_cons, List.map_cons, ih]
      · rw [List.filterMap_cons_none (by rw [if_neg h]), List.filter_cons_of_neg h]
        exact ih
  rw [e]
  refine fEq_py (x := .list (((xs.filter p).map fun _ => (1 : Int)).map .int)) (y := .list []) (by show (D.pyAll _).map _ = _; rw [py_ints]; rfl) rfl (shaped_ints _) (by decide +kernel) ?_
  rw [eqv_nil, List.isEmpty_map, List.isEmpty_map]
  have : (xs.filter p).isEmpty = !xs.any p := by
    cases h : xs.any p with
    | true =>
      obtain ⟨x, hx, hp⟩ := List.any_eq_true.mp h
      cases q : xs.filter p with
      | nil => exact absurd (List.mem_filter.mpr ⟨hx, hp⟩) (by rw [q]; simp)
      | cons _ _ => rfl
    | false =>
      have : xs.filter p = [] := List.filter_eq_nil_iff.mpr fun x hx hp => by rw [List.any_eq_false] at h; exact h x hx hp
      rw [this]; rfl
  rw [this]
  exact k
/-- the first ends of the ties that end at b -/
def endsAt (ts : List (Int × Int)) (b : Int) : List Int := (ts.filter fun t => decide (t.2 = b)).map (·.1)
def tiedF (b : Int) : D → Option D
  | .tup [.int a, .int c] => if c = b then some (.int a) else none
  | _ => none
theorem tied_list {b : Int} : ((ts.map pairD).filterMap (tiedF b)) = (endsAt ts b).map .int := by
  unfold endsAt
  rw [List.filterMap_map, ← List.filterMap_eq_filter, List.map_filterMap, List.map_filterMap]
  refine fm_congr fun t _ => ?_
  show (if t.2 = b then some (D.int t.1) else none) = _
  by_cases h : t.2 = b
  · rw [if_pos h]; simp [Option.guard, h]
  · rw [if_neg h]; simp [Option.guard, h]
/-- what a dye that is open must be: no tied place before it has it -/
theorem ends_mem {n : Int} (gw : GoodW n ts) {b : Nat} {x : Int} : x ∈ endsAt ts (b : Int) ↔ ∃ a : Nat, x = a ∧ a ≤ b ∧ tied ts a b = true := by
  unfold endsAt
  rw [List.mem_map]
  constructor
  · rintro ⟨t, ht, rfl⟩
    rw [List.mem_filter, decide_eq_true_eq] at ht
    obtain ⟨ht, e⟩ := ht
    obtain ⟨h0, h1, h2⟩ := gw.ok t ht
    refine ⟨t.1.toNat, by omega, by omega, (tied_mem (by omega)).mpr ?_⟩
    rw [Int.toNat_of_nonneg h0, ← e]
    exact ht
  · rintro ⟨a, rfl, h1, h2⟩
    exact ⟨((a : Int), (b : Int)), List.mem_filter.mpr ⟨(tied_mem h1).mp h2, by simp⟩, rfl⟩
theorem ends_self {n : Int} (gw : GoodW n ts) {b : Nat} : ((b : Int) ∈ endsAt ts (b : Int)) ↔ tied ts b b = true := by
  rw [ends_mem gw]
  constructor
  · rintro ⟨a, e, _, h⟩
    have : a = b := by omega
    subst this
    exact h
  · intro h; exact ⟨b, rfl, Nat.le_refl _, h⟩
/-- some tied place before it has the dye x -/
def hitF (g : List Nat) (x : Int) : D → Bool
  | .int o => decide (((g.getD o.toNat 0 : Nat) : Int) = x)
  | _ => false
theorem hit_any {n : Int} (gw : GoodW n ts) {g : List Nat} (h : tied ts g.length g.length = false) {d : Nat} : ((endsAt ts (g.length : Int)).map D.int).any (hitF g (d : Int)) = decide (d ∈ barred ts g) := by
  rw [Bool.eq_iff_iff, List.any_eq_true, decide_eq_true_eq, barred_mem]
  constructor
  · rintro ⟨y, hy, e⟩
    obtain ⟨x, hx, rfl⟩ := List.mem_map.mp hy
    obtain ⟨a, rfl, h1, h2⟩ := (ends_mem gw).mp hx
    have ha : a < g.length := by
      rcases Nat.lt_or_ge a g.length with q | q
      · exact q
      · have : a = g.length := by omega
        subst this
        rw [h2] at h; cases h
    have e : (((g.getD ((a : Int)).toNat 0 : Nat) : Int) = (d : Int)) := by simpa [hitF] using e
    rw [show ((a : Int)).toNat = a by omega, List.getD_eq_getElem?_getD, List.getElem?_eq_getElem ha] at e
    exact ⟨a, ha, h2, by rw [List.getElem?_eq_getElem ha]; exact congrArg some (Int.ofNat.inj e)⟩
  · rintro ⟨o, h1, h2, h3⟩
    refine ⟨.int (o : Int), List.mem_map_of_mem ((ends_mem gw).mpr ⟨o, rfl, by omega, h2⟩), ?_⟩
    show decide (((g.getD ((o : Int)).toNat 0 : Nat) : Int) = (d : Int)) = true
    rw [show ((o : Int)).toNat = o by omega, List.getD_eq_getElem?_getD, h3]
    simp
def nextF (ts : List (Int × Int)) (g : List Nat) : D → Option D
  | .int i => if tied ts g.length g.length = true then none else if i.toNat ∈ barred ts g then none else some (.int i)
  | _ => none
theorem next_list {k : Nat} {g : List Nat} : (rgD 0 (min (k : Int) ((topD g : Int) + 1))).filterMap (nextF ts g) = (opens ts k g).map fun (d : Nat) => D.int (d : Int) := by
  by_cases h : tied ts g.length g.length = true
  · unfold opens
    rw [if_pos h]
    refine List.filterMap_eq_nil_iff.mpr fun x hx => ?_
    obtain ⟨i, _, _, rfl⟩ := rgD_mem hx
    show (if tied ts g.length g.length = true then none else _) = none
    rw [if_pos h]
  · have h' : tied ts g.length g.length = false := by simpa using h
    rw [← open_list h']
    refine fm_congr fun x hx => ?_
    obtain ⟨i, h0, _, rfl⟩ := rgD_mem hx
    obtain ⟨d, rfl⟩ := Int.eq_ofNat_of_zero_le h0
    show (if tied ts g.length g.length = true then none else if ((d : Int)).toNat ∈ barred ts g then none else some (D.int (d : Int))) = if (d : Int) ∈ natI (barred ts g) then none else some (D.int (d : Int))
    rw [if_neg h, show ((d : Int)).toNat = d by omega]
    have e : ((d : Int) ∈ natI (barred ts g)) ↔ d ∈ barred ts g := by
      unfold natI
      rw [List.mem_map]
      constructor
      · rintro ⟨y, hy, e⟩
        have : y = d := by omega
        subst this
        exact hy
      · intro h; exact ⟨d, h, rfl⟩
    by_cases hd : d ∈ barred ts g
    · rw [if_pos hd, if_pos (e.mpr hd)]
    · rw [if_neg hd, if_neg fun z => hd (e.mp z)]
end
end DL

/-! Sr2: more facts for the walks of the row of papers of dyeings. -/
namespace DL
open PySem PySem.Spec PyProof.Rows L2 TL
theorem pu_all {xs : List D} (h : ∀ x ∈ xs, puD x = true) : puAll xs = true := by
  induction xs with
  | nil => rfl
  | cons x xs ih => rw [puAll, h x (by simp), ih fun y hy => h y (by simp [hy])]; rfl
theorem pu_tup {xs : List D} (h : ∀ x ∈ xs, puD x = true) (hl : xs.length ≤ 1000000) : puD (.tup xs) = true := by
  rw [puD, pu_all h, decide_eq_true hl]; rfl
theorem pu_lst {xs : List D} (h : ∀ x ∈ xs, puD x = true) (hl : xs.length ≤ 1000000) : puD (.lst xs) = true := by
  rw [puD, pu_all h, decide_eq_true hl]; rfl
theorem ta_up : ∀ {n : Nat} {d : D}, taD n d = true → taD (n + 1) d = true
  | 0, d, h => by cases d <;> first | (cases h; done) | exact h
  | n + 1, d, h => by
    cases d <;> first | (cases h; done) | exact h | skip
    rename_i xs
    have h : (xs.all (taD n) && decide (xs.length ≤ 1000)) = true := h
    rw [Bool.and_eq_true, List.all_eq_true] at h
    show (xs.all (taD (n + 1)) && decide (xs.length ≤ 1000)) = true
    rw [h.2, Bool.and_true, List.all_eq_true]
    exact fun x hx => ta_up (h.1 x hx)
theorem ta_tup {n : Nat} {xs : List D} (h : taD (n + 1) (.tup xs) = true) : (∀ x ∈ xs, taD n x = true) ∧ xs.length ≤ 1000 := by
  have h : (xs.all (taD n) && decide (xs.length ≤ 1000)) = true := h
  rw [Bool.and_eq_true, List.all_eq_true, decide_eq_true_eq] at h
  exact h
theorem ta_pu : ∀ {n : Nat} {d : D}, taD n d = true → puD d = true
  | 0, d, h => by cases d <;> first | (cases h; done) | rfl
  | n + 1, d, h => by
    cases d <;> first | (cases h; done) | rfl | skip
    obtain ⟨h1, h2⟩ := ta_tup h
    exact pu_tup (fun x hx => ta_pu (h1 x hx)) (by omega)
theorem ta_py : ∀ {n : Nat} {d : D}, taD n d = true → PyOk n d
  | 0, d, h => by cases d <;> first | (cases h; done) | exact ⟨_, rfl, rfl, by simp [PyData.depth]⟩
  | n + 1, d, h => by
    cases d <;> first | (cases h; done) | exact ⟨_, rfl, rfl, by simp [PyData.depth]⟩ | skip
    rename_i xs
    obtain ⟨h1, _⟩ := ta_tup h
    obtain ⟨ys, a, b, c⟩ := pyAll_ok fun x hx => ta_py (h1 x hx)
    refine ⟨_, by rw [D.py, a]; rfl, by simp [PyData.canLay0, b], by simp [PyData.depth]; omega⟩
theorem ta_case {n : Nat} {d : D} (h : taD n d = true) : (∃ i : Int, d = .int i) ∨ ∃ xs, d = .tup xs := by
  cases n <;> cases d <;> first | (cases h; done) | exact .inl ⟨_, rfl⟩ | exact .inr ⟨_, rfl⟩
section
variable {M : Mem} {Φ : Cont} {xs : List D} {ts : List (Int × Int)} {k : Nat} {g : List Nat} {n : Int}
theorem pyAll_isE : ∀ {zs : List D} {ys : List PyData}, D.pyAll zs = some ys → PyData.eqv (.tuple ys) (.tuple []) = zs.isEmpty
  | [], ys, h => by cases h; simp [PyData.eqv, PyData.eqvAll]
  | z :: zs, ys, h => by
    have := pyAll_empty h
    cases ys with
    | nil => cases this
    | cons y ys => simp [PyData.eqv, PyData.eqvAll]
theorem sh_tup {n : Nat} (hn : n ≤ 40) (h : ∀ x ∈ xs, PyOk n x) : ∃ ys, D.pyAll xs = some ys ∧ SeqAt.shaped (.tuple ys) = true := by
  obtain ⟨ys, h1, h2, h3⟩ := pyAll_ok h
  refine ⟨ys, h1, ?_⟩
  unfold SeqAt.shaped
  simp only [PyData.canLay0, h2, PyData.depth]
  simp
  omega
theorem eq_tup0 {n : Nat} (hn : n ≤ 40) (h : ∀ x ∈ xs, PyOk n x) (k : Φ (.bl xs.isEmpty) M) : fEq (.tup xs) (.tup []) M Φ := by
  obtain ⟨ys, h1, h2⟩ := sh_tup hn h
  refine fEq_py (x := .tuple ys) (y := .tuple []) (by show (D.pyAll _).map _ = _; rw [h1]; rfl) rfl h2 (by decide +kernel) ?_
  rw [pyAll_isE h1]
  exact k
theorem ne_tup0 {n : Nat} (hn : n ≤ 40) (h : ∀ x ∈ xs, PyOk n x) (k : Φ (.bl (!xs.isEmpty)) M) : fNe (.tup xs) (.tup []) M Φ := by
  obtain ⟨ys, h1, h2⟩ := sh_tup hn h
  refine fNe_py (x := .tuple ys) (y := .tuple []) (by show (D.pyAll _).map _ = _; rw [h1]; rfl) rfl h2 (by decide +kernel) ?_
  rw [pyAll_isE h1]
  exact k
theorem mem_cut {x : D} {lo hi : Option Int} (h : x ∈ cutD xs lo hi) : x ∈ xs := by
  unfold cutD at h
  exact List.mem_of_mem_drop (List.mem_of_mem_take h)
theorem len_cut {lo hi : Option Int} : (cutD xs lo hi).length ≤ xs.length := by
  unfold cutD
  rw [List.length_take, List.length_drop]
  omega
/-! papers -/
theorem natD_ta {m : Nat} (h : g.length ≤ 1000) : taD (m + 1) (natD g) = true := by
  rw [natD_I]
  show (((natI g).map D.int).all (taD m) && decide (((natI g).map D.int).length ≤ 1000)) = true
  rw [List.length_map, natI_len, decide_eq_true h, Bool.and_true, List.all_map, List.all_eq_true]
  intro x _
  cases m <;> rfl
theorem opens_len8 (h : RG ts g) (hl : g.length ≤ 8) : (opens ts k g).length ≤ 9 := by
  have := opens_len (ts := ts) (k := k) (g := g)
  have := h.top_len
  omega
theorem shut_ta : ∀ {r : Nat} {g : List Nat}, RG ts g → g.length + r ≤ 8 → taD (r + 1) (shutT ts k r g) = true
  | 0, g, _, _ => rfl
  | r + 1, g, h, hl => by
    show (((opens ts k g).map fun d => shutT ts k r (g ++ [d])).all (taD (r + 1)) && decide (((opens ts k g).map fun d => shutT ts k r (g ++ [d])).length ≤ 1000)) = true
    have := opens_len8 (k := k) h (by omega)
    rw [List.length_map, decide_eq_true (by omega), Bool.and_true, List.all_map, List.all_eq_true]
    intro d hd
    obtain ⟨c1, c2, c3, c4⟩ := opens_mem.mp hd
    exact shut_ta (h.snoc c1 c3 c4) (by rw [List.length_append, List.length_singleton]; omega)
theorem ta_le {m m' : Nat} {d : D} (h : taD m d = true) (le : m ≤ m') : taD m' d = true := by
  induction le with
  | refl => exact h
  | step _ ih => exact ta_up ih
theorem shut_tup {r : Nat} : ∃ xs, shutT ts k r g = .tup xs := by cases r <;> exact ⟨_, rfl⟩
theorem paper_cases (gw : GoodW n ts) : ∃ (b : Bool) (xs : List D), paperD ts n.toNat k = .tup [.bl b, .tup xs] ∧ taD 12 (.tup xs) = true ∧ isPaperD n ts k (.tup [.bl b, .tup xs]) = true ∧ b = decide (0 < manyD ts n.toNat k) := by
  have hn := gw.hi
  have hn1 := gw.lo
  have fm := first_many (ts := ts) (k := k) (n := n.toNat) (g' := [])
  unfold paperD
  cases q : firstF ts k n.toNat [] with
  | some c =>
    obtain ⟨a1, a2, a3⟩ := first_some .nil (fun x h => by cases h) q
    rw [List.length_nil, Nat.zero_add] at a2
    refine ⟨true, (natI c).map .int, by rw [← natD_I], by rw [← natD_I]; exact natD_ta (by omega), ?_, ?_⟩
    · show isDyD n ts (k : Int) (.tup ((natI c).map .int)) = true
      have e1 : (((natI c).map D.int).length : Int) = n := by rw [List.length_map, natI_len]; omega
      have e2 : ((natI c).map D.int).all (dyeOk (k : Int)) = true := by
        rw [List.all_map, List.all_eq_true]
        intro x hx
        obtain ⟨y, hy, rfl⟩ := List.mem_map.mp hx
        have := a3 y hy
        show (decide ((0 : Int) ≤ (y : Int)) && decide ((y : Int) < (k : Int))) = true
        rw [decide_eq_true (by omega), decide_eq_true (by omega)]
        rfl
      have e3 : (ts.all fun t => !decide (intAt ((natI c).map D.int) t.1 = intAt ((natI c).map D.int) t.2)) = true := by
        rw [List.all_eq_true]
        intro t ht
        obtain ⟨h0, h1, h2⟩ := gw.ok t ht
        obtain ⟨a, ea⟩ := Int.eq_ofNat_of_zero_le h0
        obtain ⟨b, eb⟩ := Int.eq_ofNat_of_zero_le (show 0 ≤ t.2 by omega)
        have hab : ((a : Int), (b : Int)) ∈ ts := by rw [← ea, ← eb]; exact ht
        have hp := (a1.prop a b (by omega) (by omega) hab).2
        have ga : c[a]? = some c[a] := List.getElem?_eq_getElem (by omega)
        have gb : c[b]? = some c[b] := List.getElem?_eq_getElem (by omega)
        have ia := intAt_nat ga
        have ib := intAt_nat gb
        have en : (c.map fun (n : Nat) => D.int (n : Int)) = (natI c).map D.int := by unfold natI; rw [List.map_map]; rfl
        rw [en] at ia ib
        rw [ea, eb, ia, ib, decide_eq_false (fun z => hp (by rw [ga, gb]; congr 1; exact Int.ofNat.inj z))]
        rfl
      rw [isDyD, e2, e3, decide_eq_true e1]
      rfl
    · rw [decide_eq_true (fm.mp ⟨c, q⟩)]
  | none =>
    obtain ⟨xs, hx⟩ := shut_tup (ts := ts) (k := k) (r := n.toNat) (g := [])
    have t := shut_ta (ts := ts) (k := k) (r := n.toNat) .nil (by simp; omega)
    have s := shut_is q
    refine ⟨false, xs, by rw [hx], by rw [← hx]; exact ta_le t (by omega), by rw [← hx]; exact s, ?_⟩
    rw [decide_eq_false fun z => by
      obtain ⟨c, e⟩ := fm.mpr z
      rw [q] at e; cases e]
/-! level by level -/
def lvD (x : List Nat × D) : D := .tup [natD x.1, x.2]
def kidF (ts : List (Int × Int)) (k : Nat) (g : List Nat) (vs : List D) : D → Option D
  | .int i => some (.tup [natD (g ++ [(opens ts k g).getD i.toNat 0]), vs.getD i.toNat .non])
  | _ => none
theorem kid_list {vs : List D} (h : vs.length = (opens ts k g).length) : (rgD 0 ((opens ts k g).length : Int)).filterMap (kidF ts k g vs) = (kids ts k (g, .tup vs)).map lvD := by
  unfold rgD kids
  rw [List.filterMap_map, show (((opens ts k g).length : Int) - 0).toNat = (opens ts k g).length by omega, List.map_map]
  have e : (kidF ts k g vs ∘ fun (i : Nat) => D.int (0 + (i : Int))) = fun (i : Nat) => some (D.tup [natD (g ++ [(opens ts k g).getD i 0]), vs.getD i .non]) := by
    funext i
    show kidF ts k g vs (.int (0 + (i : Int))) = _
    rw [Int.zero_add]
    rfl
  rw [e, List.filterMap_eq_map']
  have hz : ((opens ts k g).zip vs).length = (opens ts k g).length := by rw [List.length_zip]; omega
  refine List.ext_getElem (by rw [List.length_map, List.length_range, List.length_map]; exact hz.symm) fun i h1 h2 => ?_
  rw [List.getElem_map, List.getElem_range, List.getElem_map, List.getElem_zip]
  rw [List.length_map, List.length_range] at h1
  show D.tup [natD (g ++ [(opens ts k g).getD i 0]), vs.getD i .non] = lvD (g ++ [_], _)
  rw [List.getD_eq_getElem?_getD, List.getD_eq_getElem?_getD, List.getElem?_eq_getElem h1, List.getElem?_eq_getElem (by omega)]
  rfl
theorem kids_mem {x y : List Nat × D} (h : RG ts x.1) (hp : puD x.2 = true) (hy : y ∈ kids ts k x) : RG ts y.1 ∧ y.1.length = x.1.length + 1 ∧ puD y.2 = true := by
  obtain ⟨g, v⟩ := x
  unfold kids at hy
  cases v <;> try (cases hy; done)
  rename_i vs
  obtain ⟨p, hp', rfl⟩ := List.mem_map.mp hy
  have h1 := (List.of_mem_zip hp').1
  have h2 := (List.of_mem_zip hp').2
  obtain ⟨c1, c2, c3, c4⟩ := opens_mem.mp h1
  refine ⟨RG.snoc h c1 c3 c4, by rw [List.length_append, List.length_singleton], ?_⟩
  have hp : puD (.tup vs) = true := hp
  rw [puD, Bool.and_eq_true] at hp
  exact puAll_mem hp.1 h2
/-- both places of the tie have the same dye -/
def badF (xs : List D) : D → Bool
  | .tup [.int a, .int b] => decide (intAt xs a = intAt xs b)
  | _ => false
theorem i_neLF0 (k : Φ (.bl true) M) : fEq (.lst []) (.lst []) M Φ := by
  refine fEq_py (x := .list []) (y := .list []) rfl rfl (by decide +kernel) (by decide +kernel) ?_
  rw [eqv_nil]
  exact k
/-- a step on the way in -/
def trD (t : List D × Nat) : D := .tup [.tup t.1, .int (t.2 : Int)]
def loopF : D → Bool
  | .tup [.int a, .int b] => decide (a = b)
  | _ => false
theorem i_notTied {a b : Int} (k : Φ (.bl (!tiedI ts a b)) M) : fInDT true (.tup [.int (min a b), .int (max a b)]) (.tup (ts.map pairD)) M Φ := by
  refine ⟨.tuple [.int (min a b), .int (max a b)], ts.map fun t => .tuple [.int t.1, .int t.2], rfl, ?_, ?_, ?_, ?_⟩
  · show (D.pyAll (ts.map pairD)).map PyData.tuple = _
    rw [py_pairs]
    rfl
  · unfold SeqAt.shaped
    simp [PyData.canLay0, PyData.canLayAll0, PyData.depth, PyData.depthAll]
  · unfold SeqAt.shaped
    have := depth_pairs ts
    simp only [PyData.canLay0, lay_pairs, PyData.depth]
    simp
    omega
  · rw [if_pos rfl, List.any_map]
    have e : (ts.any ((fun z => PyData.eqv z (.tuple [.int (min a b), .int (max a b)])) ∘ fun t : Int × Int => PyData.tuple [.int t.1, .int t.2])) = tiedI ts a b := by
      unfold tiedI
      congr 1
      funext t
      show PyData.eqv (.tuple [.int t.1, .int t.2]) (.tuple [.int (min a b), .int (max a b)]) = _
      simp [PyData.eqv, PyData.eqvAll]
      rw [Bool.eq_iff_iff]
      simp
    rw [e]
    exact k
theorem shD_ints (ns : List Int) : ShD (ns.map .int) := fun zs h => by
  have e : zs = (zs.map fun z => match z with | .int i => i | _ => 0).map D.int := by
    rw [List.map_map]
    conv => lhs; rw [← List.map_id zs]
    refine List.map_congr_left fun z hz => ?_
    obtain ⟨t, _, rfl⟩ := List.mem_map.mp (h z hz)
    rfl
  rw [e]
  exact ⟨_, py_ints _, shaped_ints _⟩
/-- the tie more -/
theorem good_more (gw : GoodW n ts) (hl : ts.length < 12) {a : Nat} (ha : (a : Int) + 1 < n) : GoodW n (ts ++ [((a : Int), (a : Int) + 1)]) ∧ (ts ++ [((a : Int), (a : Int) + 1)]).map nrm = ts ++ [((a : Int), (a : Int) + 1)] := by
  have ok : ∀ t ∈ ts ++ [((a : Int), (a : Int) + 1)], 0 ≤ t.1 ∧ t.1 ≤ t.2 ∧ t.2 < n := fun t ht => by
    rcases List.mem_append.mp ht with q | q
    · exact gw.ok t q
    · rcases List.mem_singleton.mp q with rfl
      dsimp only
      omega
  refine ⟨⟨gw.lo, gw.hi, by rw [List.length_append, List.length_singleton]; omega, ok⟩, ?_⟩
  conv => rhs; rw [← List.map_id (ts ++ [((a : Int), (a : Int) + 1)])]
  refine List.map_congr_left fun t ht => ?_
  obtain ⟨h0, h1, h2⟩ := ok t ht
  show (min t.1 t.2, max t.1 t.2) = t
  rw [show min t.1 t.2 = t.1 by omega, show max t.1 t.2 = t.2 by omega]
theorem loop_any : (ts.map pairD).any loopF = decide (∃ t ∈ ts, t.1 = t.2) := by
  rw [Bool.eq_iff_iff, List.any_eq_true, decide_eq_true_eq]
  constructor
  · rintro ⟨x, hx, e⟩
    obtain ⟨t, ht, rfl⟩ := List.mem_map.mp hx
    exact ⟨t, ht, by simpa [loopF, pairD] using e⟩
  · rintro ⟨t, ht, e⟩
    exact ⟨_, List.mem_map_of_mem ht, by simpa [loopF, pairD] using e⟩
def freeF (ts : List (Int × Int)) (p : Int) : D → Bool
  | .int o => !tiedI ts p o
  | _ => false
instance st_lrg1 {Γ : Gam} {da : DE} : Stp (dListRg1 da Γ M Φ) (da Γ M fun d M1 => match d with
  | .int n => RgOk 0 n ∧ Φ (.lst (rgD 0 n)) M1
  | _ => False) := ⟨fun k => k⟩
def tri : Nat → Nat
  | 0 => 0
  | j + 1 => tri j + j
theorem tri_le : ∀ {j : Nat}, j ≤ 5 → tri j ≤ 10
  | 0, _ => by decide
  | 1, _ => by decide
  | 2, _ => by decide
  | 3, _ => by decide
  | 4, _ => by decide
  | 5, _ => by decide
  | n + 6, h => by omega
theorem good_made {n : Int} {ts : List (Int × Int)} (h1 : 1 ≤ n) (h8 : n ≤ 8) (hl : ts.length ≤ 12) (hr : ∀ t ∈ ts, InR n t) : GoodW n (ts.map nrm) := good_nrm h1 h8 hl hr (.refl _)
instance st_lam2 {Γ : Gam} {ok : Addr → Prop} {de : XCont → DE} {z : Str} {dE : DE} : Stp (dLam2 ok de z dE Γ M Φ) (de (fun C fs M' => ok C ∧ dE [none, some (.str z), some (.exc C fs)] M' Φ) Γ M (fun _ M' => dE [none, some (.str z), some .non] M' Φ)) := ⟨fun k => k⟩
end
end DL

namespace DL
open PySem PySem.Spec PyProof.Rows L2 TL
def topS (i : Nat) : Stmt := PySem.Challenge.pw_ringsandcuts_k61_whole_papers_of_dyeings.main.body.getD i (.Pass ⟨0, 0, 0, 0⟩)
local macro_rules | `(tactic| walk_at "dl") => `(tactic| repeat (first
  | refine Stp.go ?_
  | (with_reducible refine i_varG ?_; refine i_varK rfl ?_)
  | with_reducible refine i_fz ?_
  | (with_reducible refine g_mul ?_; first | refine k_mulL (by omega) (by omega) ?_ | refine k_mulR (by omega) (by omega) ?_)
  | (with_reducible refine g_mod ?_; refine k_mod (by first | assumption | decide | omega) ?_)
  | (with_reducible refine g_fdiv ?_; refine k_fdiv (by omega) (by omega) ?_)
  | (with_reducible refine g_dget ?_; refine k_dget (by first | assumption | exact Mem.set_same) rfl (by first | exact dr_rest | exact dr_great | exact dr_cells | exact dr_turn) ?_)
  | (with_reducible refine g_len ?_; refine k_len (by first | assumption | exact Mem.set_same) ?_)
  | (with_reducible refine g_tup ?_; refine k_tup (by first | assumption | exact Mem.set_same) ?_)
  | (with_reducible refine g_list ?_; refine k_list (by first | assumption | exact Mem.set_same) ?_)
  | (with_reducible refine g_szl ?_; refine k_szl (by simp only [List.length_cons, List.length_nil]; omega) ?_)
  | (with_reducible refine g_some ?_; refine k_some (by first | assumption | exact Mem.set_same) ?_)))
structure Blt (mg : Str → Option Value) : Prop where
  b_abs : mg "abs" = none
  b_len : mg "len" = none
  b_all : mg "all" = none
  b_any : mg "any" = none
  b_isinstance : mg "isinstance" = none
  b_int : mg "int" = none
  b_str : mg "str" = none
  b_tuple : mg "tuple" = none
  b_list : mg "list" = none
  b_bool : mg "bool" = none
  b_dict : mg "dict" = none
  b_min : mg "min" = none
  b_max : mg "max" = none
  b_range : mg "range" = none
  b_enumerate : mg "enumerate" = none
  b_zip : mg "zip" = none
  b_sorted : mg "sorted" = none
  b_sum : mg "sum" = none
  b_reversed : mg "reversed" = none
  b_ValueError : mg "ValueError" = none
  c_MOST_PLACES : ∃ t, mg "MOST_PLACES" = some (.int 8 t)
  c_MOST_TIES : ∃ t, mg "MOST_TIES" = some (.int 12 t)
  c_MOST_DYES : ∃ t, mg "MOST_DYES" = some (.int 1000000 t)

abbrev s_is_whole : Stmt := topS 9
abbrev nn_is_whole : List Str := ["value"]
theorem sc_is_whole : FnScope nn_is_whole ["value"] (defScope s_is_whole) := ⟨rfl, rfl, rfl, by decide +kernel, rfl, by decide +kernel, by decide +kernel⟩
theorem ok_is_whole {P : Program} {w : World} {K : PySem.W.Frag} {mg : Str → Option Value} {base : Heap} {T : List (Addr × Str)}  (B : Blt mg)  {f : Addr} {fd : FuncData} (F : Fun K "is_whole" "is_whole" s_is_whole f fd) (hm : mg "is_whole" = some (.ref f)) (hb : L2.Binds K fd ["value"] []) : Has P w K mg base T "is_whole" 1 1 fs_is_whole := by
  refine okD (k := 0) F sc_is_whole hm hb len_is_whole (fun cdv A outer s H E hr => ⟨_, (xss_one (xs_ret (xe_and (xe_callB call_isiA d_isi (by rfl) B.b_isinstance (by decide +kernel) (xa_cons (xv 0) (xa_cons (xe_ty (n := "int") (by rfl) B.b_int (by decide +kernel)) xa_nil))) (xe_one (xe_not (xe_callB call_isiA d_isi (by rfl) B.b_isinstance (by decide +kernel) (xa_cons (xv 0) (xa_cons (xe_ty (n := "bool") (by rfl) B.b_bool (by decide +kernel)) xa_nil)))))))), fun ds M Φ h => ?_⟩)
  obtain ⟨d, rfl, hp, k⟩ := h
  cases d <;> first | (cases hp; done) | skip
  all_goals walk_at "dl"
  all_goals exact i_drp0 k

abbrev s_need_whole : Stmt := topS 10
abbrev nn_need_whole : List Str := ["value", "low", "high", "word"]
theorem sc_need_whole : FnScope nn_need_whole ["value", "low", "high", "word"] (defScope s_need_whole) := ⟨rfl, rfl, rfl, by decide +kernel, rfl, by decide +kernel, by decide +kernel⟩
theorem ok_need_whole {P : Program} {w : World} {K : PySem.W.Frag} {mg : Str → Option Value} {base : Heap} {T : List (Addr × Str)} {cBadNumber : Addr} (B : Blt mg) (G_is_whole : Has P w K mg base T "is_whole" 1 1 fs_is_whole) (X_BadNumber : ExcMk P w K mg base "BadNumber" cBadNumber "word") {f : Addr} {fd : FuncData} (F : Fun K "need_whole" "need_whole" s_need_whole f fd) (hm : mg "need_whole" = some (.ref f)) (hb : L2.Binds K fd ["value", "low", "high", "word"] []) : HasX P w K mg base T "need_whole" 3 4 (fs_need_whole cBadNumber) := by
  refine okDX (k := 2) F sc_need_whole hm hb len_need_whole mono_need_whole (fun cdv A outer s H E Ξ hr tk hX => ⟨_, (xss_one (xs_if (xt_w (xw_or (xt_not (xt_val (xe_call G_is_whole (hr.mono (by decide)) (by rfl) (xa_cons (xv 0) xa_nil)))) (xw_or (xt_w (xw_and (xt_isNot (xv 1) xe_non) (xw_and1 (xt_lt (xv 0) (xv 1))))) (xw_or1 (xt_w (xw_and (xt_isNot (xv 2) xe_non) (xw_and1 (xt_gt (xv 0) (xv 2)))))))))
      (xss_one (xs_raise1 X_BadNumber rfl tk hX (hr.mono (by decide)) (by rfl) (xv 3)))
      xss_nil)), fun ds M Φ h => ?_⟩)
  obtain ⟨d, lo, hi, word, rfl, hp, k1, k2⟩ := h
  walk_at "dl"
  refine ⟨d, rfl, hp, ?_⟩
  cases d <;> first | (cases hp; done) | skip
  all_goals walk_at "dl"
  all_goals first | exact k2 rfl | skip
  rename_i i
  refine i_itnT ?_
  walk_at "dl"
  refine i_itD (fun e => ?_) fun e => ?_
  · walk_at "dl"
    refine k2 ?_
    rw [inW, decide_eq_false (by omega), Bool.false_and]
  · walk_at "dl"
    refine i_itD (fun e2 => ?_) fun e2 => ?_
    · walk_at "dl"
      refine k2 ?_
      rw [inW, decide_eq_false (show ¬ i ≤ hi by omega), Bool.and_false]
    · walk_at "dl"
      refine i_drp0 (k1 ?_)
      rw [inW, decide_eq_true (show lo ≤ i by omega), decide_eq_true (show i ≤ hi by omega)]
      rfl

abbrev s_is_below : Stmt := topS 11
abbrev nn_is_below : List Str := ["value", "bound"]
theorem sc_is_below : FnScope nn_is_below ["value", "bound"] (defScope s_is_below) := ⟨rfl, rfl, rfl, by decide +kernel, rfl, by decide +kernel, by decide +kernel⟩
theorem ok_is_below {P : Program} {w : World} {K : PySem.W.Frag} {mg : Str → Option Value} {base : Heap} {T : List (Addr × Str)}  (B : Blt mg) (G_is_whole : Has P w K mg base T "is_whole" 1 1 fs_is_whole) {f : Addr} {fd : FuncData} (F : Fun K "is_below" "is_below" s_is_below f fd) (hm : mg "is_below" = some (.ref f)) (hb : L2.Binds K fd ["value", "bound"] []) : Has P w K mg base T "is_below" 2 2 fs_is_below := by
  refine okD (k := 1) F sc_is_below hm hb len_is_below (fun cdv A outer s H E hr => ⟨_, (xss_one (xs_ret (xe_and (xe_call G_is_whole (hr.mono (by decide)) (by rfl) (xa_cons (xv 0) xa_nil)) (xe_one (xe_chain op_le d_cmp op_lt d_cmp xe_int (xv 0) (xv 1)))))), fun ds M Φ h => ?_⟩)
  obtain ⟨d, b, rfl, hp, k⟩ := h
  walk_at "dl"
  refine ⟨d, rfl, hp, ?_⟩
  cases d <;> first | (cases hp; done) | skip
  all_goals walk_at "dl"
  all_goals first | exact i_drp0 k | skip
  refine i_itD (fun e => ?_) fun e => ?_
  · walk_at "dl"
    rw [isBelowD, decide_eq_true e, Bool.true_and] at k
    exact i_drp0 k
  · rw [isBelowD, decide_eq_false e, Bool.false_and] at k
    exact i_drp0 k

abbrev s_is_pair : Stmt := topS 12
abbrev nn_is_pair : List Str := ["n", "value", "place"]
theorem sc_is_pair : FnScope nn_is_pair ["n", "value"] (defScope s_is_pair) := ⟨rfl, rfl, rfl, by decide +kernel, rfl, by decide +kernel, by decide +kernel⟩
theorem ok_is_pair {P : Program} {w : World} {K : PySem.W.Frag} {mg : Str → Option Value} {base : Heap} {T : List (Addr × Str)}  (B : Blt mg) (G_is_below : Has P w K mg base T "is_below" 2 2 fs_is_below) {f : Addr} {fd : FuncData} (F : Fun K "is_pair" "is_pair" s_is_pair f fd) (hm : mg "is_pair" = some (.ref f)) (hb : L2.Binds K fd ["n", "value"] []) : Has P w K mg base T "is_pair" 3 2 fs_is_pair := by
  refine okD (k := 2) F sc_is_pair hm hb len_is_pair (fun cdv A outer s H E hr => ⟨_, (xss_cons (xs_if (xt_w (xw_or (xt_not (xt_val (xe_callB call_isiA d_isi (by rfl) B.b_isinstance (by decide +kernel) (xa_cons (xv 1) (xa_cons (xe_ty (n := "tuple") (by rfl) B.b_tuple (by decide +kernel)) xa_nil))))) (xw_or (xt_ne hr.units (xe_callB call_len d_len (by rfl) B.b_len (by decide +kernel) (xa_cons (xv 1) xa_nil)) xe_int) (xw_or1 (xt_not (xt_val (xe_callB (cr_all rfl) d_all (by rfl) B.b_all (by decide +kernel) (xa_cons (xe_lc rfl sc_is_pair.nd (xi_any (xv 1)) (blkOk_by (own := [("place", 2)]) (N := nn_is_pair) (sc := defScope s_is_pair) (by decide +kernel)) (tg_name (by decide)) (fun _ _ _ _ _ => pg_name (i := 2) sc_is_pair.nd rfl (by first | exact Or.inl rfl | exact Or.inr rfl)) (fun _ _ _ _ _ => xts_nil) (fun _ _ _ _ _ => (xe_call G_is_below (hr.mono (by decide)) (by rfl) (xa_cons (xv 2) (xa_cons (xv 0) xa_nil))))) xa_nil))))))))
      (xss_one (xs_ret xe_bl))
      xss_nil)
      (xss_one (xs_ret (xe_le (xe_item (xv 1) xe_int) (xe_item (xv 1) xe_int))))), fun ds M Φ h => ?_⟩)
  obtain ⟨n, d, rfl, hp, k⟩ := h
  cases d <;> first | (cases hp; done) | skip
  all_goals walk_at "dl"
  all_goals first | exact i_drp0 k | skip
  rename_i xs
  refine i_itN (fun e => ?_) fun e => ?_
  · obtain ⟨a, b, rfl⟩ : ∃ a b, xs = [a, b] := by
      match xs, e with
      | [a, b], _ => exact ⟨a, b, rfl⟩
      | [], e => cases e
      | [_], e => cases e
      | _ :: _ :: _ :: _, e => simp at e; omega
    walk_at "dl"
    rw [puD, Bool.and_eq_true] at hp
    refine lc_by (fun x => some (.bl (isBelowD x n))) ?_ (fun x hx M' _ F hF => ?_) ?_
    · exact szl (show 2 ≤ _ by decide)
    · walk_at "dl"
      exact ⟨x, n, rfl, puAll_mem hp.1 hx, hF⟩
    · walk_at "dl"
      refine i_all (bs := [isBelowD a n, isBelowD b n]) rfl ?_
      walk_at "dl"
      refine i_itnB (fun e => ?_) fun e => ?_
      · simp only [List.all_cons, List.all_nil, Bool.and_true, id, Bool.and_eq_true] at e
        obtain ⟨e1, e2⟩ := e
        cases a <;> first | (simp [isBelowD] at e1; done) | skip
        cases b <;> first | (simp [isBelowD] at e2; done) | skip
        walk_at "dl"
        rw [isPairD, e1, e2, Bool.true_and, Bool.true_and] at k
        exact i_drp0 k
      · walk_at "dl"
        have e' : isPairD n (.tup [a, b]) = false := by
          simp only [List.all_cons, List.all_nil, Bool.and_true, id] at e
          show (isBelowD a n && isBelowD b n && _) = false
          rw [e, Bool.false_and]
        rw [e'] at k
        exact i_drp0 k
  · walk_at "dl"
    have : isPairD n (.tup xs) = false := by
      match xs, e with
      | [a, b], e => exact absurd rfl e
      | [], _ => rfl
      | [_], _ => rfl
      | _ :: _ :: _ :: _, _ => rfl
    rw [this] at k
    exact i_drp0 k

abbrev s_is_web : Stmt := topS 13
abbrev nn_is_web : List Str := ["value", "tie"]
theorem sc_is_web : FnScope nn_is_web ["value"] (defScope s_is_web) := ⟨rfl, rfl, rfl, by decide +kernel, rfl, by decide +kernel, by decide +kernel⟩
theorem ok_is_web {P : Program} {w : World} {K : PySem.W.Frag} {mg : Str → Option Value} {base : Heap} {T : List (Addr × Str)}  (B : Blt mg) (G_is_pair : Has P w K mg base T "is_pair" 3 2 fs_is_pair) (G_is_whole : Has P w K mg base T "is_whole" 1 1 fs_is_whole) {f : Addr} {fd : FuncData} (F : Fun K "is_web" "is_web" s_is_web f fd) (hm : mg "is_web" = some (.ref f)) (hb : L2.Binds K fd ["value"] []) : Has P w K mg base T "is_web" 4 1 fs_is_web := by
  refine okD (k := 3) F sc_is_web hm hb len_is_web (fun cdv A outer s H E hr => ⟨_, (xss_cons (xs_if (xt_w (xw_or (xt_not (xt_val (xe_callB call_isiA d_isi (by rfl) B.b_isinstance (by decide +kernel) (xa_cons (xv 0) (xa_cons (xe_ty (n := "tuple") (by rfl) B.b_tuple (by decide +kernel)) xa_nil))))) (xw_or (xt_ne hr.units (xe_callB call_len d_len (by rfl) B.b_len (by decide +kernel) (xa_cons (xv 0) xa_nil)) xe_int) (xw_or (xt_not (xt_val (xe_callB call_isiA d_isi (by rfl) B.b_isinstance (by decide +kernel) (xa_cons (xe_item (xv 0) xe_int) (xa_cons (xe_ty (n := "str") (by rfl) B.b_str (by decide +kernel)) xa_nil))))) (xw_or1 (xt_ne hr.units (xe_item (xv 0) xe_int) xe_str))))))
      (xss_one (xs_ret xe_bl))
      xss_nil)
      (xss_cons (xs_if (xt_w (xw_or (xt_not (xt_val (xe_call G_is_whole (hr.mono (by decide)) (by rfl) (xa_cons (xe_item (xv 0) xe_int) xa_nil)))) (xw_or (xt_not (xt_chain op_le d_cmp op_le d_cmp xe_int (xe_item (xv 0) xe_int) (xe_gint' (by rfl) B.c_MOST_PLACES))) (xw_or1 (xt_not (xt_val (xe_callB call_isiA d_isi (by rfl) B.b_isinstance (by decide +kernel) (xa_cons (xe_item (xv 0) xe_int) (xa_cons (xe_ty (n := "tuple") (by rfl) B.b_tuple (by decide +kernel)) xa_nil)))))))))
      (xss_one (xs_ret xe_bl))
      xss_nil)
      (xss_one (xs_ret (xe_and (xe_le (xe_callB call_len d_len (by rfl) B.b_len (by decide +kernel) (xa_cons (xe_item (xv 0) xe_int) xa_nil)) (xe_gint' (by rfl) B.c_MOST_TIES)) (xe_one (xe_callB (cr_all rfl) d_all (by rfl) B.b_all (by decide +kernel) (xa_cons (xe_lc rfl sc_is_web.nd (xi_any (xe_item (xv 0) xe_int)) (blkOk_by (own := [("tie", 1)]) (N := nn_is_web) (sc := defScope s_is_web) (by decide +kernel)) (tg_name (by decide)) (fun _ _ _ _ _ => pg_name (i := 1) sc_is_web.nd rfl (by first | exact Or.inl rfl | exact Or.inr rfl)) (fun _ _ _ _ _ => xts_nil) (fun _ _ _ _ _ => (xe_call G_is_pair (hr.mono (by decide)) (by rfl) (xa_cons (xe_item (xv 0) xe_int) (xa_cons (xv 1) xa_nil))))) xa_nil)))))))), fun ds M Φ h => ?_⟩)
  obtain ⟨d, rfl, hp, k⟩ := h
  cases d <;> first | (cases hp; done) | skip
  all_goals walk_at "dl"
  all_goals first | exact i_drp0 k | skip
  rename_i xs
  refine i_itN (fun e => ?_) fun e => ?_
  · obtain ⟨a, b, c, rfl⟩ : ∃ a b c, xs = [a, b, c] := by
      match xs, e with
      | [a, b, c], _ => exact ⟨a, b, c, rfl⟩
      | [], e => cases e
      | [_], e => cases e
      | [_, _], e => cases e
      | _ :: _ :: _ :: _ :: _, e => simp at e; omega
    rw [puD, Bool.and_eq_true, puAll, puAll, puAll, Bool.and_eq_true, Bool.and_eq_true, Bool.and_eq_true] at hp
    obtain ⟨⟨h1, h2, h3, hz⟩, hy⟩ := hp
    walk_at "dl"
    cases a <;> first | (cases h1; done) | skip
    all_goals walk_at "dl"
    all_goals first | exact i_drp0 k | skip
    rename_i x
    refine i_itN (fun ex => ?_) fun ex => ?_
    · walk_at "dl"
      refine ⟨b, rfl, h2, ?_⟩
      cases b <;> first | (cases h2; done) | skip
      all_goals walk_at "dl"
      all_goals first | exact i_drp0 k | skip
      rename_i n
      have sk : ∀ q : Prop, (¬ (1 ≤ n ∧ n ≤ 8) → isW3 (.str x) (.int n) c = false) := by
        intro _ hn
        cases c <;> try rfl
        rw [isW3, decide_eq_true ex, Bool.true_and]
        by_cases h8 : (1 : Int) ≤ n
        · rw [decide_eq_true h8, decide_eq_false (show ¬ n ≤ 8 from fun z => hn ⟨h8, z⟩)]; rfl
        · rw [decide_eq_false h8]; rfl
      refine i_itnT ?_
      walk_at "dl"
      refine i_itD (fun e1 => ?_) fun e1 => ?_
      · walk_at "dl"
        refine i_itN (fun e2 => ?_) fun e2 => ?_
        · cases c <;> first | (cases h3; done) | skip
          all_goals walk_at "dl"
          all_goals first | exact i_drp0 k | skip
          rename_i ts
          refine i_itD (fun e3 => ?_) fun e3 => ?_
          · walk_at "dl"
            rw [puD, Bool.and_eq_true] at h3
            refine lc_by (fun t => some (.bl (isPairD n t))) ?_ (fun t ht M' _ F hF => ?_) ?_
            · exact szl (by omega)
            · walk_at "dl"
              exact ⟨n, t, rfl, puAll_mem h3.1 ht, hF⟩
            · walk_at "dl"
              refine i_all (bs := ts.map (isPairD n)) ?_ ?_
              · show some _ = some _
                rw [List.map_map, List.filterMap_eq_map']
                rfl
              · rw [show isWebD (.tup [.str x, .int n, .tup ts]) = (ts.map (isPairD n)).all id from by
                  rw [isWebD, isW3, decide_eq_true ex, decide_eq_true e1, decide_eq_true e2, decide_eq_true e3, List.all_map]
                  rfl] at k
                exact i_drp0 k
          · rw [show isWebD (.tup [.str x, .int n, .tup ts]) = false from by
              rw [isWebD, isW3, decide_eq_true ex, decide_eq_true e1, decide_eq_true e2, decide_eq_false e3]
              rfl] at k
            exact i_drp0 k
        · walk_at "dl"
          rw [show isWebD (.tup [.str x, .int n, c]) = false from sk True fun z => e2 z.2] at k
          exact i_drp0 k
      · walk_at "dl"
        rw [show isWebD (.tup [.str x, .int n, c]) = false from sk True fun z => e1 z.1] at k
        exact i_drp0 k
    · walk_at "dl"
      have : isWebD (.tup [.str x, b, c]) = false := by
        rw [isWebD]
        cases b <;> try rfl
        cases c <;> try rfl
        rw [isW3, decide_eq_false ex]
        rfl
      rw [this] at k
      exact i_drp0 k
  · walk_at "dl"
    have : isWebD (.tup xs) = false := by
      match xs, e with
      | [a, b, c], e => exact absurd rfl e
      | [], _ => rfl
      | [_], _ => rfl
      | [_, _], _ => rfl
      | _ :: _ :: _ :: _ :: _, _ => rfl
    rw [this] at k
    exact i_drp0 k

abbrev s_need_web : Stmt := topS 14
abbrev nn_need_web : List Str := ["web"]
theorem sc_need_web : FnScope nn_need_web ["web"] (defScope s_need_web) := ⟨rfl, rfl, rfl, by decide +kernel, rfl, by decide +kernel, by decide +kernel⟩
theorem ok_need_web {P : Program} {w : World} {K : PySem.W.Frag} {mg : Str → Option Value} {base : Heap} {T : List (Addr × Str)} {cBadWeb : Addr} (B : Blt mg) (G_is_web : Has P w K mg base T "is_web" 4 1 fs_is_web) (X_BadWeb : ExcS K mg "BadWeb" cBadWeb) {f : Addr} {fd : FuncData} (F : Fun K "need_web" "need_web" s_need_web f fd) (hm : mg "need_web" = some (.ref f)) (hb : L2.Binds K fd ["web"] []) : HasX P w K mg base T "need_web" 5 1 (fs_need_web cBadWeb) := by
  refine okDX (k := 4) F sc_need_web hm hb len_need_web mono_need_web (fun cdv A outer s H E Ξ hr tk hX => ⟨_, (xss_one (xs_if (xt_not (xt_val (xe_call G_is_web (hr.mono (by decide)) (by rfl) (xa_cons (xv 0) xa_nil))))
      (xss_one (xs_raise0 rfl tk hX (X_BadWeb.mk_ (by rfl))))
      xss_nil)), fun ds M Φ h => ?_⟩)
  obtain ⟨d, rfl, hp, k1, k2⟩ := h
  walk_at "dl"
  refine ⟨d, rfl, hp, ?_⟩
  walk_at "dl"
  refine i_itnB (fun e => ?_) fun e => ?_
  · walk_at "dl"
    exact i_drp0 (k1 e)
  · walk_at "dl"
    exact k2 e

abbrev s_need_place : Stmt := topS 15
abbrev nn_need_place : List Str := ["web", "place"]
theorem sc_need_place : FnScope nn_need_place ["web", "place"] (defScope s_need_place) := ⟨rfl, rfl, rfl, by decide +kernel, rfl, by decide +kernel, by decide +kernel⟩
theorem ok_need_place {P : Program} {w : World} {K : PySem.W.Frag} {mg : Str → Option Value} {base : Heap} {T : List (Addr × Str)} {cBadPlace : Addr} (B : Blt mg) (G_is_below : Has P w K mg base T "is_below" 2 2 fs_is_below) (X_BadPlace : ExcS K mg "BadPlace" cBadPlace) {f : Addr} {fd : FuncData} (F : Fun K "need_place" "need_place" s_need_place f fd) (hm : mg "need_place" = some (.ref f)) (hb : L2.Binds K fd ["web", "place"] []) : HasX P w K mg base T "need_place" 3 2 fs_need_place := by
  refine okDX (k := 2) F sc_need_place hm hb len_need_place mono_need_place (fun cdv A outer s H E Ξ hr tk hX => ⟨_, (xss_one (xs_if (xt_not (xt_val (xe_call G_is_below (hr.mono (by decide)) (by rfl) (xa_cons (xv 1) (xa_cons (xe_item (xv 0) xe_int) xa_nil)))))
      (xss_one (xs_raise0 rfl tk hX (X_BadPlace.mk_ (by rfl))))
      xss_nil)), fun ds M Φ h => ?_⟩)
  obtain ⟨n, a, ts, rfl, h0, h1, k⟩ := h
  unfold webD
  walk_at "dl"
  refine ⟨.int a, n, rfl, rfl, ?_⟩
  walk_at "dl"
  refine i_itnB (fun e => ?_) fun e => ?_
  · walk_at "dl"
    exact i_drp0 k
  · rw [isBelowD, decide_eq_true h0, decide_eq_true h1] at e
    cases e

abbrev s_made : Stmt := topS 16
abbrev nn_made : List Str := ["n", "ties", "a", "b"]
theorem sc_made : FnScope nn_made ["n", "ties"] (defScope s_made) := ⟨rfl, rfl, rfl, by decide +kernel, rfl, by decide +kernel, by decide +kernel⟩
theorem ok_made {P : Program} {w : World} {K : PySem.W.Frag} {mg : Str → Option Value} {base : Heap} {T : List (Addr × Str)}  (B : Blt mg)  {f : Addr} {fd : FuncData} (F : Fun K "made" "made" s_made f fd) (hm : mg "made" = some (.ref f)) (hb : L2.Binds K fd ["n", "ties"] []) : Has P w K mg base T "made" 1 2 fs_made := by
  refine okD (k := 0) F sc_made hm hb len_made (fun cdv A outer s H E hr => ⟨_, (xss_one (xs_ret (xe_tup (xa_cons xe_str (xa_cons (xv 0) (xa_cons (xe_callTy call_tuple_of d_tuple (by rfl) B.b_tuple (by decide +kernel) (xa_cons (xe_lc rfl sc_made.nd (xi_any (xv 1)) (blkOk_by (own := [("a", 2), ("b", 3)]) (N := nn_made) (sc := defScope s_made) (by decide +kernel)) (tg_pair (i := 2) (j := 3) (by decide) (by decide)) (fun _ _ _ _ _ => pg_tup rfl (pgs_cons (pg_name (i := 2) sc_made.nd rfl (by first | exact Or.inl rfl | exact Or.inr rfl)) (pgs_cons (pg_name (i := 3) sc_made.nd rfl (by first | exact Or.inl rfl | exact Or.inr rfl)) pgs_nil))) (fun _ _ _ _ _ => xts_nil) (fun _ _ _ _ _ => (xe_tup (xa_cons (xe_callB (call_min2 rfl) d_min2 (by rfl) B.b_min (by decide +kernel) (xa_cons (xv 2) (xa_cons (xv 3) xa_nil))) (xa_cons (xe_callB (call_max2 rfl) d_max2 (by rfl) B.b_max (by decide +kernel) (xa_cons (xv 2) (xa_cons (xv 3) xa_nil))) xa_nil))))) xa_nil)) xa_nil)))))), fun ds M Φ h => ?_⟩)
  obtain ⟨n, ts, rfl, hl, k⟩ := h
  walk_at "dl"
  refine lc_by (fun x => some (match x with
    | .tup [.int a, .int b] => pairD (nrm (a, b))
    | _ => .non)) ?_ (fun x hx M' _ F hF => ?_) ?_
  · rw [List.length_map]; exact szl (by omega)
  · obtain ⟨t, ht, rfl⟩ := List.mem_map.mp hx
    unfold pairD
    walk_at "dl"
    exact hF
  · walk_at "dl"
    refine i_drp0 ?_
    have e : (ts.map pairD).filterMap (fun x => some (match x with
        | .tup [.int a, .int b] => pairD (nrm (a, b))
        | _ => .non)) = (ts.map nrm).map pairD := by
      rw [List.filterMap_eq_map', List.map_map, List.map_map]
      rfl
    rw [e]
    exact k

abbrev s_need_dyes : Stmt := topS 19
abbrev nn_need_dyes : List Str := ["web", "k"]
theorem sc_need_dyes : FnScope nn_need_dyes ["web", "k"] (defScope s_need_dyes) := ⟨rfl, rfl, rfl, by decide +kernel, rfl, by decide +kernel, by decide +kernel⟩
theorem ok_need_dyes {P : Program} {w : World} {K : PySem.W.Frag} {mg : Str → Option Value} {base : Heap} {T : List (Addr × Str)} {cBadNumber : Addr} {cBadWeb : Addr} (B : Blt mg) (G_need_web : HasX P w K mg base T "need_web" 5 1 (fs_need_web cBadWeb)) (G_need_whole : HasX P w K mg base T "need_whole" 3 4 (fs_need_whole cBadNumber)) {f : Addr} {fd : FuncData} (F : Fun K "need_dyes" "need_dyes" s_need_dyes f fd) (hm : mg "need_dyes" = some (.ref f)) (hb : L2.Binds K fd ["web", "k"] []) : HasX P w K mg base T "need_dyes" 6 2 (fs_need_dyes cBadWeb cBadNumber) := by
  refine okDX (k := 5) F sc_need_dyes hm hb len_need_dyes mono_need_dyes (fun cdv A outer s H E Ξ hr tk hX => ⟨_, (xss_cons (xs_expr (xe_callX G_need_web tk hX (hr.mono (by decide)) (by rfl) (xa_cons (xv 0) xa_nil)))
      (xss_one (xs_expr (xe_callX G_need_whole tk hX (hr.mono (by decide)) (by rfl) (xa_cons (xv 1) (xa_cons xe_int (xa_cons (xe_gint' (by rfl) B.c_MOST_DYES) (xa_cons xe_str xa_nil)))))))), fun ds M Φ h => ?_⟩)
  obtain ⟨d, kd, rfl, hp, hk, k1, k2, k3⟩ := h
  walk_at "dl"
  refine ⟨d, rfl, hp, fun e => ?_, fun e => k2 e⟩
  walk_at "dl"
  refine ⟨kd, 0, 1000000, _, rfl, hk, fun e2 => ?_, fun e2 => k3 e e2⟩
  walk_at "dl"
  exact i_drp0 (k1 e e2)

abbrev s_is_tied : Stmt := topS 20
abbrev nn_is_tied : List Str := ["web", "a", "b"]
theorem sc_is_tied : FnScope nn_is_tied ["web", "a", "b"] (defScope s_is_tied) := ⟨rfl, rfl, rfl, by decide +kernel, rfl, by decide +kernel, by decide +kernel⟩
theorem ok_is_tied {P : Program} {w : World} {K : PySem.W.Frag} {mg : Str → Option Value} {base : Heap} {T : List (Addr × Str)}  (B : Blt mg)  {f : Addr} {fd : FuncData} (F : Fun K "is_tied" "is_tied" s_is_tied f fd) (hm : mg "is_tied" = some (.ref f)) (hb : L2.Binds K fd ["web", "a", "b"] []) : Has P w K mg base T "is_tied" 1 3 fs_is_tied := by
  refine okD (k := 0) F sc_is_tied hm hb len_is_tied (fun cdv A outer s H E hr => ⟨_, (xss_one (xs_ret (xe_inDT (units65 hr) (xe_tup (xa_cons (xe_callB (call_min2 rfl) d_min2 (by rfl) B.b_min (by decide +kernel) (xa_cons (xv 1) (xa_cons (xv 2) xa_nil))) (xa_cons (xe_callB (call_max2 rfl) d_max2 (by rfl) B.b_max (by decide +kernel) (xa_cons (xv 1) (xa_cons (xv 2) xa_nil))) xa_nil))) (xe_item (xv 0) xe_int)))), fun ds M Φ h => ?_⟩)
  obtain ⟨n, a, b, ts, rfl, k⟩ := h
  unfold webD
  walk_at "dl"
  refine ⟨.tuple [.int (min a b), .int (max a b)], ts.map fun t => .tuple [.int t.1, .int t.2], rfl, ?_, ?_, ?_, ?_⟩
  · show (D.pyAll (ts.map pairD)).map PyData.tuple = _
    rw [py_pairs]
    rfl
  · unfold SeqAt.shaped
    simp [PyData.canLay0, PyData.canLayAll0, PyData.depth, PyData.depthAll]
  · unfold SeqAt.shaped
    have := depth_pairs ts
    simp only [PyData.canLay0, lay_pairs, PyData.depth]
    simp
    omega
  · refine i_drp0 ?_
    rw [if_neg Bool.false_ne_true, List.any_map]
    have e : (ts.any ((fun z => PyData.eqv z (.tuple [.int (min a b), .int (max a b)])) ∘ fun t : Int × Int => PyData.tuple [.int t.1, .int t.2])) = tiedI ts a b := by
      unfold tiedI
      congr 1
      funext t
      show PyData.eqv (.tuple [.int t.1, .int t.2]) (.tuple [.int (min a b), .int (max a b)]) = _
      simp [PyData.eqv, PyData.eqvAll]
      rw [Bool.eq_iff_iff]
      simp
    rw [e]
    exact k

abbrev s_is_dyeing_in : Stmt := topS 21
abbrev nn_is_dyeing_in : List Str := ["web", "k", "value", "dye", "a", "b"]
theorem sc_is_dyeing_in : FnScope nn_is_dyeing_in ["web", "k", "value"] (defScope s_is_dyeing_in) := ⟨rfl, rfl, rfl, by decide +kernel, rfl, by decide +kernel, by decide +kernel⟩
theorem ok_is_dyeing_in {P : Program} {w : World} {K : PySem.W.Frag} {mg : Str → Option Value} {base : Heap} {T : List (Addr × Str)}  (B : Blt mg) (G_is_below : Has P w K mg base T "is_below" 2 2 fs_is_below) {f : Addr} {fd : FuncData} (F : Fun K "is_dyeing_in" "is_dyeing_in" s_is_dyeing_in f fd) (hm : mg "is_dyeing_in" = some (.ref f)) (hb : L2.Binds K fd ["web", "k", "value"] []) : Has P w K mg base T "is_dyeing_in" 3 3 fs_is_dyeing_in := by
  refine okD (k := 2) F sc_is_dyeing_in hm hb len_is_dyeing_in (fun cdv A outer s H E hr => ⟨_, (xss_cons (xs_if (xt_w (xw_or (xt_not (xt_val (xe_callB call_isiA d_isi (by rfl) B.b_isinstance (by decide +kernel) (xa_cons (xv 2) (xa_cons (xe_ty (n := "tuple") (by rfl) B.b_tuple (by decide +kernel)) xa_nil))))) (xw_or (xt_ne hr.units (xe_callB call_len d_len (by rfl) B.b_len (by decide +kernel) (xa_cons (xv 2) xa_nil)) (xe_item (xv 0) xe_int)) (xw_or1 (xt_not (xt_val (xe_callB (cr_all rfl) d_all (by rfl) B.b_all (by decide +kernel) (xa_cons (xe_lc rfl sc_is_dyeing_in.nd (xi_any (xv 2)) (blkOk_by (own := [("dye", 3)]) (N := nn_is_dyeing_in) (sc := defScope s_is_dyeing_in) (by decide +kernel)) (tg_name (by decide)) (fun _ _ _ _ _ => pg_name (i := 3) sc_is_dyeing_in.nd rfl (by first | exact Or.inl rfl | exact Or.inr rfl)) (fun _ _ _ _ _ => xts_nil) (fun _ _ _ _ _ => (xe_call G_is_below (hr.mono (by decide)) (by rfl) (xa_cons (xv 3) (xa_cons (xv 1) xa_nil))))) xa_nil))))))))
      (xss_one (xs_ret xe_bl))
      xss_nil)
      (xss_one (xs_ret (xe_callB (cr_all rfl) d_all (by rfl) B.b_all (by decide +kernel) (xa_cons (xe_lc rfl sc_is_dyeing_in.nd (xi_any (xe_item (xv 0) xe_int)) (blkOk_by (own := [("a", 4), ("b", 5)]) (N := nn_is_dyeing_in) (sc := defScope s_is_dyeing_in) (by decide +kernel)) (tg_pair (i := 4) (j := 5) (by decide) (by decide)) (fun _ _ _ _ _ => pg_tup rfl (pgs_cons (pg_name (i := 4) sc_is_dyeing_in.nd rfl (by first | exact Or.inl rfl | exact Or.inr rfl)) (pgs_cons (pg_name (i := 5) sc_is_dyeing_in.nd rfl (by first | exact Or.inl rfl | exact Or.inr rfl)) pgs_nil))) (fun _ _ _ _ _ => xts_nil) (fun _ _ _ _ _ => (xe_ne hr.units (xe_item (xv 2) (xv 4)) (xe_item (xv 2) (xv 5))))) xa_nil))))), fun ds M Φ h => ?_⟩)
  obtain ⟨n, k, ts, v, rfl, gw, hv, kk⟩ := h
  have hn1 := gw.lo
  have hn8 := gw.hi
  unfold webD
  cases v <;> first | (cases hv; done) | skip
  all_goals walk_at "dl"
  all_goals first | exact i_drp0 kk | skip
  rename_i xs
  refine i_itN (fun e => ?_) fun e => ?_
  · have hx : puAll xs = true := by rw [puD, Bool.and_eq_true] at hv; exact hv.1
    have hlen : xs.length ≤ 1000000 := by rw [puD, Bool.and_eq_true, decide_eq_true_eq] at hv; exact hv.2
    walk_at "dl"
    refine lc_by (fun x => some (.bl (isBelowD x k))) (szl (by omega)) (fun x hxm M' _ F hF => ?_) ?_
    · walk_at "dl"
      exact ⟨x, k, rfl, puAll_mem hx hxm, hF⟩
    · walk_at "dl"
      refine i_all (bs := xs.map fun x => isBelowD x k) ?_ ?_
      · show some _ = some _
        rw [List.map_map, List.filterMap_eq_map']
        rfl
      · walk_at "dl"
        have ed : xs.all (dyeOk k) = (xs.map fun x => isBelowD x k).all id := by
          rw [List.all_map]
          congr 1
          funext x
          cases x <;> rfl
        refine i_itnB (fun e2 => ?_) fun e2 => ?_
        · walk_at "dl"
          have hi : ∀ x ∈ xs, ∃ j : Int, x = .int j := fun x hxm => by
            have := List.all_eq_true.mp e2 _ (List.mem_map_of_mem hxm)
            cases x <;> first | exact ⟨_, rfl⟩ | (simp [isBelowD] at this; done)
          have at_ : ∀ a : Int, 0 ≤ a → a < n → atI xs a = some (.int (intAt xs a)) := fun a h0 h1 => by
            obtain ⟨a, rfl⟩ := Int.eq_ofNat_of_zero_le h0
            have hl : a < xs.length := by omega
            obtain ⟨j, hj⟩ := hi xs[a] (List.getElem_mem hl)
            refine atI_of ?_
            unfold intAt
            rw [show ((a : Int)).toNat = a by omega, List.getElem?_eq_getElem hl, hj]
          refine lc_by (fun x => some (match x with
            | .tup [.int a, .int b] => .bl (!decide (intAt xs a = intAt xs b))
            | _ => .non)) ?_ (fun x hxm M' _ F hF => ?_) ?_
          · rw [List.length_map]; exact szl (by have := gw.len; omega)
          · obtain ⟨t, ht, rfl⟩ := List.mem_map.mp hxm
            obtain ⟨h0, h1, h2⟩ := gw.ok t ht
            unfold pairD
            unfold pairD at hF
            walk_at "dl"
            refine i_ixt (at_ _ h0 (by omega)) ?_
            walk_at "dl"
            refine i_ixt (at_ _ (by omega) h2) ?_
            walk_at "dl"
            exact hF
          · walk_at "dl"
            refine i_all (bs := ts.map fun t => !decide (intAt xs t.1 = intAt xs t.2)) ?_ ?_
            · show some _ = some _
              rw [List.map_map, List.filterMap_eq_map', List.map_map]
              rfl
            · rw [show isDyD n ts k (.tup xs) = (ts.map fun t => !decide (intAt xs t.1 = intAt xs t.2)).all id from by
                rw [isDyD, ed, e2, decide_eq_true e, Bool.true_and, Bool.true_and, List.all_map]
                rfl] at kk
              exact i_drp0 kk
        · walk_at "dl"
          rw [show isDyD n ts k (.tup xs) = false from by rw [isDyD, ed, e2, Bool.and_false, Bool.false_and]] at kk
          exact i_drp0 kk
  · walk_at "dl"
    rw [show isDyD n ts k (.tup xs) = false from by rw [isDyD, decide_eq_false e, Bool.false_and, Bool.false_and]] at kk
    exact i_drp0 kk

abbrev s_with_place : Stmt := topS 22
abbrev nn_with_place : List Str := ["web", "place", "parting", "found", "at", "own", "other"]
theorem sc_with_place : FnScope nn_with_place ["web", "place", "parting"] (defScope s_with_place) := ⟨rfl, rfl, rfl, by decide +kernel, rfl, by decide +kernel, by decide +kernel⟩
theorem ok_with_place {P : Program} {w : World} {K : PySem.W.Frag} {mg : Str → Option Value} {base : Heap} {T : List (Addr × Str)}  (B : Blt mg) (G_is_tied : Has P w K mg base T "is_tied" 1 3 fs_is_tied) {f : Addr} {fd : FuncData} (F : Fun K "with_place" "with_place" s_with_place f fd) (hm : mg "with_place" = some (.ref f)) (hb : L2.Binds K fd ["web", "place", "parting"] []) : Has P w K mg base T "with_place" 2 3 fs_with_place := by
  refine okD (k := 1) F sc_with_place hm hb len_with_place (fun cdv A outer s H E hr => ⟨_, (xss_cons (xs_set (i := 3) sc_with_place.nd rfl (by first | exact Or.inl rfl | exact Or.inr rfl) (xe_lstM (xa_cons (xe_add (xv 2) (xe_tup (xa_cons (xe_tup (xa_cons (xv 1) xa_nil)) xa_nil))) xa_nil)))
      (xss_cons (xs_for (vs := [4, 5]) PassesOwn.never rfl (xi_enumT (by rfl) B.b_enumerate (xa_cons (xv 2) xa_nil)) (pg_tup rfl (pgs_cons (pg_name (i := 4) sc_with_place.nd rfl (by first | exact Or.inl rfl | exact Or.inr rfl)) (pgs_cons (pg_name (i := 5) sc_with_place.nd rfl (by first | exact Or.inl rfl | exact Or.inr rfl)) pgs_nil))) (tg_pair (i := 4) (j := 5) (by decide) (by decide))
      (xss_one (xs_if (xt_not (xt_val (xe_callB (cr_any rfl) d_any (by rfl) B.b_any (by decide +kernel) (xa_cons (xe_lc rfl sc_with_place.nd (xi_any (xv 5)) (blkOk_by (own := [("other", 6)]) (N := nn_with_place) (sc := defScope s_with_place) (by decide +kernel)) (tg_name (by decide)) (fun _ _ _ _ _ => pg_name (i := 6) sc_with_place.nd rfl (by first | exact Or.inl rfl | exact Or.inr rfl)) (fun _ _ _ _ _ => xts_nil) (fun _ _ _ _ _ => (xe_call G_is_tied (hr.mono (by decide)) (by rfl) (xa_cons (xv 0) (xa_cons (xv 1) (xa_cons (xv 6) xa_nil)))))) xa_nil))))
      (xss_one (xs_expr (xe_append (xv 3) (xe_add (xe_add (xe_slice (xv 2) xo_no (xo_at (xv 4))) (xe_tup (xa_cons (xe_add (xv 5) (xe_tup (xa_cons (xv 1) xa_nil))) xa_nil))) (xe_slice (xv 2) (xo_at (xe_add (xv 4) xe_int)) xo_no)))))
      xss_nil)))
      (xss_one (xs_ret (xe_fz (xv 3)))))), fun ds M Φ h => ?_⟩)
  obtain ⟨n, ts, g, rfl, hl, ht, k⟩ := h
  have pl : partD g = .tup ((blocks g).map natD) := rfl
  rw [pl]
  have hb : ((blocks g).map natD).length = topD g := by rw [List.length_map, blocks_len]
  walk_at "dl"
  refine i_addt (szl (by rw [hb, List.length_singleton]; omega)) ?_
  walk_at "dl"
  intro p np
  walk_at "dl"
  rw [part_new]
  refine for_by (fun i Γ M' => ∃ y4 y5 y6, Γ = [some (webD n ts), some (.int (g.length : Int)), some (.tup ((blocks g).map natD)), some (.ptr p), y4, y5, y6] ∧ M' = M.set p (.lst (partL ts g i))) ⟨_, _, _, rfl, rfl⟩ ?_ ?_
  · rintro i x Γ M' FF hx ⟨y4, y5, y6, rfl, rfl⟩ hF
    obtain ⟨d, h1, rfl⟩ := enD_get hx
    have hi : i < topD g := by
      have := (List.getElem?_eq_some_iff.mp h1).1
      omega
    obtain ⟨b, h2, rfl⟩ := map_at h1
    rw [blocks_get hi] at h2
    obtain rfl := Option.some.inj h2
    have bl := blk_len (g := g) (d := i)
    rw [natD_I]
    walk_at "dl"
    refine lc_by (fun x => some (match x with
      | .int o => .bl (tiedI ts (g.length : Int) o)
      | _ => .non)) ?_ (fun x hx M' _ F hF => ?_) ?_
    · rw [List.length_map, natI_len]; exact szl (by omega)
    · obtain ⟨o, ho, rfl⟩ := List.mem_map.mp hx
      walk_at "dl"
      exact ⟨n, _, _, ts, rfl, hF⟩
    · walk_at "dl"
      refine ⟨(natI (blk g i)).map (tiedI ts (g.length : Int)), ?_, ?_⟩
      · show some _ = some _
        rw [List.map_map, List.filterMap_eq_map', List.map_map]
        rfl
      · have e0 : ((natI (blk g i)).map (tiedI ts (g.length : Int))).any id = (barred ts g).contains i := by
          rw [← blk_barred]
          unfold natI
          rw [List.map_map, List.any_map]
          rfl
        rw [e0]
        walk_at "dl"
        refine i_itnB (fun e => ?_) fun e => ?_
        · exact hF _ _ ⟨_, _, _, rfl, by rw [partL_no e]⟩
        · walk_at "dl"
          rw [cutTake]
          have hi1 : ((i : Int) + 1) = ((i + 1 : Nat) : Int) := by omega
          refine i_addt (szl (by rw [List.length_map, natI_len, List.length_singleton]; omega)) ?_
          walk_at "dl"
          refine i_addt (szl (by rw [List.length_take, hb, List.length_singleton]; omega)) ?_
          walk_at "dl"
          rw [hi1, cutDrop]
          refine i_addt (szl (by rw [List.length_append, List.length_take, List.length_drop, hb, List.length_singleton]; omega)) ?_
          walk_at "dl"
          rw [part_at hi]
          have pln := partL_len (ts := ts) (g := g) (i := i)
          refine i_append Mem.set_same (szlt (by omega)) ?_
          rw [Mem.set_set, ← partL_yes e]
          exact hF _ _ ⟨_, _, _, rfl, rfl⟩
  · rintro Γ M' ⟨y4, y5, y6, rfl, rfl⟩
    rw [enD_len, hb, partL_end]
    walk_at "dl"
    dsimp only
    rw [Mem.set_same]
    dsimp only
    rw [del_set np]
    exact i_drp0 k

abbrev s_counts_of_partings : Stmt := topS 23
abbrev nn_counts_of_partings : List Str := ["web", "level", "place", "found", "parting", "later"]
theorem sc_counts_of_partings : FnScope nn_counts_of_partings ["web"] (defScope s_counts_of_partings) := ⟨rfl, rfl, rfl, by decide +kernel, rfl, by decide +kernel, by decide +kernel⟩
theorem ok_counts_of_partings {P : Program} {w : World} {K : PySem.W.Frag} {mg : Str → Option Value} {base : Heap} {T : List (Addr × Str)}  (B : Blt mg) (G_is_tied : Has P w K mg base T "is_tied" 1 3 fs_is_tied) (G_with_place : Has P w K mg base T "with_place" 2 3 fs_with_place) {f : Addr} {fd : FuncData} (F : Fun K "counts_of_partings" "counts_of_partings" s_counts_of_partings f fd) (hm : mg "counts_of_partings" = some (.ref f)) (hb : L2.Binds K fd ["web"] []) : Has P w K mg base T "counts_of_partings" 3 1 fs_counts_of_partings := by
  refine okD (k := 2) F sc_counts_of_partings hm hb len_counts_of_partings (fun cdv A outer s H E hr => ⟨_, (xss_cons (xs_set (i := 1) sc_counts_of_partings.nd rfl (by first | exact Or.inl rfl | exact Or.inr rfl) (xe_lst (xa_cons (xe_tup xa_nil) xa_nil)))
      (xss_cons (xs_for (vs := [2]) PassesOwn.never rfl (xi_rng1 (by rfl) B.b_range (xa_cons (xe_item (xv 0) xe_int) xa_nil)) (pg_name (i := 2) sc_counts_of_partings.nd rfl (by first | exact Or.inl rfl | exact Or.inr rfl)) (tg_name (by decide))
      (xss_cons (xs_if (xt_val (xe_call G_is_tied (hr.mono (by decide)) (by rfl) (xa_cons (xv 0) (xa_cons (xv 2) (xa_cons (xv 2) xa_nil)))))
      (xss_one (xs_set (i := 1) sc_counts_of_partings.nd rfl (by first | exact Or.inl rfl | exact Or.inr rfl) (xe_lst xa_nil)))
      xss_nil)
      (xss_one (xs_setLc2 (i := 1) (vs1 := [5]) rfl sc_counts_of_partings.nd rfl rfl (sw_true rfl rfl rfl (by decide +kernel)) (xi_any (xv 1)) (blkOk_by (own := [("parting", 4), ("later", 5)]) (N := nn_counts_of_partings) (sc := defScope s_counts_of_partings) (by decide +kernel)) (by decide) (tg_name (by decide)) (tg_name (by decide)) (fun _ _ _ _ _ => pg_name (i := 4) sc_counts_of_partings.nd rfl (by first | exact Or.inl rfl | exact Or.inr rfl)) (fun _ _ _ _ _ => xts_nil) (fun _ _ _ _ _ => (xi_any (xe_call G_with_place (hr.mono (by decide)) (by rfl) (xa_cons (xv 0) (xa_cons (xv 2) (xa_cons (xv 4) xa_nil)))))) (fun _ _ _ _ _ => pg_name (i := 5) sc_counts_of_partings.nd rfl (by first | exact Or.inl rfl | exact Or.inr rfl)) (fun _ _ _ _ _ => xts_nil) (fun _ _ _ _ _ => (xv 5))))))
      (xss_cons (xs_set (i := 3) sc_counts_of_partings.nd rfl (by first | exact Or.inl rfl | exact Or.inr rfl) (xe_mulM (xe_lst (xa_cons xe_int xa_nil)) (xe_add (xe_item (xv 0) xe_int) xe_int)))
      (xss_cons (xs_for (vs := [4]) PassesOwn.never rfl (xi_any (xv 1)) (pg_name (i := 4) sc_counts_of_partings.nd rfl (by first | exact Or.inl rfl | exact Or.inr rfl)) (tg_name (by decide))
      (xss_one (xs_lput (xv 3) (xe_callB call_len d_len (by rfl) B.b_len (by decide +kernel) (xa_cons (xv 4) xa_nil)) (xe_add (xe_item (xv 3) (xe_callB call_len d_len (by rfl) B.b_len (by decide +kernel) (xa_cons (xv 4) xa_nil))) xe_int))))
      (xss_one (xs_ret (xe_callTy call_tuple_of d_tuple (by rfl) B.b_tuple (by decide +kernel) (xa_cons (xv 3) xa_nil)))))))), fun ds M Φ h => ?_⟩)
  obtain ⟨n, ts, rfl, gw, k⟩ := h
  have hn := gw.hi
  have hn1 := gw.lo
  have en : ((n.toNat : Nat) : Int) = n := Int.toNat_of_nonneg (by omega)
  unfold webD
  walk_at "dl"
  refine ⟨by omega, by omega, ?_⟩
  have lt : (rgD 0 n).length = n.toNat := by rw [rgD_len, Int.sub_zero]
  refine for_by (fun i Γ M' => ∃ y2 y3 y4 y5, Γ = [some (.tup [.str "web", .int n, .tup (ts.map pairD)]), some (.lst ((GL ts i).map partD)), y2, y3, y4, y5] ∧ M' = M) ⟨_, _, _, _, rfl, rfl⟩ ?_ ?_
  · rintro i x Γ M' FF hx ⟨y2, y3, y4, y5, rfl, rfl⟩ hF
    obtain ⟨hi, rfl⟩ := rgD_get hx
    rw [Int.zero_add] at hi hx ⊢
    have gl := GL_len (ts := ts) i
    have fl := fct_le (p := i) (by omega)
    have fl1 := fct_le (p := i + 1) (by omega)
    walk_at "dl"
    refine ⟨n, _, _, ts, rfl, ?_⟩
    walk_at "dl"
    refine i_itB (fun e => ?_) fun e => ?_
    · walk_at "dl"
      refine lc2_of (α := List Nat) partD [] (fun _ => []) (by rw [List.flatMap_nil]; exact szl (by decide)) (fun x hx => by cases hx) ?_
      have e0 : GL ts (i + 1) = [] := by rw [GL, if_pos (show tied ts i i = true from e)]
      simp only [e0, List.map_nil] at hF
      exact hF _ _ ⟨_, _, _, _, rfl, rfl⟩
    · walk_at "dl"
      have eg : GL ts (i + 1) = (GL ts i).flatMap (exts ts) := by rw [GL, if_neg (by rw [show tied ts i i = false from e]; exact Bool.false_ne_true)]
      have el : (GL ts i).flatMap (fun g => (exts ts g).map partD) = (GL ts (i + 1)).map partD := by rw [eg, List.map_flatMap]
      have gl1 := GL_len (ts := ts) (i + 1)
      refine lc2_of (α := List Nat) partD (GL ts i) (fun g => (exts ts g).map partD) (by rw [el, List.length_map]; exact szl (by omega)) (fun g hg p acc hp hz F hF' => ?_) ?_
      · obtain ⟨rg, rl⟩ := GL_mem.mp hg
        have tl := rg.top_len
        walk_at "dl"
        refine ⟨n, ts, g, by rw [rl]; rfl, by omega, by omega, ?_⟩
        walk_at "dl"
        refine compIn_map some (fun y hy M' sb F2 hF2 => ?_) hp _ _ (fun z hz => hz) hz ?_
        · walk_at "dl"
          exact hF2
        · rw [List.filterMap_some]
          exact hF'
      · rw [el]
        exact hF _ _ ⟨_, _, _, _, rfl, rfl⟩
  · rintro Γ M0 ⟨y2, y3, y4, y5, rfl, rfl⟩
    rw [lt]
    walk_at "dl"
    refine ⟨_, rfl, by omega, by omega, szl (by simp only [List.length_cons, List.length_nil]; omega), fun p np => ?_⟩
    rw [show (List.replicate (n + 1).toNat [D.int 0]).flatten = (cntI [] n.toNat).map D.int from by
      rw [cntI_nil, List.map_replicate, List.flatten_replicate_singleton, show (n + 1).toNat = n.toNat + 1 by omega]]
    walk_at "dl"
    have gl := GL_len (ts := ts) n.toNat
    have fl := fct_le (p := n.toNat) (by omega)
    refine for_by (fun i Γ M' => ∃ y2 y4 y5, Γ = [some (.tup [.str "web", .int n, .tup (ts.map pairD)]), some (.lst ((GL ts n.toNat).map partD)), y2, some (.ptr p), y4, y5] ∧ M' = M0.set p (.lst ((cntI ((GL ts n.toNat).take i) n.toNat).map .int))) ⟨_, _, _, rfl, rfl⟩ ?_ ?_
    · rintro i x Γ M' FF hx ⟨y2, y4, y5, rfl, rfl⟩ hF
      obtain ⟨g, hg, rfl⟩ := map_at hx
      obtain ⟨rg, rl⟩ := GL_mem.mp (List.mem_of_getElem? hg)
      have tl := rg.top_len
      rw [show partD g = .tup ((blocks g).map natD) from rfl]
      walk_at "dl"
      rw [part_len]
      have ha : atI ((cntI ((GL ts n.toNat).take i) n.toNat).map D.int) (topD g : Int) = some (.int ((((GL ts n.toNat).take i).countP fun q => decide (topD q = topD g) : Nat) : Int)) := by
        refine atI_of ?_
        rw [List.getElem?_map, cntI_at (by omega)]
        rfl
      refine ⟨_, _, lsR_p Mem.set_same, ha, ?_⟩
      walk_at "dl"
      rw [part_len]
      refine ⟨p, _, _, topD g, rfl, rfl, Mem.set_same, ?_, ?_⟩
      · rw [List.length_map, cntI_len]
        exact ixN_of (by omega)
      · rw [Mem.set_set, show ((cntI ((GL ts n.toNat).take i) n.toNat).map D.int).set (topD g) (.int ((((GL ts n.toNat).take i).countP fun q => decide (topD q = topD g) : Nat) + 1 : Int)) = (cntI ((GL ts n.toNat).take (i + 1)) n.toNat).map .int from by
          rw [take_at hg, cntI_snoc (by omega), List.map_set]]
        exact hF _ _ ⟨_, _, _, rfl, rfl⟩
    · rintro Γ M' ⟨y2, y4, y5, rfl, rfl⟩
      rw [List.length_map, List.take_length]
      walk_at "dl"
      exact i_drp k (sub_set np)

abbrev s_falling_product : Stmt := topS 24
abbrev nn_falling_product : List Str := ["k", "many", "found", "lap"]
theorem sc_falling_product : FnScope nn_falling_product ["k", "many"] (defScope s_falling_product) := ⟨rfl, rfl, rfl, by decide +kernel, rfl, by decide +kernel, by decide +kernel⟩
theorem ok_falling_product {P : Program} {w : World} {K : PySem.W.Frag} {mg : Str → Option Value} {base : Heap} {T : List (Addr × Str)}  (B : Blt mg)  {f : Addr} {fd : FuncData} (F : Fun K "falling_product" "falling_product" s_falling_product f fd) (hm : mg "falling_product" = some (.ref f)) (hb : L2.Binds K fd ["k", "many"] []) : Has P w K mg base T "falling_product" 1 2 fs_falling_product := by
  refine okD (k := 0) F sc_falling_product hm hb len_falling_product (fun cdv A outer s H E hr => ⟨_, (xss_cons (xs_set (i := 2) sc_falling_product.nd rfl (by first | exact Or.inl rfl | exact Or.inr rfl) xe_int)
      (xss_cons (xs_for (vs := [3]) PassesOwn.never rfl (xi_rng1 (by rfl) B.b_range (xa_cons (xv 1) xa_nil)) (pg_name (i := 3) sc_falling_product.nd rfl (by first | exact Or.inl rfl | exact Or.inr rfl)) (tg_name (by decide))
      (xss_one (xs_set (i := 2) sc_falling_product.nd rfl (by first | exact Or.inl rfl | exact Or.inr rfl) (xe_mul (xv 2) (xe_sub (xv 0) (xv 3))))))
      (xss_one (xs_ret (xv 2))))), fun ds M Φ h => ?_⟩)
  obtain ⟨k, m, rfl, h0, h1, hm, kk⟩ := h
  walk_at "dl"
  refine ⟨by omega, by omega, ?_⟩
  refine for_by (fun i Γ M' => ∃ y3, Γ = [some (.int k), some (.int (m : Int)), some (.int (fallP k i)), y3] ∧ M' = M) ⟨_, rfl, rfl⟩ ?_ ?_
  · rintro i x Γ M' FF hx ⟨y3, rfl, rfl⟩ hF
    obtain ⟨hi, rfl⟩ := rgD_get hx
    walk_at "dl"
    rw [show fallP k i * (k - (0 + (i : Int))) = fallP k (i + 1) by rw [Int.zero_add]; rfl]
    exact hF _ _ ⟨_, rfl, rfl⟩
  · rintro Γ M' ⟨y3, rfl, rfl⟩
    rw [rgD_len]
    walk_at "dl"
    rw [show ((m : Int) - 0).toNat = m by omega]
    exact i_drp0 kk

abbrev s_many_dyeings : Stmt := topS 25
abbrev nn_many_dyeings : List Str := ["web", "k", "size", "many"]
theorem sc_many_dyeings : FnScope nn_many_dyeings ["web", "k"] (defScope s_many_dyeings) := ⟨rfl, rfl, rfl, by decide +kernel, rfl, by decide +kernel, by decide +kernel⟩
theorem ok_many_dyeings {P : Program} {w : World} {K : PySem.W.Frag} {mg : Str → Option Value} {base : Heap} {T : List (Addr × Str)} {cBadNumber : Addr} {cBadWeb : Addr} (B : Blt mg) (G_counts_of_partings : Has P w K mg base T "counts_of_partings" 3 1 fs_counts_of_partings) (G_falling_product : Has P w K mg base T "falling_product" 1 2 fs_falling_product) (G_need_dyes : HasX P w K mg base T "need_dyes" 6 2 (fs_need_dyes cBadWeb cBadNumber)) {f : Addr} {fd : FuncData} (F : Fun K "many_dyeings" "many_dyeings" s_many_dyeings f fd) (hm : mg "many_dyeings" = some (.ref f)) (hb : L2.Binds K fd ["web", "k"] []) : HasX P w K mg base T "many_dyeings" 7 2 fs_many_dyeings := by
  refine okDX (k := 6) F sc_many_dyeings hm hb len_many_dyeings mono_many_dyeings (fun cdv A outer s H E Ξ hr tk hX => ⟨_, (xss_cons (xs_expr (xe_callX G_need_dyes tk hX (hr.mono (by decide)) (by rfl) (xa_cons (xv 0) (xa_cons (xv 1) xa_nil))))
      (xss_one (xs_ret (xe_callB (cr_sum rfl) d_sum (by rfl) B.b_sum (by decide +kernel) (xa_cons (xe_lc rfl sc_many_dyeings.nd (xi_enumT (by rfl) B.b_enumerate (xa_cons (xe_call G_counts_of_partings (hr.mono (by decide)) (by rfl) (xa_cons (xv 0) xa_nil)) xa_nil)) (blkOk_by (own := [("size", 2), ("many", 3)]) (N := nn_many_dyeings) (sc := defScope s_many_dyeings) (by decide +kernel)) (tg_pair (i := 2) (j := 3) (by decide) (by decide)) (fun _ _ _ _ _ => pg_tup rfl (pgs_cons (pg_name (i := 2) sc_many_dyeings.nd rfl (by first | exact Or.inl rfl | exact Or.inr rfl)) (pgs_cons (pg_name (i := 3) sc_many_dyeings.nd rfl (by first | exact Or.inl rfl | exact Or.inr rfl)) pgs_nil))) (fun _ _ _ _ _ => xts_nil) (fun _ _ _ _ _ => (xe_mul (xv 3) (xe_call G_falling_product (hr.mono (by decide)) (by rfl) (xa_cons (xv 1) (xa_cons (xv 2) xa_nil)))))) xa_nil))))), fun ds M Φ h => ?_⟩)
  obtain ⟨n, ts, k, rfl, gw, hk, kk⟩ := h
  have hn := gw.hi
  have hn1 := gw.lo
  have hw : inW 0 1000000 (.int (k : Int)) = true := by rw [inW, decide_eq_true (by omega), decide_eq_true (by omega)]; rfl
  walk_at "dl"
  refine ⟨_, _, rfl, good_pu gw, rfl, fun _ _ => ?_, fun e => (by rw [good_is gw] at e; cases e), fun _ e => (by rw [hw] at e; cases e)⟩
  walk_at "dl"
  refine ⟨n, ts, rfl, gw, ?_⟩
  walk_at "dl"
  refine lc_by (fun x => some (match x with
    | .tup [.int s, .int m] => .int (m * fallP (k : Int) s.toNat)
    | _ => .non)) ?_ (fun x hx M' _ F hF => ?_) ?_
  · rw [enD_len]
    unfold cntD
    rw [List.length_map, List.length_map, List.length_range]
    exact szl (by omega)
  · obtain ⟨i, hi⟩ := List.getElem?_of_mem hx
    obtain ⟨d, h1, rfl⟩ := enD_get hi
    obtain ⟨h2, rfl⟩ := cntD_at h1
    have hc := cnt_le (ts := ts) (n := n.toNat) (s := i) (by omega)
    walk_at "dl"
    refine ⟨_, i, rfl, by omega, by omega, by omega, ?_⟩
    walk_at "dl"
    dsimp only at hF
    rw [show ((i : Int)).toNat = i by omega] at hF
    exact hF
  · walk_at "dl"
    rw [cnt_map]
    refine ⟨_, (List.range (n.toNat + 1)).map fun s => ((cnt ts n.toNat s : Nat) : Int) * fallP (k : Int) s, rfl, ?_, ?_⟩
    · show some _ = some _
      rw [List.map_map, List.filterMap_eq_map']
      congr 1
    · exact i_drp0 kk

abbrev s_open_dyes : Stmt := topS 26
abbrev nn_open_dyes : List Str := ["web", "k", "dyes", "place", "barred", "used", "other", "dye"]
theorem sc_open_dyes : FnScope nn_open_dyes ["web", "k", "dyes"] (defScope s_open_dyes) := ⟨rfl, rfl, rfl, by decide +kernel, rfl, by decide +kernel, by decide +kernel⟩
theorem ok_open_dyes {P : Program} {w : World} {K : PySem.W.Frag} {mg : Str → Option Value} {base : Heap} {T : List (Addr × Str)}  (B : Blt mg) (G_is_tied : Has P w K mg base T "is_tied" 1 3 fs_is_tied) {f : Addr} {fd : FuncData} (F : Fun K "open_dyes" "open_dyes" s_open_dyes f fd) (hm : mg "open_dyes" = some (.ref f)) (hb : L2.Binds K fd ["web", "k", "dyes"] []) : Has P w K mg base T "open_dyes" 2 3 fs_open_dyes := by
  refine okD (k := 1) F sc_open_dyes hm hb len_open_dyes (fun cdv A outer s H E hr => ⟨_, (xss_cons (xs_set (i := 3) sc_open_dyes.nd rfl (by first | exact Or.inl rfl | exact Or.inr rfl) (xe_callB call_len d_len (by rfl) B.b_len (by decide +kernel) (xa_cons (xv 2) xa_nil)))
      (xss_cons (xs_set (i := 4) sc_open_dyes.nd rfl (by first | exact Or.inl rfl | exact Or.inr rfl) (xe_lc rfl sc_open_dyes.nd (xi_rng1 (by rfl) B.b_range (xa_cons (xv 3) xa_nil)) (blkOk_by (own := [("other", 6)]) (N := nn_open_dyes) (sc := defScope s_open_dyes) (by decide +kernel)) (tg_name (by decide)) (fun _ _ _ _ _ => pg_name (i := 6) sc_open_dyes.nd rfl (by first | exact Or.inl rfl | exact Or.inr rfl)) (fun _ _ _ _ _ => (xts_one (xt_val (xe_call G_is_tied (hr.mono (by decide)) (by rfl) (xa_cons (xv 0) (xa_cons (xv 6) (xa_cons (xv 3) xa_nil))))))) (fun _ _ _ _ _ => (xe_item (xv 2) (xv 6)))))
      (xss_cons (xs_set (i := 5) sc_open_dyes.nd rfl (by first | exact Or.inl rfl | exact Or.inr rfl) (xe_if (xt_ne hr.units (xv 2) (xe_tup xa_nil)) (xe_add (xe_callB (cr_maxT rfl) d_maxT (by rfl) B.b_max (by decide +kernel) (xa_cons (xv 2) xa_nil)) xe_int) xe_int))
      (xss_one (xs_ret (xe_if (xt_val (xe_call G_is_tied (hr.mono (by decide)) (by rfl) (xa_cons (xv 0) (xa_cons (xv 3) (xa_cons (xv 3) xa_nil))))) (xe_lst xa_nil) (xe_lc rfl sc_open_dyes.nd (xi_rng1 (by rfl) B.b_range (xa_cons (xe_callB (call_min2 rfl) d_min2 (by rfl) B.b_min (by decide +kernel) (xa_cons (xv 1) (xa_cons (xe_add (xv 5) xe_int) xa_nil))) xa_nil)) (blkOk_by (own := [("dye", 7)]) (N := nn_open_dyes) (sc := defScope s_open_dyes) (by decide +kernel)) (tg_name (by decide)) (fun _ _ _ _ _ => pg_name (i := 7) sc_open_dyes.nd rfl (by first | exact Or.inl rfl | exact Or.inr rfl)) (fun _ _ _ _ _ => (xts_one (xt_notIn (xv 7) (xv 4)))) (fun _ _ _ _ _ => (xv 7))))))))), fun ds M Φ h => ?_⟩)
  obtain ⟨n, ts, k, g, rfl, gw, hl, ht, kk⟩ := h
  rw [natD_I]
  walk_at "dl"
  rw [List.length_map, natI_len]
  refine ⟨by omega, by omega, ?_⟩
  refine lc_by (barF ts g) ?_ (fun x hx M' _ F hF => ?_) ?_
  · rw [rgD_len]; exact szl (by omega)
  · obtain ⟨o, o1, o2, rfl⟩ := rgD_mem hx
    obtain ⟨o, rfl⟩ := Int.eq_ofNat_of_zero_le o1
    unfold barF at hF
    dsimp only at hF
    walk_at "dl"
    refine ⟨n, _, _, ts, rfl, ?_⟩
    walk_at "dl"
    refine i_itB (fun e => ?_) fun e => ?_
    · rw [if_pos e] at hF
      walk_at "dl"
      refine i_ixt (natD_at (by omega)) ?_
      rw [show ((o : Int)).toNat = o by omega] at hF
      exact hF
    · rw [e, if_neg Bool.false_ne_true] at hF
      exact hF
  · rw [bar_list]
    walk_at "dl"
    refine ne_tupI ?_
    apply i_two
    · intro e hC
      walk_at "dl"
      refine ⟨natI g, rfl, ?_, fun m m1 m2 => ?_⟩
      · cases q : natI g with
        | nil => rw [q] at e; cases e
        | cons a b => exact Nat.succ_pos _
      · walk_at "dl"
        rw [top_max m1 m2]
        exact hC
    · intro e hC
      have : g = [] := by
        cases g with
        | nil => rfl
        | cons a b => cases e
      subst this
      exact hC
    · walk_at "dl"
      refine ⟨n, _, _, ts, rfl, ?_⟩
      walk_at "dl"
      refine i_itB (fun e => ?_) fun e => ?_
      · walk_at "dl"
        unfold opensD opens at kk
        rw [if_pos (show tied ts g.length g.length = true from e)] at kk
        exact i_drp0 kk
      · walk_at "dl"
        refine ⟨by omega, by omega, ?_⟩
        refine lc_by (openF ts g) ?_ (fun x hx M' _ F hF => ?_) ?_
        · rw [rgD_len]; exact szl (by omega)
        · obtain ⟨o, o1, o2, rfl⟩ := rgD_mem hx
          unfold openF at hF
          dsimp only at hF
          walk_at "dl"
          refine i_notInq rfl rfl (flat_ints _) (fun x z e => by cases e) ?_
          rw [eqF_ints]
          refine i_itN (fun e => ?_) fun e => ?_
          · rw [if_pos e] at hF
            exact hF
          · rw [if_neg e] at hF
            walk_at "dl"
            exact hF
        · rw [open_list (show tied ts g.length g.length = false from e)]
          exact i_drp0 kk

abbrev s_first_dyeing : Stmt := topS 27
abbrev nn_first_dyeing : List Str := ["web", "k", "dyes", "dye", "found"]
theorem sc_first_dyeing : FnScope nn_first_dyeing ["web", "k", "dyes"] (defScope s_first_dyeing) := ⟨rfl, rfl, rfl, by decide +kernel, rfl, by decide +kernel, by decide +kernel⟩
theorem ok_first_dyeing {P : Program} {w : World} {K : PySem.W.Frag} {mg : Str → Option Value} {base : Heap} {T : List (Addr × Str)}  (B : Blt mg) (G_open_dyes : Has P w K mg base T "open_dyes" 2 3 fs_open_dyes) {f : Addr} {fd : FuncData} (F : Fun K "first_dyeing" "first_dyeing" s_first_dyeing f fd) (hm : mg "first_dyeing" = some (.ref f)) (hb : L2.Binds K fd ["web", "k", "dyes"] []) : ∀ d : Nat, Has P w K mg base T "first_dyeing" (3 + d) 3 (fs_first_dyeing d) := by
  intro d
  induction d with
  | zero => exact okD (k := 2) F sc_first_dyeing hm hb (fun _ _ _ h => h.elim) (fun cdv A outer s H E hr => ⟨_, xss_never, fun _ _ _ h => h.elim⟩)
  | succ d G_first_dyeing =>
    refine okD (k := 3 + d) F sc_first_dyeing hm hb (len_first_dyeing (d + 1)) (fun cdv A outer s H E hr => ⟨_, (xss_cons (xs_if (xt_eq hr.units (xe_callB call_len d_len (by rfl) B.b_len (by decide +kernel) (xa_cons (xv 2) xa_nil)) (xe_item (xv 0) xe_int))
      (xss_one (xs_ret (xv 2)))
      xss_nil)
      (xss_cons (xs_for (vs := [3]) PassesOwn.never rfl (xi_any (xe_call G_open_dyes (hr.mono (by omega)) (by rfl) (xa_cons (xv 0) (xa_cons (xv 1) (xa_cons (xv 2) xa_nil))))) (pg_name (i := 3) sc_first_dyeing.nd rfl (by first | exact Or.inl rfl | exact Or.inr rfl)) (tg_name (by decide))
      (xss_cons (xs_set (i := 4) sc_first_dyeing.nd rfl (by first | exact Or.inl rfl | exact Or.inr rfl) (xe_call G_first_dyeing (hr.mono (by omega)) (by rfl) (xa_cons (xv 0) (xa_cons (xv 1) (xa_cons (xe_add (xv 2) (xe_tup (xa_cons (xv 3) xa_nil))) xa_nil)))))
      (xss_one (xs_if (xt_isNot (xv 4) xe_non)
      (xss_one (xs_ret (xv 4)))
      xss_nil))))
      (xss_one (xs_ret xe_non)))), fun ds M Φ h => ?_⟩)
    obtain ⟨n, ts, k, g, rfl, gw, hg, hl, hr, kk⟩ := h
    have hn := gw.hi
    have hn1 := gw.lo
    have htl := hg.top_len
    have en : ((n.toNat : Nat) : Int) = n := Int.toNat_of_nonneg (by omega)
    rw [natD_I]
    unfold webD
    walk_at "dl"
    rw [List.length_map, natI_len]
    refine i_itD (fun e => ?_) fun e => ?_
    · walk_at "dl"
      rw [show n.toNat - g.length = 0 by omega] at kk
      rw [← natD_I]
      exact i_drp0 kk
    · walk_at "dl"
      refine ⟨n, ts, k, g, by rw [← natD_I]; rfl, gw, by omega, by omega, ?_⟩
      unfold opensD
      walk_at "dl"
      obtain ⟨r', hr'⟩ : ∃ r', n.toNat - g.length = r' + 1 := ⟨n.toNat - g.length - 1, by omega⟩
      rw [hr'] at kk
      refine for_by (fun i Γ M' => ∃ y3 y4, Γ = [some (.tup [.str "web", .int n, .tup (ts.map pairD)]), some (.int (k : Int)), some (.tup ((natI g).map .int)), y3, y4] ∧ M' = M ∧ firstF ts k (r' + 1) g = ((opens ts k g).drop i).findSome? fun d => firstF ts k r' (g ++ [d])) ⟨_, _, rfl, rfl, rfl⟩ ?_ ?_
      · rintro i x Γ M' FF hx ⟨y3, y4, rfl, rfl, ef⟩ hF
        obtain ⟨c, hc, rfl⟩ := map_at hx
        obtain ⟨c1, c2, c3, c4⟩ := opens_mem.mp (List.mem_of_getElem? hc)
        rw [drop_at hc, List.findSome?_cons] at ef
        walk_at "dl"
        refine i_addt (szl (by rw [List.length_map, natI_len, List.length_singleton]; omega)) ?_
        walk_at "dl"
        rw [natD_snoc]
        cases d with
        | zero => omega
        | succ d =>
          refine ⟨n, ts, k, g ++ [c], rfl, gw, hg.snoc c1 c3 c4, by rw [List.length_append, List.length_singleton]; omega, by rw [List.length_append, List.length_singleton]; omega, ?_⟩
          rw [List.length_append, List.length_singleton, show n.toNat - (g.length + 1) = r' by omega]
          cases q : firstF ts k r' (g ++ [c]) with
          | some v =>
            rw [q] at ef
            rw [ef] at kk
            show _
            unfold optN natD
            walk_at "dl"
            try with_reducible refine i_itT ?_
            walk_at "dl"
            exact i_drp0 kk
          | none =>
            rw [q] at ef
            unfold optN
            walk_at "dl"
            try with_reducible refine i_itF ?_
            walk_at "dl"
            exact hF _ _ ⟨_, _, rfl, rfl, ef⟩
      · rintro Γ M' ⟨y3, y4, rfl, rfl, ef⟩
        rw [List.length_map, List.drop_length] at ef
        rw [ef] at kk
        walk_at "dl"
        exact i_drp0 kk

abbrev s_shut_tree : Stmt := topS 28
abbrev nn_shut_tree : List Str := ["web", "k", "dyes", "dye"]
theorem sc_shut_tree : FnScope nn_shut_tree ["web", "k", "dyes"] (defScope s_shut_tree) := ⟨rfl, rfl, rfl, by decide +kernel, rfl, by decide +kernel, by decide +kernel⟩
theorem ok_shut_tree {P : Program} {w : World} {K : PySem.W.Frag} {mg : Str → Option Value} {base : Heap} {T : List (Addr × Str)}  (B : Blt mg) (G_open_dyes : Has P w K mg base T "open_dyes" 2 3 fs_open_dyes) {f : Addr} {fd : FuncData} (F : Fun K "shut_tree" "shut_tree" s_shut_tree f fd) (hm : mg "shut_tree" = some (.ref f)) (hb : L2.Binds K fd ["web", "k", "dyes"] []) : ∀ d : Nat, Has P w K mg base T "shut_tree" (3 + d) 3 (fs_shut_tree d) := by
  intro d
  induction d with
  | zero => exact okD (k := 2) F sc_shut_tree hm hb (fun _ _ _ h => h.elim) (fun cdv A outer s H E hr => ⟨_, xss_never, fun _ _ _ h => h.elim⟩)
  | succ d G_shut_tree =>
    refine okD (k := 3 + d) F sc_shut_tree hm hb (len_shut_tree (d + 1)) (fun cdv A outer s H E hr => ⟨_, (xss_one (xs_ret (xe_callTy call_tuple_of d_tuple (by rfl) B.b_tuple (by decide +kernel) (xa_cons (xe_lc rfl sc_shut_tree.nd (xi_any (xe_call G_open_dyes (hr.mono (by omega)) (by rfl) (xa_cons (xv 0) (xa_cons (xv 1) (xa_cons (xv 2) xa_nil))))) (blkOk_by (own := [("dye", 3)]) (N := nn_shut_tree) (sc := defScope s_shut_tree) (by decide +kernel)) (tg_name (by decide)) (fun _ _ _ _ _ => pg_name (i := 3) sc_shut_tree.nd rfl (by first | exact Or.inl rfl | exact Or.inr rfl)) (fun _ _ _ _ _ => xts_nil) (fun _ _ _ _ _ => (xe_call G_shut_tree (hr.mono (by omega)) (by rfl) (xa_cons (xv 0) (xa_cons (xv 1) (xa_cons (xe_add (xv 2) (xe_tup (xa_cons (xv 3) xa_nil))) xa_nil)))))) xa_nil)))), fun ds M Φ h => ?_⟩)
    obtain ⟨n, ts, k, g, rfl, gw, hg, hl, hr, hnone, kk⟩ := h
    have hn := gw.hi
    have hn1 := gw.lo
    have htl := hg.top_len
    obtain ⟨r', hr'⟩ : ∃ r', n.toNat - g.length = r' + 1 := by
      cases q : n.toNat - g.length with
      | zero => rw [q] at hnone; cases hnone
      | succ r' => exact ⟨r', rfl⟩
    rw [hr'] at kk hnone
    have hall := List.findSome?_eq_none_iff.mp hnone
    rw [natD_I]
    walk_at "dl"
    refine ⟨n, ts, k, g, by rw [← natD_I], gw, by omega, by omega, ?_⟩
    unfold opensD
    walk_at "dl"
    refine lc_by (fun x => some (match x with
      | .int c => shutT ts k r' (g ++ [c.toNat])
      | _ => .non)) ?_ (fun x hx M' _ F hF => ?_) ?_
    · have := opens_len (ts := ts) (k := k) (g := g)
      rw [List.length_map]
      exact szl (by omega)
    · obtain ⟨c, hc, rfl⟩ := List.mem_map.mp hx
      obtain ⟨c1, c2, c3, c4⟩ := opens_mem.mp hc
      have hcn := hall c hc
      walk_at "dl"
      refine i_addt (szl (by rw [List.length_map, natI_len, List.length_singleton]; omega)) ?_
      walk_at "dl"
      rw [natD_snoc]
      cases d with
      | zero => omega
      | succ d =>
        refine ⟨n, ts, k, g ++ [c], rfl, gw, hg.snoc c1 c3 c4, by rw [List.length_append, List.length_singleton]; omega, by rw [List.length_append, List.length_singleton]; omega, ?_, ?_⟩
        · rw [List.length_append, List.length_singleton, show n.toNat - (g.length + 1) = r' by omega]; exact hcn
        · rw [List.length_append, List.length_singleton, show n.toNat - (g.length + 1) = r' by omega]
          dsimp only at hF
          rw [show ((c : Int)).toNat = c by omega] at hF
          exact hF
    · walk_at "dl"
      rw [show (((opens ts k g).map fun (d : Nat) => D.int (d : Int)).filterMap fun x => some (match x with
        | .int c => shutT ts k r' (g ++ [c.toNat])
        | _ => .non)) = (opens ts k g).map fun d => shutT ts k r' (g ++ [d]) from by
          rw [List.filterMap_eq_map', List.map_map]; rfl]
      exact i_drp0 kk

abbrev s_is_shut_tree : Stmt := topS 29
abbrev nn_is_shut_tree : List Str := ["web", "k", "dyes", "value", "some", "dye", "own"]
theorem sc_is_shut_tree : FnScope nn_is_shut_tree ["web", "k", "dyes", "value"] (defScope s_is_shut_tree) := ⟨rfl, rfl, rfl, by decide +kernel, rfl, by decide +kernel, by decide +kernel⟩
theorem ok_is_shut_tree {P : Program} {w : World} {K : PySem.W.Frag} {mg : Str → Option Value} {base : Heap} {T : List (Addr × Str)}  (B : Blt mg) (G_open_dyes : Has P w K mg base T "open_dyes" 2 3 fs_open_dyes) {f : Addr} {fd : FuncData} (F : Fun K "is_shut_tree" "is_shut_tree" s_is_shut_tree f fd) (hm : mg "is_shut_tree" = some (.ref f)) (hb : L2.Binds K fd ["web", "k", "dyes", "value"] []) : ∀ d : Nat, Has P w K mg base T "is_shut_tree" (3 + d) 4 (fs_is_shut_tree d) := by
  intro d
  induction d with
  | zero => exact okD (k := 2) F sc_is_shut_tree hm hb (fun _ _ _ h => h.elim) (fun cdv A outer s H E hr => ⟨_, xss_never, fun _ _ _ h => h.elim⟩)
  | succ d G_is_shut_tree =>
    refine okD (k := 3 + d) F sc_is_shut_tree hm hb (len_is_shut_tree (d + 1)) (fun cdv A outer s H E hr => ⟨_, (xss_cons (xs_if (xt_w (xw_or (xt_eq hr.units (xe_callB call_len d_len (by rfl) B.b_len (by decide +kernel) (xa_cons (xv 2) xa_nil)) (xe_item (xv 0) xe_int)) (xw_or1 (xt_not (xt_val (xe_callB call_isiA d_isi (by rfl) B.b_isinstance (by decide +kernel) (xa_cons (xv 3) (xa_cons (xe_ty (n := "tuple") (by rfl) B.b_tuple (by decide +kernel)) xa_nil))))))))
      (xss_one (xs_ret xe_bl))
      xss_nil)
      (xss_cons (xs_set (i := 4) sc_is_shut_tree.nd rfl (by first | exact Or.inl rfl | exact Or.inr rfl) (xe_call G_open_dyes (hr.mono (by omega)) (by rfl) (xa_cons (xv 0) (xa_cons (xv 1) (xa_cons (xv 2) xa_nil)))))
      (xss_cons (xs_if (xt_ne hr.units (xe_callB call_len d_len (by rfl) B.b_len (by decide +kernel) (xa_cons (xv 3) xa_nil)) (xe_callB call_len d_len (by rfl) B.b_len (by decide +kernel) (xa_cons (xv 4) xa_nil)))
      (xss_one (xs_ret xe_bl))
      xss_nil)
      (xss_one (xs_ret (xe_callB (cr_all rfl) d_all (by rfl) B.b_all (by decide +kernel) (xa_cons (xe_lc rfl sc_is_shut_tree.nd (xi_zipLT (by rfl) B.b_zip (xa_cons (xv 4) (xa_cons (xv 3) xa_nil))) (blkOk_by (own := [("dye", 5), ("own", 6)]) (N := nn_is_shut_tree) (sc := defScope s_is_shut_tree) (by decide +kernel)) (tg_pair (i := 5) (j := 6) (by decide) (by decide)) (fun _ _ _ _ _ => pg_tup rfl (pgs_cons (pg_name (i := 5) sc_is_shut_tree.nd rfl (by first | exact Or.inl rfl | exact Or.inr rfl)) (pgs_cons (pg_name (i := 6) sc_is_shut_tree.nd rfl (by first | exact Or.inl rfl | exact Or.inr rfl)) pgs_nil))) (fun _ _ _ _ _ => xts_nil) (fun _ _ _ _ _ => (xe_call G_is_shut_tree (hr.mono (by omega)) (by rfl) (xa_cons (xv 0) (xa_cons (xv 1) (xa_cons (xe_add (xv 2) (xe_tup (xa_cons (xv 5) xa_nil))) (xa_cons (xv 6) xa_nil))))))) xa_nil))))))), fun ds M Φ h => ?_⟩)
    obtain ⟨n, ts, k, g, v, rfl, gw, hg, hl, hr, hv, kk⟩ := h
    have hn := gw.hi
    have hn1 := gw.lo
    have htl := hg.top_len
    have en : ((n.toNat : Nat) : Int) = n := Int.toNat_of_nonneg (by omega)
    rw [natD_I]
    unfold webD
    walk_at "dl"
    rw [List.length_map, natI_len]
    refine i_itD (fun e => ?_) fun e => ?_
    · walk_at "dl"
      rw [show n.toNat - g.length = 0 by omega] at kk
      exact i_drp0 kk
    · obtain ⟨r', hr'⟩ : ∃ r', n.toNat - g.length = r' + 1 := ⟨n.toNat - g.length - 1, by omega⟩
      rw [hr'] at kk
      cases v <;> first | (cases hv; done) | skip
      all_goals walk_at "dl"
      all_goals first | exact i_drp0 kk | skip
      rename_i vs
      refine ⟨n, ts, k, g, by rw [← natD_I]; rfl, gw, by omega, by omega, ?_⟩
      unfold opensD
      walk_at "dl"
      refine i_itN (fun e => ?_) fun e => ?_
      · rw [List.length_map] at e
        have e : vs.length = (opens ts k g).length := by omega
        walk_at "dl"
        have hv' : puAll vs = true := by rw [puD, Bool.and_eq_true] at hv; exact hv.1
        refine lc_by (fun x => some (match x with
          | .tup [.int c, y] => .bl (isShutF ts k r' (g ++ [c.toNat]) y)
          | _ => .non)) ?_ (fun x hx M' _ F hF => ?_) ?_
        · have := opens_len (ts := ts) (k := k) (g := g)
          unfold zipD
          rw [List.length_zipWith, List.length_map]
          exact szl (by omega)
        · obtain ⟨i, hi⟩ := List.getElem?_of_mem hx
          obtain ⟨a, y, ha, hy, rfl⟩ := zipD_at hi
          obtain ⟨c, hc, rfl⟩ := map_at ha
          obtain ⟨c1, c2, c3, c4⟩ := opens_mem.mp (List.mem_of_getElem? hc)
          walk_at "dl"
          refine i_addt (szl (by rw [List.length_map, natI_len, List.length_singleton]; omega)) ?_
          walk_at "dl"
          rw [natD_snoc]
          cases d with
          | zero => omega
          | succ d =>
            refine ⟨n, ts, k, g ++ [c], y, rfl, gw, hg.snoc c1 c3 c4, by rw [List.length_append, List.length_singleton]; omega, by rw [List.length_append, List.length_singleton]; omega, puAll_mem hv' (List.mem_of_getElem? hy), ?_⟩
            rw [List.length_append, List.length_singleton, show n.toNat - (g.length + 1) = r' by omega]
            dsimp only at hF
            rw [show ((c : Int)).toNat = c by omega] at hF
            exact hF
        · walk_at "dl"
          refine i_all (bs := ((opens ts k g).zip vs).map fun p => isShutF ts k r' (g ++ [p.1]) p.2) ?_ ?_
          · show some _ = some _
            rw [List.map_map]
            congr 1
            unfold zipD
            rw [List.filterMap_eq_map', List.map_zipWith, List.zipWith_map_left, List.zip_eq_zipWith, List.map_zipWith]
            rfl
          · rw [show isShutF ts k (r' + 1) g (.tup vs) = (((opens ts k g).zip vs).map fun p => isShutF ts k r' (g ++ [p.1]) p.2).all id from by
              show (decide (vs.length = (opens ts k g).length) && ((opens ts k g).zip vs).all fun p => isShutF ts k r' (g ++ [p.1]) p.2) = _
              rw [decide_eq_true e, Bool.true_and, List.all_map]
              rfl] at kk
            exact i_drp0 kk
      · rw [List.length_map] at e
        walk_at "dl"
        rw [show isShutF ts k (r' + 1) g (.tup vs) = false from by
          show (decide (vs.length = (opens ts k g).length) && ((opens ts k g).zip vs).all fun p => isShutF ts k r' (g ++ [p.1]) p.2) = _
          rw [decide_eq_false (by omega), Bool.false_and]] at kk
        exact i_drp0 kk

abbrev s_dye_paper : Stmt := topS 30
abbrev nn_dye_paper : List Str := ["web", "k", "found"]
theorem sc_dye_paper : FnScope nn_dye_paper ["web", "k"] (defScope s_dye_paper) := ⟨rfl, rfl, rfl, by decide +kernel, rfl, by decide +kernel, by decide +kernel⟩
theorem ok_dye_paper {P : Program} {w : World} {K : PySem.W.Frag} {mg : Str → Option Value} {base : Heap} {T : List (Addr × Str)} {cBadNumber : Addr} {cBadWeb : Addr} (B : Blt mg) (G_first_dyeing : Has P w K mg base T "first_dyeing" 13 3 (fs_first_dyeing 10)) (G_need_dyes : HasX P w K mg base T "need_dyes" 6 2 (fs_need_dyes cBadWeb cBadNumber)) (G_shut_tree : Has P w K mg base T "shut_tree" 13 3 (fs_shut_tree 10)) {f : Addr} {fd : FuncData} (F : Fun K "dye_paper" "dye_paper" s_dye_paper f fd) (hm : mg "dye_paper" = some (.ref f)) (hb : L2.Binds K fd ["web", "k"] []) : HasX P w K mg base T "dye_paper" 14 2 (fs_dye_paper cBadWeb cBadNumber) ∧ KwOfX P w K mg base T "dye_paper" 14 2 (fs_dye_paper cBadWeb cBadNumber) fd ["web", "k"] := by
  refine okDXK (k := 13) F sc_dye_paper hm hb len_dye_paper mono_dye_paper (fun cdv A outer s H E Ξ hr tk hX => ⟨_, (xss_cons (xs_expr (xe_callX G_need_dyes tk hX (hr.mono (by decide)) (by rfl) (xa_cons (xv 0) (xa_cons (xv 1) xa_nil))))
      (xss_cons (xs_set (i := 2) sc_dye_paper.nd rfl (by first | exact Or.inl rfl | exact Or.inr rfl) (xe_call G_first_dyeing (hr.mono (by decide)) (by rfl) (xa_cons (xv 0) (xa_cons (xv 1) (xa_cons (xe_tup xa_nil) xa_nil)))))
      (xss_one (xs_ret (xe_if (xt_is (xv 2) xe_non) (xe_tup (xa_cons xe_bl (xa_cons (xe_call G_shut_tree (hr.mono (by decide)) (by rfl) (xa_cons (xv 0) (xa_cons (xv 1) (xa_cons (xe_tup xa_nil) xa_nil)))) xa_nil))) (xe_tup (xa_cons xe_bl (xa_cons (xv 2) xa_nil)))))))), fun ds M Φ h => ?_⟩)
  obtain ⟨d, kd, rfl, hp, hk, k1, k2, k3⟩ := h
  walk_at "dl"
  refine ⟨d, kd, rfl, hp, hk, fun e e2 => ?_, fun e => k2 e, fun e e2 => k3 e e2⟩
  obtain ⟨n, ts, rfl, gw⟩ := isWeb_good e
  have hn := gw.hi
  have hn1 := gw.lo
  cases kd <;> first | (cases e2; done) | skip
  rename_i i
  rw [inW, Bool.and_eq_true, decide_eq_true_eq, decide_eq_true_eq] at e2
  obtain ⟨k, rfl⟩ := Int.eq_ofNat_of_zero_le e2.1
  replace k1 := k1 n ts k rfl gw rfl (by omega)
  walk_at "dl"
  refine ⟨n, ts, k, [], rfl, gw, .nil, by simp, by simp; omega, ?_⟩
  rw [List.length_nil, Nat.sub_zero]
  unfold paperD at k1
  cases q : firstF ts k n.toNat [] with
  | some c =>
    rw [q] at k1
    unfold optN natD
    walk_at "dl"
    try with_reducible refine i_itF ?_
    walk_at "dl"
    exact i_drp0 k1
  | none =>
    rw [q] at k1
    unfold optN
    walk_at "dl"
    try with_reducible refine i_itT ?_
    walk_at "dl"
    refine ⟨n, ts, k, [], rfl, gw, .nil, by simp, by simp; omega, by rw [List.length_nil, Nat.sub_zero]; exact q, ?_⟩
    rw [List.length_nil, Nat.sub_zero]
    walk_at "dl"
    exact i_drp0 k1

abbrev s_is_dye_paper : Stmt := topS 31
abbrev nn_is_dye_paper : List Str := ["web", "k", "value"]
theorem sc_is_dye_paper : FnScope nn_is_dye_paper ["web", "k", "value"] (defScope s_is_dye_paper) := ⟨rfl, rfl, rfl, by decide +kernel, rfl, by decide +kernel, by decide +kernel⟩
theorem ok_is_dye_paper {P : Program} {w : World} {K : PySem.W.Frag} {mg : Str → Option Value} {base : Heap} {T : List (Addr × Str)} {cBadNumber : Addr} {cBadWeb : Addr} (B : Blt mg) (G_is_dyeing_in : Has P w K mg base T "is_dyeing_in" 3 3 fs_is_dyeing_in) (G_is_shut_tree : Has P w K mg base T "is_shut_tree" 13 4 (fs_is_shut_tree 10)) (G_need_dyes : HasX P w K mg base T "need_dyes" 6 2 (fs_need_dyes cBadWeb cBadNumber)) {f : Addr} {fd : FuncData} (F : Fun K "is_dye_paper" "is_dye_paper" s_is_dye_paper f fd) (hm : mg "is_dye_paper" = some (.ref f)) (hb : L2.Binds K fd ["web", "k", "value"] []) : HasX P w K mg base T "is_dye_paper" 14 3 (fs_is_dye_paper cBadWeb cBadNumber) := by
  refine okDX (k := 13) F sc_is_dye_paper hm hb len_is_dye_paper mono_is_dye_paper (fun cdv A outer s H E Ξ hr tk hX => ⟨_, (xss_cons (xs_expr (xe_callX G_need_dyes tk hX (hr.mono (by decide)) (by rfl) (xa_cons (xv 0) (xa_cons (xv 1) xa_nil))))
      (xss_cons (xs_if (xt_w (xw_or (xt_not (xt_val (xe_callB call_isiA d_isi (by rfl) B.b_isinstance (by decide +kernel) (xa_cons (xv 2) (xa_cons (xe_ty (n := "tuple") (by rfl) B.b_tuple (by decide +kernel)) xa_nil))))) (xw_or (xt_ne hr.units (xe_callB call_len d_len (by rfl) B.b_len (by decide +kernel) (xa_cons (xv 2) xa_nil)) xe_int) (xw_or1 (xt_not (xt_val (xe_callB call_isiA d_isi (by rfl) B.b_isinstance (by decide +kernel) (xa_cons (xe_item (xv 2) xe_int) (xa_cons (xe_ty (n := "bool") (by rfl) B.b_bool (by decide +kernel)) xa_nil)))))))))
      (xss_one (xs_ret xe_bl))
      xss_nil)
      (xss_one (xs_ret (xe_if (xt_val (xe_item (xv 2) xe_int)) (xe_call G_is_dyeing_in (hr.mono (by decide)) (by rfl) (xa_cons (xv 0) (xa_cons (xv 1) (xa_cons (xe_item (xv 2) xe_int) xa_nil)))) (xe_call G_is_shut_tree (hr.mono (by decide)) (by rfl) (xa_cons (xv 0) (xa_cons (xv 1) (xa_cons (xe_tup xa_nil) (xa_cons (xe_item (xv 2) xe_int) xa_nil)))))))))), fun ds M Φ h => ?_⟩)
  obtain ⟨d, kd, v, rfl, hp, hk, hv, k1, k2, k3⟩ := h
  walk_at "dl"
  refine ⟨d, kd, rfl, hp, hk, fun e e2 => ?_, fun e => k2 e, fun e e2 => k3 e e2⟩
  obtain ⟨n, ts, rfl, gw⟩ := isWeb_good e
  have hn := gw.hi
  have hn1 := gw.lo
  cases kd <;> first | (cases e2; done) | skip
  rename_i i
  rw [inW, Bool.and_eq_true, decide_eq_true_eq, decide_eq_true_eq] at e2
  obtain ⟨k, rfl⟩ := Int.eq_ofNat_of_zero_le e2.1
  replace k1 := k1 n ts k rfl gw rfl (by omega)
  cases v <;> first | (cases hv; done) | skip
  all_goals walk_at "dl"
  all_goals first | exact i_drp0 k1 | skip
  rename_i xs
  refine i_itN (fun e => ?_) fun e => ?_
  · obtain ⟨a, b, rfl⟩ : ∃ a b, xs = [a, b] := by
      match xs, e with
      | [a, b], _ => exact ⟨a, b, rfl⟩
      | [], e => cases e
      | [_], e => cases e
      | _ :: _ :: _ :: _, e => simp at e; omega
    walk_at "dl"
    rw [puD, Bool.and_eq_true, puAll, puAll, Bool.and_eq_true, Bool.and_eq_true] at hv
    obtain ⟨⟨h1, h2, h3⟩, h4⟩ := hv
    cases a <;> first | (cases h1; done) | skip
    all_goals walk_at "dl"
    all_goals first | exact i_drp0 k1 | skip
    rename_i c
    cases c
    · walk_at "dl"
      try with_reducible refine i_itF ?_
      walk_at "dl"
      refine ⟨n, ts, k, [], b, rfl, gw, .nil, by simp, by simp; omega, h2, ?_⟩
      rw [List.length_nil, Nat.sub_zero]
      exact i_drp0 k1
    · walk_at "dl"
      try with_reducible refine i_itT ?_
      walk_at "dl"
      refine ⟨n, _, ts, b, rfl, gw, h2, ?_⟩
      exact i_drp0 k1
  · walk_at "dl"
    have : isPaperD n ts k (.tup xs) = false := by
      match xs, e with
      | [a, b], e => exact absurd rfl e
      | [], _ => rfl
      | [_], _ => rfl
      | _ :: _ :: _ :: _, _ => rfl
    rw [this] at k1
    exact i_drp0 k1

abbrev s_least_dyes : Stmt := topS 32
abbrev nn_least_dyes : List Str := ["web", "sizes", "size", "many"]
theorem sc_least_dyes : FnScope nn_least_dyes ["web"] (defScope s_least_dyes) := ⟨rfl, rfl, rfl, by decide +kernel, rfl, by decide +kernel, by decide +kernel⟩
theorem ok_least_dyes {P : Program} {w : World} {K : PySem.W.Frag} {mg : Str → Option Value} {base : Heap} {T : List (Addr × Str)} {cBadWeb : Addr} (B : Blt mg) (G_counts_of_partings : Has P w K mg base T "counts_of_partings" 3 1 fs_counts_of_partings) (G_need_web : HasX P w K mg base T "need_web" 5 1 (fs_need_web cBadWeb)) {f : Addr} {fd : FuncData} (F : Fun K "least_dyes" "least_dyes" s_least_dyes f fd) (hm : mg "least_dyes" = some (.ref f)) (hb : L2.Binds K fd ["web"] []) : HasX P w K mg base T "least_dyes" 6 1 (fs_least_dyes cBadWeb) ∧ KwOfX P w K mg base T "least_dyes" 6 1 (fs_least_dyes cBadWeb) fd ["web"] := by
  refine okDXK (k := 5) F sc_least_dyes hm hb len_least_dyes mono_least_dyes (fun cdv A outer s H E Ξ hr tk hX => ⟨_, (xss_cons (xs_expr (xe_callX G_need_web tk hX (hr.mono (by decide)) (by rfl) (xa_cons (xv 0) xa_nil)))
      (xss_cons (xs_setLc (i := 1) rfl sc_least_dyes.nd rfl rfl (sw_true rfl rfl rfl (by decide +kernel)) (xi_enumT (by rfl) B.b_enumerate (xa_cons (xe_call G_counts_of_partings (hr.mono (by decide)) (by rfl) (xa_cons (xv 0) xa_nil)) xa_nil)) (blkOk_by (own := [("size", 2), ("many", 3)]) (N := nn_least_dyes) (sc := defScope s_least_dyes) (by decide +kernel)) (tg_pair (i := 2) (j := 3) (by decide) (by decide)) (fun _ _ _ _ _ => pg_tup rfl (pgs_cons (pg_name (i := 2) sc_least_dyes.nd rfl (by first | exact Or.inl rfl | exact Or.inr rfl)) (pgs_cons (pg_name (i := 3) sc_least_dyes.nd rfl (by first | exact Or.inl rfl | exact Or.inr rfl)) pgs_nil))) (fun _ _ _ _ _ => (xts_one (xt_gt (xv 3) xe_int))) (fun _ _ _ _ _ => (xv 2)))
      (xss_one (xs_ret (xe_if (xt_ne hr.units (xv 1) (xe_lst xa_nil)) (xe_item (xv 1) xe_int) xe_non))))), fun ds M Φ h => ?_⟩)
  obtain ⟨d, rfl, hp, k1, k2⟩ := h
  walk_at "dl"
  refine ⟨d, rfl, hp, fun e => ?_, fun e => k2 e⟩
  obtain ⟨n, ts, rfl, gw⟩ := isWeb_good e
  replace k1 := k1 n ts rfl gw
  walk_at "dl"
  refine ⟨n, ts, rfl, gw, ?_⟩
  walk_at "dl"
  have hn := gw.hi
  have hn1 := gw.lo
  refine lc_by (fun x => match x with
    | .tup [.int s, .int m] => if 0 < m then some (.int s) else none
    | _ => none) ?_ (fun x hx M' _ F hF => ?_) ?_
  · rw [enD_len]
    unfold cntD
    rw [List.length_map, List.length_map, List.length_range]
    exact szl (by omega)
  · obtain ⟨i, hi⟩ := List.getElem?_of_mem hx
    obtain ⟨d, h1, rfl⟩ := enD_get hi
    obtain ⟨h2, rfl⟩ := cntD_at h1
    dsimp only at hF
    walk_at "dl"
    refine i_itD (fun e => ?_) fun e => ?_
    · rw [if_pos (by omega)] at hF
      walk_at "dl"
      exact hF
    · rw [if_neg (by omega)] at hF
      exact hF
  · rw [cnt_map, show ((List.range (n.toNat + 1)).filterMap fun (i : Nat) => match D.tup [.int (i : Int), .int ((cnt ts n.toNat i : Nat) : Int)] with
      | .tup [.int s, .int m] => if 0 < m then some (D.int s) else none
      | _ => none) = (natI (sizesD ts n.toNat)).map .int from by
        unfold natI sizesD
        rw [← List.filterMap_eq_filter, List.map_map, List.map_filterMap]
        refine fm_congr fun i _ => ?_
        show (if (0 : Int) < ((cnt ts n.toNat i : Nat) : Int) then some (D.int (i : Int)) else none) = _
        by_cases h : 0 < cnt ts n.toNat i
        · rw [if_pos (by omega)]
          simp [Option.guard, h]
        · rw [if_neg (by omega)]
          simp [Option.guard, h]]
    unfold leastD at k1
    walk_at "dl"
    cases q : sizesD ts n.toNat with
    | nil =>
      rw [q] at k1
      walk_at "dl"
      exact i_drp0 k1
    | cons s r =>
      rw [q] at k1
      show (if true = true then _ else _)
      refine i_itT ?_
      walk_at "dl"
      refine i_ixl (x := .int (s : Int)) (atI_of (i := 0) rfl) ?_
      exact i_drp0 k1

abbrev s_web_put : Stmt := topS 34
abbrev nn_web_put : List Str := ["web", "place", "other_place"]
theorem sc_web_put : FnScope nn_web_put ["web", "place", "other_place"] (defScope s_web_put) := ⟨rfl, rfl, rfl, by decide +kernel, rfl, by decide +kernel, by decide +kernel⟩
theorem ok_web_put {P : Program} {w : World} {K : PySem.W.Frag} {mg : Str → Option Value} {base : Heap} {T : List (Addr × Str)}  (B : Blt mg) (G_made : Has P w K mg base T "made" 1 2 fs_made) {f : Addr} {fd : FuncData} (F : Fun K "web_put" "web_put" s_web_put f fd) (hm : mg "web_put" = some (.ref f)) (hb : L2.Binds K fd ["web", "place", "other_place"] []) : Has P w K mg base T "web_put" 2 3 fs_web_put := by
  refine okD (k := 1) F sc_web_put hm hb len_web_put (fun cdv A outer s H E hr => ⟨_, (xss_one (xs_ret (xe_call G_made (hr.mono (by decide)) (by rfl) (xa_cons (xe_item (xv 0) xe_int) (xa_cons (xe_add (xe_item (xv 0) xe_int) (xe_tup (xa_cons (xe_tup (xa_cons (xv 1) (xa_cons (xv 2) xa_nil))) xa_nil))) xa_nil))))), fun ds M Φ h => ?_⟩)
  obtain ⟨n, a, b, ts, rfl, hl, k⟩ := h
  unfold webD
  walk_at "dl"
  refine i_addt (szl (by simp only [List.length_cons, List.length_nil, List.length_map]; omega)) ?_
  walk_at "dl"
  refine ⟨n, ts ++ [(a, b)], by rw [List.map_append]; rfl, by simp; omega, ?_⟩
  exact i_drp0 k

abbrev s_put : Stmt := topS 35
abbrev nn_put : List Str := ["web", "place", "other_place"]
theorem sc_put : FnScope nn_put ["web", "place", "other_place"] (defScope s_put) := ⟨rfl, rfl, rfl, by decide +kernel, rfl, by decide +kernel, by decide +kernel⟩
theorem ok_put {P : Program} {w : World} {K : PySem.W.Frag} {mg : Str → Option Value} {base : Heap} {T : List (Addr × Str)} {cBadWeb : Addr} {cTooMany : Addr} (B : Blt mg) (G_need_place : HasX P w K mg base T "need_place" 3 2 fs_need_place) (G_need_web : HasX P w K mg base T "need_web" 5 1 (fs_need_web cBadWeb)) (G_web_put : Has P w K mg base T "web_put" 2 3 fs_web_put) (X_TooMany : ExcMk P w K mg base "TooMany" cTooMany "most") {f : Addr} {fd : FuncData} (F : Fun K "put" "put" s_put f fd) (hm : mg "put" = some (.ref f)) (hb : L2.Binds K fd ["web", "place", "other_place"] []) : HasX P w K mg base T "put" 6 3 fs_put := by
  refine okDX (k := 5) F sc_put hm hb len_put mono_put (fun cdv A outer s H E Ξ hr tk hX => ⟨_, (xss_cons (xs_expr (xe_callX G_need_web tk hX (hr.mono (by decide)) (by rfl) (xa_cons (xv 0) xa_nil)))
      (xss_cons (xs_expr (xe_callX G_need_place tk hX (hr.mono (by decide)) (by rfl) (xa_cons (xv 0) (xa_cons (xv 1) xa_nil))))
      (xss_cons (xs_expr (xe_callX G_need_place tk hX (hr.mono (by decide)) (by rfl) (xa_cons (xv 0) (xa_cons (xv 2) xa_nil))))
      (xss_cons (xs_if (xt_eq hr.units (xe_callB call_len d_len (by rfl) B.b_len (by decide +kernel) (xa_cons (xe_item (xv 0) xe_int) xa_nil)) (xe_gint' (by rfl) B.c_MOST_TIES))
      (xss_one (xs_raise1 X_TooMany rfl tk hX (hr.mono (by decide)) (by rfl) (xe_gint' (by rfl) B.c_MOST_TIES)))
      xss_nil)
      (xss_one (xs_ret (xe_call G_web_put (hr.mono (by decide)) (by rfl) (xa_cons (xv 0) (xa_cons (xv 1) (xa_cons (xv 2) xa_nil)))))))))), fun ds M Φ h => ?_⟩)
  obtain ⟨n, a, b, ts, rfl, g, hl, ha, ha', hb, hb', k⟩ := h
  walk_at "dl"
  refine ⟨_, rfl, good_pu g, fun _ => ?_, fun e => by rw [good_is g] at e; cases e⟩
  walk_at "dl"
  refine ⟨n, a, ts, rfl, ha, ha', ?_⟩
  walk_at "dl"
  refine ⟨n, b, ts, rfl, hb, hb', ?_⟩
  unfold webD
  walk_at "dl"
  refine i_itDF (by rw [List.length_map]; omega) ?_
  walk_at "dl"
  refine ⟨n, a, b, ts, rfl, by omega, ?_⟩
  exact i_drp0 k

abbrev s__law_begun : Stmt := topS 37
abbrev nn__law_begun : List Str := ["script", "great", "cell"]
theorem sc__law_begun : FnScope nn__law_begun ["script"] (defScope s__law_begun) := ⟨rfl, rfl, rfl, by decide +kernel, rfl, by decide +kernel, by decide +kernel⟩
theorem ok__law_begun {P : Program} {w : World} {K : PySem.W.Frag} {mg : Str → Option Value} {base : Heap} {T : List (Addr × Str)}  (B : Blt mg)  {f : Addr} {fd : FuncData} (F : Fun K "_law_begun" "_law_begun" s__law_begun f fd) (hm : mg "_law_begun" = some (.ref f)) (hb : L2.Binds K fd ["script"] []) : Has P w K mg base T "_law_begun" 1 1 fs__law_begun := by
  refine okD (k := 0) F sc__law_begun hm hb len__law_begun (fun cdv A outer s H E hr => ⟨_, (xss_cons (xs_setLcM (i := 1) rfl sc__law_begun.nd rfl rfl (sw_true rfl rfl rfl (by decide +kernel)) (xi_any (xv 0)) (blkOk_by (own := [("cell", 2)]) (N := nn__law_begun) (sc := defScope s__law_begun) (by decide +kernel)) (tg_name (by decide)) (fun _ _ _ _ _ => pg_name (i := 2) sc__law_begun.nd rfl (by first | exact Or.inl rfl | exact Or.inr rfl)) (fun _ _ _ _ _ => (xts_one (xt_ge (xe_callB call_abs d_abs (by rfl) B.b_abs (by decide +kernel) (xa_cons (xv 2) xa_nil)) (xe_pow xe_int xe_int)))) (fun _ _ _ _ _ => (xe_sub (xe_callB call_abs d_abs (by rfl) B.b_abs (by decide +kernel) (xa_cons (xv 2) xa_nil)) (xe_pow xe_int xe_int))))
      (xss_one (xs_ret (xe_dictM (xps_cons xe_str (xv 1) (xps_cons xe_str (xe_lc rfl sc__law_begun.nd (xi_any (xv 0)) (blkOk_by (own := [("cell", 2)]) (N := nn__law_begun) (sc := defScope s__law_begun) (by decide +kernel)) (tg_name (by decide)) (fun _ _ _ _ _ => pg_name (i := 2) sc__law_begun.nd rfl (by first | exact Or.inl rfl | exact Or.inr rfl)) (fun _ _ _ _ _ => xts_nil) (fun _ _ _ _ _ => (xe_callB call_abs d_abs (by rfl) B.b_abs (by decide +kernel) (xa_cons (xv 2) xa_nil)))) (xps_cons xe_str xe_int (xps_cons xe_str xe_int xps_nil)))))))), fun ds M Φ h => ?_⟩)
  obtain ⟨ns, rfl, hl, k⟩ := h
  have p18 : ((10 : Int) ^ Int.toNat 18) = 1000000000000000000 := by decide +kernel
  walk_at "dl"
  refine lcM_by (fun x => match x with
    | .int i => if (1000000000000000000 : Int) ≤ (i.natAbs : Int) then some (.int ((i.natAbs : Int) - 1000000000000000000)) else none
    | _ => none) ?_ (fun x hx M' _ F hF => ?_) fun l nl => ?_
  · rw [List.length_map]; exact szl (by omega)
  · obtain ⟨i, hi, rfl⟩ := List.mem_map.mp hx
    walk_at "dl"
    refine i_pow ⟨by decide, by decide, by decide⟩ ?_
    rw [p18]
    walk_at "dl"
    have hF' : F (if (1000000000000000000 : Int) ≤ (i.natAbs : Int) then some (.int ((i.natAbs : Int) - 1000000000000000000)) else none) M' := hF
    refine i_itD (fun e => ?_) fun e => ?_
    · walk_at "dl"
      refine i_pow ⟨by decide, by decide, by decide⟩ ?_
      rw [p18]
      walk_at "dl"
      rw [if_pos e] at hF'
      exact hF'
    · rw [if_neg e] at hF'
      exact hF'
  · have eg : (ns.map D.int).filterMap (fun x => match x with
        | .int i => if (1000000000000000000 : Int) ≤ (i.natAbs : Int) then some (D.int ((i.natAbs : Int) - 1000000000000000000)) else none
        | _ => none) = (greats ns).map D.int := by
      clear hl k
      unfold greats
      induction ns with
      | nil => rfl
      | cons n ns ih =>
        rw [List.map_cons]
        by_cases h : (1000000000000000000 : Int) ≤ (n.natAbs : Int)
        · rw [List.filterMap_cons_some (by dsimp only; rw [if_pos h]), List.filterMap_cons_some (by rw [if_pos h]), List.map_cons, ih]
        · rw [List.filterMap_cons_none (by dsimp only; rw [if_neg h]), List.filterMap_cons_none (by rw [if_neg h]), ih]
    rw [eg]
    walk_at "dl"
    intro d nd
    have nld : d ≠ l := fun z => by rw [z, Mem.set_same] at nd; cases nd
    have ndM : M d = none := by rw [Mem.set_ne nld] at nd; exact nd
    walk_at "dl"
    refine lc_by (fun x => some (match x with
      | .int i => .int (i.natAbs : Int)
      | _ => .non)) ?_ (fun x hx M' _ F hF => ?_) ?_
    · rw [List.length_map]; exact szl (by omega)
    · obtain ⟨i, hi, rfl⟩ := List.mem_map.mp hx
      walk_at "dl"
      exact hF
    · walk_at "dl"
      have ec : (ns.map D.int).filterMap (fun x => some (match x with
          | .int i => D.int (i.natAbs : Int)
          | _ => .non)) = (ns.map fun i => (i.natAbs : Int)).map D.int := by
        rw [List.filterMap_eq_map', List.map_map, List.map_map]; rfl
      rw [ec]
      refine ⟨Mem.set_same, DrM (greats ns) (ns.map fun i => (i.natAbs : Int)) 0 0 l, rfl, show 4 ≤ 15 by decide, ?_⟩
      rw [Mem.set_set]
      refine i_drp0 (k d l _ ndM nl ⟨nld.symm, greats ns, ns.map fun i => (i.natAbs : Int), 0, 0, ?_, ?_, ?_, by omega, by omega, by omega⟩ fun a h1 h2 => by rw [Mem.set_ne h1, Mem.set_ne h2])
      · rw [Mem.set_same]
        congr 2
      · rw [Mem.set_ne nld.symm, Mem.set_same]
      · intro g hg
        obtain ⟨i, _, hi⟩ := List.mem_filterMap.mp hg
        split at hi
        · cases hi; omega
        · cases hi

abbrev s__law_blended : Stmt := topS 38
abbrev nn__law_blended : List Str := ["state", "turn", "found", "prime", "blend", "cell"]
theorem sc__law_blended : FnScope nn__law_blended ["state"] (defScope s__law_blended) := ⟨rfl, rfl, rfl, by decide +kernel, rfl, by decide +kernel, by decide +kernel⟩
theorem ok__law_blended {P : Program} {w : World} {K : PySem.W.Frag} {mg : Str → Option Value} {base : Heap} {T : List (Addr × Str)}  (B : Blt mg)  {f : Addr} {fd : FuncData} (F : Fun K "_law_blended" "_law_blended" s__law_blended f fd) (hm : mg "_law_blended" = some (.ref f)) (hb : L2.Binds K fd ["state"] []) : Has P w K mg base T "_law_blended" 1 1 fs__law_blended := by
  refine okD (k := 0) F sc__law_blended hm hb len__law_blended (fun cdv A outer s H E hr => ⟨_, (xss_cons (xs_par (i := 1) (j := 2) rfl sc__law_blended.nd rfl rfl (by decide) rfl rfl (xa_cons (xe_add (xe_dget (hu_of hr) (xv 0) xe_str) xe_int) (xa_cons xe_int xa_nil)) (by rfl))
      (xss_cons (xs_dput (hu_of hr) (xv 0) xe_str (xv 1))
      (xss_cons (xs_for (vs := [3]) PassesOwn.never rfl (xi_any (xe_lst (xa_cons xe_int (xa_cons xe_int (xa_cons xe_int xa_nil))))) (pg_name (i := 3) sc__law_blended.nd rfl (by first | exact Or.inl rfl | exact Or.inr rfl)) (tg_name (by decide))
      (xss_cons (xs_set (i := 4) sc__law_blended.nd rfl (by first | exact Or.inl rfl | exact Or.inr rfl) (xe_add (xe_mul xe_int (xv 1)) (xe_fdiv (xv 3) xe_int)))
      (xss_cons (xs_for (vs := [5]) PassesOwn.never rfl (xi_any (xe_dget (hu_of hr) (xv 0) xe_str)) (pg_name (i := 5) sc__law_blended.nd rfl (by first | exact Or.inl rfl | exact Or.inr rfl)) (tg_name (by decide))
      (xss_one (xs_set (i := 4) sc__law_blended.nd rfl (by first | exact Or.inl rfl | exact Or.inr rfl) (xe_mod (xe_callTy call_intA d_int (by rfl) B.b_int (by decide +kernel) (xa_cons (xe_add (xe_add (xe_mul (xv 4) xe_int) (xv 5)) (xv 1)) xa_nil)) (xv 3)))))
      (xss_one (xs_set (i := 2) sc__law_blended.nd rfl (by first | exact Or.inl rfl | exact Or.inr rfl) (xe_add (xe_mul (xv 2) xe_int) (xe_mod (xe_callTy call_intA d_int (by rfl) B.b_int (by decide +kernel) (xa_cons (xe_pow (xv 4) xe_int) xa_nil)) (xv 3))))))))
      (xss_one (xs_ret (xv 2)))))), fun ds M Φ h => ?_⟩)
  obtain ⟨d, l, cs, gs, r, t, rfl, hd, h0, h1, k⟩ := h
  walk_at "dl"
  refine ⟨d, _, _, rfl, hd, rfl, dr_len, ?_⟩
  rw [dr_put_turn]
  walk_at "dl"
  refine for_by (fun _ Γ M' => M' = M.set d (.dK (DrM gs cs r (t + 1) l)) ∧ ∃ x y3 y4 y5, Γ = [some (.ptr d), some (.int (t + 1)), some (.int x), y3, y4, y5] ∧ 0 ≤ x) ⟨rfl, 0, _, _, _, rfl, by omega⟩ ?_ ?_
  · rintro i p Γ M' FF hx ⟨rfl, x, y3, y4, y5, rfl, h2⟩ hF
    obtain ⟨q, rfl, hq, hq2⟩ : ∃ q : Int, p = .int q ∧ 2147483000 < q ∧ q < 2147483648 := by
      rcases i with _ | _ | _ | i
      · exact ⟨_, (Option.some.inj hx).symm, by decide, by decide⟩
      · exact ⟨_, (Option.some.inj hx).symm, by decide, by decide⟩
      · exact ⟨_, (Option.some.inj hx).symm, by decide, by decide⟩
      · simp at hx
    have hd5 : q / 53 < 41000000 := by omega
    have hd6 : 0 ≤ q / 53 := by omega
    walk_at "dl"
    refine for_by (fun _ Γ M' => M' = M.set d (.dK (DrM gs cs r (t + 1) l)) ∧ ∃ b y5, Γ = [some (.ptr d), some (.int (t + 1)), some (.int x), some (.int q), some (.int b), y5] ∧ 0 ≤ b ∧ b < 2 ^ 60) ⟨rfl, _, _, rfl, by omega, by omega⟩ ?_ ?_
    · rintro i c Γ M' F2 hc ⟨rfl, b, z5, rfl, b0, b1⟩ hF2
      obtain ⟨c, rfl⟩ : ∃ n : Int, c = .int n := by
        rw [List.getElem?_map] at hc
        cases e : cs[i]? with
        | none => rw [e] at hc; cases hc
        | some n => rw [e] at hc; exact ⟨n, (Option.some.inj hc).symm⟩
      walk_at "dl"
      refine hF2 _ _ ⟨rfl, _, _, rfl, Int.emod_nonneg _ (by omega), ?_⟩
      have := Int.emod_lt_of_pos (b * 69621 + c + (t + 1)) (show 0 < q by omega)
      omega
    · rintro Γ M' ⟨rfl, b, z5, rfl, b0, b1⟩
      walk_at "dl"
      refine i_pow ⟨by decide, by decide, by omega⟩ ?_
      walk_at "dl"
      refine hF _ _ ⟨rfl, _, _, _, _, rfl, ?_⟩
      have := Int.emod_nonneg (b ^ Int.toNat 5) (show q ≠ 0 by omega)
      omega
  · rintro Γ M' ⟨rfl, x, y3, y4, y5, rfl, h2⟩
    walk_at "dl"
    exact i_drp0 (k _ h2)

abbrev s__law_draw : Stmt := topS 39
abbrev nn__law_draw : List Str := ["state", "room", "found"]
theorem sc__law_draw : FnScope nn__law_draw ["state", "room"] (defScope s__law_draw) := ⟨rfl, rfl, rfl, by decide +kernel, rfl, by decide +kernel, by decide +kernel⟩
theorem ok__law_draw {P : Program} {w : World} {K : PySem.W.Frag} {mg : Str → Option Value} {base : Heap} {T : List (Addr × Str)}  (B : Blt mg) (G__law_blended : Has P w K mg base T "_law_blended" 1 1 fs__law_blended) {f : Addr} {fd : FuncData} (F : Fun K "_law_draw" "_law_draw" s__law_draw f fd) (hm : mg "_law_draw" = some (.ref f)) (hb : L2.Binds K fd ["state", "room"] []) : Has P w K mg base T "_law_draw" 2 2 fs__law_draw := by
  refine okD (k := 1) F sc__law_draw hm hb len__law_draw (fun cdv A outer s H E hr => ⟨_, (xss_cons (xs_if (xt_eq hr.units (xe_dget (hu_of hr) (xv 0) xe_str) xe_int)
      (xss_one (xs_dput (hu_of hr) (xv 0) xe_str (xe_if (xt_ne hr.units (xe_dget (hu_of hr) (xv 0) xe_str) (xe_lst xa_nil)) (xe_popAt (xe_dget (hu_of hr) (xv 0) xe_str) xe_int) (xe_call G__law_blended (hr.mono (by decide)) (by rfl) (xa_cons (xv 0) xa_nil)))))
      xss_nil)
      (xss_cons (xs_set (i := 2) sc__law_draw.nd rfl (by first | exact Or.inl rfl | exact Or.inr rfl) (xe_mod (xe_callTy call_intA d_int (by rfl) B.b_int (by decide +kernel) (xa_cons (xe_dget (hu_of hr) (xv 0) xe_str) xa_nil)) (xv 1)))
      (xss_cons (xs_dput (hu_of hr) (xv 0) xe_str (xe_fdiv (xe_dget (hu_of hr) (xv 0) xe_str) (xv 1)))
      (xss_one (xs_ret (xv 2)))))), fun ds M Φ h => ?_⟩)
  obtain ⟨d, l, n, room, rfl, ⟨ne, gs, cs, r, t, hd, hl, hg, hr0, ht0, htn⟩, hn, h0, h1, k⟩ := h
  refine i_cut (fun Γ' M' => Γ' = [some (.ptr d), some (.int room), none] ∧ Ev M M' d l ∧ ∃ gs r t, M' d = some (.dK (DrM gs cs r t l)) ∧ M' l = some (.lst (gs.map .int)) ∧ (∀ g ∈ gs, 0 ≤ g) ∧ 0 ≤ r ∧ 0 ≤ t ∧ t ≤ (n + 1 : Nat)) (fun FF hF => ?_) ?_
  · walk_at "dl"
    refine i_itD (fun e => ?_) (fun e => hF _ _ ⟨rfl, .refl, gs, r, t, hd, hl, hg, hr0, ht0, by omega⟩)
    walk_at "dl"
    refine i_neLn hl ?_
    walk_at "dl"
    cases gs with
    | nil =>
      walk_at "dl"
      refine ⟨d, l, cs, [], r, t, rfl, hd, ht0, by omega, fun x hx => ?_⟩
      walk_at "dl"
      refine ⟨d, _, _, rfl, Mem.set_same, rfl, dr_len, ?_⟩
      rw [dr_put_rest, Mem.set_set]
      refine hF _ _ ⟨rfl, fun a h1 h2 => Mem.set_ne h1, [], x, t + 1, Mem.set_same, by rw [Mem.set_ne ne]; exact hl, fun g hg => (by cases hg), hx, by omega, by omega⟩
    | cons g gs =>
      refine i_itT ?_
      walk_at "dl"
      refine i_popAt (j := 0) hl (by simp) (by decide) rfl ?_
      walk_at "dl"
      refine ⟨d, _, _, rfl, by rw [Mem.set_ne ne.symm]; exact hd, rfl, dr_len, ?_⟩
      rw [dr_put_rest]
      refine hF _ _ ⟨rfl, fun a h1 h2 => by rw [Mem.set_ne h1, Mem.set_ne h2], gs, g, t, Mem.set_same, by rw [Mem.set_ne ne, Mem.set_same]; rfl, fun g' hg' => hg g' (List.mem_cons_of_mem _ hg'), hg g List.mem_cons_self, ht0, by omega⟩
  · rintro Γ M' ⟨rfl, ev, gs, r, t, hd, hl, hg, hr0, ht0, htn⟩
    walk_at "dl"
    refine i_fdiv ⟨h0, h1⟩ ?_
    walk_at "dl"
    refine ⟨d, _, _, rfl, hd, rfl, dr_len, ?_⟩
    rw [dr_put_rest]
    walk_at "dl"
    refine i_drp0 (k _ _ (Int.emod_nonneg _ (by omega)) (Int.emod_lt_of_pos _ h0) ⟨ne, gs, cs, r / room, t, Mem.set_same, by rw [Mem.set_ne ne]; exact hl, hg, Int.ediv_nonneg hr0 (by omega), ht0, htn⟩ fun a h1 h2 => by rw [Mem.set_ne h1]; exact ev a h1 h2)

abbrev s__law_pick : Stmt := topS 40
abbrev nn__law_pick : List Str := ["state", "some"]
theorem sc__law_pick : FnScope nn__law_pick ["state", "some"] (defScope s__law_pick) := ⟨rfl, rfl, rfl, by decide +kernel, rfl, by decide +kernel, by decide +kernel⟩
theorem ok__law_pick {P : Program} {w : World} {K : PySem.W.Frag} {mg : Str → Option Value} {base : Heap} {T : List (Addr × Str)}  (B : Blt mg) (G__law_draw : Has P w K mg base T "_law_draw" 2 2 fs__law_draw) {f : Addr} {fd : FuncData} (F : Fun K "_law_pick" "_law_pick" s__law_pick f fd) (hm : mg "_law_pick" = some (.ref f)) (hb : L2.Binds K fd ["state", "some"] []) : Has P w K mg base T "_law_pick" 3 2 fs__law_pick := by
  refine okD (k := 2) F sc__law_pick hm hb len__law_pick (fun cdv A outer s H E hr => ⟨_, (xss_one (xs_ret (xe_item (xv 1) (xe_call G__law_draw (hr.mono (by decide)) (by rfl) (xa_cons (xv 0) (xa_cons (xe_callB call_len d_len (by rfl) B.b_len (by decide +kernel) (xa_cons (xv 1) xa_nil)) xa_nil)))))), fun ds M Φ h => ?_⟩)
  obtain ⟨d, l, n, xs, rfl, hd, hn, h0, hl, k⟩ := h
  have hp : 0 < xs.length := List.length_pos_iff.mpr h0
  walk_at "dl"
  refine ⟨d, l, n, (xs.length : Int), rfl, hd, hn, by omega, ?_, fun x M' hx1 hx2 hd' ev => ?_⟩
  · have : ((xs.length : Int).natAbs).log2 < 64 := by rw [Nat.log2_lt (by omega)]; omega
    omega
  · walk_at "dl"
    obtain ⟨i, rfl⟩ := Int.eq_ofNat_of_zero_le hx1
    have hi : i < xs.length := by omega
    refine i_ixl (x := xs[i]) ?_ (i_drp0 (k _ (List.getElem_mem hi) M' hd' ev))
    unfold atI
    rw [ixN_of hi]
    simp [hi]

abbrev s__law_shuffled : Stmt := topS 41
abbrev nn__law_shuffled : List Str := ["state", "some", "left", "found"]
theorem sc__law_shuffled : FnScope nn__law_shuffled ["state", "some"] (defScope s__law_shuffled) := ⟨rfl, rfl, rfl, by decide +kernel, rfl, by decide +kernel, by decide +kernel⟩
theorem ok__law_shuffled {P : Program} {w : World} {K : PySem.W.Frag} {mg : Str → Option Value} {base : Heap} {T : List (Addr × Str)}  (B : Blt mg) (G__law_draw : Has P w K mg base T "_law_draw" 2 2 fs__law_draw) {f : Addr} {fd : FuncData} (F : Fun K "_law_shuffled" "_law_shuffled" s__law_shuffled f fd) (hm : mg "_law_shuffled" = some (.ref f)) (hb : L2.Binds K fd ["state", "some"] []) : Has P w K mg base T "_law_shuffled" 3 2 fs__law_shuffled := by
  refine okD (k := 2) F sc__law_shuffled hm hb len__law_shuffled (fun cdv A outer s H E hr => ⟨_, (xss_cons (xs_par (i := 2) (j := 3) rfl sc__law_shuffled.nd rfl rfl (by decide) rfl rfl (xa_cons (xe_callTy call_list_of d_listM (by rfl) B.b_list (by decide +kernel) (xa_cons (xv 1) xa_nil)) (xa_cons (xe_lstM xa_nil) xa_nil)) (by rfl))
      (xss_cons (xs_while PassesOwn.never (xt_ne hr.units (xv 2) (xe_lst xa_nil))
      (xss_one (xs_expr (xe_append (xv 3) (xe_popAt (xv 2) (xe_call G__law_draw (hr.mono (by decide)) (by rfl) (xa_cons (xv 0) (xa_cons (xe_callB call_len d_len (by rfl) B.b_len (by decide +kernel) (xa_cons (xv 2) xa_nil)) xa_nil))))))))
      (xss_one (xs_ret (xe_fz (xv 3)))))), fun ds M Φ h => ?_⟩)
  obtain ⟨d, l, n, xs, rfl, hd, hn, hl, sh, k⟩ := h
  walk_at "dl"
  refine i_listM (xs := xs) rfl fun p np => ?_
  walk_at "dl"
  intro q nq
  have pd := hd.ne_new np
  have nqM : M q = none := by
    by_cases e : q = p
    · rw [e]; exact np
    · rw [Mem.set_ne e] at nq; exact nq
  have qp : q ≠ p := fun e => by rw [e, Mem.set_same] at nq; cases nq
  have qd := hd.ne_new nqM
  walk_at "dl"
  refine while_by (m := xs.length) (fun m Γ M' => Γ = [some (.ptr d), some (.lst xs), some (.ptr p), some (.ptr q)] ∧ ∃ ys zs, m = zs.length ∧ M' p = some (.lst zs) ∧ M' q = some (.lst ys) ∧ (ys ++ zs).Perm xs ∧ Dr M' d l (n + ys.length) ∧ ∀ a, a ≠ d → a ≠ l → a ≠ p → a ≠ q → M' a = M a) ⟨rfl, [], xs, rfl, by rw [Mem.set_ne qp.symm]; exact Mem.set_same, Mem.set_same, .refl _, (hd.set pd.1 pd.2).set qd.1 qd.2, fun a h1 h2 h3 h4 => by rw [Mem.set_ne h4, Mem.set_ne h3]⟩ ?_
  rintro m Γ M' ⟨rfl, ys, zs, rfl, hp, hq, pm, hd', ev⟩
  walk_at "dl"
  have hlen : (ys ++ zs).length = xs.length := pm.length_eq
  rw [List.length_append] at hlen
  refine i_neP hp (sh zs fun z hz => pm.subset (List.mem_append_right _ hz)) ?_
  cases zs with
  | nil =>
    refine i_itF ?_
    walk_at "dl"
    refine i_fzL (Φ2 := fun _ => True) hq ?_
    rw [List.append_nil] at pm
    simp only [List.length_nil] at hlen
    refine i_drp (M := (M'.del q).del p) (k ys _ (by omega) (fun y hy => pm.subset hy) pm ?_ fun a h1 h2 => ?_) sub_del
    · have e : n + xs.length = n + ys.length := by omega
      rw [e]
      exact (hd'.del qd.1 qd.2).del pd.1 pd.2
    · by_cases e1 : a = p
      · rw [e1, Mem.del_same, np]
      · rw [Mem.del_ne e1]
        by_cases e2 : a = q
        · rw [e2, Mem.del_same, nqM]
        · rw [Mem.del_ne e2]; exact ev a h1 h2 e1 e2
  | cons z zs =>
    refine i_itT ?_
    simp only [List.length_cons] at hlen
    walk_at "dl"
    refine ⟨d, l, n + ys.length, ((z :: zs).length : Int), rfl, hd', by omega, by simp only [List.length_cons]; omega, ?_, fun x M2 hx1 hx2 hd2 ev2 => ?_⟩
    · have : (((z :: zs).length : Int).natAbs).log2 < 64 := by rw [Nat.log2_lt (by simp only [List.length_cons]; omega)]; simp only [List.length_cons]; omega
      omega
    obtain ⟨i, rfl⟩ := Int.eq_ofNat_of_zero_le hx1
    have hi : i < (z :: zs).length := by omega
    have hp2 : M2 p = some (.lst (z :: zs)) := by rw [ev2 p pd.1 pd.2]; exact hp
    have hq2 : M2 q = some (.lst ys) := by rw [ev2 q qd.1 qd.2]; exact hq
    walk_at "dl"
    refine i_popAt (j := i) (x := (z :: zs)[i]) hp2 hi (by simp only [List.length_cons] at hi; omega) (by simp [hi]) ?_
    walk_at "dl"
    refine i_append (xs := ys) (by rw [Mem.set_ne qp]; exact hq2) (szlt (by omega)) ?_
    refine ⟨((z :: zs).eraseIdx i).length, by rw [List.length_eraseIdx_of_lt hi]; simp only [List.length_cons]; omega, rfl, ys ++ [(z :: zs)[i]], _, rfl, by rw [Mem.set_ne qp.symm]; exact Mem.set_same, Mem.set_same, ?_, ?_, fun a h1 h2 h3 h4 => by rw [Mem.set_ne h4, Mem.set_ne h3, ev2 a h1 h2]; exact ev a h1 h2 h3 h4⟩
    · refine List.Perm.trans ?_ pm
      rw [List.append_assoc]
      exact List.Perm.append_left ys (perm_erase hi)
    · rw [List.length_append, List.length_singleton, ← Nat.add_assoc]
      exact (hd2.set pd.1 pd.2).set qd.1 qd.2

abbrev s__law_caught : Stmt := topS 42
abbrev nn__law_caught : List Str := ["action", "found", "error"]
theorem sc__law_caught : FnScope nn__law_caught ["action"] (defScope s__law_caught) := ⟨rfl, rfl, rfl, by decide +kernel, rfl, by decide +kernel, by decide +kernel⟩
theorem cs__law_caught : CaughtS s__law_caught := ⟨_, _, _, _, _, _, _, _, _, _, _, _, _, _, _, rfl⟩
abbrev s__law_is_truth : Stmt := topS 43
abbrev nn__law_is_truth : List Str := ["found", "due"]
theorem sc__law_is_truth : FnScope nn__law_is_truth ["found", "due"] (defScope s__law_is_truth) := ⟨rfl, rfl, rfl, by decide +kernel, rfl, by decide +kernel, by decide +kernel⟩
theorem ok__law_is_truth {P : Program} {w : World} {K : PySem.W.Frag} {mg : Str → Option Value} {base : Heap} {T : List (Addr × Str)}  (B : Blt mg)  {f : Addr} {fd : FuncData} (F : Fun K "_law_is_truth" "_law_is_truth" s__law_is_truth f fd) (hm : mg "_law_is_truth" = some (.ref f)) (hb : L2.Binds K fd ["found", "due"] []) : Has P w K mg base T "_law_is_truth" 1 2 fs__law_is_truth := by
  refine okD (k := 0) F sc__law_is_truth hm hb len__law_is_truth (fun cdv A outer s H E hr => ⟨_, (xss_one (xs_ret (xe_if (xt_val (xv 1)) (xe_is (xv 0) xe_bl) (xe_is (xv 0) xe_bl)))), fun ds M Φ h => ?_⟩)
  obtain ⟨b, rfl, k⟩ := h
  cases b
  all_goals walk_at "dl"
  all_goals exact i_drp0 k

abbrev s__law_same : Stmt := topS 44
abbrev nn__law_same : List Str := ["found", "due", "unseen_here", "one", "other", "alike", "key", "left", "right"]
theorem sc__law_same : FnScope nn__law_same ["found", "due"] (defScope s__law_same) := ⟨rfl, rfl, rfl, by decide +kernel, rfl, by decide +kernel, by decide +kernel⟩
theorem ok__law_same {P : Program} {w : World} {K : PySem.W.Frag} {mg : Str → Option Value} {base : Heap} {T : List (Addr × Str)}  (B : Blt mg) (G__law_is_truth : Has P w K mg base T "_law_is_truth" 1 2 fs__law_is_truth) {f : Addr} {fd : FuncData} (F : Fun K "_law_same" "_law_same" s__law_same f fd) (hm : mg "_law_same" = some (.ref f)) (hb : L2.Binds K fd ["found", "due"] []) : Has P w K mg base T "_law_same" 2 2 fs__law_same := by
  refine okD (k := 1) F sc__law_same hm hb len__law_same (fun cdv A outer s H E hr => ⟨_, (xss_cons (xs_set (i := 2) sc__law_same.nd rfl (by first | exact Or.inl rfl | exact Or.inr rfl) (xe_lstM (xa_cons (xe_tup (xa_cons (xv 0) (xa_cons (xv 1) xa_nil))) xa_nil)))
      (xss_cons (xs_while PassesOwn.never (xt_ne hr.units (xv 2) (xe_lst xa_nil))
      (xss_cons (xs_asgP (i := 3) (j := 4) rfl sc__law_same.nd rfl rfl (xe_pop (xv 2)))
      (xss_one (xs_if (xt_w (xw_or (xt_is (xv 4) xe_non) (xw_or1 (xt_val (xe_callB call_isiA d_isi (by rfl) B.b_isinstance (by decide +kernel) (xa_cons (xv 4) (xa_cons (xe_ty (n := "bool") (by rfl) B.b_bool (by decide +kernel)) xa_nil)))))))
      (xss_one (xs_if (xt_if (xt_is (xv 4) xe_non) (xt_isNot (xv 3) xe_non) (xt_not (xt_val (xe_call G__law_is_truth (hr.mono (by decide)) (by rfl) (xa_cons (xv 3) (xa_cons (xv 4) xa_nil))))))
      (xss_one (xs_ret xe_bl))
      xss_nil))
      (xss_one (xs_if (xt_val (xe_callB call_isiA d_isi (by rfl) B.b_isinstance (by decide +kernel) (xa_cons (xv 4) (xa_cons (xe_tup (xa_cons (xe_ty (n := "int") (by rfl) B.b_int (by decide +kernel)) (xa_cons (xe_ty (n := "str") (by rfl) B.b_str (by decide +kernel)) xa_nil))) xa_nil))))
      (xss_one (xs_if (xt_w (xw_or (xt_val (xe_callB call_isiA d_isi (by rfl) B.b_isinstance (by decide +kernel) (xa_cons (xv 3) (xa_cons (xe_ty (n := "bool") (by rfl) B.b_bool (by decide +kernel)) xa_nil)))) (xw_or (xt_ne hr.units (xe_callB call_isiA d_isi (by rfl) B.b_isinstance (by decide +kernel) (xa_cons (xv 3) (xa_cons (xe_ty (n := "int") (by rfl) B.b_int (by decide +kernel)) xa_nil))) (xe_callB call_isiA d_isi (by rfl) B.b_isinstance (by decide +kernel) (xa_cons (xv 4) (xa_cons (xe_ty (n := "int") (by rfl) B.b_int (by decide +kernel)) xa_nil)))) (xw_or1 (xt_ne hr.units (xv 3) (xv 4))))))
      (xss_one (xs_ret xe_bl))
      xss_nil))
      (xss_one (xs_if (xt_val (xe_callB call_isiA d_isi (by rfl) B.b_isinstance (by decide +kernel) (xa_cons (xv 4) (xa_cons (xe_ty (n := "dict") (by rfl) B.b_dict (by decide +kernel)) xa_nil))))
      xss_never
      (xss_cons (xs_set (i := 5) sc__law_same.nd rfl (by first | exact Or.inl rfl | exact Or.inr rfl) (xe_lst (xa_cons (xe_and (xe_callB call_isiA d_isi (by rfl) B.b_isinstance (by decide +kernel) (xa_cons (xv 3) (xa_cons (xe_ty (n := "tuple") (by rfl) B.b_tuple (by decide +kernel)) xa_nil))) (xe_one (xe_callB call_isiA d_isi (by rfl) B.b_isinstance (by decide +kernel) (xa_cons (xv 4) (xa_cons (xe_ty (n := "tuple") (by rfl) B.b_tuple (by decide +kernel)) xa_nil))))) (xa_cons (xe_and (xe_callB call_isiA d_isi (by rfl) B.b_isinstance (by decide +kernel) (xa_cons (xv 3) (xa_cons (xe_ty (n := "list") (by rfl) B.b_list (by decide +kernel)) xa_nil))) (xe_one (xe_callB call_isiA d_isi (by rfl) B.b_isinstance (by decide +kernel) (xa_cons (xv 4) (xa_cons (xe_ty (n := "list") (by rfl) B.b_list (by decide +kernel)) xa_nil))))) xa_nil))))
      (xss_cons (xs_if (xt_w (xw_or (xt_notIn xe_bl (xv 5)) (xw_or1 (xt_ne hr.units (xe_callB call_len d_len (by rfl) B.b_len (by decide +kernel) (xa_cons (xv 3) xa_nil)) (xe_callB call_len d_len (by rfl) B.b_len (by decide +kernel) (xa_cons (xv 4) xa_nil))))))
      (xss_one (xs_ret xe_bl))
      xss_nil)
      (xss_one (xs_expr (xe_extend (xv 2) (xe_lc rfl sc__law_same.nd (xi_zip (by rfl) B.b_zip (xa_cons (xv 3) (xa_cons (xv 4) xa_nil))) (blkOk_by (own := [("left", 7), ("right", 8)]) (N := nn__law_same) (sc := defScope s__law_same) (by decide +kernel)) (tg_pair (i := 7) (j := 8) (by decide) (by decide)) (fun _ _ _ _ _ => pg_tup rfl (pgs_cons (pg_name (i := 7) sc__law_same.nd rfl (by first | exact Or.inl rfl | exact Or.inr rfl)) (pgs_cons (pg_name (i := 8) sc__law_same.nd rfl (by first | exact Or.inl rfl | exact Or.inr rfl)) pgs_nil))) (fun _ _ _ _ _ => xts_nil) (fun _ _ _ _ _ => (xe_tup (xa_cons (xv 7) (xa_cons (xv 8) xa_nil))))))))))))))))))
      (xss_one (xs_ret xe_bl)))), fun ds M Φ h => ?_⟩)
  obtain ⟨d, rfl, hd, hz, k⟩ := h
  walk_at "dl"
  intro p np
  walk_at "dl"
  refine while_by (m := szA [d]) (fun m Γ M' => ∃ (ws : List D) (y3 y4 y5 y6 y7 y8 : Option D), Γ = [some d, some d, some (.ptr p), y3, y4, y5, y6, y7, y8] ∧ (∀ w ∈ ws, saD 40 w = true) ∧ m = szA ws ∧ m ≤ 1000000 ∧ M' = M.set p (.lst (ws.map fun x => D.tup [x, x]))) ⟨[d], _, _, _, _, _, _, rfl, by simpa using hd, rfl, by simp only [szA]; omega, rfl⟩ ?_
  rintro m Γ M' ⟨ws, y3, y4, y5, y6, y7, y8, rfl, hw, rfl, hm, rfl⟩
  walk_at "dl"
  refine i_neP Mem.set_same (sh_pairs (n := 40) (by omega) hw) ?_
  rw [List.isEmpty_map]
  rcases List.eq_nil_or_concat ws with rfl | ⟨ws, w, rfl⟩
  · refine i_itF ?_
    walk_at "dl"
    exact i_drp k (sub_set np)
  · rw [List.concat_eq_append] at *
    have hww := hw w (by simp)
    have hws : ∀ x ∈ ws, saD 40 x = true := fun x hx => hw x (by simp [hx])
    have hsz : szA (ws ++ [w]) = szA ws + szD w := by rw [szA_app]; simp [szA]
    have hl := szA_len ws
    have hp := szD_pos w
    rw [show (!(ws ++ [w]).isEmpty) = true by simp]
    refine i_itT ?_
    walk_at "dl"
    rw [List.map_append, List.map_cons, List.map_nil] at *
    refine i_pop (x := .tup [w, w]) Mem.set_same (by simp) ?_
    rw [List.dropLast_concat, Mem.set_set]
    have back : ∀ y3 y4 y5 y6 y7 y8 : Option D, ∃ m', m' < szA (ws ++ [w]) ∧ ∃ (ws' : List D) (z3 z4 z5 z6 z7 z8 : Option D), [some d, some d, some (.ptr p), y3, y4, y5, y6, y7, y8] = [some d, some d, some (.ptr p), z3, z4, z5, z6, z7, z8] ∧ (∀ w ∈ ws', saD 40 w = true) ∧ m' = szA ws' ∧ m' ≤ 1000000 ∧ M.set p (.lst (ws.map fun x => D.tup [x, x])) = M.set p (.lst (ws'.map fun x => D.tup [x, x])) := fun y3 y4 y5 y6 y7 y8 =>
      ⟨szA ws, by omega, ws, _, _, _, _, _, _, rfl, hws, rfl, by omega, rfl⟩
    cases w <;> first | (cases hww; done) | skip
    all_goals walk_at "dl"
    case non => exact back _ _ _ _ _ _
    case bl b =>
      refine ⟨b, rfl, ?_⟩
      walk_at "dl"
      exact back _ _ _ _ _ _
    case int i =>
      refine i_itND rfl ?_
      walk_at "dl"
      refine i_itND rfl ?_
      walk_at "dl"
      exact back _ _ _ _ _ _
    case str z =>
      refine i_itND rfl ?_
      walk_at "dl"
      refine i_itND rfl ?_
      walk_at "dl"
      exact back _ _ _ _ _ _
    case tup xs =>
      refine i_notInq (xs := [D.bl true, .bl false]) rfl rfl rfl (fun x z h => by cases h) ?_
      rw [show ([D.bl true, .bl false].any fun y => eqF y (.bl true)) = true from by decide +kernel]
      walk_at "dl"
      refine i_itND rfl ?_
      have hx : ∀ x ∈ xs, saD 40 x = true := fun x hx => saD_up (List.all_eq_true.mp (show xs.all (saD 39) = true from hww) x hx)
      have hlx := szA_len xs
      have hs : szD (.tup xs) = 1 + szA xs := by simp [szD]
      walk_at "dl"
      dsimp only
      rw [zip_self]
      refine lc_by (fun x => some x) ?_ (fun x hxm M' _ F hF => ?_) ?_
      · rw [List.length_map]; exact szl (by omega)
      · obtain ⟨q, _, rfl⟩ := List.mem_map.mp hxm
        walk_at "dl"
        exact hF
      · walk_at "dl"
        refine i_extend (zs := xs.map fun x => D.tup [x, x]) Mem.set_same (by rw [show ((xs.map fun x => D.tup [x, x]).filterMap fun x => some x) = xs.map fun x => D.tup [x, x] from by rw [List.filterMap_eq_map', List.map_id']]; rfl) (szl (by rw [List.length_map, List.length_map]; omega)) ?_
        rw [Mem.set_set, ← List.map_append]
        refine ⟨szA (ws ++ xs), by rw [hsz, szA_app, hs]; omega, ws ++ xs, _, _, _, _, _, _, rfl, fun w hw => ?_, rfl, by rw [szA_app]; omega, rfl⟩
        rcases List.mem_append.mp hw with h | h
        · exact hws w h
        · exact hx w h
    case lst xs =>
      refine i_notInq (xs := [D.bl false, .bl true]) rfl rfl rfl (fun x z h => by cases h) ?_
      rw [show ([D.bl false, .bl true].any fun y => eqF y (.bl true)) = true from by decide +kernel]
      walk_at "dl"
      refine i_itND rfl ?_
      have hx : ∀ x ∈ xs, saD 40 x = true := fun x hx => saD_up (List.all_eq_true.mp (show xs.all (saD 39) = true from hww) x hx)
      have hlx := szA_len xs
      have hs : szD (.lst xs) = 1 + szA xs := by simp [szD]
      walk_at "dl"
      dsimp only
      rw [zip_self]
      refine lc_by (fun x => some x) ?_ (fun x hxm M' _ F hF => ?_) ?_
      · rw [List.length_map]; exact szl (by omega)
      · obtain ⟨q, _, rfl⟩ := List.mem_map.mp hxm
        walk_at "dl"
        exact hF
      · walk_at "dl"
        refine i_extend (zs := xs.map fun x => D.tup [x, x]) Mem.set_same (by rw [show ((xs.map fun x => D.tup [x, x]).filterMap fun x => some x) = xs.map fun x => D.tup [x, x] from by rw [List.filterMap_eq_map', List.map_id']]; rfl) (szl (by rw [List.length_map, List.length_map]; omega)) ?_
        rw [Mem.set_set, ← List.map_append]
        refine ⟨szA (ws ++ xs), by rw [hsz, szA_app, hs]; omega, ws ++ xs, _, _, _, _, _, _, rfl, fun w hw => ?_, rfl, by rw [szA_app]; omega, rfl⟩
        rcases List.mem_append.mp hw with h | h
        · exact hws w h
        · exact hx w h

abbrev s__law_made : Stmt := topS 45
abbrev nn__law_made : List Str := ["n", "ties", "a", "b"]
theorem sc__law_made : FnScope nn__law_made ["n", "ties"] (defScope s__law_made) := ⟨rfl, rfl, rfl, by decide +kernel, rfl, by decide +kernel, by decide +kernel⟩
theorem ok__law_made {P : Program} {w : World} {K : PySem.W.Frag} {mg : Str → Option Value} {base : Heap} {T : List (Addr × Str)}  (B : Blt mg)  {f : Addr} {fd : FuncData} (F : Fun K "_law_made" "_law_made" s__law_made f fd) (hm : mg "_law_made" = some (.ref f)) (hb : L2.Binds K fd ["n", "ties"] []) : Has P w K mg base T "_law_made" 1 2 fs__law_made := by
  refine okD (k := 0) F sc__law_made hm hb len__law_made (fun cdv A outer s H E hr => ⟨_, (xss_one (xs_ret (xe_tup (xa_cons xe_str (xa_cons (xv 0) (xa_cons (xe_callTy call_tuple_of d_tuple (by rfl) B.b_tuple (by decide +kernel) (xa_cons (xe_lc rfl sc__law_made.nd (xi_any (xv 1)) (blkOk_by (own := [("a", 2), ("b", 3)]) (N := nn__law_made) (sc := defScope s__law_made) (by decide +kernel)) (tg_pair (i := 2) (j := 3) (by decide) (by decide)) (fun _ _ _ _ _ => pg_tup rfl (pgs_cons (pg_name (i := 2) sc__law_made.nd rfl (by first | exact Or.inl rfl | exact Or.inr rfl)) (pgs_cons (pg_name (i := 3) sc__law_made.nd rfl (by first | exact Or.inl rfl | exact Or.inr rfl)) pgs_nil))) (fun _ _ _ _ _ => xts_nil) (fun _ _ _ _ _ => (xe_tup (xa_cons (xe_callB (call_min2 rfl) d_min2 (by rfl) B.b_min (by decide +kernel) (xa_cons (xv 2) (xa_cons (xv 3) xa_nil))) (xa_cons (xe_callB (call_max2 rfl) d_max2 (by rfl) B.b_max (by decide +kernel) (xa_cons (xv 2) (xa_cons (xv 3) xa_nil))) xa_nil))))) xa_nil)) xa_nil)))))), fun ds M Φ h => ?_⟩)
  obtain ⟨n, ts, rfl, hl, k⟩ := h
  walk_at "dl"
  refine lc_by (fun x => some (match x with
    | .tup [.int a, .int b] => pairD (nrm (a, b))
    | _ => .non)) ?_ (fun x hx M' _ F hF => ?_) ?_
  · rw [List.length_map]; exact szl (by omega)
  · obtain ⟨t, ht, rfl⟩ := List.mem_map.mp hx
    unfold pairD
    walk_at "dl"
    exact hF
  · walk_at "dl"
    refine i_drp0 ?_
    have e : (ts.map pairD).filterMap (fun x => some (match x with
        | .tup [.int a, .int b] => pairD (nrm (a, b))
        | _ => .non)) = (ts.map nrm).map pairD := by
      rw [List.filterMap_eq_map', List.map_map, List.map_map]
      rfl
    rw [e]
    exact k

abbrev s__law_web : Stmt := topS 46
abbrev nn__law_web : List Str := ["draws", "places", "most", "way", "n", "many", "ties", "a", "lap", "b", "place"]
theorem sc__law_web : FnScope nn__law_web ["draws", "places", "most"] (defScope s__law_web) := ⟨rfl, rfl, rfl, by decide +kernel, rfl, by decide +kernel, by decide +kernel⟩
theorem ok__law_web {P : Program} {w : World} {K : PySem.W.Frag} {mg : Str → Option Value} {base : Heap} {T : List (Addr × Str)}  (B : Blt mg) (G__law_draw : Has P w K mg base T "_law_draw" 2 2 fs__law_draw) (G__law_made : Has P w K mg base T "_law_made" 1 2 fs__law_made) (G__law_shuffled : Has P w K mg base T "_law_shuffled" 3 2 fs__law_shuffled) (G__law_shuffled_web : Has P w K mg base T "_law_shuffled_web" 4 3 fs__law_shuffled_web) {f : Addr} {fd : FuncData} (F : Fun K "_law_web" "_law_web" s__law_web f fd) (hm : mg "_law_web" = some (.ref f)) (hb : L2.Binds K fd ["draws", "places", "most"] []) : Has P w K mg base T "_law_web" 5 3 fs__law_web := by
  refine okD (k := 4) F sc__law_web hm hb len__law_web (fun cdv A outer s H E hr => ⟨_, (xss_cons (xs_asgP (i := 3) (j := 4) rfl sc__law_web.nd rfl rfl (xe_tup (xa_cons (xe_call G__law_draw (hr.mono (by decide)) (by rfl) (xa_cons (xv 0) (xa_cons xe_int xa_nil))) (xa_cons (xe_add xe_int (xe_call G__law_draw (hr.mono (by decide)) (by rfl) (xa_cons (xv 0) (xa_cons (xv 1) xa_nil)))) xa_nil))))
      (xss_cons (xs_set (i := 5) sc__law_web.nd rfl (by first | exact Or.inl rfl | exact Or.inr rfl) (xe_call G__law_draw (hr.mono (by decide)) (by rfl) (xa_cons (xv 0) (xa_cons (xe_add (xv 2) xe_int) xa_nil))))
      (xss_cons (xs_if (xt_eq hr.units (xv 3) xe_int)
      (xss_cons (xs_set (i := 6) sc__law_web.nd rfl (by first | exact Or.inl rfl | exact Or.inr rfl) (xe_sliceM (xe_lc rfl sc__law_web.nd (xi_rng1 (by rfl) B.b_range (xa_cons (xv 4) xa_nil)) (blkOk_by (own := [("place", 10)]) (N := nn__law_web) (sc := defScope s__law_web) (by decide +kernel)) (tg_name (by decide)) (fun _ _ _ _ _ => pg_name (i := 10) sc__law_web.nd rfl (by first | exact Or.inl rfl | exact Or.inr rfl)) (fun _ _ _ _ _ => xts_nil) (fun _ _ _ _ _ => (xe_tup (xa_cons (xv 10) (xa_cons (xe_mod (xe_callTy call_intA d_int (by rfl) B.b_int (by decide +kernel) (xa_cons (xe_add (xv 10) xe_int) xa_nil)) (xv 4)) xa_nil))))) xo_no (xo_at (xv 2))))
      (xss_one (xs_ret (xe_call G__law_shuffled_web (hr.mono (by decide)) (by rfl) (xa_cons (xv 0) (xa_cons (xv 4) (xa_cons (xe_fz (xv 6)) xa_nil)))))))
      xss_nil)
      (xss_cons (xs_if (xt_eq hr.units (xv 3) xe_int)
      (xss_cons (xs_set (i := 6) sc__law_web.nd rfl (by first | exact Or.inl rfl | exact Or.inr rfl) (xe_lstM xa_nil))
      (xss_cons (xs_for (vs := [7]) PassesOwn.never rfl (xi_rng1 (by rfl) B.b_range (xa_cons (xv 4) xa_nil)) (pg_name (i := 7) sc__law_web.nd rfl (by first | exact Or.inl rfl | exact Or.inr rfl)) (tg_name (by decide))
      (xss_one (xs_set (i := 6) sc__law_web.nd rfl (by first | exact Or.inl rfl | exact Or.inr rfl) (xe_addM (xv 6) (xe_lc rfl sc__law_web.nd (xi_rng2 (by rfl) B.b_range (xa_cons (xe_add (xv 7) xe_int) (xa_cons (xv 4) xa_nil))) (blkOk_by (own := [("b", 9)]) (N := nn__law_web) (sc := defScope s__law_web) (by decide +kernel)) (tg_name (by decide)) (fun _ _ _ _ _ => pg_name (i := 9) sc__law_web.nd rfl (by first | exact Or.inl rfl | exact Or.inr rfl)) (fun _ _ _ _ _ => xts_nil) (fun _ _ _ _ _ => (xe_tup (xa_cons (xv 7) (xa_cons (xv 9) xa_nil)))))))))
      (xss_one (xs_ret (xe_call G__law_shuffled_web (hr.mono (by decide)) (by rfl) (xa_cons (xv 0) (xa_cons (xv 4) (xa_cons (xe_slice (xe_call G__law_shuffled (hr.mono (by decide)) (by rfl) (xa_cons (xv 0) (xa_cons (xe_fz (xv 6)) xa_nil))) xo_no (xo_at (xv 5))) xa_nil))))))))
      xss_nil)
      (xss_cons (xs_if (xt_w (xw_or (xt_eq hr.units (xv 3) xe_int) (xw_or1 (xt_eq hr.units (xv 3) xe_int))))
      (xss_cons (xs_set (i := 6) sc__law_web.nd rfl (by first | exact Or.inl rfl | exact Or.inr rfl) (xe_sliceM (xe_lc rfl sc__law_web.nd (xi_rng2 (by rfl) B.b_range (xa_cons xe_int (xa_cons (xv 4) xa_nil))) (blkOk_by (own := [("place", 10)]) (N := nn__law_web) (sc := defScope s__law_web) (by decide +kernel)) (tg_name (by decide)) (fun _ _ _ _ _ => pg_name (i := 10) sc__law_web.nd rfl (by first | exact Or.inl rfl | exact Or.inr rfl)) (fun _ _ _ _ _ => xts_nil) (fun _ _ _ _ _ => (xe_tup (xa_cons (xv 10) (xa_cons (xe_call G__law_draw (hr.mono (by decide)) (by rfl) (xa_cons (xv 0) (xa_cons (xv 10) xa_nil))) xa_nil))))) xo_no (xo_at (xv 2))))
      (xss_cons (xs_for (vs := [8]) PassesOwn.never rfl (xi_rng1 (by rfl) B.b_range (xa_cons (xe_callB (call_max2 rfl) d_max2 (by rfl) B.b_max (by decide +kernel) (xa_cons xe_int (xa_cons (xe_sub (xv 5) (xe_callB call_len d_len (by rfl) B.b_len (by decide +kernel) (xa_cons (xv 6) xa_nil))) xa_nil))) xa_nil)) (pg_name (i := 8) sc__law_web.nd rfl (by first | exact Or.inl rfl | exact Or.inr rfl)) (tg_name (by decide))
      (xss_one (xs_expr (xe_append (xv 6) (xe_tup (xa_cons (xe_call G__law_draw (hr.mono (by decide)) (by rfl) (xa_cons (xv 0) (xa_cons (xv 4) xa_nil))) (xa_cons (xe_call G__law_draw (hr.mono (by decide)) (by rfl) (xa_cons (xv 0) (xa_cons (xv 4) xa_nil))) xa_nil)))))))
      (xss_one (xs_ret (xe_call G__law_shuffled_web (hr.mono (by decide)) (by rfl) (xa_cons (xv 0) (xa_cons (xv 4) (xa_cons (xe_fz (xv 6)) xa_nil))))))))
      xss_nil)
      (xss_cons (xs_if (xt_w (xw_and (xt_eq hr.units (xv 3) xe_int) (xw_and1 (xt_gt (xv 4) xe_int))))
      (xss_cons (xs_asgP (i := 7) (j := 9) rfl sc__law_web.nd rfl rfl (xe_tup (xa_cons (xe_call G__law_draw (hr.mono (by decide)) (by rfl) (xa_cons (xv 0) (xa_cons (xv 4) xa_nil))) (xa_cons (xe_call G__law_draw (hr.mono (by decide)) (by rfl) (xa_cons (xv 0) (xa_cons (xv 4) xa_nil))) xa_nil))))
      (xss_one (xs_ret (xe_call G__law_shuffled_web (hr.mono (by decide)) (by rfl) (xa_cons (xv 0) (xa_cons (xv 4) (xa_cons (xe_add (xe_mul (xe_lst (xa_cons (xe_tup (xa_cons (xv 7) (xa_cons (xv 9) xa_nil))) xa_nil)) (xe_callTy call_intA d_int (by rfl) B.b_int (by decide +kernel) (xa_cons (xe_fdiv (xv 5) xe_int) xa_nil))) (xe_lc rfl sc__law_web.nd (xi_rng1 (by rfl) B.b_range (xa_cons (xe_sub (xv 5) (xe_callTy call_intA d_int (by rfl) B.b_int (by decide +kernel) (xa_cons (xe_fdiv (xv 5) xe_int) xa_nil))) xa_nil)) (blkOk_by (own := [("lap", 8)]) (N := nn__law_web) (sc := defScope s__law_web) (by decide +kernel)) (tg_name (by decide)) (fun _ _ _ _ _ => pg_name (i := 8) sc__law_web.nd rfl (by first | exact Or.inl rfl | exact Or.inr rfl)) (fun _ _ _ _ _ => xts_nil) (fun _ _ _ _ _ => (xe_tup (xa_cons (xe_call G__law_draw (hr.mono (by decide)) (by rfl) (xa_cons (xv 0) (xa_cons (xv 4) xa_nil))) (xa_cons (xe_call G__law_draw (hr.mono (by decide)) (by rfl) (xa_cons (xv 0) (xa_cons (xv 4) xa_nil))) xa_nil)))))) xa_nil)))))))
      xss_nil)
      (xss_one (xs_ret (xe_call G__law_made (hr.mono (by decide)) (by rfl) (xa_cons (xv 4) (xa_cons (xe_lc rfl sc__law_web.nd (xi_rng1 (by rfl) B.b_range (xa_cons (xv 5) xa_nil)) (blkOk_by (own := [("lap", 8)]) (N := nn__law_web) (sc := defScope s__law_web) (by decide +kernel)) (tg_name (by decide)) (fun _ _ _ _ _ => pg_name (i := 8) sc__law_web.nd rfl (by first | exact Or.inl rfl | exact Or.inr rfl)) (fun _ _ _ _ _ => xts_nil) (fun _ _ _ _ _ => (xe_tup (xa_cons (xe_call G__law_draw (hr.mono (by decide)) (by rfl) (xa_cons (xv 0) (xa_cons (xv 4) xa_nil))) (xa_cons (xe_call G__law_draw (hr.mono (by decide)) (by rfl) (xa_cons (xv 0) (xa_cons (xv 4) xa_nil))) xa_nil))))) xa_nil))))))))))), fun ds M Φ h => ?_⟩)
  obtain ⟨d, l, n, pl, mo, rfl, hp1, hp8, hm12, hd, hn, k⟩ := h
  walk_at "dl"
  refine ⟨d, l, n, 7, rfl, hd, by omega, by omega, by decide, fun way M1 w1 w2 hd1 ev1 => ?_⟩
  walk_at "dl"
  refine ⟨d, l, n + 1, (pl : Int), rfl, hd1, by omega, by omega, log_small (by omega) (by omega), fun n0 M2 n1 n2 hd2 ev2 => ?_⟩
  walk_at "dl"
  refine ⟨d, l, n + 1 + 1, (mo : Int) + 1, rfl, hd2, by omega, by omega, log_small (by omega) (by omega), fun many M3 m1 m2 hd3 ev3 => ?_⟩
  have ev := (ev1.trans ev2).trans ev3
  obtain ⟨mm, rfl⟩ := Int.eq_ofNat_of_zero_le m1
  walk_at "dl"
  refine i_itD (fun e0 => ?_) fun e0 => ?_
  · walk_at "dl"
    refine ⟨by omega, by omega, ?_⟩
    refine lc_by (fun x => some (match x with
      | .int i => pairD (i, (i + 1) % (1 + n0))
      | _ => .non)) ?_ (fun x hx M' _ F hF => ?_) ?_
    · unfold rgD; rw [List.length_map, List.length_range]; exact szl (by omega)
    · unfold rgD at hx
      obtain ⟨i, _, rfl⟩ := List.mem_map.mp hx
      walk_at "dl"
      exact hF
    · have er : (rgD 0 (1 + n0)).filterMap (fun x => some (match x with
          | .int i => pairD (i, (i + 1) % (1 + n0))
          | _ => D.non)) = (ringD (1 + n0)).map pairD := by
        unfold rgD ringD
        rw [List.filterMap_eq_map', List.map_map, List.map_map, Int.sub_zero]
        refine List.map_congr_left fun i _ => ?_
        show pairD (0 + (i : Int), (0 + (i : Int) + 1) % (1 + n0)) = pairD ((i : Int), ((i : Int) + 1) % (1 + n0))
        rw [Int.zero_add]
      rw [er]
      walk_at "dl"
      refine ⟨_, rfl, fun p np => ?_⟩
      rw [show cutD ((ringD (1 + n0)).map pairD) none (some (mo : Int)) = ((ringD (1 + n0)).take mo).map pairD from by rw [cutTake, List.map_take]]
      walk_at "dl"
      dsimp only
      rw [Mem.set_same]
      dsimp only
      rw [del_set np]
      have hrl : (ringD (1 + n0)).length ≤ 8 := by unfold ringD; rw [List.length_map, List.length_range]; omega
      have hl : ((ringD (1 + n0)).take mo).length ≤ 8 := by rw [List.length_take]; omega
      walk_at "dl"
      refine ⟨d, l, n + 1 + 1 + 1, 1 + n0, _, rfl, hd3, by omega, by omega, fun qs M' pm hd' ev' => ?_⟩
      refine i_drp0 (k _ _ _ (good_nrm (by omega) (by omega) (by omega) (fun t ht => ?_) pm) (hd'.mono (by omega)) (ev.trans ev'))
      obtain ⟨i, hi, rfl⟩ := List.mem_map.mp (List.mem_of_mem_take ht)
      have := List.mem_range.mp hi
      have h1 := Int.emod_nonneg ((i : Int) + 1) (show (1 + n0) ≠ 0 by omega)
      have h2 := Int.emod_lt_of_pos ((i : Int) + 1) (show 0 < 1 + n0 by omega)
      exact ⟨by dsimp only; omega, by dsimp only; omega, h1, h2⟩
  · walk_at "dl"
    refine i_itD (fun e1 => ?_) fun e1 => ?_
    · walk_at "dl"
      intro p0 np0
      walk_at "dl"
      refine ⟨by omega, by omega, ?_⟩
      refine for_by (fun i Γ M' => ∃ (p : Addr) (ts : List (Int × Int)) (y7 y8 y9 y10 : Option D), Γ = [some (.ptr d), some (.int (pl : Int)), some (.int (mo : Int)), some (.int way), some (.int (1 + n0)), some (.int (mm : Int)), some (.ptr p), y7, y8, y9, y10] ∧ Sub M3 M' ∧ M3 p = none ∧ M' p = some (.lst (ts.map pairD)) ∧ ts.length ≤ 8 * i ∧ ∀ t ∈ ts, InR (1 + n0) t) ⟨p0, [], _, _, _, _, rfl, sub_set np0, np0, Mem.set_same, by simp, by simp⟩ ?_ ?_
      · rintro i x Γ M' FF hx ⟨p, ts, y7, y8, y9, y10, rfl, sb, np, hp, hl, ht⟩ hF
        obtain ⟨hi, rfl⟩ := rgD_get hx
        walk_at "dl"
        refine ⟨⟨by omega, by omega, by omega, by omega⟩, ?_⟩
        refine lc_by (fun x => some (match x with
          | .int b => pairD (0 + (i : Int), b)
          | _ => .non)) ?_ (fun x hx M' _ F hF => ?_) ?_
        · rw [rgD_len]; exact szl (by omega)
        · obtain ⟨b, hb1, hb2, rfl⟩ := rgD_mem hx
          walk_at "dl"
          exact hF
        · have er : (rgD (0 + (i : Int) + 1) (1 + n0)).filterMap (fun x => some (match x with
              | .int b => pairD (0 + (i : Int), b)
              | _ => D.non)) = ((rgI (0 + (i : Int) + 1) (1 + n0)).map fun b => (0 + (i : Int), b)).map pairD := by
            rw [rgD_I, List.filterMap_eq_map', List.map_map, List.map_map]; rfl
          rw [er]
          walk_at "dl"
          refine ⟨_, _, lsR_p hp, rfl, ?_, fun p' np' => ?_⟩
          · rw [List.length_map, List.length_map, List.length_map, rgI_len]; exact szl (by omega)
          walk_at "dl"
          refine hF _ _ ⟨p', ts ++ ((rgI (0 + (i : Int) + 1) (1 + n0)).map fun b => (0 + (i : Int), b)), _, _, _, _, rfl, sb.trans (sub_set np'), sb.none_ np', ?_, ?_, ?_⟩
          · rw [Mem.set_same, List.map_append]
          · rw [List.length_append, List.length_map, rgI_len]; omega
          · intro t h
            rcases List.mem_append.mp h with h | h
            · exact ht t h
            · obtain ⟨b, hb, rfl⟩ := List.mem_map.mp h
              have := rgI_mem hb
              exact ⟨by dsimp only; omega, by dsimp only; omega, by dsimp only; omega, by dsimp only; omega⟩
      · rintro Γ M' ⟨p, ts, y7, y8, y9, y10, rfl, sb, np, hp, hl, ht⟩
        rw [rgD_len] at hl
        have pd := hd3.ne_new np
        have hdp := (hd3.sub sb).del pd.1 pd.2
        walk_at "dl"
        dsimp only
        rw [hp]
        dsimp only
        walk_at "dl"
        refine ⟨d, l, n + 1 + 1 + 1, _, rfl, hdp, by rw [List.length_map]; omega, by rw [List.length_map]; omega, shD_pairs ts, fun ys M4 y1 y2 y3 hd4 ev4 => ?_⟩
        obtain ⟨qs, rfl, hq⟩ := perm_pairs y3
        rw [List.length_map] at hd4
        walk_at "dl"
        rw [cutTake, ← List.map_take]
        have hql := hq.length_eq
        refine ⟨d, l, _, 1 + n0, _, rfl, hd4, by rw [List.length_take]; omega, by rw [List.length_take]; omega, fun us M5 pm hd5 ev5 => ?_⟩
        obtain ⟨Mf, s1, s2, s3⟩ := clean (M := M3) hd5 (fun a h1 h2 m hm => by
          rw [ev5 a h1 h2, ev4 a h1 h2, Mem.del_ne (fun z => by rw [z, np] at hm; cases hm)]
          exact sb a m hm)
        refine i_drp (k _ _ Mf (good_nrm (by omega) (by omega) (by rw [List.length_take]; omega) (fun t h => ?_) pm) (s2.mono (by rw [List.length_take]; omega)) (ev.trans s3)) s1
        exact ht t (hq.subset (List.mem_of_mem_take h))
    · walk_at "dl"
      refine i_share1 (way = 2 ∨ way = 3) (fun e => .inl e) (fun e23 => ?_) fun e2 hA => ?_
      · walk_at "dl"
        refine ⟨⟨by omega, by omega, by omega, by omega⟩, ?_⟩
        refine lcI_by (fun i acc M' => ∃ ts : List (Int × Int), acc = ts.map pairD ∧ ts.length = i ∧ (∀ t ∈ ts, InR (1 + n0) t) ∧ Dr M' d l (n + 3 + i) ∧ Ev M3 M' d l) ⟨[], rfl, rfl, (fun t h => by cases h), hd3, Ev.refl⟩ ?_ ?_ ?_
        · rw [rgD_len]; exact szl (by omega)
        · rintro i x acc M4 hx ⟨ts, rfl, hl, ht, hd4, ev4⟩ p hp F hF
          obtain ⟨hi, rfl⟩ := rgD_get hx
          have ne := hd4.ne_new hp
          walk_at "dl"
          refine ⟨d, l, n + 3 + i, _, rfl, hd4.set ne.1 ne.2, by omega, by omega, log_small (by omega) (by omega), fun a M5 a1 a2 hd5 ev5 => ?_⟩
          walk_at "dl"
          obtain ⟨h1, h2⟩ := beside hd4 hp ev5
          have := hF (some (pairD (1 + (i : Int), a))) (M5.del p) ⟨ts ++ [(1 + (i : Int), a)], by rw [List.map_append]; rfl, by simp [hl], fun t h => ?_, (hd5.del ne.1 ne.2), ev4.trans h2⟩ Mem.del_same
          · rw [del_put h1] at this
            exact this
          · rcases List.mem_append.mp h with h | h
            · exact ht t h
            · rcases List.mem_singleton.mp h with rfl
              exact ⟨by dsimp only; omega, by dsimp only; omega, by dsimp only; omega, by dsimp only; omega⟩
        · rintro acc M4 ⟨ts, rfl, hl, ht, hd4, ev4⟩
          rw [rgD_len] at hl hd4
          have tkl : (ts.take mo).length ≤ mo := by rw [List.length_take]; omega
          have tkl2 : (ts.take mo).length ≤ ts.length := by rw [List.length_take]; omega
          have htk : ∀ t ∈ ts.take mo, InR (1 + n0) t := fun t h => ht t (List.mem_of_mem_take h)
          walk_at "dl"
          refine ⟨_, rfl, fun p np => ?_⟩
          rw [show cutD (ts.map pairD) none (some (mo : Int)) = (ts.take mo).map pairD from by rw [cutTake, ← List.map_take]]
          generalize ts.take mo = tz at tkl tkl2 htk
          have pd := hd4.ne_new np
          walk_at "dl"
          rw [List.length_map]
          refine ⟨by omega, by omega, ?_⟩
          refine for_by (fun i Γ M' => ∃ (us : List (Int × Int)) (y7 y8 y9 y10 : Option D), Γ = [some (.ptr d), some (.int (pl : Int)), some (.int (mo : Int)), some (.int way), some (.int (1 + n0)), some (.int (mm : Int)), some (.ptr p), y7, y8, y9, y10] ∧ M' p = some (.lst (us.map pairD)) ∧ us.length = tz.length + i ∧ (∀ t ∈ us, InR (1 + n0) t) ∧ Dr M' d l (n + 10 + 2 * i) ∧ ∀ a, a ≠ d → a ≠ l → a ≠ p → M' a = M4 a) ⟨tz, _, _, _, _, rfl, Mem.set_same, rfl, htk, (hd4.set pd.1 pd.2).mono (by omega), fun a _ _ h => Mem.set_ne h⟩ ?_ ?_
          · rintro i x Γ M' FF hx ⟨us, y7, y8, y9, y10, rfl, hp, hl', hu, hd5, ev5⟩ hF
            have hi := (rgD_get hx).1
            walk_at "dl"
            refine ⟨d, l, _, 1 + n0, rfl, hd5, by omega, by omega, log_small (by omega) (by omega), fun a M6 a1 a2 hd6 ev6 => ?_⟩
            walk_at "dl"
            refine ⟨d, l, _, 1 + n0, rfl, hd6, by omega, by omega, log_small (by omega) (by omega), fun b M7 b1 b2 hd7 ev7 => ?_⟩
            walk_at "dl"
            have hp7 : M7 p = some (.lst (us.map pairD)) := by rw [ev7 p pd.1 pd.2, ev6 p pd.1 pd.2]; exact hp
            refine i_append hp7 (szlt (by rw [List.length_map]; omega)) ?_
            refine hF _ _ ⟨us ++ [(a, b)], _, _, _, _, rfl, by rw [Mem.set_same, List.map_append]; rfl, by rw [List.length_append, List.length_singleton]; omega, fun t h => ?_, (hd7.set pd.1 pd.2).mono (by omega), fun c h1 h2 h3 => by rw [Mem.set_ne h3, ev7 c h1 h2, ev6 c h1 h2]; exact ev5 c h1 h2 h3⟩
            rcases List.mem_append.mp h with h | h
            · exact hu t h
            · rcases List.mem_singleton.mp h with rfl
              exact ⟨a1, a2, b1, b2⟩
          · rintro Γ M' ⟨us, y7, y8, y9, y10, rfl, hp, hl', hu, hd5, ev5⟩
            rw [rgD_len] at hl' hd5
            have hus : us.length ≤ 12 := by omega
            walk_at "dl"
            dsimp only
            rw [hp]
            dsimp only
            obtain ⟨g1, g2⟩ := drop_beside hd5 np pd ev5
            walk_at "dl"
            refine ⟨d, l, _, 1 + n0, _, rfl, g1, by omega, by omega, fun qs M6 pm hd6 ev6 => ?_⟩
            exact i_drp0 (k _ _ _ (good_nrm (by omega) (by omega) hus hu pm) (hd6.mono (by omega)) (ev.trans (ev4.trans (g2.trans ev6))))
      · walk_at "dl"
        refine i_itD (fun e3 => ?_) fun e3 => ?_
        · have := hA (.inr e3)
          rw [if_pos rfl] at this
          exact this
        · walk_at "dl"
          refine i_share (way ≠ 4 ∨ ¬ (1 + n0 > 1)) (fun hc => ?_) (fun e4 hB => ?_) (fun e => .inl e)
          · walk_at "dl"
            refine ⟨by omega, by omega, ?_⟩
            refine lcI_by (fun i acc M' => ∃ ts : List (Int × Int), acc = ts.map pairD ∧ ts.length = i ∧ (∀ t ∈ ts, InR (1 + n0) t) ∧ Dr M' d l (n + 3 + 2 * i) ∧ Ev M3 M' d l) ⟨[], rfl, rfl, (fun t h => by cases h), hd3, Ev.refl⟩ ?_ ?_ ?_
            · rw [rgD_len]; exact szl (by omega)
            · rintro i x acc M4 hx ⟨ts, rfl, hl, ht, hd4, ev4⟩ p hp F hF
              have hi := (rgD_get hx).1
              have ne := hd4.ne_new hp
              walk_at "dl"
              refine ⟨d, l, n + 3 + 2 * i, 1 + n0, rfl, hd4.set ne.1 ne.2, by omega, by omega, log_small (by omega) (by omega), fun a M5 a1 a2 hd5 ev5 => ?_⟩
              walk_at "dl"
              refine ⟨d, l, n + 3 + 2 * i + 1, 1 + n0, rfl, hd5, by omega, by omega, log_small (by omega) (by omega), fun b M6 b1 b2 hd6 ev6 => ?_⟩
              walk_at "dl"
              obtain ⟨h1, h2⟩ := beside hd4 hp (ev5.trans ev6)
              have := hF (some (pairD (a, b))) (M6.del p) ⟨ts ++ [(a, b)], by rw [List.map_append]; rfl, by simp [hl], fun t h => ?_, (hd6.del ne.1 ne.2).mono (by omega), ev4.trans h2⟩ Mem.del_same
              · rw [del_put h1] at this
                exact this
              · rcases List.mem_append.mp h with h | h
                · exact ht t h
                · rcases List.mem_singleton.mp h with rfl
                  exact ⟨a1, a2, b1, b2⟩
            · rintro acc M4 ⟨ts, rfl, hl, ht, hd4, ev4⟩
              have hm : ts.length ≤ 12 := by rw [rgD_len] at hl; omega
              rw [hl.symm] at hd4
              walk_at "dl"
              refine ⟨1 + n0, ts, rfl, by omega, ?_⟩
              exact i_drp0 (k _ _ _ (good_nrm (by omega) (by omega) hm ht (.refl _)) (hd4.mono (by omega)) (ev.trans ev4))
          · walk_at "dl"
            refine i_itD (fun e5 => ?_) fun e5 => ?_
            · walk_at "dl"
              refine ⟨d, l, n + 3, 1 + n0, rfl, hd3, by omega, by omega, log_small (by omega) (by omega), fun a M4 a1 a2 hd4 ev4 => ?_⟩
              walk_at "dl"
              refine ⟨d, l, n + 4, 1 + n0, rfl, hd4, by omega, by omega, log_small (by omega) (by omega), fun b M5 b1 b2 hd5 ev5 => ?_⟩
              have evb := ev4.trans ev5
              walk_at "dl"
              refine ⟨_, rfl, by omega, by omega, szl (by simp only [List.length_cons, List.length_nil]; omega), ?_⟩
              walk_at "dl"
              refine ⟨by omega, by omega, ?_⟩
              refine lcI_by (fun i acc M' => ∃ ts : List (Int × Int), acc = ts.map pairD ∧ ts.length = i ∧ (∀ t ∈ ts, InR (1 + n0) t) ∧ Dr M' d l (n + 5 + 2 * i) ∧ Ev M3 M' d l) ⟨[], rfl, rfl, (fun t h => by cases h), hd5, evb⟩ ?_ ?_ ?_
              · rw [rgD_len]; exact szl (by omega)
              · rintro i x acc M6 hx ⟨ts, rfl, hl, ht, hd6, ev6⟩ p hp F hF
                have hi := (rgD_get hx).1
                have ne := hd6.ne_new hp
                walk_at "dl"
                refine ⟨d, l, n + 5 + 2 * i, 1 + n0, rfl, hd6.set ne.1 ne.2, by omega, by omega, log_small (by omega) (by omega), fun a' M7 a1' a2' hd7 ev7 => ?_⟩
                walk_at "dl"
                refine ⟨d, l, n + 5 + 2 * i + 1, 1 + n0, rfl, hd7, by omega, by omega, log_small (by omega) (by omega), fun b' M8 b1' b2' hd8 ev8 => ?_⟩
                walk_at "dl"
                obtain ⟨h1, h2⟩ := beside hd6 hp (ev7.trans ev8)
                have := hF (some (pairD (a', b'))) (M8.del p) ⟨ts ++ [(a', b')], by rw [List.map_append]; rfl, by simp [hl], fun t h => ?_, (hd8.del ne.1 ne.2).mono (by omega), ev6.trans h2⟩ Mem.del_same
                · rw [del_put h1] at this
                  exact this
                · rcases List.mem_append.mp h with h | h
                  · exact ht t h
                  · rcases List.mem_singleton.mp h with rfl
                    exact ⟨a1', a2', b1', b2'⟩
              · rintro acc M6 ⟨ts, rfl, hl, ht, hd6, ev6⟩
                rw [rgD_len] at hl hd6
                have lk : (List.replicate (Int.toNat ((mm : Int) / 2)) (a, b) ++ ts).length ≤ 12 := by rw [List.length_append, List.length_replicate]; omega
                have rp : (List.replicate (Int.toNat ((mm : Int) / 2)) [D.tup [D.int a, D.int b]]).flatten ++ ts.map pairD = (List.replicate (Int.toNat ((mm : Int) / 2)) (a, b) ++ ts).map pairD := rep_pairs (t := (a, b))
                have rl := congrArg List.length rp
                rw [List.length_append, List.length_map, List.length_map] at rl
                walk_at "dl"
                refine i_addl (szl (by rw [List.length_map]; omega)) ?_
                rw [rp]
                walk_at "dl"
                refine ⟨d, l, _, 1 + n0, _, rfl, hd6, by omega, by omega, fun qs M7 pm hd7 ev7 => ?_⟩
                refine i_drp0 (k _ _ _ (good_nrm (by omega) (by omega) lk (fun t h => ?_) pm) (hd7.mono (by omega)) (ev.trans (ev6.trans ev7)))
                rcases List.mem_append.mp h with h | h
                · rcases List.mem_replicate.mp h with ⟨_, rfl⟩
                  exact ⟨a1, a2, b1, b2⟩
                · exact ht t h
            · have := hB (.inr e5)
              rw [if_neg Bool.false_ne_true] at this
              exact this

abbrev s__law_shuffled_web : Stmt := topS 47
abbrev nn__law_shuffled_web : List Str := ["draws", "n", "ties"]
theorem sc__law_shuffled_web : FnScope nn__law_shuffled_web ["draws", "n", "ties"] (defScope s__law_shuffled_web) := ⟨rfl, rfl, rfl, by decide +kernel, rfl, by decide +kernel, by decide +kernel⟩
theorem ok__law_shuffled_web {P : Program} {w : World} {K : PySem.W.Frag} {mg : Str → Option Value} {base : Heap} {T : List (Addr × Str)}  (B : Blt mg) (G__law_made : Has P w K mg base T "_law_made" 1 2 fs__law_made) (G__law_shuffled : Has P w K mg base T "_law_shuffled" 3 2 fs__law_shuffled) {f : Addr} {fd : FuncData} (F : Fun K "_law_shuffled_web" "_law_shuffled_web" s__law_shuffled_web f fd) (hm : mg "_law_shuffled_web" = some (.ref f)) (hb : L2.Binds K fd ["draws", "n", "ties"] []) : Has P w K mg base T "_law_shuffled_web" 4 3 fs__law_shuffled_web := by
  refine okD (k := 3) F sc__law_shuffled_web hm hb len__law_shuffled_web (fun cdv A outer s H E hr => ⟨_, (xss_one (xs_ret (xe_call G__law_made (hr.mono (by decide)) (by rfl) (xa_cons (xv 1) (xa_cons (xe_call G__law_shuffled (hr.mono (by decide)) (by rfl) (xa_cons (xv 0) (xa_cons (xe_callTy (call_listA rfl) d_listA (by rfl) B.b_list (by decide +kernel) (xa_cons (xv 2) xa_nil)) xa_nil))) xa_nil))))), fun ds M Φ h => ?_⟩)
  obtain ⟨d, l, n, kk, ts, rfl, hd, hn, hl, k⟩ := h
  walk_at "dl"
  refine ⟨d, l, n, _, rfl, hd, by rw [List.length_map]; exact hn, by rw [List.length_map]; exact hl, shD_pairs ts, fun ys M' h1 h2 h3 h4 h5 => ?_⟩
  obtain ⟨qs, rfl, hq⟩ := perm_pairs h3
  rw [List.length_map] at h4
  walk_at "dl"
  refine ⟨kk, qs, rfl, by rw [hq.length_eq]; exact hl, ?_⟩
  exact i_drp0 (k qs M' hq h4 h5)

abbrev s__law_odd : Stmt := topS 48
abbrev nn__law_odd : List Str := ["draws", "some"]
theorem sc__law_odd : FnScope nn__law_odd ["draws"] (defScope s__law_odd) := ⟨rfl, rfl, rfl, by decide +kernel, rfl, by decide +kernel, by decide +kernel⟩
theorem ok__law_odd {P : Program} {w : World} {K : PySem.W.Frag} {mg : Str → Option Value} {base : Heap} {T : List (Addr × Str)}  (B : Blt mg) (G__law_pick : Has P w K mg base T "_law_pick" 3 2 fs__law_pick) {f : Addr} {fd : FuncData} (F : Fun K "_law_odd" "_law_odd" s__law_odd f fd) (hm : mg "_law_odd" = some (.ref f)) (hb : L2.Binds K fd ["draws"] []) : Has P w K mg base T "_law_odd" 4 1 fs__law_odd := by
  refine okD (k := 3) F sc__law_odd hm hb len__law_odd (fun cdv A outer s H E hr => ⟨_, (xss_cons (xs_set (i := 1) sc__law_odd.nd rfl (by first | exact Or.inl rfl | exact Or.inr rfl) (xe_lst (xa_cons xe_non (xa_cons xe_bl (xa_cons xe_int (xa_cons xe_str (xa_cons xe_str (xa_cons (xe_tup xa_nil) (xa_cons (xe_lst xa_nil) (xa_cons xe_dict0 (xa_cons (xe_tup (xa_cons xe_str xa_nil)) (xa_cons (xe_tup (xa_cons xe_str (xa_cons xe_int xa_nil))) (xa_cons (xe_lst (xa_cons xe_str (xa_cons xe_int (xa_cons (xe_tup xa_nil) xa_nil)))) (xa_cons (xe_tup (xa_cons xe_str (xa_cons xe_int (xa_cons (xe_tup xa_nil) xa_nil)))) (xa_cons (xe_tup (xa_cons xe_str (xa_cons xe_int (xa_cons (xe_tup xa_nil) xa_nil)))) (xa_cons (xe_tup (xa_cons xe_str (xa_cons xe_int (xa_cons (xe_lst (xa_cons (xe_tup (xa_cons xe_int (xa_cons xe_int xa_nil))) xa_nil)) xa_nil)))) (xa_cons (xe_tup (xa_cons xe_str (xa_cons xe_bl (xa_cons (xe_tup xa_nil) xa_nil)))) (xa_cons (xe_tup (xa_cons xe_str (xa_cons xe_str (xa_cons (xe_tup xa_nil) xa_nil)))) xa_nil))))))))))))))))))
      (xss_one (xs_ret (xe_call G__law_pick (hr.mono (by decide)) (by rfl) (xa_cons (xv 0) (xa_cons (xe_add (xv 1) (xe_lst (xa_cons (xe_tup (xa_cons xe_str (xa_cons xe_int (xa_cons (xe_tup (xa_cons (xe_tup (xa_cons xe_int (xa_cons xe_int xa_nil))) xa_nil)) xa_nil)))) (xa_cons (xe_tup (xa_cons xe_str (xa_cons xe_int (xa_cons (xe_tup (xa_cons (xe_tup (xa_cons xe_int (xa_cons xe_int xa_nil))) xa_nil)) xa_nil)))) (xa_cons (xe_tup (xa_cons xe_str (xa_cons xe_int (xa_cons (xe_tup (xa_cons (xe_tup (xa_cons xe_int xa_nil)) xa_nil)) xa_nil)))) (xa_cons (xe_tup (xa_cons xe_str (xa_cons xe_int (xa_cons (xe_tup (xa_cons (xe_tup (xa_cons xe_int (xa_cons xe_bl xa_nil))) xa_nil)) xa_nil)))) (xa_cons (xe_tup (xa_cons xe_str (xa_cons xe_int (xa_cons (xe_tup xa_nil) xa_nil)))) (xa_cons (xe_tup (xa_cons xe_str (xa_cons xe_int (xa_cons (xe_mul (xe_tup (xa_cons (xe_tup (xa_cons xe_int (xa_cons xe_int xa_nil))) xa_nil)) xe_int) xa_nil)))) (xa_cons (xe_tup (xa_cons xe_str (xa_cons xe_int (xa_cons (xe_tup (xa_cons (xe_lst (xa_cons xe_int (xa_cons xe_int xa_nil))) xa_nil)) xa_nil)))) xa_nil))))))))) xa_nil)))))), fun ds M Φ h => ?_⟩)
  obtain ⟨d, l, n, rfl, hd, hn, k⟩ := h
  walk_at "dl"
  refine ⟨by simp, by decide, by decide, by decide, ?_⟩
  rw [show (List.replicate (Int.toNat 13) [D.tup [D.int 0, D.int 1]]).flatten = List.replicate 13 (D.tup [D.int 0, D.int 1]) from rfl]
  walk_at "dl"
  refine i_addl (szl (by decide)) ?_
  walk_at "dl"
  refine ⟨d, l, n, _, rfl, hd, hn, by simp, by decide, fun x hx M' h1 h2 => ?_⟩
  have hb : (puD x && !isWebD x) = true := by
    refine (List.all_eq_true (p := fun x => puD x && !isWebD x)).mp ?_ x hx
    decide +kernel
  rw [Bool.and_eq_true] at hb
  exact i_drp0 (k x M' hb.1 (by simpa using hb.2) h1 h2)

abbrev s__law_are_wholes : Stmt := topS 49
abbrev nn__law_are_wholes : List Str := ["value", "own"]
theorem sc__law_are_wholes : FnScope nn__law_are_wholes ["value"] (defScope s__law_are_wholes) := ⟨rfl, rfl, rfl, by decide +kernel, rfl, by decide +kernel, by decide +kernel⟩
theorem ok__law_are_wholes {P : Program} {w : World} {K : PySem.W.Frag} {mg : Str → Option Value} {base : Heap} {T : List (Addr × Str)}  (B : Blt mg)  {f : Addr} {fd : FuncData} (F : Fun K "_law_are_wholes" "_law_are_wholes" s__law_are_wholes f fd) (hm : mg "_law_are_wholes" = some (.ref f)) (hb : L2.Binds K fd ["value"] []) : Has P w K mg base T "_law_are_wholes" 1 1 fs__law_are_wholes := by
  refine okD (k := 0) F sc__law_are_wholes hm hb len__law_are_wholes (fun cdv A outer s H E hr => ⟨_, (xss_one (xs_ret (xe_and (xe_callB call_isiA d_isi (by rfl) B.b_isinstance (by decide +kernel) (xa_cons (xv 0) (xa_cons (xe_ty (n := "tuple") (by rfl) B.b_tuple (by decide +kernel)) xa_nil))) (xe_one (xe_eq hr.units (xe_lc rfl sc__law_are_wholes.nd (xi_any (xv 0)) (blkOk_by (own := [("own", 1)]) (N := nn__law_are_wholes) (sc := defScope s__law_are_wholes) (by decide +kernel)) (tg_name (by decide)) (fun _ _ _ _ _ => pg_name (i := 1) sc__law_are_wholes.nd rfl (by first | exact Or.inl rfl | exact Or.inr rfl)) (fun _ _ _ _ _ => (xts_one (xt_w (xw_or (xt_not (xt_val (xe_callB call_isiA d_isi (by rfl) B.b_isinstance (by decide +kernel) (xa_cons (xv 1) (xa_cons (xe_ty (n := "int") (by rfl) B.b_int (by decide +kernel)) xa_nil))))) (xw_or1 (xt_val (xe_callB call_isiA d_isi (by rfl) B.b_isinstance (by decide +kernel) (xa_cons (xv 1) (xa_cons (xe_ty (n := "bool") (by rfl) B.b_bool (by decide +kernel)) xa_nil))))))))) (fun _ _ _ _ _ => xe_int)) (xe_lst xa_nil)))))), fun ds M Φ h => ?_⟩)
  obtain ⟨v, rfl, hv, kk⟩ := h
  cases v <;> first | (cases hv; done) | skip
  all_goals walk_at "dl"
  all_goals first | exact i_drp0 kk | skip
  rename_i xs
  rw [puD, Bool.and_eq_true, decide_eq_true_eq] at hv
  refine lc_by (fun x => if (!isWholeD x) = true then some (.int 1) else none) (szl (by omega)) (fun x hxm M' _ F hF => ?_) ?_
  · have hp := puAll_mem hv.1 hxm
    cases x <;> first | (cases hp; done) | skip
    all_goals walk_at "dl"
    all_goals first | exact hF | skip
  · walk_at "dl"
    refine eq_ones ?_
    rw [show (!xs.any fun x => !isWholeD x) = wholesD (.tup xs) from by
      rw [wholesD, List.not_any_eq_all_not]
      congr 1
      funext x
      rw [Bool.not_not]]
    exact i_drp0 kk

abbrev s__law_is_dyeing : Stmt := topS 50
abbrev nn__law_is_dyeing : List Str := ["web", "k", "value", "dye", "a", "b"]
theorem sc__law_is_dyeing : FnScope nn__law_is_dyeing ["web", "k", "value"] (defScope s__law_is_dyeing) := ⟨rfl, rfl, rfl, by decide +kernel, rfl, by decide +kernel, by decide +kernel⟩
theorem ok__law_is_dyeing {P : Program} {w : World} {K : PySem.W.Frag} {mg : Str → Option Value} {base : Heap} {T : List (Addr × Str)}  (B : Blt mg) (G__law_are_wholes : Has P w K mg base T "_law_are_wholes" 1 1 fs__law_are_wholes) {f : Addr} {fd : FuncData} (F : Fun K "_law_is_dyeing" "_law_is_dyeing" s__law_is_dyeing f fd) (hm : mg "_law_is_dyeing" = some (.ref f)) (hb : L2.Binds K fd ["web", "k", "value"] []) : Has P w K mg base T "_law_is_dyeing" 2 3 fs__law_is_dyeing := by
  refine okD (k := 1) F sc__law_is_dyeing hm hb len__law_is_dyeing (fun cdv A outer s H E hr => ⟨_, (xss_cons (xs_if (xt_w (xw_or (xt_not (xt_val (xe_call G__law_are_wholes (hr.mono (by decide)) (by rfl) (xa_cons (xv 2) xa_nil)))) (xw_or (xt_ne hr.units (xe_callB call_len d_len (by rfl) B.b_len (by decide +kernel) (xa_cons (xv 2) xa_nil)) (xe_item (xv 0) xe_int)) (xw_or1 (xt_ne hr.units (xe_lc rfl sc__law_is_dyeing.nd (xi_any (xv 2)) (blkOk_by (own := [("dye", 3)]) (N := nn__law_is_dyeing) (sc := defScope s__law_is_dyeing) (by decide +kernel)) (tg_name (by decide)) (fun _ _ _ _ _ => pg_name (i := 3) sc__law_is_dyeing.nd rfl (by first | exact Or.inl rfl | exact Or.inr rfl)) (fun _ _ _ _ _ => (xts_one (xt_not (xt_chain op_le d_cmp op_lt d_cmp xe_int (xv 3) (xv 1))))) (fun _ _ _ _ _ => xe_int)) (xe_lst xa_nil))))))
      (xss_one (xs_ret xe_bl))
      xss_nil)
      (xss_one (xs_ret (xe_eq hr.units (xe_lc rfl sc__law_is_dyeing.nd (xi_any (xe_item (xv 0) xe_int)) (blkOk_by (own := [("a", 4), ("b", 5)]) (N := nn__law_is_dyeing) (sc := defScope s__law_is_dyeing) (by decide +kernel)) (tg_pair (i := 4) (j := 5) (by decide) (by decide)) (fun _ _ _ _ _ => pg_tup rfl (pgs_cons (pg_name (i := 4) sc__law_is_dyeing.nd rfl (by first | exact Or.inl rfl | exact Or.inr rfl)) (pgs_cons (pg_name (i := 5) sc__law_is_dyeing.nd rfl (by first | exact Or.inl rfl | exact Or.inr rfl)) pgs_nil))) (fun _ _ _ _ _ => (xts_one (xt_eq hr.units (xe_item (xv 2) (xv 4)) (xe_item (xv 2) (xv 5))))) (fun _ _ _ _ _ => xe_int)) (xe_lst xa_nil))))), fun ds M Φ h => ?_⟩)
  obtain ⟨n, k, ts, v, rfl, gw, hv, kk⟩ := h
  have hn1 := gw.lo
  have hn8 := gw.hi
  unfold webD
  walk_at "dl"
  refine ⟨v, rfl, hv, ?_⟩
  cases v <;> first | (cases hv; done) | skip
  all_goals walk_at "dl"
  all_goals first | exact i_drp0 kk | skip
  rename_i xs
  have hx : puAll xs = true := by rw [puD, Bool.and_eq_true] at hv; exact hv.1
  have hlen : xs.length ≤ 1000000 := by rw [puD, Bool.and_eq_true, decide_eq_true_eq] at hv; exact hv.2
  refine i_itnB (fun e0 => ?_) fun e0 => ?_
  · have e0 : xs.all isWholeD = true := e0
    have hi : ∀ x ∈ xs, ∃ j : Int, x = .int j := fun x hxm => by
      have := List.all_eq_true.mp e0 _ hxm
      cases x <;> first | exact ⟨_, rfl⟩ | cases this
    walk_at "dl"
    refine i_itN (fun e => ?_) fun e => ?_
    · walk_at "dl"
      refine lc_by (fun x => if (!dyeOk k x) = true then some (.int 1) else none) (szl (by omega)) (fun x hxm M' _ F hF => ?_) ?_
      · obtain ⟨j, rfl⟩ := hi x hxm
        unfold dyeOk at hF
        dsimp only at hF
        walk_at "dl"
        refine i_itD (fun e1 => ?_) fun e1 => ?_
        · walk_at "dl"
          refine i_itN (fun e2 => ?_) fun e2 => ?_
          · rw [if_neg (by simp [e1, e2])] at hF
            exact hF
          · rw [if_pos (by simp [e1, e2])] at hF
            walk_at "dl"
            exact hF
        · rw [if_pos (by simp [e1])] at hF
          refine i_itnF ?_
          walk_at "dl"
          exact hF
      · walk_at "dl"
        refine i_ones ?_
        have ea : xs.all (dyeOk k) = !xs.any fun x => !dyeOk k x := by
          rw [List.not_any_eq_all_not]
          congr 1
          funext x
          rw [Bool.not_not]
        refine i_itB (fun e2 => ?_) fun e2 => ?_
        · walk_at "dl"
          rw [show isDyD n ts k (.tup xs) = false from by rw [isDyD, ea, e2]; show (_ && false && _) = false; rw [Bool.and_false, Bool.false_and]] at kk
          exact i_drp0 kk
        · walk_at "dl"
          have at_ : ∀ a : Int, 0 ≤ a → a < n → atI xs a = some (.int (intAt xs a)) := fun a h0 h1 => by
            obtain ⟨a, rfl⟩ := Int.eq_ofNat_of_zero_le h0
            have hl : a < xs.length := by omega
            obtain ⟨j, hj⟩ := hi xs[a] (List.getElem_mem hl)
            refine atI_of ?_
            unfold intAt
            rw [show ((a : Int)).toNat = a by omega, List.getElem?_eq_getElem hl, hj]
          refine lc_by (fun x => if badF xs x = true then some (.int 1) else none) ?_ (fun x hxm M' _ F hF => ?_) ?_
          · rw [List.length_map]; exact szl (by have := gw.len; omega)
          · obtain ⟨t, ht, rfl⟩ := List.mem_map.mp hxm
            obtain ⟨h0, h1, h2⟩ := gw.ok t ht
            have hb : badF xs (pairD t) = decide (intAt xs t.1 = intAt xs t.2) := rfl
            rw [hb] at hF
            unfold pairD
            walk_at "dl"
            refine i_ixt (at_ _ h0 (by omega)) ?_
            walk_at "dl"
            refine i_ixt (at_ _ (by omega) h2) ?_
            walk_at "dl"
            refine i_itD (fun e1 => ?_) fun e1 => ?_
            · rw [if_pos (decide_eq_true e1)] at hF
              walk_at "dl"
              exact hF
            · rw [if_neg (by rw [decide_eq_false e1]; exact Bool.false_ne_true)] at hF
              exact hF
          · walk_at "dl"
            refine eq_ones ?_
            rw [show (!(ts.map pairD).any (badF xs)) = isDyD n ts k (.tup xs) from by
              rw [isDyD, ea, e2, decide_eq_true e, List.any_map, List.not_any_eq_all_not]
              rfl]
            exact i_drp0 kk
    · walk_at "dl"
      rw [show isDyD n ts k (.tup xs) = false from by rw [isDyD, decide_eq_false e, Bool.false_and, Bool.false_and]] at kk
      exact i_drp0 kk
  · walk_at "dl"
    rw [show isDyD n ts k (.tup xs) = false from by
      have : xs.all (dyeOk k) = false := by
        rw [List.all_eq_false]
        rw [show wholesD (.tup xs) = xs.all isWholeD from rfl, List.all_eq_false] at e0
        obtain ⟨x, hx, hn⟩ := e0
        exact ⟨x, hx, by cases x <;> first | exact absurd rfl hn | (exact Bool.false_ne_true)⟩
      rw [isDyD, this, Bool.and_false, Bool.false_and]] at kk
    exact i_drp0 kk

abbrev s__law_bent : Stmt := topS 51
abbrev nn__law_bent : List Str := ["draws", "value", "way", "at", "own"]
theorem sc__law_bent : FnScope nn__law_bent ["draws", "value"] (defScope s__law_bent) := ⟨rfl, rfl, rfl, by decide +kernel, rfl, by decide +kernel, by decide +kernel⟩
theorem ok__law_bent {P : Program} {w : World} {K : PySem.W.Frag} {mg : Str → Option Value} {base : Heap} {T : List (Addr × Str)}  (B : Blt mg) (G__law_draw : Has P w K mg base T "_law_draw" 2 2 fs__law_draw) (G__law_pick : Has P w K mg base T "_law_pick" 3 2 fs__law_pick) {f : Addr} {fd : FuncData} (F : Fun K "_law_bent" "_law_bent" s__law_bent f fd) (hm : mg "_law_bent" = some (.ref f)) (hb : L2.Binds K fd ["draws", "value"] []) : Has P w K mg base T "_law_bent" 4 2 fs__law_bent := by
  refine okD (k := 3) F sc__law_bent hm hb len__law_bent (fun cdv A outer s H E hr => ⟨_, (xss_cons (xs_par (i := 2) (j := 3) rfl sc__law_bent.nd rfl rfl (by decide) rfl rfl (xa_cons (xe_call G__law_draw (hr.mono (by decide)) (by rfl) (xa_cons (xv 0) (xa_cons xe_int xa_nil))) (xa_cons (xe_call G__law_draw (hr.mono (by decide)) (by rfl) (xa_cons (xv 0) (xa_cons (xe_callB (call_max2 rfl) d_max2 (by rfl) B.b_max (by decide +kernel) (xa_cons xe_int (xa_cons (xe_callB call_len d_len (by rfl) B.b_len (by decide +kernel) (xa_cons (xv 1) xa_nil)) xa_nil))) xa_nil))) xa_nil)) (by rfl))
      (xss_cons (xs_if (xt_w (xw_or (xt_eq hr.units (xv 2) xe_int) (xw_or1 (xt_eq hr.units (xv 1) (xe_tup xa_nil)))))
      (xss_one (xs_ret (xe_call G__law_pick (hr.mono (by decide)) (by rfl) (xa_cons (xv 0) (xa_cons (xe_lst (xa_cons xe_non (xa_cons (xe_callTy (call_listA rfl) d_listA (by rfl) B.b_list (by decide +kernel) (xa_cons (xv 1) xa_nil)) (xa_cons (xe_add (xv 1) (xe_tup (xa_cons xe_int xa_nil))) (xa_cons (xe_add (xv 1) (xe_tup (xa_cons xe_int xa_nil))) (xa_cons (xe_tup (xa_cons xe_non xa_nil)) (xa_cons xe_dict0 (xa_cons xe_str (xa_cons xe_int xa_nil))))))))) xa_nil)))))
      xss_nil)
      (xss_cons (xs_set (i := 4) sc__law_bent.nd rfl (by first | exact Or.inl rfl | exact Or.inr rfl) (xe_item (xv 1) (xv 3)))
      (xss_cons (xs_if (xt_eq hr.units (xv 2) xe_int)
      (xss_one (xs_ret (xe_add (xe_slice (xv 1) xo_no (xo_at (xv 3))) (xe_slice (xv 1) (xo_at (xe_add (xv 3) xe_int)) xo_no))))
      xss_nil)
      (xss_cons (xs_if (xt_eq hr.units (xv 2) xe_int)
      (xss_one (xs_ret (xe_add (xv 1) (xe_tup (xa_cons (xv 4) xa_nil)))))
      xss_nil)
      (xss_cons (xs_if (xt_eq hr.units (xv 2) xe_int)
      (xss_one (xs_ret (xe_add (xe_add (xe_slice (xv 1) xo_no (xo_at (xv 3))) (xe_tup (xa_cons (xe_call G__law_pick (hr.mono (by decide)) (by rfl) (xa_cons (xv 0) (xa_cons (xe_lst (xa_cons xe_non (xa_cons xe_bl (xa_cons xe_bl (xa_cons xe_str (xa_cons (xe_tup (xa_cons xe_int xa_nil)) (xa_cons (xv 4) xa_nil))))))) xa_nil))) xa_nil))) (xe_slice (xv 1) (xo_at (xe_add (xv 3) xe_int)) xo_no))))
      xss_nil)
      (xss_cons (xs_if (xt_w (xw_and (xt_eq hr.units (xv 2) xe_int) (xw_and1 (xt_val (xe_callB call_isiA d_isi (by rfl) B.b_isinstance (by decide +kernel) (xa_cons (xv 4) (xa_cons (xe_ty (n := "int") (by rfl) B.b_int (by decide +kernel)) xa_nil)))))))
      (xss_one (xs_ret (xe_add (xe_add (xe_slice (xv 1) xo_no (xo_at (xv 3))) (xe_tup (xa_cons (xe_add (xv 4) (xe_call G__law_pick (hr.mono (by decide)) (by rfl) (xa_cons (xv 0) (xa_cons (xe_lst (xa_cons xe_int (xa_cons (xe_neg xe_int) (xa_cons xe_int (xa_cons (xe_pow xe_int xe_int) xa_nil))))) xa_nil)))) xa_nil))) (xe_slice (xv 1) (xo_at (xe_add (xv 3) xe_int)) xo_no))))
      xss_nil)
      (xss_cons (xs_if (xt_w (xw_and (xt_eq hr.units (xv 2) xe_int) (xw_and1 (xt_val (xe_callB call_isiA d_isi (by rfl) B.b_isinstance (by decide +kernel) (xa_cons (xv 4) (xa_cons (xe_ty (n := "int") (by rfl) B.b_int (by decide +kernel)) xa_nil)))))))
      (xss_one (xs_ret (xe_add (xe_add (xe_slice (xv 1) xo_no (xo_at (xv 3))) (xe_tup (xa_cons (xe_neg (xv 4)) xa_nil))) (xe_slice (xv 1) (xo_at (xe_add (xv 3) xe_int)) xo_no))))
      xss_nil)
      (xss_cons (xs_if (xt_eq hr.units (xv 2) xe_int)
      (xss_one (xs_ret (xe_revT (xv 1))))
      xss_nil)
      (xss_one (xs_ret (xe_add (xe_add (xe_slice (xv 1) xo_no (xo_at (xv 3))) (xe_tup (xa_cons (xe_item (xv 1) (xe_call G__law_draw (hr.mono (by decide)) (by rfl) (xa_cons (xv 0) (xa_cons (xe_callB call_len d_len (by rfl) B.b_len (by decide +kernel) (xa_cons (xv 1) xa_nil)) xa_nil)))) xa_nil))) (xe_slice (xv 1) (xo_at (xe_add (xv 3) xe_int)) xo_no))))))))))))), fun ds M Φ h => ?_⟩)
  obtain ⟨d, l, n, xs, rfl, hd, hn, hta, k⟩ := h
  obtain ⟨hx, hl⟩ := ta_tup hta
  have hp : ∀ x ∈ xs, puD x = true := fun x h => ta_pu (hx x h)
  have hpu : puD (.tup xs) = true := ta_pu hta
  walk_at "dl"
  refine ⟨d, l, n, 8, rfl, hd, by omega, by omega, by decide, fun way M1 w1 w2 hd1 ev1 => ?_⟩
  walk_at "dl"
  refine ⟨d, l, n + 1, _, rfl, hd1, by omega, by omega, log_small (by omega) (by omega), fun at_ M2 a1 a2 hd2 ev2 => ?_⟩
  have ev := ev1.trans ev2
  obtain ⟨i, rfl⟩ := Int.eq_ofNat_of_zero_le a1
  have hi1 : ((i : Int) + 1) = ((i + 1 : Nat) : Int) := by omega
  have c0 : (∀ x : D, puD x = true → ∀ M' (m : Nat), m ≤ n + 3 → Dr M' d l m → Ev M2 M' d l → drp Φ x M') := fun x h M' m hm h1 h2 => i_drp0 (k x M' h (h1.mono hm) (ev.trans h2))
  have zero : ∀ (G : Prop), (xs.isEmpty = true ∨ way = 0 → G) → True := fun _ _ => trivial
  walk_at "dl"
  refine i_share1 (way = 0 ∨ xs.isEmpty = true) (fun e => .inl e) (fun _ => ?_) fun e0 hA => ?_
  · walk_at "dl"
    refine i_addt (szl (by rw [List.length_singleton]; omega)) ?_
    walk_at "dl"
    refine i_addt (szl (by rw [List.length_singleton]; omega)) ?_
    walk_at "dl"
    refine ⟨d, l, n + 2, _, rfl, hd2, by omega, by simp, by simp, fun x hx' M' h1 h2 => ?_⟩
    refine c0 x ?_ M' _ (by omega) h1 h2
    simp only [List.mem_cons, List.not_mem_nil, or_false] at hx'
    have hap : ∀ j : Int, puD (.tup (xs ++ [.int j])) = true := fun j => pu_tup (fun y hy => by
      rcases List.mem_append.mp hy with q | q
      · exact hp y q
      · rcases List.mem_singleton.mp q with rfl; rfl) (by rw [List.length_append, List.length_singleton]; omega)
    rcases hx' with rfl | rfl | rfl | rfl | rfl | rfl | rfl | rfl
    · rfl
    · exact pu_lst hp (by omega)
    · exact hap 0
    · exact hap 1
    · rfl
    · rfl
    · decide +kernel
    · rfl
  · walk_at "dl"
    refine eq_tup0 (n := 11) (by omega) (fun x h => ta_py (hx x h)) ?_
    refine i_itB (fun e1 => ?_) fun e1 => ?_
    · have := hA (.inr e1)
      rw [if_pos rfl] at this
      exact this
    · have hne : 0 < xs.length := by
        cases xs with
        | nil => cases e1
        | cons a b => exact Nat.succ_pos _
      have hil : i < xs.length := by omega
      have hm : xs[i] ∈ xs := List.getElem_mem hil
      have lA := len_cut (xs := xs) (lo := none) (hi := some (i : Int))
      have lB := len_cut (xs := xs) (lo := some ((i : Int) + 1)) (hi := none)
      have pA : ∀ y ∈ cutD xs none (some (i : Int)), puD y = true := fun y h => hp y (mem_cut h)
      have pB : ∀ y ∈ cutD xs (some ((i : Int) + 1)) none, puD y = true := fun y h => hp y (mem_cut h)
      have cut : ∀ y : D, puD y = true → puD (.tup (cutD xs none (some (i : Int)) ++ [y] ++ cutD xs (some ((i : Int) + 1)) none)) = true := fun y hy => pu_tup (fun z hz => by
        rcases List.mem_append.mp hz with q | q
        · rcases List.mem_append.mp q with q | q
          · exact pA z q
          · rcases List.mem_singleton.mp q with rfl; exact hy
        · exact pB z q) (by rw [List.length_append, List.length_append, List.length_singleton]; omega)
      generalize ecA : cutD xs none (some (i : Int)) = cA at lA pA cut
      generalize ecB : cutD xs (some ((i : Int) + 1)) none = cB at lB pB cut
      walk_at "dl"
      refine i_ixt (x := xs[i]) (atI_of (List.getElem?_eq_getElem hil)) ?_
      have ho := hp _ hm
      have hot := ta_case (hx _ hm)
      generalize xs[i] = own at ho hot
      walk_at "dl"
      refine i_itD (fun q1 => ?_) fun q1 => ?_
      · walk_at "dl"
        rw [ecA, ecB]
        refine i_addt (szl (by omega)) ?_
        refine c0 _ (pu_tup (fun z hz => ?_) (by rw [List.length_append]; omega)) M2 (n + 2) (by omega) hd2 Ev.refl
        rcases List.mem_append.mp hz with q | q
        · exact pA z q
        · exact pB z q
      · walk_at "dl"
        refine i_itD (fun q2 => ?_) fun q2 => ?_
        · walk_at "dl"
          refine i_addt (szl (by rw [List.length_singleton]; omega)) ?_
          refine c0 _ (pu_tup (fun z hz => ?_) (by rw [List.length_append, List.length_singleton]; omega)) M2 (n + 2) (by omega) hd2 Ev.refl
          rcases List.mem_append.mp hz with q | q
          · exact hp z q
          · rcases List.mem_singleton.mp q with rfl; exact ho
        · walk_at "dl"
          refine i_itD (fun q3 => ?_) fun q3 => ?_
          · walk_at "dl"
            refine ⟨d, l, n + 2, _, rfl, hd2, by omega, by simp, by simp, fun x hx' M' h1 h2 => ?_⟩
            have hpx : puD x = true := by
              simp only [List.mem_cons, List.not_mem_nil, or_false] at hx'
              rcases hx' with rfl | rfl | rfl | rfl | rfl | rfl
              · rfl
              · rfl
              · rfl
              · decide +kernel
              · rfl
              · exact ho
            rw [ecA]
            walk_at "dl"
            refine i_addt (szl (by rw [List.length_singleton]; omega)) ?_
            walk_at "dl"
            rw [ecB]
            refine i_addt (szl (by rw [List.length_append, List.length_singleton]; omega)) ?_
            exact c0 _ (cut x hpx) M' (n + 3) (by omega) h1 h2
          · walk_at "dl"
            rcases hot with ⟨j, rfl⟩ | ⟨ys, rfl⟩
            · refine i_itD (fun q4 => ?_) fun q4 => ?_
              · walk_at "dl"
                try with_reducible refine i_itT ?_
                walk_at "dl"
                refine i_pow ⟨by decide, by decide, by decide⟩ ?_
                walk_at "dl"
                refine ⟨d, l, n + 2, _, rfl, hd2, by omega, by simp, by simp, fun x hx' M' h1 h2 => ?_⟩
                obtain ⟨z, rfl⟩ : ∃ z : Int, x = .int z := by
                  simp only [List.mem_cons, List.not_mem_nil, or_false] at hx'
                  rcases hx' with rfl | rfl | rfl | rfl <;> exact ⟨_, rfl⟩
                rw [ecA]
                walk_at "dl"
                refine i_addt (szl (by rw [List.length_singleton]; omega)) ?_
                walk_at "dl"
                rw [ecB]
                refine i_addt (szl (by rw [List.length_append, List.length_singleton]; omega)) ?_
                exact c0 _ (cut _ rfl) M' (n + 3) (by omega) h1 h2
              · walk_at "dl"
                refine i_itD (fun q5 => ?_) fun q5 => ?_
                · walk_at "dl"
                  try with_reducible refine i_itT ?_
                  walk_at "dl"
                  rw [ecA]
                  refine i_addt (szl (by rw [List.length_singleton]; omega)) ?_
                  walk_at "dl"
                  rw [ecB]
                  refine i_addt (szl (by rw [List.length_append, List.length_singleton]; omega)) ?_
                  exact c0 _ (cut _ rfl) M2 (n + 2) (by omega) hd2 Ev.refl
                · walk_at "dl"
                  refine i_itD (fun q6 => ?_) fun q6 => ?_
                  · walk_at "dl"
                    exact c0 _ (pu_tup (fun z hz => hp z (List.mem_reverse.mp hz)) (by rw [List.length_reverse]; omega)) M2 (n + 2) (by omega) hd2 Ev.refl
                  · walk_at "dl"
                    refine ⟨d, l, n + 2, _, rfl, hd2, by omega, by omega, log_small (by omega) (by omega), fun z M' z1 z2 h1 h2 => ?_⟩
                    obtain ⟨z, rfl⟩ := Int.eq_ofNat_of_zero_le z1
                    have hz : z < xs.length := by omega
                    rw [ecA]
                    walk_at "dl"
                    refine i_ixt (x := xs[z]) (atI_of (List.getElem?_eq_getElem hz)) ?_
                    walk_at "dl"
                    refine i_addt (szl (by rw [List.length_singleton]; omega)) ?_
                    walk_at "dl"
                    rw [ecB]
                    refine i_addt (szl (by rw [List.length_append, List.length_singleton]; omega)) ?_
                    exact c0 _ (cut _ (hp _ (List.getElem_mem hz))) M' (n + 3) (by omega) h1 h2
            · refine i_itD (fun q4 => ?_) fun q4 => ?_
              · walk_at "dl"
                try with_reducible refine i_itF ?_
                walk_at "dl"
                refine i_itDF (by omega) ?_
                walk_at "dl"
                refine i_itDF (by omega) ?_
                walk_at "dl"
                refine ⟨d, l, n + 2, _, rfl, hd2, by omega, by omega, log_small (by omega) (by omega), fun z M' z1 z2 h1 h2 => ?_⟩
                obtain ⟨z, rfl⟩ := Int.eq_ofNat_of_zero_le z1
                have hz : z < xs.length := by omega
                rw [ecA]
                walk_at "dl"
                refine i_ixt (x := xs[z]) (atI_of (List.getElem?_eq_getElem hz)) ?_
                walk_at "dl"
                refine i_addt (szl (by rw [List.length_singleton]; omega)) ?_
                walk_at "dl"
                rw [ecB]
                refine i_addt (szl (by rw [List.length_append, List.length_singleton]; omega)) ?_
                exact c0 _ (cut _ (hp _ (List.getElem_mem hz))) M' (n + 3) (by omega) h1 h2
              · walk_at "dl"
                refine i_itD (fun q5 => ?_) fun q5 => ?_
                · walk_at "dl"
                  try with_reducible refine i_itF ?_
                  walk_at "dl"
                  refine i_itDF (by omega) ?_
                  walk_at "dl"
                  refine ⟨d, l, n + 2, _, rfl, hd2, by omega, by omega, log_small (by omega) (by omega), fun z M' z1 z2 h1 h2 => ?_⟩
                  obtain ⟨z, rfl⟩ := Int.eq_ofNat_of_zero_le z1
                  have hz : z < xs.length := by omega
                  rw [ecA]
                  walk_at "dl"
                  refine i_ixt (x := xs[z]) (atI_of (List.getElem?_eq_getElem hz)) ?_
                  walk_at "dl"
                  refine i_addt (szl (by rw [List.length_singleton]; omega)) ?_
                  walk_at "dl"
                  rw [ecB]
                  refine i_addt (szl (by rw [List.length_append, List.length_singleton]; omega)) ?_
                  exact c0 _ (cut _ (hp _ (List.getElem_mem hz))) M' (n + 3) (by omega) h1 h2
                · walk_at "dl"
                  refine i_itD (fun q6 => ?_) fun q6 => ?_
                  · walk_at "dl"
                    exact c0 _ (pu_tup (fun z hz => hp z (List.mem_reverse.mp hz)) (by rw [List.length_reverse]; omega)) M2 (n + 2) (by omega) hd2 Ev.refl
                  · walk_at "dl"
                    refine ⟨d, l, n + 2, _, rfl, hd2, by omega, by omega, log_small (by omega) (by omega), fun z M' z1 z2 h1 h2 => ?_⟩
                    obtain ⟨z, rfl⟩ := Int.eq_ofNat_of_zero_le z1
                    have hz : z < xs.length := by omega
                    rw [ecA]
                    walk_at "dl"
                    refine i_ixt (x := xs[z]) (atI_of (List.getElem?_eq_getElem hz)) ?_
                    walk_at "dl"
                    refine i_addt (szl (by rw [List.length_singleton]; omega)) ?_
                    walk_at "dl"
                    rw [ecB]
                    refine i_addt (szl (by rw [List.length_append, List.length_singleton]; omega)) ?_
                    exact c0 _ (cut _ (hp _ (List.getElem_mem hz))) M' (n + 3) (by omega) h1 h2

abbrev s__law_bad_word : Stmt := topS 52
abbrev nn__law_bad_word : List Str := ["action", "word", "error"]
theorem sc__law_bad_word : FnScope nn__law_bad_word ["action", "word"] (defScope s__law_bad_word) := ⟨rfl, rfl, rfl, by decide +kernel, rfl, by decide +kernel, by decide +kernel⟩
theorem ps__law_bad_word : PassS s__law_bad_word "action" "error" (retE s__law_bad_word) := ⟨_, _, _, _, _, _, rfl⟩
abbrev s__law_far_number : Stmt := topS 53
abbrev nn__law_far_number : List Str := ["draws", "low", "high", "great"]
theorem sc__law_far_number : FnScope nn__law_far_number ["draws", "low", "high"] (defScope s__law_far_number) := ⟨rfl, rfl, rfl, by decide +kernel, rfl, by decide +kernel, by decide +kernel⟩
theorem ok__law_far_number {P : Program} {w : World} {K : PySem.W.Frag} {mg : Str → Option Value} {base : Heap} {T : List (Addr × Str)}  (B : Blt mg) (G__law_draw : Has P w K mg base T "_law_draw" 2 2 fs__law_draw) (G__law_pick : Has P w K mg base T "_law_pick" 3 2 fs__law_pick) {f : Addr} {fd : FuncData} (F : Fun K "_law_far_number" "_law_far_number" s__law_far_number f fd) (hm : mg "_law_far_number" = some (.ref f)) (hb : L2.Binds K fd ["draws", "low", "high"] []) : Has P w K mg base T "_law_far_number" 4 3 fs__law_far_number := by
  refine okD (k := 3) F sc__law_far_number hm hb len__law_far_number (fun cdv A outer s H E hr => ⟨_, (xss_cons (xs_set (i := 3) sc__law_far_number.nd rfl (by first | exact Or.inl rfl | exact Or.inr rfl) (xe_call G__law_draw (hr.mono (by decide)) (by rfl) (xa_cons (xv 0) (xa_cons (xe_pow xe_int xe_int) xa_nil))))
      (xss_one (xs_ret (xe_call G__law_pick (hr.mono (by decide)) (by rfl) (xa_cons (xv 0) (xa_cons (xe_lst (xa_cons xe_non (xa_cons xe_bl (xa_cons xe_bl (xa_cons xe_str (xa_cons (xe_tup (xa_cons xe_int xa_nil)) (xa_cons (xe_lst (xa_cons xe_int xa_nil)) (xa_cons (xe_sub (xv 1) xe_int) (xa_cons (xe_add (xv 2) xe_int) (xa_cons (xe_sub (xe_sub (xv 1) xe_int) (xv 3)) (xa_cons (xe_add (xe_add (xv 2) xe_int) (xv 3)) xa_nil))))))))))) xa_nil)))))), fun ds M Φ h => ?_⟩)
  obtain ⟨d, l, n, rfl, hd, hn, k⟩ := h
  walk_at "dl"
  refine ⟨⟨by decide, by decide, by decide⟩, d, l, n, 10 ^ Int.toNat 20, rfl, hd, by omega, by decide, by decide, fun gr M1 g1 g2 hd1 ev1 => ?_⟩
  walk_at "dl"
  refine ⟨d, l, n + 1, _, rfl, hd1, by omega, by simp, by simp, fun x hx M' h1 h2 => ?_⟩
  have hb : puD x = true ∧ inW 0 1000000 x = false := by
    simp only [List.mem_cons, List.not_mem_nil, or_false] at hx
    rcases hx with rfl | rfl | rfl | rfl | rfl | rfl | rfl | rfl | rfl | rfl
    · exact ⟨rfl, rfl⟩
    · exact ⟨rfl, rfl⟩
    · exact ⟨rfl, rfl⟩
    · exact ⟨by decide +kernel, rfl⟩
    · exact ⟨rfl, rfl⟩
    · exact ⟨rfl, rfl⟩
    · exact ⟨rfl, rfl⟩
    · exact ⟨rfl, rfl⟩
    · refine ⟨rfl, ?_⟩
      rw [inW, decide_eq_false (by omega), Bool.false_and]
    · refine ⟨rfl, ?_⟩
      rw [inW, decide_eq_false (show ¬ (1000000 + 1 + gr : Int) ≤ 1000000 by omega), Bool.and_false]
  exact i_drp0 (k x M' hb.1 hb.2 h1 (ev1.trans h2))

abbrev s__law_next : Stmt := topS 54
abbrev nn__law_next : List Str := ["web", "k", "dyes", "place", "tied", "top", "a", "b", "dye", "other"]
theorem sc__law_next : FnScope nn__law_next ["web", "k", "dyes"] (defScope s__law_next) := ⟨rfl, rfl, rfl, by decide +kernel, rfl, by decide +kernel, by decide +kernel⟩
theorem ok__law_next {P : Program} {w : World} {K : PySem.W.Frag} {mg : Str → Option Value} {base : Heap} {T : List (Addr × Str)}  (B : Blt mg)  {f : Addr} {fd : FuncData} (F : Fun K "_law_next" "_law_next" s__law_next f fd) (hm : mg "_law_next" = some (.ref f)) (hb : L2.Binds K fd ["web", "k", "dyes"] []) : Has P w K mg base T "_law_next" 1 3 fs__law_next := by
  refine okD (k := 0) F sc__law_next hm hb len__law_next (fun cdv A outer s H E hr => ⟨_, (xss_cons (xs_set (i := 3) sc__law_next.nd rfl (by first | exact Or.inl rfl | exact Or.inr rfl) (xe_callB call_len d_len (by rfl) B.b_len (by decide +kernel) (xa_cons (xv 2) xa_nil)))
      (xss_cons (xs_set (i := 4) sc__law_next.nd rfl (by first | exact Or.inl rfl | exact Or.inr rfl) (xe_lc rfl sc__law_next.nd (xi_any (xe_item (xv 0) xe_int)) (blkOk_by (own := [("a", 6), ("b", 7)]) (N := nn__law_next) (sc := defScope s__law_next) (by decide +kernel)) (tg_pair (i := 6) (j := 7) (by decide) (by decide)) (fun _ _ _ _ _ => pg_tup rfl (pgs_cons (pg_name (i := 6) sc__law_next.nd rfl (by first | exact Or.inl rfl | exact Or.inr rfl)) (pgs_cons (pg_name (i := 7) sc__law_next.nd rfl (by first | exact Or.inl rfl | exact Or.inr rfl)) pgs_nil))) (fun _ _ _ _ _ => (xts_one (xt_eq hr.units (xv 7) (xv 3)))) (fun _ _ _ _ _ => (xv 6))))
      (xss_cons (xs_set (i := 5) sc__law_next.nd rfl (by first | exact Or.inl rfl | exact Or.inr rfl) (xe_if (xt_ne hr.units (xv 2) (xe_tup xa_nil)) (xe_add (xe_callB (cr_maxT rfl) d_maxT (by rfl) B.b_max (by decide +kernel) (xa_cons (xv 2) xa_nil)) xe_int) xe_int))
      (xss_one (xs_ret (xe_lc rfl sc__law_next.nd (xi_rng1 (by rfl) B.b_range (xa_cons (xe_callB (call_min2 rfl) d_min2 (by rfl) B.b_min (by decide +kernel) (xa_cons (xv 1) (xa_cons (xe_add (xv 5) xe_int) xa_nil))) xa_nil)) (blkOk_by (own := [("dye", 8)]) (N := nn__law_next) (sc := defScope s__law_next) (by decide +kernel)) (tg_name (by decide)) (fun _ _ _ _ _ => pg_name (i := 8) sc__law_next.nd rfl (by first | exact Or.inl rfl | exact Or.inr rfl)) (fun _ _ _ _ _ => (xts_one (xt_w (xw_and (xt_notIn (xv 3) (xv 4)) (xw_and1 (xt_eq hr.units (xe_lc rfl sc__law_next.nd (xi_any (xv 4)) (blkOk_by (own := [("other", 9)]) (N := nn__law_next) (sc := _) (by first | decide +kernel | kernel_rfl | rfl)) (tg_name (by decide)) (fun _ _ _ _ _ => pg_name (i := 9) sc__law_next.nd rfl (by first | exact Or.inl rfl | exact Or.inr rfl)) (fun _ _ _ _ _ => (xts_one (xt_eq hr.units (xe_item (xv 2) (xv 9)) (xv 8)))) (fun _ _ _ _ _ => xe_int)) (xe_lst xa_nil))))))) (fun _ _ _ _ _ => (xv 8)))))))), fun ds M Φ h => ?_⟩)
  obtain ⟨n, ts, k, g, rfl, gw, hl, ht, kk⟩ := h
  have hlt := gw.len
  rw [natD_I]
  unfold webD
  walk_at "dl"
  rw [List.length_map, natI_len]
  refine lc_by (tiedF (g.length : Int)) ?_ (fun x hx M' _ F hF => ?_) ?_
  · rw [List.length_map]; exact szl (by omega)
  · obtain ⟨t, ht, rfl⟩ := List.mem_map.mp hx
    unfold tiedF pairD at hF
    unfold pairD
    dsimp only at hF
    walk_at "dl"
    refine i_itD (fun e => ?_) fun e => ?_
    · rw [if_pos e] at hF
      walk_at "dl"
      exact hF
    · rw [if_neg e] at hF
      exact hF
  · rw [tied_list]
    walk_at "dl"
    refine ne_tupI ?_
    have el : (endsAt ts (g.length : Int)).length ≤ 12 := by
      unfold endsAt
      have := List.length_filter_le (fun t : Int × Int => decide (t.2 = (g.length : Int))) ts
      rw [List.length_map]
      omega
    apply i_two
    · intro e hC
      walk_at "dl"
      refine ⟨natI g, rfl, ?_, fun m m1 m2 => ?_⟩
      · cases q : natI g with
        | nil => rw [q] at e; cases e
        | cons a b => exact Nat.succ_pos _
      · walk_at "dl"
        rw [top_max m1 m2]
        exact hC
    · intro e hC
      have : g = [] := by
        cases g with
        | nil => rfl
        | cons a b => cases e
      subst this
      exact hC
    · walk_at "dl"
      refine ⟨by omega, by omega, ?_⟩
      refine lc_by (nextF ts g) ?_ (fun x hx M' _ F hF => ?_) ?_
      · rw [rgD_len]; exact szl (by omega)
      · obtain ⟨o, o1, o2, rfl⟩ := rgD_mem hx
        obtain ⟨o, rfl⟩ := Int.eq_ofNat_of_zero_le o1
        unfold nextF at hF
        dsimp only at hF
        rw [show ((o : Int)).toNat = o by omega] at hF
        walk_at "dl"
        refine i_notInq rfl rfl (flat_ints _) (fun x z e => by cases e) ?_
        rw [eqF_ints]
        refine i_itN (fun e => ?_) fun e => ?_
        · rw [if_pos ((ends_self gw).mp e)] at hF
          exact hF
        · have e' : ¬ tied ts g.length g.length = true := fun z => e ((ends_self gw).mpr z)
          rw [if_neg e'] at hF
          walk_at "dl"
          refine lc_by (fun x => if hitF g (o : Int) x = true then some (.int 1) else none) ?_ (fun x hx M' _ F hF => ?_) ?_
          · rw [List.length_map]; exact szl (by omega)
          · obtain ⟨y, hy, rfl⟩ := List.mem_map.mp hx
            obtain ⟨a, rfl, h1, h2⟩ := (ends_mem gw).mp hy
            have ha : a < g.length := by
              rcases Nat.lt_or_ge a g.length with q | q
              · exact q
              · have : a = g.length := by omega
                subst this
                exact absurd h2 e'
            have hb : hitF g (o : Int) (.int (a : Int)) = decide (((g.getD a 0 : Nat) : Int) = (o : Int)) := rfl
            rw [hb] at hF
            walk_at "dl"
            refine i_ixt (natD_at ha) ?_
            walk_at "dl"
            refine i_itD (fun e => ?_) fun e => ?_
            · rw [if_pos (decide_eq_true e)] at hF
              walk_at "dl"
              exact hF
            · rw [if_neg (by rw [decide_eq_false e]; exact Bool.false_ne_true)] at hF
              exact hF
          · walk_at "dl"
            refine eq_ones ?_
            rw [hit_any gw (by simpa using e')]
            refine i_itN (fun e2 => ?_) fun e2 => ?_
            · rw [if_pos e2] at hF
              exact hF
            · rw [if_neg e2] at hF
              walk_at "dl"
              exact hF
      · rw [next_list]
        exact i_drp0 kk

abbrev s__law_is_paper : Stmt := topS 55
abbrev nn__law_is_paper : List Str := ["web", "k", "value", "level", "place", "later", "dyes", "own", "some", "at"]
theorem sc__law_is_paper : FnScope nn__law_is_paper ["web", "k", "value"] (defScope s__law_is_paper) := ⟨rfl, rfl, rfl, by decide +kernel, rfl, by decide +kernel, by decide +kernel⟩
theorem ok__law_is_paper {P : Program} {w : World} {K : PySem.W.Frag} {mg : Str → Option Value} {base : Heap} {T : List (Addr × Str)}  (B : Blt mg) (G__law_next : Has P w K mg base T "_law_next" 1 3 fs__law_next) {f : Addr} {fd : FuncData} (F : Fun K "_law_is_paper" "_law_is_paper" s__law_is_paper f fd) (hm : mg "_law_is_paper" = some (.ref f)) (hb : L2.Binds K fd ["web", "k", "value"] []) : Has P w K mg base T "_law_is_paper" 2 3 fs__law_is_paper := by
  refine okD (k := 1) F sc__law_is_paper hm hb len__law_is_paper (fun cdv A outer s H E hr => ⟨_, (xss_cons (xs_set (i := 3) sc__law_is_paper.nd rfl (by first | exact Or.inl rfl | exact Or.inr rfl) (xe_lst (xa_cons (xe_tup (xa_cons (xe_tup xa_nil) (xa_cons (xv 2) xa_nil))) xa_nil)))
      (xss_cons (xs_for (vs := [4]) PassesOwn.never rfl (xi_rng1 (by rfl) B.b_range (xa_cons (xe_add (xe_item (xv 0) xe_int) xe_int) xa_nil)) (pg_name (i := 4) sc__law_is_paper.nd rfl (by first | exact Or.inl rfl | exact Or.inr rfl)) (tg_name (by decide))
      (xss_cons (xs_set (i := 5) sc__law_is_paper.nd rfl (by first | exact Or.inl rfl | exact Or.inr rfl) (xe_lst xa_nil))
      (xss_cons (xs_for (vs := [6, 7]) PassesOwn.never rfl (xi_any (xv 3)) (pg_tup rfl (pgs_cons (pg_name (i := 6) sc__law_is_paper.nd rfl (by first | exact Or.inl rfl | exact Or.inr rfl)) (pgs_cons (pg_name (i := 7) sc__law_is_paper.nd rfl (by first | exact Or.inl rfl | exact Or.inr rfl)) pgs_nil))) (tg_pair (i := 6) (j := 7) (by decide) (by decide))
      (xss_cons (xs_if (xt_w (xw_or (xt_eq hr.units (xe_callB call_len d_len (by rfl) B.b_len (by decide +kernel) (xa_cons (xv 6) xa_nil)) (xe_item (xv 0) xe_int)) (xw_or1 (xt_not (xt_val (xe_callB call_isiA d_isi (by rfl) B.b_isinstance (by decide +kernel) (xa_cons (xv 7) (xa_cons (xe_ty (n := "tuple") (by rfl) B.b_tuple (by decide +kernel)) xa_nil))))))))
      (xss_one (xs_ret xe_bl))
      xss_nil)
      (xss_cons (xs_set (i := 8) sc__law_is_paper.nd rfl (by first | exact Or.inl rfl | exact Or.inr rfl) (xe_call G__law_next (hr.mono (by decide)) (by rfl) (xa_cons (xv 0) (xa_cons (xv 1) (xa_cons (xv 6) xa_nil)))))
      (xss_cons (xs_if (xt_ne hr.units (xe_callB call_len d_len (by rfl) B.b_len (by decide +kernel) (xa_cons (xv 7) xa_nil)) (xe_callB call_len d_len (by rfl) B.b_len (by decide +kernel) (xa_cons (xv 8) xa_nil)))
      (xss_one (xs_ret xe_bl))
      xss_nil)
      (xss_one (xs_set (i := 5) sc__law_is_paper.nd rfl (by first | exact Or.inl rfl | exact Or.inr rfl) (xe_add (xv 5) (xe_lc rfl sc__law_is_paper.nd (xi_rng1 (by rfl) B.b_range (xa_cons (xe_callB call_len d_len (by rfl) B.b_len (by decide +kernel) (xa_cons (xv 8) xa_nil)) xa_nil)) (blkOk_by (own := [("at", 9)]) (N := nn__law_is_paper) (sc := defScope s__law_is_paper) (by decide +kernel)) (tg_name (by decide)) (fun _ _ _ _ _ => pg_name (i := 9) sc__law_is_paper.nd rfl (by first | exact Or.inl rfl | exact Or.inr rfl)) (fun _ _ _ _ _ => xts_nil) (fun _ _ _ _ _ => (xe_tup (xa_cons (xe_add (xv 6) (xe_tup (xa_cons (xe_item (xv 8) (xv 9)) xa_nil))) (xa_cons (xe_item (xv 7) (xv 9)) xa_nil))))))))))))
      (xss_one (xs_set (i := 3) sc__law_is_paper.nd rfl (by first | exact Or.inl rfl | exact Or.inr rfl) (xv 5))))))
      (xss_one (xs_ret (xe_eq hr.units (xv 3) (xe_lst xa_nil)))))), fun ds M Φ h => ?_⟩)
  obtain ⟨n, ts, k, v, rfl, gw, hv, kk⟩ := h
  have hn := gw.hi
  have hn1 := gw.lo
  have en : ((n.toNat : Nat) : Int) = n := Int.toNat_of_nonneg (by omega)
  unfold webD
  walk_at "dl"
  refine ⟨by omega, by omega, ?_⟩
  refine for_by (fun p Γ M' => ∃ (L : List (List Nat × D)) (y4 y5 y6 y7 y8 y9 : Option D), Γ = [some (.tup [.str "web", .int n, .tup (ts.map pairD)]), some (.int (k : Int)), some v, some (.lst (L.map lvD)), y4, y5, y6, y7, y8, y9] ∧ M' = M ∧ (∀ x ∈ L, RG ts x.1 ∧ x.1.length = p ∧ puD x.2 = true) ∧ L.length ≤ fct p ∧ (p ≤ n.toNat → isShutF ts k n.toNat [] v = lvl ts k (n.toNat - p) L) ∧ (n.toNat < p → L = [] ∧ isShutF ts k n.toNat [] v = true)) ⟨[([], v)], _, _, _, _, _, _, rfl, rfl, ?_, Nat.le_refl _, ?_, ?_⟩ ?_ ?_
  · intro x hx
    rcases List.mem_singleton.mp hx with rfl
    exact ⟨.nil, rfl, hv⟩
  · intro _
    show _ = (isShutF ts k (n.toNat - 0) [] v && true)
    rw [Bool.and_true, Nat.sub_zero]
  · intro z; omega
  · rintro p x Γ M0 FF hx ⟨L, y4, y5, y6, y7, y8, y9, rfl, rfl, hL, hLn, hs1, hs2⟩ hF
    obtain ⟨hp, rfl⟩ := rgD_get hx
    rw [Int.zero_add] at hp ⊢
    have hpn : p ≤ n.toNat := by omega
    have fl := fct_le (p := p) (by omega)
    have es := hs1 hpn
    walk_at "dl"
    refine for_by (fun i Γ M' => ∃ (y6 y7 y8 y9 : Option D), Γ = [some (.tup [.str "web", .int n, .tup (ts.map pairD)]), some (.int (k : Int)), some v, some (.lst (L.map lvD)), some (.int (p : Int)), some (.lst (((L.take i).flatMap (kids ts k)).map lvD)), y6, y7, y8, y9] ∧ M' = M0 ∧ (∀ x ∈ L.take i, kidOk ts k x = true) ∧ (0 < i → p < n.toNat)) ⟨_, _, _, _, rfl, rfl, (fun x hx => by cases hx), fun z => absurd z (Nat.lt_irrefl _)⟩ ?_ ?_
    · rintro i x Γ M' FF' hx ⟨y6, y7, y8, y9, rfl, rfl, hk1, hk2⟩ hF'
      obtain ⟨⟨g, own⟩, hx1, rfl⟩ := map_at hx
      have hm := List.mem_of_getElem? hx1
      obtain ⟨rg, rl, rp⟩ := hL _ hm
      replace rg : RG ts g := rg
      replace rl : g.length = p := rl
      replace rp : puD own = true := rp
      have htop := rg.top_len
      have bad : p < n.toNat → kidOk ts k (g, own) = false → isShutF ts k n.toNat [] v = false := fun h1 h2 => by
        rw [es, show n.toNat - p = (n.toNat - p - 1) + 1 by omega, lvl_step, show L.all (kidOk ts k) = false from by
          rw [List.all_eq_false]
          exact ⟨_, hm, by rw [h2]; exact Bool.false_ne_true⟩, Bool.false_and]
      rw [show lvD (g, own) = .tup [.tup ((natI g).map .int), own] from by unfold lvD; rw [natD_I]]
      walk_at "dl"
      rw [List.length_map, natI_len]
      refine i_itD (fun e1 => ?_) fun e1 => ?_
      · walk_at "dl"
        rw [show isShutF ts k n.toNat [] v = false from by
          rw [es, show n.toNat - p = 0 by omega]
          show L.all _ = false
          rw [List.all_eq_false]
          exact ⟨_, hm, Bool.false_ne_true⟩] at kk
        exact i_drp0 kk
      · have hpl : p < n.toNat := by omega
        cases own <;> first | (cases rp; done) | skip
        all_goals walk_at "dl"
        all_goals first | (rw [bad hpl rfl] at kk; exact i_drp0 kk) | skip
        rename_i vs
        have hpu : puAll vs = true := by rw [puD, Bool.and_eq_true] at rp; exact rp.1
        have ol := opens_len8 (k := k) rg (by omega)
        refine ⟨n, ts, k, g, by rw [natD_I]; rfl, gw, by omega, by omega, ?_⟩
        unfold opensD
        walk_at "dl"
        rw [List.length_map]
        refine i_itN (fun e2 => ?_) fun e2 => ?_
        · have e2 : vs.length = (opens ts k g).length := by omega
          have hko : kidOk ts k (g, .tup vs) = true := decide_eq_true e2
          walk_at "dl"
          rw [List.length_map]
          refine ⟨by omega, by omega, ?_⟩
          refine lc_by (kidF ts k g vs) ?_ (fun x hx M' _ F hF => ?_) ?_
          · rw [rgD_len]; exact szl (by omega)
          · obtain ⟨o, o1, o2, rfl⟩ := rgD_mem hx
            obtain ⟨o, rfl⟩ := Int.eq_ofNat_of_zero_le o1
            have ho : o < (opens ts k g).length := by omega
            have hb : kidF ts k g vs (.int (o : Int)) = some (.tup [natD (g ++ [(opens ts k g).getD o 0]), vs.getD o .non]) := rfl
            rw [hb] at hF
            walk_at "dl"
            refine i_ixl (x := .int (((opens ts k g).getD o 0 : Nat) : Int)) (atI_of (by rw [List.getElem?_map, List.getElem?_eq_getElem ho, List.getD_eq_getElem?_getD, List.getElem?_eq_getElem ho]; rfl)) ?_
            walk_at "dl"
            refine i_addt (szl (by rw [List.length_map, natI_len, List.length_singleton]; show g.length + 1 ≤ _; omega)) ?_
            walk_at "dl"
            refine i_ixt (x := vs.getD o .non) (atI_of (by rw [List.getD_eq_getElem?_getD, List.getElem?_eq_getElem (by omega)]; rfl)) ?_
            walk_at "dl"
            rw [natD_snoc]
            exact hF
          · rw [kid_list e2]
            walk_at "dl"
            have q1 : ((L.take i).flatMap (kids ts k)).length ≤ L.length * (p + 1) := by
              refine Nat.le_trans (flat_len (m := p + 1) fun x hx1 => ?_) (Nat.mul_le_mul_right _ (by rw [List.length_take]; omega))
              obtain ⟨a1, a2, a3⟩ := hL x (List.mem_of_mem_take hx1)
              have := kids_len (ts := ts) (k := k) (x := x)
              have := a1.top_len
              omega
            have q2 : L.length * (p + 1) ≤ 40320 * 9 := Nat.mul_le_mul (by omega) (by omega)
            have q3 := kids_len (ts := ts) (k := k) (x := (g, D.tup vs))
            have q3 : (kids ts k (g, D.tup vs)).length ≤ topD g + 1 := q3
            refine i_addl (szl (by rw [List.length_map, List.length_map]; omega)) ?_
            rw [← List.map_append]
            rw [show (L.take i).flatMap (kids ts k) ++ kids ts k (g, D.tup vs) = (L.take (i + 1)).flatMap (kids ts k) from by rw [take_at hx1, List.flatMap_append, List.flatMap_singleton]]
            refine hF' _ _ ⟨_, _, _, _, rfl, rfl, fun x hx2 => ?_, fun _ => hpl⟩
            rw [take_at hx1] at hx2
            rcases List.mem_append.mp hx2 with q | q
            · exact hk1 x q
            · rcases List.mem_singleton.mp q with rfl; exact hko
        · rw [bad hpl (by
            show decide (vs.length = (opens ts k g).length) = false
            rw [decide_eq_false (by omega)])] at kk
          walk_at "dl"
          exact i_drp0 kk
    · rintro Γ M' ⟨y6, y7, y8, y9, rfl, rfl, hk1, hk2⟩
      rw [List.length_map] at hk1 hk2 ⊢
      rw [List.take_length] at hk1 ⊢
      have hall : L.all (kidOk ts k) = true := List.all_eq_true.mpr hk1
      walk_at "dl"
      refine hF _ _ ⟨L.flatMap (kids ts k), _, _, _, _, _, _, rfl, rfl, fun y hy => ?_, ?_, fun h1 => ?_, fun h1 => ?_⟩
      · obtain ⟨x, hx1, hx2⟩ := List.mem_flatMap.mp hy
        obtain ⟨a1, a2, a3⟩ := hL x hx1
        obtain ⟨b1, b2, b3⟩ := kids_mem a1 a3 hx2
        exact ⟨b1, by omega, b3⟩
      · refine Nat.le_trans (flat_len (m := p + 1) fun x hx1 => ?_) (Nat.mul_le_mul_right _ hLn)
        obtain ⟨a1, a2, a3⟩ := hL x hx1
        have := kids_len (ts := ts) (k := k) (x := x)
        have := a1.top_len
        omega
      · rw [es, show n.toNat - p = (n.toNat - (p + 1)) + 1 by omega, lvl_step, hall, Bool.true_and]
      · have hL0 : L = [] := by
          cases L with
          | nil => rfl
          | cons a b => have := hk2 (Nat.succ_pos _); omega
        subst hL0
        exact ⟨rfl, by rw [es]; rfl⟩
  · rintro Γ M' ⟨L, y4, y5, y6, y7, y8, y9, rfl, rfl, hL, hLn, hs1, hs2⟩
    rw [rgD_len] at hs2
    obtain ⟨rfl, e⟩ := hs2 (by omega)
    rw [e] at kk
    walk_at "dl"
    refine i_neLF0 ?_
    exact i_drp0 kk

abbrev s__law_judged : Stmt := topS 56
abbrev nn__law_judged : List Str := ["web", "k", "value"]
theorem sc__law_judged : FnScope nn__law_judged ["web", "k", "value"] (defScope s__law_judged) := ⟨rfl, rfl, rfl, by decide +kernel, rfl, by decide +kernel, by decide +kernel⟩
theorem ok__law_judged {P : Program} {w : World} {K : PySem.W.Frag} {mg : Str → Option Value} {base : Heap} {T : List (Addr × Str)}  (B : Blt mg) (G__law_is_dyeing : Has P w K mg base T "_law_is_dyeing" 2 3 fs__law_is_dyeing) (G__law_is_paper : Has P w K mg base T "_law_is_paper" 2 3 fs__law_is_paper) {f : Addr} {fd : FuncData} (F : Fun K "_law_judged" "_law_judged" s__law_judged f fd) (hm : mg "_law_judged" = some (.ref f)) (hb : L2.Binds K fd ["web", "k", "value"] []) : Has P w K mg base T "_law_judged" 3 3 fs__law_judged := by
  refine okD (k := 2) F sc__law_judged hm hb len__law_judged (fun cdv A outer s H E hr => ⟨_, (xss_cons (xs_if (xt_w (xw_or (xt_not (xt_val (xe_callB call_isiA d_isi (by rfl) B.b_isinstance (by decide +kernel) (xa_cons (xv 2) (xa_cons (xe_ty (n := "tuple") (by rfl) B.b_tuple (by decide +kernel)) xa_nil))))) (xw_or (xt_ne hr.units (xe_callB call_len d_len (by rfl) B.b_len (by decide +kernel) (xa_cons (xv 2) xa_nil)) xe_int) (xw_or1 (xt_not (xt_val (xe_callB call_isiA d_isi (by rfl) B.b_isinstance (by decide +kernel) (xa_cons (xe_item (xv 2) xe_int) (xa_cons (xe_ty (n := "bool") (by rfl) B.b_bool (by decide +kernel)) xa_nil)))))))))
      (xss_one (xs_ret xe_bl))
      xss_nil)
      (xss_one (xs_ret (xe_if (xt_val (xe_item (xv 2) xe_int)) (xe_call G__law_is_dyeing (hr.mono (by decide)) (by rfl) (xa_cons (xv 0) (xa_cons (xv 1) (xa_cons (xe_item (xv 2) xe_int) xa_nil)))) (xe_call G__law_is_paper (hr.mono (by decide)) (by rfl) (xa_cons (xv 0) (xa_cons (xv 1) (xa_cons (xe_item (xv 2) xe_int) xa_nil)))))))), fun ds M Φ h => ?_⟩)
  obtain ⟨n, ts, k, v, rfl, gw, hv, k1⟩ := h
  have hn := gw.hi
  have hn1 := gw.lo
  cases v <;> first | (cases hv; done) | skip
  all_goals walk_at "dl"
  all_goals first | exact i_drp0 k1 | skip
  rename_i xs
  refine i_itN (fun e => ?_) fun e => ?_
  · obtain ⟨a, b, rfl⟩ : ∃ a b, xs = [a, b] := by
      match xs, e with
      | [a, b], _ => exact ⟨a, b, rfl⟩
      | [], e => cases e
      | [_], e => cases e
      | _ :: _ :: _ :: _, e => simp at e; omega
    walk_at "dl"
    rw [puD, Bool.and_eq_true, puAll, puAll, Bool.and_eq_true, Bool.and_eq_true] at hv
    obtain ⟨⟨h1, h2, h3⟩, h4⟩ := hv
    cases a <;> first | (cases h1; done) | skip
    all_goals walk_at "dl"
    all_goals first | exact i_drp0 k1 | skip
    rename_i c
    cases c
    · walk_at "dl"
      try with_reducible refine i_itF ?_
      walk_at "dl"
      refine ⟨n, ts, k, b, rfl, gw, h2, ?_⟩
      exact i_drp0 k1
    · walk_at "dl"
      try with_reducible refine i_itT ?_
      walk_at "dl"
      refine ⟨n, _, ts, b, rfl, gw, h2, ?_⟩
      exact i_drp0 k1
  · walk_at "dl"
    have : isPaperD n ts k (.tup xs) = false := by
      match xs, e with
      | [a, b], e => exact absurd rfl e
      | [], _ => rfl
      | [_], _ => rfl
      | _ :: _ :: _ :: _, _ => rfl
    rw [this] at k1
    exact i_drp0 k1

abbrev s__law_changed : Stmt := topS 57
abbrev nn__law_changed : List Str := ["draws", "value", "own", "trail", "lap", "at", "bent", "whole"]
theorem sc__law_changed : FnScope nn__law_changed ["draws", "value"] (defScope s__law_changed) := ⟨rfl, rfl, rfl, by decide +kernel, rfl, by decide +kernel, by decide +kernel⟩
theorem ok__law_changed {P : Program} {w : World} {K : PySem.W.Frag} {mg : Str → Option Value} {base : Heap} {T : List (Addr × Str)}  (B : Blt mg) (G__law_bent : Has P w K mg base T "_law_bent" 4 2 fs__law_bent) (G__law_draw : Has P w K mg base T "_law_draw" 2 2 fs__law_draw) (G__law_pick : Has P w K mg base T "_law_pick" 3 2 fs__law_pick) {f : Addr} {fd : FuncData} (F : Fun K "_law_changed" "_law_changed" s__law_changed f fd) (hm : mg "_law_changed" = some (.ref f)) (hb : L2.Binds K fd ["draws", "value"] []) : Has P w K mg base T "_law_changed" 5 2 fs__law_changed := by
  refine okD (k := 4) F sc__law_changed hm hb len__law_changed (fun cdv A outer s H E hr => ⟨_, (xss_cons (xs_par (i := 2) (j := 3) rfl sc__law_changed.nd rfl rfl (by decide) rfl rfl (xa_cons (xe_item (xv 1) xe_int) (xa_cons (xe_lst xa_nil) xa_nil)) (by rfl))
      (xss_cons (xs_for (vs := [4]) PassesOwn.never rfl (xi_rng1 (by rfl) B.b_range (xa_cons (xe_call G__law_draw (hr.mono (by decide)) (by rfl) (xa_cons (xv 0) (xa_cons xe_int xa_nil))) xa_nil)) (pg_name (i := 4) sc__law_changed.nd rfl (by first | exact Or.inl rfl | exact Or.inr rfl)) (tg_name (by decide))
      (xss_one (xs_if (xt_w (xw_and (xt_val (xe_callB call_isiA d_isi (by rfl) B.b_isinstance (by decide +kernel) (xa_cons (xv 2) (xa_cons (xe_ty (n := "tuple") (by rfl) B.b_tuple (by decide +kernel)) xa_nil)))) (xw_and (xt_ne hr.units (xv 2) (xe_tup xa_nil)) (xw_and1 (xt_val (xe_callB call_isiA d_isi (by rfl) B.b_isinstance (by decide +kernel) (xa_cons (xe_item (xv 2) xe_int) (xa_cons (xe_ty (n := "tuple") (by rfl) B.b_tuple (by decide +kernel)) xa_nil))))))))
      (xss_cons (xs_set (i := 5) sc__law_changed.nd rfl (by first | exact Or.inl rfl | exact Or.inr rfl) (xe_call G__law_draw (hr.mono (by decide)) (by rfl) (xa_cons (xv 0) (xa_cons (xe_callB call_len d_len (by rfl) B.b_len (by decide +kernel) (xa_cons (xv 2) xa_nil)) xa_nil))))
      (xss_cons (xs_set (i := 3) sc__law_changed.nd rfl (by first | exact Or.inl rfl | exact Or.inr rfl) (xe_add (xv 3) (xe_lst (xa_cons (xe_tup (xa_cons (xv 2) (xa_cons (xv 5) xa_nil))) xa_nil))))
      (xss_one (xs_set (i := 2) sc__law_changed.nd rfl (by first | exact Or.inl rfl | exact Or.inr rfl) (xe_item (xv 2) (xv 5))))))
      xss_nil)))
      (xss_cons (xs_set (i := 6) sc__law_changed.nd rfl (by first | exact Or.inl rfl | exact Or.inr rfl) (xe_if (xt_val (xe_callB call_isiA d_isi (by rfl) B.b_isinstance (by decide +kernel) (xa_cons (xv 2) (xa_cons (xe_ty (n := "tuple") (by rfl) B.b_tuple (by decide +kernel)) xa_nil)))) (xe_call G__law_bent (hr.mono (by decide)) (by rfl) (xa_cons (xv 0) (xa_cons (xv 2) xa_nil))) (xv 2)))
      (xss_cons (xs_for (vs := [7, 5]) PassesOwn.never rfl (xi_any (xe_rev (xv 3))) (pg_tup rfl (pgs_cons (pg_name (i := 7) sc__law_changed.nd rfl (by first | exact Or.inl rfl | exact Or.inr rfl)) (pgs_cons (pg_name (i := 5) sc__law_changed.nd rfl (by first | exact Or.inl rfl | exact Or.inr rfl)) pgs_nil))) (tg_pair (i := 7) (j := 5) (by decide) (by decide))
      (xss_one (xs_set (i := 6) sc__law_changed.nd rfl (by first | exact Or.inl rfl | exact Or.inr rfl) (xe_add (xe_add (xe_slice (xv 7) xo_no (xo_at (xv 5))) (xe_tup (xa_cons (xv 6) xa_nil))) (xe_slice (xv 7) (xo_at (xe_add (xv 5) xe_int)) xo_no)))))
      (xss_one (xs_ret (xe_call G__law_pick (hr.mono (by decide)) (by rfl) (xa_cons (xv 0) (xa_cons (xe_lst (xa_cons (xe_tup (xa_cons (xe_item (xv 1) xe_int) (xa_cons (xv 6) xa_nil))) (xa_cons (xe_tup (xa_cons (xe_item (xv 1) xe_int) (xa_cons (xv 6) xa_nil))) (xa_cons (xe_tup (xa_cons (xe_not (xe_item (xv 1) xe_int)) (xa_cons (xe_item (xv 1) xe_int) xa_nil))) (xa_cons (xe_lst (xa_cons (xe_item (xv 1) xe_int) (xa_cons (xe_item (xv 1) xe_int) xa_nil))) (xa_cons (xe_tup (xa_cons (xe_if (xt_val (xe_item (xv 1) xe_int)) xe_int xe_int) (xa_cons (xe_item (xv 1) xe_int) xa_nil))) (xa_cons (xe_add (xv 1) (xe_tup (xa_cons xe_int xa_nil))) xa_nil))))))) xa_nil))))))))), fun ds M Φ h => ?_⟩)
  obtain ⟨d, l, n, b, xs, rfl, hd, hn, hta, k⟩ := h
  walk_at "dl"
  refine ⟨d, l, n, 4, rfl, hd, by omega, by omega, by decide, fun laps M1 w1 w2 hd1 ev1 => ?_⟩
  walk_at "dl"
  refine ⟨by omega, by omega, ?_⟩
  refine for_by (fun i Γ M' => ∃ (own : D) (tr : List (List D × Nat)) (y4 y5 y6 y7 : Option D), Γ = [some (.ptr d), some (.tup [.bl b, .tup xs]), some own, some (.lst (tr.map trD)), y4, y5, y6, y7] ∧ taD 12 own = true ∧ (∀ t ∈ tr, taD 12 (.tup t.1) = true ∧ t.2 < t.1.length) ∧ tr.length ≤ i ∧ Dr M' d l (n + 1 + i) ∧ Ev M M' d l) ⟨.tup xs, [], _, _, _, _, rfl, hta, (fun t h => by cases h), Nat.le_refl _, hd1, ev1⟩ ?_ ?_
  · rintro i x Γ M' FF hx ⟨own, tr, y4, y5, y6, y7, rfl, hz, ht, hl, hd2, ev2⟩ hF
    obtain ⟨hi, rfl⟩ := rgD_get hx
    have skip : ∀ y4', FF [some (.ptr d), some (.tup [.bl b, .tup xs]), some own, some (.lst (tr.map trD)), y4', y5, y6, y7] M' := fun y4' => hF _ _ ⟨own, tr, _, _, _, _, rfl, hz, ht, by omega, hd2.mono (by omega), ev2⟩
    rcases ta_case hz with ⟨j, rfl⟩ | ⟨zs, rfl⟩
    · walk_at "dl"
      try with_reducible refine i_itF ?_
      walk_at "dl"
      exact skip _
    · obtain ⟨h1, h2⟩ := ta_tup hz
      walk_at "dl"
      try with_reducible refine i_itT ?_
      walk_at "dl"
      refine ne_tup0 (n := 11) (by omega) (fun x h => ta_py (h1 x h)) ?_
      cases zs with
      | nil =>
        refine i_itnT ?_
        walk_at "dl"
        exact skip _
      | cons z zs =>
        refine i_itnF ?_
        walk_at "dl"
        rcases ta_case (h1 z (by simp)) with ⟨j, rfl⟩ | ⟨us, rfl⟩
        · walk_at "dl"
          try with_reducible refine i_itF ?_
          walk_at "dl"
          exact skip _
        · walk_at "dl"
          try with_reducible refine i_itT ?_
          walk_at "dl"
          refine ⟨d, l, _, _, rfl, hd2, by omega, by simp only [List.length_cons]; omega, log_small (by omega) (by simp only [List.length_cons] at h2 ⊢; omega), fun a M3 a1 a2 hd3 ev3 => ?_⟩
          obtain ⟨a, rfl⟩ := Int.eq_ofNat_of_zero_le a1
          have hal : a < (D.tup us :: zs).length := by omega
          walk_at "dl"
          refine i_addl (szl (by rw [List.length_map, List.length_singleton]; omega)) ?_
          walk_at "dl"
          refine i_ixt (x := (D.tup us :: zs)[a]) (atI_of (List.getElem?_eq_getElem hal)) ?_
          walk_at "dl"
          rw [show tr.map trD ++ [D.tup [D.tup (D.tup us :: zs), .int (a : Int)]] = (tr ++ [(D.tup us :: zs, a)]).map trD from by rw [List.map_append]; rfl]
          refine hF _ _ ⟨_, tr ++ [(D.tup us :: zs, a)], _, _, _, _, rfl, ta_up (h1 _ (List.getElem_mem hal)), fun t h => ?_, by rw [List.length_append, List.length_singleton]; omega, hd3.mono (by omega), ev2.trans ev3⟩
          rcases List.mem_append.mp h with q | q
          · exact ht t q
          · rcases List.mem_singleton.mp q with rfl
            exact ⟨hz, hal⟩
  · rintro Γ M1' ⟨own, tr, y4, y5, y6, y7, rfl, hz, ht, hl, hd2, ev2⟩
    rw [rgD_len] at hl hd2
    rcases ta_case hz with ⟨j, rfl⟩ | ⟨zs, rfl⟩
    · walk_at "dl"
      try with_reducible refine i_itF ?_
      have hy : puD (.int j) = true := rfl
      have hdb : Dr M1' d l (n + 8) := hd2.mono (by omega)
      have evb := ev2
      walk_at "dl"
      refine ⟨_, rfl, _, rfl, ?_⟩
      refine for_by (fun i Γ M' => ∃ (y : D) (y5 y7 : Option D), Γ = [some (.ptr d), some (.tup [.bl b, .tup xs]), some (.int j), some (.lst (tr.map trD)), y4, y5, some y, y7] ∧ M' = M1' ∧ puD y = true) ⟨_, _, _, rfl, rfl, hy⟩ ?_ ?_
      · rintro i x Γ M' FF hx' ⟨y, y5, y7, rfl, rfl, hy'⟩ hF
        obtain ⟨t, htm, rfl⟩ := List.mem_map.mp (List.mem_reverse.mp (List.mem_of_getElem? hx'))
        obtain ⟨t1, t2⟩ := ht t htm
        obtain ⟨t3, t4⟩ := ta_tup t1
        unfold trD
        walk_at "dl"
        have lA := len_cut (xs := t.1) (lo := none) (hi := some (t.2 : Int))
        have lB := len_cut (xs := t.1) (lo := some ((t.2 : Int) + 1)) (hi := none)
        refine i_addt (szl (by rw [List.length_singleton]; omega)) ?_
        walk_at "dl"
        refine i_addt (szl (by rw [List.length_append, List.length_singleton]; omega)) ?_
        refine hF _ _ ⟨_, _, _, rfl, rfl, pu_tup (fun z hz => ?_) (by rw [List.length_append, List.length_append, List.length_singleton]; omega)⟩
        rcases List.mem_append.mp hz with q | q
        · rcases List.mem_append.mp q with q | q
          · exact ta_pu (t3 z (mem_cut q))
          · rcases List.mem_singleton.mp q with rfl; exact hy'
        · exact ta_pu (t3 z (mem_cut q))
      · rintro Γ M' ⟨y, y5, y7, rfl, rfl, hy'⟩
        have px : puD (.tup xs) = true := ta_pu hta
        have p2 : ∀ u v : D, puD u = true → puD v = true → puD (.tup [u, v]) = true := fun u v h1 h2 => pu_tup (fun z hz => by
          simp only [List.mem_cons, List.not_mem_nil, or_false] at hz
          rcases hz with rfl | rfl
          · exact h1
          · exact h2) (by simp)
        have pe : ∀ (i : Int) (x : D) (_ : x ∈ [D.tup [.bl b, y], D.tup [.bl b, y], D.tup [.bl (!b), .tup xs], D.lst [.bl b, .tup xs], D.tup [.int i, .tup xs], D.tup [.bl b, .tup xs, .int 0]]), puD x = true := by
          intro i x hx'
          simp only [List.mem_cons, List.not_mem_nil, or_false] at hx'
          rcases hx' with rfl | rfl | rfl | rfl | rfl | rfl
          · exact p2 _ _ rfl hy'
          · exact p2 _ _ rfl hy'
          · exact p2 _ _ rfl px
          · exact pu_lst (fun z hz => by
              simp only [List.mem_cons, List.not_mem_nil, or_false] at hz
              rcases hz with rfl | rfl
              · rfl
              · exact px) (by simp)
          · exact p2 _ _ rfl px
          · exact pu_tup (fun z hz => by
              simp only [List.mem_cons, List.not_mem_nil, or_false] at hz
              rcases hz with rfl | rfl | rfl
              · rfl
              · exact px
              · rfl) (by simp)
        walk_at "dl"
        cases b
        · try with_reducible refine i_itF ?_
          walk_at "dl"
          refine i_addt (szl (by simp)) ?_
          walk_at "dl"
          refine ⟨d, l, n + 8, _, rfl, hdb, by omega, by simp, by simp, fun x hx' M' h1 h2 => i_drp0 (k x M' (pe _ x hx') (h1.mono (by omega)) (evb.trans h2))⟩
        · try with_reducible refine i_itT ?_
          walk_at "dl"
          refine i_addt (szl (by simp)) ?_
          walk_at "dl"
          refine ⟨d, l, n + 8, _, rfl, hdb, by omega, by simp, by simp, fun x hx' M' h1 h2 => i_drp0 (k x M' (pe _ x hx') (h1.mono (by omega)) (evb.trans h2))⟩
    · walk_at "dl"
      try with_reducible refine i_itT ?_
      walk_at "dl"
      refine ⟨d, l, _, zs, rfl, hd2, by omega, hz, fun yb M2 hy hdb0 ev3 => ?_⟩
      have hdb : Dr M2 d l (n + 8) := hdb0.mono (by omega)
      have evb := ev2.trans ev3
      walk_at "dl"
      refine ⟨_, rfl, _, rfl, ?_⟩
      refine for_by (fun i Γ M' => ∃ (y : D) (y5 y7 : Option D), Γ = [some (.ptr d), some (.tup [.bl b, .tup xs]), some (.tup zs), some (.lst (tr.map trD)), y4, y5, some y, y7] ∧ M' = M2 ∧ puD y = true) ⟨_, _, _, rfl, rfl, hy⟩ ?_ ?_
      · rintro i x Γ M' FF hx' ⟨y, y5, y7, rfl, rfl, hy'⟩ hF
        obtain ⟨t, htm, rfl⟩ := List.mem_map.mp (List.mem_reverse.mp (List.mem_of_getElem? hx'))
        obtain ⟨t1, t2⟩ := ht t htm
        obtain ⟨t3, t4⟩ := ta_tup t1
        unfold trD
        walk_at "dl"
        have lA := len_cut (xs := t.1) (lo := none) (hi := some (t.2 : Int))
        have lB := len_cut (xs := t.1) (lo := some ((t.2 : Int) + 1)) (hi := none)
        refine i_addt (szl (by rw [List.length_singleton]; omega)) ?_
        walk_at "dl"
        refine i_addt (szl (by rw [List.length_append, List.length_singleton]; omega)) ?_
        refine hF _ _ ⟨_, _, _, rfl, rfl, pu_tup (fun z hz => ?_) (by rw [List.length_append, List.length_append, List.length_singleton]; omega)⟩
        rcases List.mem_append.mp hz with q | q
        · rcases List.mem_append.mp q with q | q
          · exact ta_pu (t3 z (mem_cut q))
          · rcases List.mem_singleton.mp q with rfl; exact hy'
        · exact ta_pu (t3 z (mem_cut q))
      · rintro Γ M' ⟨y, y5, y7, rfl, rfl, hy'⟩
        have px : puD (.tup xs) = true := ta_pu hta
        have p2 : ∀ u v : D, puD u = true → puD v = true → puD (.tup [u, v]) = true := fun u v h1 h2 => pu_tup (fun z hz => by
          simp only [List.mem_cons, List.not_mem_nil, or_false] at hz
          rcases hz with rfl | rfl
          · exact h1
          · exact h2) (by simp)
        have pe : ∀ (i : Int) (x : D) (_ : x ∈ [D.tup [.bl b, y], D.tup [.bl b, y], D.tup [.bl (!b), .tup xs], D.lst [.bl b, .tup xs], D.tup [.int i, .tup xs], D.tup [.bl b, .tup xs, .int 0]]), puD x = true := by
          intro i x hx'
          simp only [List.mem_cons, List.not_mem_nil, or_false] at hx'
          rcases hx' with rfl | rfl | rfl | rfl | rfl | rfl
          · exact p2 _ _ rfl hy'
          · exact p2 _ _ rfl hy'
          · exact p2 _ _ rfl px
          · exact pu_lst (fun z hz => by
              simp only [List.mem_cons, List.not_mem_nil, or_false] at hz
              rcases hz with rfl | rfl
              · rfl
              · exact px) (by simp)
          · exact p2 _ _ rfl px
          · exact pu_tup (fun z hz => by
              simp only [List.mem_cons, List.not_mem_nil, or_false] at hz
              rcases hz with rfl | rfl | rfl
              · rfl
              · exact px
              · rfl) (by simp)
        walk_at "dl"
        cases b
        · try with_reducible refine i_itF ?_
          walk_at "dl"
          refine i_addt (szl (by simp)) ?_
          walk_at "dl"
          refine ⟨d, l, n + 8, _, rfl, hdb, by omega, by simp, by simp, fun x hx' M' h1 h2 => i_drp0 (k x M' (pe _ x hx') (h1.mono (by omega)) (evb.trans h2))⟩
        · try with_reducible refine i_itT ?_
          walk_at "dl"
          refine i_addt (szl (by simp)) ?_
          walk_at "dl"
          refine ⟨d, l, n + 8, _, rfl, hdb, by omega, by simp, by simp, fun x hx' M' h1 h2 => i_drp0 (k x M' (pe _ x hx') (h1.mono (by omega)) (evb.trans h2))⟩

abbrev s__law_goes : Stmt := topS 58
abbrev nn__law_goes : List Str := ["draws", "web", "k", "told", "many", "values", "lap", "value"]
theorem sc__law_goes : FnScope nn__law_goes ["draws", "web", "k"] (defScope s__law_goes) := ⟨rfl, rfl, rfl, by decide +kernel, rfl, by decide +kernel, by decide +kernel⟩
theorem ok__law_goes {P : Program} {w : World} {K : PySem.W.Frag} {mg : Str → Option Value} {base : Heap} {T : List (Addr × Str)} {cBadNumber : Addr} {cBadWeb : Addr} (B : Blt mg) (G__law_changed : Has P w K mg base T "_law_changed" 5 2 fs__law_changed) (G__law_is_truth : Has P w K mg base T "_law_is_truth" 1 2 fs__law_is_truth) (G__law_judged : Has P w K mg base T "_law_judged" 3 3 fs__law_judged) (G_dye_paper : HasX P w K mg base T "dye_paper" 14 2 (fs_dye_paper cBadWeb cBadNumber)) (G_is_dye_paper : HasX P w K mg base T "is_dye_paper" 14 3 (fs_is_dye_paper cBadWeb cBadNumber)) (G_many_dyeings : HasX P w K mg base T "many_dyeings" 7 2 fs_many_dyeings) {f : Addr} {fd : FuncData} (F : Fun K "_law_goes" "_law_goes" s__law_goes f fd) (hm : mg "_law_goes" = some (.ref f)) (hb : L2.Binds K fd ["draws", "web", "k"] []) : Has P w K mg base T "_law_goes" 15 3 fs__law_goes := by
  refine okD (k := 14) F sc__law_goes hm hb len__law_goes (fun cdv A outer s H E hr => ⟨_, (xss_cons (xs_asgP (i := 3) (j := 4) rfl sc__law_goes.nd rfl rfl (xe_tup (xa_cons (xe_callN G_dye_paper (hr.mono (by decide)) (by rfl) (xa_cons (xv 1) (xa_cons (xv 2) xa_nil))) (xa_cons (xe_callN G_many_dyeings (hr.mono (by decide)) (by rfl) (xa_cons (xv 1) (xa_cons (xv 2) xa_nil))) xa_nil))))
      (xss_cons (xs_if (xt_w (xw_or (xt_not (xt_val (xe_call G__law_judged (hr.mono (by decide)) (by rfl) (xa_cons (xv 1) (xa_cons (xv 2) (xa_cons (xv 3) xa_nil)))))) (xw_or (xt_isNot (xe_callN G_is_dye_paper (hr.mono (by decide)) (by rfl) (xa_cons (xv 1) (xa_cons (xv 2) (xa_cons (xv 3) xa_nil)))) xe_bl) (xw_or1 (xt_ne hr.units (xe_item (xv 3) xe_int) (xe_gt (xv 4) xe_int))))))
      (xss_one (xs_ret xe_bl))
      xss_nil)
      (xss_cons (xs_set (i := 5) sc__law_goes.nd rfl (by first | exact Or.inl rfl | exact Or.inr rfl) (xe_add (xe_lst (xa_cons xe_non (xa_cons (xe_tup xa_nil) (xa_cons (xe_tup (xa_cons xe_bl xa_nil)) (xa_cons (xe_tup (xa_cons xe_bl xa_nil)) (xa_cons (xe_tup (xa_cons xe_bl (xa_cons (xe_tup xa_nil) xa_nil))) (xa_cons (xe_tup (xa_cons xe_bl (xa_cons (xe_tup xa_nil) xa_nil))) xa_nil))))))) (xe_lc rfl sc__law_goes.nd (xi_rng1 (by rfl) B.b_range (xa_cons xe_int xa_nil)) (blkOk_by (own := [("lap", 6)]) (N := nn__law_goes) (sc := defScope s__law_goes) (by decide +kernel)) (tg_name (by decide)) (fun _ _ _ _ _ => pg_name (i := 6) sc__law_goes.nd rfl (by first | exact Or.inl rfl | exact Or.inr rfl)) (fun _ _ _ _ _ => xts_nil) (fun _ _ _ _ _ => (xe_call G__law_changed (hr.mono (by decide)) (by rfl) (xa_cons (xv 0) (xa_cons (xv 3) xa_nil)))))))
      (xss_one (xs_ret (xe_eq hr.units (xe_lc rfl sc__law_goes.nd (xi_any (xv 5)) (blkOk_by (own := [("value", 7)]) (N := nn__law_goes) (sc := defScope s__law_goes) (by decide +kernel)) (tg_name (by decide)) (fun _ _ _ _ _ => pg_name (i := 7) sc__law_goes.nd rfl (by first | exact Or.inl rfl | exact Or.inr rfl)) (fun _ _ _ _ _ => (xts_one (xt_not (xt_val (xe_call G__law_is_truth (hr.mono (by decide)) (by rfl) (xa_cons (xe_callN G_is_dye_paper (hr.mono (by decide)) (by rfl) (xa_cons (xv 1) (xa_cons (xv 2) (xa_cons (xv 7) xa_nil)))) (xa_cons (xe_call G__law_judged (hr.mono (by decide)) (by rfl) (xa_cons (xv 1) (xa_cons (xv 2) (xa_cons (xv 7) xa_nil)))) xa_nil))))))) (fun _ _ _ _ _ => (xv 7))) (xe_lst xa_nil))))))), fun ds M Φ h => ?_⟩)
  obtain ⟨d, l, m, n, ts, k, rfl, gw, hk, hd, hm, kk⟩ := h
  have hn := gw.hi
  have hn1 := gw.lo
  obtain ⟨b, xs, ep, hta, hip, eb⟩ := paper_cases (k := k) gw
  have hpu : puD (.tup [.bl b, .tup xs]) = true := pu_tup (fun z hz => by
    simp only [List.mem_cons, List.not_mem_nil, or_false] at hz
    rcases hz with rfl | rfl
    · rfl
    · exact ta_pu hta) (by simp)
  have call : ∀ (v : D) (M : Mem) (Φ : Cont), puD v = true → Φ (.bl (isPaperD n ts k v)) M → fs_is_dye_paper cBadWeb cBadNumber [webD n ts, .int (k : Int), v] M Φ noX := fun v M Φ hv h => ⟨_, _, v, rfl, good_pu gw, rfl, hv, fun n' ts' k' e1 _ e2 _ => by
    obtain ⟨rfl, rfl⟩ := webD_inj e1
    injection e2 with e2
    obtain rfl : k = k' := by omega
    exact h, fun e => (by rw [good_is gw] at e; cases e), fun _ e => (by
      rw [inW, decide_eq_true (by omega), decide_eq_true (by omega)] at e
      cases e)⟩
  walk_at "dl"
  refine ⟨_, _, rfl, good_pu gw, rfl, fun n' ts' k' e1 _ e2 _ => ?_, fun e => (by rw [good_is gw] at e; cases e), fun _ e => (by
      rw [inW, decide_eq_true (by omega), decide_eq_true (by omega)] at e
      cases e)⟩
  obtain ⟨rfl, rfl⟩ := webD_inj e1
  injection e2 with e2
  obtain rfl : k = k' := by omega
  rw [ep]
  walk_at "dl"
  refine ⟨n, ts, k, rfl, gw, hk, ?_⟩
  walk_at "dl"
  refine ⟨n, ts, k, _, rfl, gw, hpu, ?_⟩
  rw [hip]
  walk_at "dl"
  try with_reducible refine i_itnT ?_
  walk_at "dl"
  refine call _ _ _ hpu ?_
  rw [hip]
  walk_at "dl"
  refine i_itND rfl ?_
  walk_at "dl"
  refine i_itND eb ?_
  walk_at "dl"
  refine ⟨by decide, by decide, ?_⟩
  refine lcI_by (fun i acc M' => acc.length = i ∧ (∀ x ∈ acc, puD x = true) ∧ Dr M' d l (m + 10 * i) ∧ Ev M M' d l) ⟨rfl, (fun x h => by cases h), hd, Ev.refl⟩ (by rw [rgD_len]; exact szl (by decide)) ?_ ?_
  · rintro i x acc M4 hx ⟨hl, ha, hd4, ev4⟩ p hp F hF
    obtain ⟨hi, rfl⟩ := rgD_get hx
    have ne := hd4.ne_new hp
    walk_at "dl"
    refine ⟨d, l, m + 10 * i, b, xs, rfl, hd4.set ne.1 ne.2, by omega, hta, fun y M5 hy hd5 ev5 => ?_⟩
    obtain ⟨h1, h2⟩ := beside hd4 hp ev5
    have := hF (some y) (M5.del p) ⟨by simp [hl], fun x hx => ?_, (hd5.del ne.1 ne.2).mono (by omega), ev4.trans h2⟩ Mem.del_same
    · rw [del_put h1] at this
      exact this
    · rcases List.mem_append.mp hx with q | q
      · exact ha x q
      · rcases List.mem_singleton.mp q with rfl; exact hy
  · rintro acc M4 ⟨hl, ha, hd4, ev4⟩
    rw [rgD_len] at hl hd4
    walk_at "dl"
    refine i_addl (szl (by simp only [List.length_cons, List.length_nil]; omega)) ?_
    walk_at "dl"
    have hall : ∀ x ∈ ([D.non, D.tup [], D.tup [.bl true], D.tup [.bl false], D.tup [.bl false, .tup []], D.tup [.bl true, .tup []]] ++ acc), puD x = true := fun x hx => by
      rcases List.mem_append.mp hx with q | q
      · simp only [List.mem_cons, List.not_mem_nil, or_false] at q
        rcases q with rfl | rfl | rfl | rfl | rfl | rfl <;> rfl
      · exact ha x q
    refine lc_by (fun _ => none) (szl (by simp only [List.length_append, List.length_cons, List.length_nil]; omega)) (fun x hx M' _ F hF => ?_) ?_
    · have hx' := hall x hx
      walk_at "dl"
      refine call _ _ _ hx' ?_
      walk_at "dl"
      refine ⟨n, ts, k, x, rfl, gw, hx', ?_⟩
      walk_at "dl"
      refine ⟨_, rfl, ?_⟩
      walk_at "dl"
      try with_reducible refine i_itnT ?_
      exact hF
    · rw [show (([D.non, D.tup [], D.tup [.bl true], D.tup [.bl false], D.tup [.bl false, .tup []], D.tup [.bl true, .tup []]] ++ acc).filterMap fun _ => (none : Option D)) = [] from List.filterMap_eq_nil_iff.mpr fun _ _ => rfl]
      walk_at "dl"
      refine i_neLF0 ?_
      exact i_drp0 (kk M4 (hd4.mono (by omega)) ev4)

abbrev s__law_least_right : Stmt := topS 59
abbrev nn__law_least_right : List Str := ["draws", "web", "least", "loops", "few", "place", "a", "b", "other"]
theorem sc__law_least_right : FnScope nn__law_least_right ["draws", "web"] (defScope s__law_least_right) := ⟨rfl, rfl, rfl, by decide +kernel, rfl, by decide +kernel, by decide +kernel⟩
theorem ok__law_least_right {P : Program} {w : World} {K : PySem.W.Frag} {mg : Str → Option Value} {base : Heap} {T : List (Addr × Str)} {cBadWeb : Addr} (B : Blt mg) (G__law_draw : Has P w K mg base T "_law_draw" 2 2 fs__law_draw) (G__law_shuffled : Has P w K mg base T "_law_shuffled" 3 2 fs__law_shuffled) (G_least_dyes : HasX P w K mg base T "least_dyes" 6 1 (fs_least_dyes cBadWeb)) (G_many_dyeings : HasX P w K mg base T "many_dyeings" 7 2 fs_many_dyeings) (G_put : HasX P w K mg base T "put" 6 3 fs_put) {f : Addr} {fd : FuncData} (F : Fun K "_law_least_right" "_law_least_right" s__law_least_right f fd) (hm : mg "_law_least_right" = some (.ref f)) (hb : L2.Binds K fd ["draws", "web"] []) : Has P w K mg base T "_law_least_right" 8 2 fs__law_least_right := by
  refine okD (k := 7) F sc__law_least_right hm hb len__law_least_right (fun cdv A outer s H E hr => ⟨_, (xss_cons (xs_par (i := 2) (j := 3) rfl sc__law_least_right.nd rfl rfl (by decide) rfl rfl (xa_cons (xe_callN G_least_dyes (hr.mono (by decide)) (by rfl) (xa_cons (xv 1) xa_nil)) (xa_cons (xe_lc rfl sc__law_least_right.nd (xi_any (xe_item (xv 1) xe_int)) (blkOk_by (own := [("a", 6), ("b", 7)]) (N := nn__law_least_right) (sc := defScope s__law_least_right) (by decide +kernel)) (tg_pair (i := 6) (j := 7) (by decide) (by decide)) (fun _ _ _ _ _ => pg_tup rfl (pgs_cons (pg_name (i := 6) sc__law_least_right.nd rfl (by first | exact Or.inl rfl | exact Or.inr rfl)) (pgs_cons (pg_name (i := 7) sc__law_least_right.nd rfl (by first | exact Or.inl rfl | exact Or.inr rfl)) pgs_nil))) (fun _ _ _ _ _ => (xts_one (xt_eq hr.units (xv 6) (xv 7)))) (fun _ _ _ _ _ => xe_int)) xa_nil)) (by rfl))
      (xss_cons (xs_if (xt_w (xw_or (xt_ne hr.units (xv 3) (xe_lst xa_nil)) (xw_or1 (xt_is (xv 2) xe_non))))
      (xss_one (xs_ret (xe_and (xe_is (xv 2) xe_non) (xe_and (xe_ne hr.units (xv 3) (xe_lst xa_nil)) (xe_one (xe_eq hr.units (xe_callN G_many_dyeings (hr.mono (by decide)) (by rfl) (xa_cons (xv 1) (xa_cons (xe_pow xe_int xe_int) xa_nil))) xe_int))))))
      xss_nil)
      (xss_cons (xs_if (xt_w (xw_or (xt_val (xe_callB call_isiA d_isi (by rfl) B.b_isinstance (by decide +kernel) (xa_cons (xv 2) (xa_cons (xe_ty (n := "bool") (by rfl) B.b_bool (by decide +kernel)) xa_nil)))) (xw_or (xt_not (xt_val (xe_callB call_isiA d_isi (by rfl) B.b_isinstance (by decide +kernel) (xa_cons (xv 2) (xa_cons (xe_ty (n := "int") (by rfl) B.b_int (by decide +kernel)) xa_nil))))) (xw_or (xt_eq hr.units (xe_callN G_many_dyeings (hr.mono (by decide)) (by rfl) (xa_cons (xv 1) (xa_cons (xv 2) xa_nil))) xe_int) (xw_or1 (xt_ne hr.units (xe_callN G_many_dyeings (hr.mono (by decide)) (by rfl) (xa_cons (xv 1) (xa_cons (xe_sub (xv 2) xe_int) xa_nil))) xe_int))))))
      (xss_one (xs_ret xe_bl))
      xss_nil)
      (xss_cons (xs_set (i := 4) sc__law_least_right.nd rfl (by first | exact Or.inl rfl | exact Or.inr rfl) (xe_lst xa_nil))
      (xss_cons (xs_for (vs := [5]) PassesOwn.never rfl (xi_any (xe_call G__law_shuffled (hr.mono (by decide)) (by rfl) (xa_cons (xv 0) (xa_cons (xe_listRg1 rfl (by rfl) B.b_list (by rfl) B.b_range (xe_item (xv 1) xe_int)) xa_nil)))) (pg_name (i := 5) sc__law_least_right.nd rfl (by first | exact Or.inl rfl | exact Or.inr rfl)) (tg_name (by decide))
      (xss_one (xs_if (xt_eq hr.units (xe_lc rfl sc__law_least_right.nd (xi_any (xv 4)) (blkOk_by (own := [("other", 8)]) (N := nn__law_least_right) (sc := defScope s__law_least_right) (by decide +kernel)) (tg_name (by decide)) (fun _ _ _ _ _ => pg_name (i := 8) sc__law_least_right.nd rfl (by first | exact Or.inl rfl | exact Or.inr rfl)) (fun _ _ _ _ _ => (xts_one (xt_notInDT (units65 hr) (xe_tup (xa_cons (xe_callB (call_min2 rfl) d_min2 (by rfl) B.b_min (by decide +kernel) (xa_cons (xv 5) (xa_cons (xv 8) xa_nil))) (xa_cons (xe_callB (call_max2 rfl) d_max2 (by rfl) B.b_max (by decide +kernel) (xa_cons (xv 5) (xa_cons (xv 8) xa_nil))) xa_nil))) (xe_item (xv 1) xe_int)))) (fun _ _ _ _ _ => xe_int)) (xe_lst xa_nil))
      (xss_one (xs_set (i := 4) sc__law_least_right.nd rfl (by first | exact Or.inl rfl | exact Or.inr rfl) (xe_add (xv 4) (xe_lst (xa_cons (xv 5) xa_nil)))))
      xss_nil)))
      (xss_cons (xs_if (xt_w (xw_or (xt_gt (xe_callB call_len d_len (by rfl) B.b_len (by decide +kernel) (xa_cons (xv 4) xa_nil)) (xv 2)) (xw_or (xt_eq hr.units (xe_callB call_len d_len (by rfl) B.b_len (by decide +kernel) (xa_cons (xe_item (xv 1) xe_int) xa_nil)) xe_int) (xw_or1 (xt_eq hr.units (xe_item (xv 1) xe_int) xe_int)))))
      (xss_one (xs_ret (xe_le (xe_callB call_len d_len (by rfl) B.b_len (by decide +kernel) (xa_cons (xv 4) xa_nil)) (xv 2))))
      xss_nil)
      (xss_cons (xs_set (i := 6) sc__law_least_right.nd rfl (by first | exact Or.inl rfl | exact Or.inr rfl) (xe_call G__law_draw (hr.mono (by decide)) (by rfl) (xa_cons (xv 0) (xa_cons (xe_sub (xe_item (xv 1) xe_int) xe_int) xa_nil))))
      (xss_one (xs_ret (xe_in (xe_sub (xe_callN G_least_dyes (hr.mono (by decide)) (by rfl) (xa_cons (xe_callN G_put (hr.mono (by decide)) (by rfl) (xa_cons (xv 1) (xa_cons (xv 6) (xa_cons (xe_add (xv 6) xe_int) xa_nil)))) xa_nil)) (xv 2)) (xe_lst (xa_cons xe_int (xa_cons xe_int xa_nil))))))))))))), fun ds M Φ h => ?_⟩)
  obtain ⟨d, l, m, n, ts, rfl, gw, hd, hm, kk⟩ := h
  have hn := gw.hi
  have hn1 := gw.lo
  have hlen := gw.len
  have en : ((n.toNat : Nat) : Int) = n := Int.toNat_of_nonneg (by omega)
  walk_at "dl"
  refine ⟨_, rfl, good_pu gw, fun n' ts' e1 _ => ?_, fun e => (by rw [good_is gw] at e; cases e)⟩
  obtain ⟨rfl, rfl⟩ := webD_inj e1
  rw [show webD n ts = .tup [.str "web", .int n, .tup (ts.map pairD)] from rfl]
  walk_at "dl"
  refine lc_by (fun x => if loopF x = true then some (.int 1) else none) ?_ (fun x hx M' _ F hF => ?_) ?_
  · rw [List.length_map]; exact szl (by omega)
  · obtain ⟨t, ht, rfl⟩ := List.mem_map.mp hx
    have hb : loopF (pairD t) = decide (t.1 = t.2) := rfl
    rw [hb] at hF
    unfold pairD
    walk_at "dl"
    refine i_itD (fun e => ?_) fun e => ?_
    · rw [if_pos (decide_eq_true e)] at hF
      walk_at "dl"
      exact hF
    · rw [if_neg (by rw [decide_eq_false e]; exact Bool.false_ne_true)] at hF
      exact hF
  · walk_at "dl"
    refine i_ones ?_
    walk_at "dl"
    rw [loop_any]
    refine i_itD (fun hloop => ?_) fun hloop => ?_
    · have hs : sizesD ts n.toNat = [] := by
        obtain ⟨t, ht, e⟩ := hloop
        obtain ⟨h0, h1, h2⟩ := gw.ok t ht
        exact sizes_loop ⟨t, ht, e, h0, by omega⟩
      rw [show leastD ts n.toNat = .non from by unfold leastD; rw [hs]]
      walk_at "dl"
      try with_reducible refine i_itT ?_
      walk_at "dl"
      refine i_ones ?_
      rw [loop_any, decide_eq_true hloop]
      walk_at "dl"
      try with_reducible refine i_itT ?_
      walk_at "dl"
      refine i_pow ⟨by decide, by decide, by decide⟩ ?_
      walk_at "dl"
      refine ⟨n, ts, 1000000, rfl, gw, by omega, ?_⟩
      rw [many_none hs]
      walk_at "dl"
      exact i_drp0 (kk M (hd.mono (by omega)) Ev.refl)
    · have hno : ∀ t ∈ ts, t.1 ≠ t.2 := fun t ht e => hloop ⟨t, ht, e⟩
      obtain ⟨s, r, hs⟩ := sizes_some (n := n.toNat) hno
      obtain ⟨s1, s2, s3, s4⟩ := many_least hs (by omega)
      rw [show leastD ts n.toNat = .int (s : Int) from by unfold leastD; rw [hs]]
      walk_at "dl"
      try with_reducible refine i_itF ?_
      walk_at "dl"
      try with_reducible refine i_itF ?_
      walk_at "dl"
      try with_reducible refine i_itnT ?_
      walk_at "dl"
      refine ⟨n, ts, s, rfl, gw, by omega, ?_⟩
      walk_at "dl"
      refine i_itDF (by omega) ?_
      walk_at "dl"
      refine ⟨n, ts, s - 1, by rw [show ((s : Int) - 1) = ((s - 1 : Nat) : Int) by omega]; rfl, gw, by omega, ?_⟩
      rw [s4]
      walk_at "dl"
      refine i_itND rfl ?_
      walk_at "dl"
      refine ⟨⟨by omega, by omega, by omega, by omega⟩, ?_⟩
      rw [rgD_I]
      have hln : (rgI 0 n).length = n.toNat := by rw [rgI_len, Int.sub_zero]
      refine ⟨d, l, m, _, rfl, hd, by rw [List.length_map]; omega, by rw [List.length_map]; omega, shD_ints _, fun ys M1 y1 y2 y3 hd1 ev1 => ?_⟩
      rw [List.length_map, hln] at y1 hd1
      have hys : ∀ y ∈ ys, ∃ p : Nat, y = .int (p : Int) ∧ p < n.toNat := fun y hy => by
        obtain ⟨x, hx, rfl⟩ := List.mem_map.mp (y2 y hy)
        have := rgI_mem hx
        exact ⟨x.toNat, by rw [Int.toNat_of_nonneg this.1], by omega⟩
      walk_at "dl"
      refine for_by (fun i Γ M' => ∃ (fs : List Nat) (y5 y6 y7 y8 : Option D), Γ = [some (.ptr d), some (.tup [.str "web", .int n, .tup (ts.map pairD)]), some (.int (s : Int)), some (.lst ((ts.map pairD).filterMap fun x => if loopF x = true then some (D.int 1) else none)), some (.lst ((natI fs).map .int)), y5, y6, y7, y8] ∧ M' = M1 ∧ fs.length ≤ i ∧ (fs.Pairwise fun a b => tied ts a b = true) ∧ ∀ a ∈ fs, a < n.toNat) ⟨[], _, _, _, _, rfl, rfl, Nat.le_refl _, List.Pairwise.nil, fun a h => by cases h⟩ ?_ ?_
      · rintro i x Γ M' FF hx ⟨fs, y5, y6, y7, y8, rfl, rfl, hf1, hf2, hf3⟩ hF
        obtain ⟨p, rfl, hp⟩ := hys x (List.mem_of_getElem? hx)
        have hi := (List.getElem?_eq_some_iff.mp hx).1
        walk_at "dl"
        refine lc_by (fun x => if freeF ts (p : Int) x = true then some (.int 1) else none) ?_ (fun x hx M' _ F hF => ?_) ?_
        · rw [List.length_map, natI_len]; exact szl (by omega)
        · obtain ⟨y, hy, rfl⟩ := List.mem_map.mp hx
          have hb : freeF ts (p : Int) (.int y) = !tiedI ts (p : Int) y := rfl
          rw [hb] at hF
          walk_at "dl"
          refine i_notTied ?_
          refine i_itB (fun e => ?_) fun e => ?_
          · rw [if_pos e] at hF
            walk_at "dl"
            exact hF
          · rw [if_neg (by rw [e]; exact Bool.false_ne_true)] at hF
            exact hF
        · walk_at "dl"
          refine eq_ones ?_
          refine i_itnB (fun e => ?_) fun e => ?_
          · exact hF _ _ ⟨fs, _, _, _, _, rfl, rfl, by omega, hf2, hf3⟩
          · walk_at "dl"
            refine i_addl (szl (by rw [List.length_map, natI_len, List.length_singleton]; omega)) ?_
            walk_at "dl"
            rw [show (natI fs).map D.int ++ [D.int (p : Int)] = (natI (fs ++ [p])).map .int from by unfold natI; rw [List.map_append, List.map_append]; rfl]
            refine hF _ _ ⟨fs ++ [p], _, _, _, _, rfl, rfl, by rw [List.length_append, List.length_singleton]; omega, ?_, fun a ha => ?_⟩
            · refine List.pairwise_append.mpr ⟨hf2, List.pairwise_singleton _ _, fun a ha b hb => ?_⟩
              rcases List.mem_singleton.mp hb with rfl
              rw [List.any_eq_false] at e
              have := e (.int (a : Int)) (List.mem_map_of_mem (List.mem_map_of_mem ha))
              have h2 : tiedI ts (b : Int) (a : Int) = true := by
                cases q : tiedI ts (b : Int) (a : Int) with
                | true => rfl
                | false => exact absurd (show freeF ts (b : Int) (.int (a : Int)) = true by show (!tiedI ts (b : Int) (a : Int)) = true; rw [q]; rfl) this
              unfold tied
              rw [tiedI_comm]
              exact h2
            · rcases List.mem_append.mp ha with q | q
              · exact hf3 a q
              · rcases List.mem_singleton.mp q with rfl; exact hp
      · rintro Γ M' ⟨fs, y5, y6, y7, y8, rfl, rfl, hf1, hf2, hf3⟩
        have hcl := clique_le hs hf2 hf3
        walk_at "dl"
        rw [List.length_map, natI_len]
        refine i_itDF (by omega) ?_
        have fin : ∀ Φ' : Cont, (∀ M', Dr M' d l (m + 100) → Ev M M' d l → Φ' (.bl true) M') → Φ' (.bl (decide ((fs.length : Int) ≤ (s : Int)))) M' := fun Φ' h => by
          rw [decide_eq_true (by omega)]
          exact h M' (hd1.mono (by omega)) ev1
        walk_at "dl"
        refine i_itD (fun e12 => ?_) fun e12 => ?_
        · walk_at "dl"
          rw [List.length_map, natI_len, decide_eq_true (show (fs.length : Int) ≤ (s : Int) by omega)]
          exact i_drp0 (kk M' (hd1.mono (by omega)) ev1)
        · rw [List.length_map] at e12
          walk_at "dl"
          refine i_itD (fun en1 => ?_) fun en1 => ?_
          · walk_at "dl"
            rw [List.length_map, natI_len, decide_eq_true (show (fs.length : Int) ≤ (s : Int) by omega)]
            exact i_drp0 (kk M' (hd1.mono (by omega)) ev1)
          · walk_at "dl"
            refine ⟨d, l, _, _, rfl, hd1, by omega, by omega, log_small (by omega) (by omega), fun a M2 a1 a2 hd2 ev2 => ?_⟩
            obtain ⟨a, rfl⟩ := Int.eq_ofNat_of_zero_le a1
            obtain ⟨g', eN⟩ := good_more gw (by omega) (a := a) (by omega)
            obtain ⟨s', c', hs', hss⟩ := least_step hs (a := a) (by omega)
            walk_at "dl"
            refine ⟨n, _, _, ts, rfl, gw, by omega, by omega, by omega, by omega, by omega, ?_⟩
            rw [eN]
            refine ⟨_, rfl, good_pu g', fun n' ts' e1 _ => ?_, fun e => (by rw [good_is g'] at e; cases e)⟩
            obtain ⟨rfl, rfl⟩ := webD_inj e1
            rw [show leastD (ts ++ [((a : Int), (a : Int) + 1)]) n.toNat = .int (s' : Int) from by unfold leastD; rw [hs']]
            walk_at "dl"
            refine i_inq rfl rfl rfl (fun x z e => by cases e) ?_
            rw [show ([D.int 0, D.int 1].any fun y => eqF y (.int ((s' : Int) - (s : Int)))) = true from by
              have := eqF_ints (x := (s' : Int) - (s : Int)) [0, 1]
              rw [show [D.int 0, D.int 1] = [(0 : Int), 1].map D.int from rfl, this, decide_eq_true_eq]
              rcases hss with rfl | rfl
              · simp
              · simp; omega]
            exact i_drp0 (kk M2 (hd2.mono (by omega)) (ev1.trans ev2))

abbrev s_law : Stmt := topS 60
abbrev nn_law : List Str := ["script", "draws", "turn", "full", "a", "web", "odd", "far", "b", "own"]
theorem sc_law : FnScope nn_law ["script"] (defScope s_law) := ⟨rfl, rfl, rfl, by decide +kernel, rfl, by decide +kernel, by decide +kernel⟩
theorem ok_law {P : Program} {w : World} {K : PySem.W.Frag} {mg : Str → Option Value} {base : Heap} {T : List (Addr × Str)} {cBadNumber : Addr} {cBadWeb : Addr} {cTooMany : Addr} {g__law_bad_word : Addr} {gC fc PP : Addr} {cW : Value} {okC : Addr → Prop} (B : Blt mg) (G__law_begun : Has P w K mg base T "_law_begun" 1 1 fs__law_begun) (G__law_draw : Has P w K mg base T "_law_draw" 2 2 fs__law_draw) (G__law_far_number : Has P w K mg base T "_law_far_number" 4 3 fs__law_far_number) (G__law_goes : Has P w K mg base T "_law_goes" 15 3 fs__law_goes) (G__law_least_right : Has P w K mg base T "_law_least_right" 8 2 fs__law_least_right) (G__law_made : Has P w K mg base T "_law_made" 1 2 fs__law_made) (G__law_odd : Has P w K mg base T "_law_odd" 4 1 fs__law_odd) (G__law_pick : Has P w K mg base T "_law_pick" 3 2 fs__law_pick) (G__law_same : Has P w K mg base T "_law_same" 2 2 fs__law_same) (G__law_web : Has P w K mg base T "_law_web" 5 3 fs__law_web) (G_dye_paper : HasX P w K mg base T "dye_paper" 14 2 (fs_dye_paper cBadWeb cBadNumber)) (G_is_dye_paper : HasX P w K mg base T "is_dye_paper" 14 3 (fs_is_dye_paper cBadWeb cBadNumber)) (G_least_dyes : HasX P w K mg base T "least_dyes" 6 1 (fs_least_dyes cBadWeb)) (R_BadNumber : mg "BadNumber" = some (.ref cBadNumber)) (R_BadWeb : mg "BadWeb" = some (.ref cBadWeb)) (R_TooMany : mg "TooMany" = some (.ref cTooMany)) (GK_dye_paper : HasXK P w K mg base T "dye_paper" 14 2 (fs_dye_paper cBadWeb cBadNumber) ["web", "k"]) (GK_least_dyes : HasXK P w K mg base T "least_dyes" 6 1 (fs_least_dyes cBadWeb) ["web"]) (DK__law_bad_word : DefK K mg "_law_bad_word" s__law_bad_word g__law_bad_word ["action", "word"]) (CA : CaughtK K mg s__law_caught gC cW okC) (LK : LamK base mg T fc PP (envOfC "law" (defScope s_law) 0 0 .none).qual) (ho : okC cBadWeb) (ho2 : okC cBadNumber) (XW : ExcC K cBadWeb) (kW : PySem.W.kitOne K (.ref cBadWeb) (.ref cBadWeb) = some true) (XD : ExcD K cBadNumber) (kN : PySem.W.kitOne K (.ref cBadNumber) (.ref cBadNumber) = some true) (kT : PySem.W.kitOne K (.ref cBadNumber) (.ref cTooMany) = some false) (hw : PySem.W.findIn K (.ref cBadNumber) "word" = some none) {f : Addr} {kV doc pm ct oc : Value} {an od : Option Addr} {osl : Array (Option Value)} (lk : K.lookup f = some ⟨oc, od, .func (PySem.W.fnOf "law" "law" (defArgs s_law) (defBody s_law) (defScope s_law) .none kV doc pm an (.ref fc) ct), osl⟩) (hcd : PySem.W.codeIn K (.ref fc) "law" = true) :
    FnOk P w K mg base CX0 18 f (PySem.W.fnOf "law" "law" (defArgs s_law) (defBody s_law) (defScope s_law) .none kV doc pm an (.ref fc) ct) ["script"] (LawSp K T 63) := by
  refine okLawL (k := 17) lk hcd sc_law hfs_law (fun A outer s H E hr => ⟨_, (xss_cons (xs_set (i := 1) sc_law.nd rfl (by first | exact Or.inl rfl | exact Or.inr rfl) (xe_call G__law_begun (hr.mono (by decide)) (by rfl) (xa_cons (xv 0) xa_nil)))
      (xss_cons (xs_for (vs := [2]) PassesOwn.never rfl (xi_rng1 (by rfl) B.b_range (xa_cons (xe_add xe_int (xe_callB (call_min2 rfl) d_min2 (by rfl) B.b_min (by decide +kernel) (xa_cons (xe_callB call_len d_len (by rfl) B.b_len (by decide +kernel) (xa_cons (xv 0) xa_nil)) (xa_cons xe_int xa_nil)))) xa_nil)) (pg_name (i := 2) sc_law.nd rfl (by first | exact Or.inl rfl | exact Or.inr rfl)) (tg_name (by decide))
      (xss_cons (xs_set (i := 3) sc_law.nd rfl (by first | exact Or.inl rfl | exact Or.inr rfl) (xe_lst xa_nil))
      (xss_cons (xs_for (vs := [4]) PassesOwn.never rfl (xi_rng1 (by rfl) B.b_range (xa_cons (xe_add xe_int (xe_call G__law_draw (hr.mono (by decide)) (by rfl) (xa_cons (xv 1) (xa_cons xe_int xa_nil)))) xa_nil)) (pg_name (i := 4) sc_law.nd rfl (by first | exact Or.inl rfl | exact Or.inr rfl)) (tg_name (by decide))
      (xss_one (xs_set (i := 3) sc_law.nd rfl (by first | exact Or.inl rfl | exact Or.inr rfl) (xe_add (xv 3) (xe_lc rfl sc_law.nd (xi_rng1 (by rfl) B.b_range (xa_cons (xv 4) xa_nil)) (blkOk_by (own := [("b", 8)]) (N := nn_law) (sc := defScope s_law) (by decide +kernel)) (tg_name (by decide)) (fun _ _ _ _ _ => pg_name (i := 8) sc_law.nd rfl (by first | exact Or.inl rfl | exact Or.inr rfl)) (fun _ _ _ _ _ => xts_nil) (fun _ _ _ _ _ => (xe_tup (xa_cons (xv 4) (xa_cons (xv 8) xa_nil)))))))))
      (xss_cons (xs_for (vs := [5]) PassesOwn.never rfl (xi_any (xe_lst (xa_cons (xe_call G__law_web (hr.mono (by decide)) (by rfl) (xa_cons (xv 1) (xa_cons xe_int (xa_cons xe_int xa_nil)))) (xa_cons (xe_call G__law_web (hr.mono (by decide)) (by rfl) (xa_cons (xv 1) (xa_cons xe_int (xa_cons xe_int xa_nil)))) (xa_cons (xe_call G__law_made (hr.mono (by decide)) (by rfl) (xa_cons xe_int (xa_cons (xv 3) xa_nil))) (xa_cons (xe_call G__law_made (hr.mono (by decide)) (by rfl) (xa_cons xe_int (xa_cons (xe_add (xe_lc rfl sc_law.nd (xi_rng1 (by rfl) B.b_range (xa_cons xe_int xa_nil)) (blkOk_by (own := [("own", 9)]) (N := nn_law) (sc := defScope s_law) (by decide +kernel)) (tg_name (by decide)) (fun _ _ _ _ _ => pg_name (i := 9) sc_law.nd rfl (by first | exact Or.inl rfl | exact Or.inr rfl)) (fun _ _ _ _ _ => xts_nil) (fun _ _ _ _ _ => (xe_tup (xa_cons (xe_add (xv 9) xe_int) (xa_cons (xv 9) xa_nil))))) (xe_lst (xa_cons (xe_tup (xa_cons xe_int (xa_cons xe_int xa_nil))) xa_nil))) xa_nil))) xa_nil)))))) (pg_name (i := 5) sc_law.nd rfl (by first | exact Or.inl rfl | exact Or.inr rfl)) (tg_name (by decide))
      (xss_one (xs_if (xt_w (xw_or (xt_not (xt_val (xe_call G__law_least_right (hr.mono (by decide)) (by rfl) (xa_cons (xv 1) (xa_cons (xv 5) xa_nil))))) (xw_or1 (xt_not (xt_val (xe_call G__law_goes (hr.mono (by decide)) (by rfl) (xa_cons (xv 1) (xa_cons (xv 5) (xa_cons (xe_call G__law_draw (hr.mono (by decide)) (by rfl) (xa_cons (xv 1) (xa_cons (xe_call G__law_pick (hr.mono (by decide)) (by rfl) (xa_cons (xv 1) (xa_cons (xe_lst (xa_cons xe_int (xa_cons xe_int (xa_cons xe_int xa_nil)))) xa_nil))) xa_nil))) xa_nil)))))))))
      (xss_one (xs_ret xe_bl))
      xss_nil)))
      (xss_cons (xs_asgP (i := 6) (j := 7) rfl sc_law.nd rfl rfl (xe_tup (xa_cons (xe_call G__law_odd (hr.mono (by decide)) (by rfl) (xa_cons (xv 1) xa_nil)) (xa_cons (xe_call G__law_far_number (hr.mono (by decide)) (by rfl) (xa_cons (xv 1) (xa_cons xe_int (xa_cons (xe_pow xe_int xe_int) xa_nil)))) xa_nil))))
      (xss_cons (xs_if (xt_not (xt_val (xe_callB call_isX d_isX (by rfl) B.b_isinstance (by decide +kernel) (xa_cons (xe_lam (k := 14) CA cs__law_caught LK (by rfl) sc__law_caught (.inl rfl) rfl rfl rfl rfl (hr.mono (by decide)) (LamX.lamS_by (sc := defScope s_law) (by decide +kernel)) rfl (fun _ _ _ _ _ => rfl) (fun A' outer' s' H' E' f' c' hr' tk' => (xl_callX G_dye_paper tk' (hr'.mono (by decide)) (by rfl) (xa_cons (xv 6) (xa_cons (xv 7) xa_nil))))) (xa_cons (xe_ref (by rfl) R_BadWeb) xa_nil)))))
      (xss_one (xs_ret xe_bl))
      xss_nil)
      (xss_cons (xs_if (xt_not (xt_val (xe_callB call_isX d_isX (by rfl) B.b_isinstance (by decide +kernel) (xa_cons (xe_lam (k := 14) CA cs__law_caught LK (by rfl) sc__law_caught (.inl rfl) rfl rfl rfl rfl (hr.mono (by decide)) (LamX.lamS_by (sc := defScope s_law) (by decide +kernel)) rfl (fun _ _ _ _ _ => rfl) (fun A' outer' s' H' E' f' c' hr' tk' => (xl_callX G_is_dye_paper tk' (hr'.mono (by decide)) (by rfl) (xa_cons (xv 6) (xa_cons (xv 7) (xa_cons xe_non xa_nil)))))) (xa_cons (xe_ref (by rfl) R_BadWeb) xa_nil)))))
      (xss_one (xs_ret xe_bl))
      xss_nil)
      (xss_cons (xs_if (xt_not (xt_val (xe_callB call_isX d_isX (by rfl) B.b_isinstance (by decide +kernel) (xa_cons (xe_lam (k := 6) CA cs__law_caught LK (by rfl) sc__law_caught (.inl rfl) rfl rfl rfl rfl (hr.mono (by decide)) (LamX.lamS_by (sc := defScope s_law) (by decide +kernel)) rfl (fun _ _ _ _ _ => rfl) (fun A' outer' s' H' E' f' c' hr' tk' => (xl_callX G_least_dyes tk' (hr'.mono (by decide)) (by rfl) (xa_cons (xv 6) xa_nil)))) (xa_cons (xe_ref (by rfl) R_BadWeb) xa_nil)))))
      (xss_one (xs_ret xe_bl))
      xss_nil)
      (xss_cons (xs_if (xt_not (xt_val (xe_lam2 (k := 14) DK__law_bad_word ⟨_, _, _, _, _, _, rfl⟩ sc__law_bad_word (.inl rfl) rfl rfl (fun cdv2 A2 outer2 s2 H2 hr2 => by show XE (cxOf C8.CX0 P w K mg base ["action", "word", "error"] "_law_bad_word" (defScope s__law_bad_word) g__law_bad_word cdv2 A2 outer2 s2 H2 C8.E0).nox T _ _; exact (xe_and (xe_callB call_isX (d_isXK (K := K) rfl) (by rfl) B.b_isinstance (by decide +kernel) (xa_cons (xv 2) (xa_cons (xe_ref (by rfl) R_BadNumber) xa_nil))) (xe_and (xe_eq hr2.units (xe_attrK (K := K) rfl (xv 2)) (xv 1)) (xe_one (xe_not (xe_callB call_isX (d_isXK (K := K) rfl) (by rfl) B.b_isinstance (by decide +kernel) (xa_cons (xv 2) (xa_cons (xe_ref (by rfl) R_TooMany) xa_nil)))))))) CA cs__law_caught sc__law_caught (.inl rfl) rfl rfl rfl LK (by rfl) rfl (hr.mono (by decide)) (LamX.lamS_by (sc := defScope s_law) (by decide +kernel)) rfl (fun _ _ _ _ _ => rfl) (fun A' outer' s' H' E' f' c' hr' tk' => (xl_callX G_dye_paper tk' (hr'.mono (by decide)) (by rfl) (xa_cons (xe_tup (xa_cons xe_str (xa_cons xe_int (xa_cons (xe_tup xa_nil) xa_nil)))) (xa_cons (xv 7) xa_nil)))))))
      (xss_one (xs_ret xe_bl))
      xss_nil)
      (xss_one (xs_if (xt_not (xt_val (xe_lam2 (k := 14) DK__law_bad_word ⟨_, _, _, _, _, _, rfl⟩ sc__law_bad_word (.inl rfl) rfl rfl (fun cdv2 A2 outer2 s2 H2 hr2 => by show XE (cxOf C8.CX0 P w K mg base ["action", "word", "error"] "_law_bad_word" (defScope s__law_bad_word) g__law_bad_word cdv2 A2 outer2 s2 H2 C8.E0).nox T _ _; exact (xe_and (xe_callB call_isX (d_isXK (K := K) rfl) (by rfl) B.b_isinstance (by decide +kernel) (xa_cons (xv 2) (xa_cons (xe_ref (by rfl) R_BadNumber) xa_nil))) (xe_and (xe_eq hr2.units (xe_attrK (K := K) rfl (xv 2)) (xv 1)) (xe_one (xe_not (xe_callB call_isX (d_isXK (K := K) rfl) (by rfl) B.b_isinstance (by decide +kernel) (xa_cons (xv 2) (xa_cons (xe_ref (by rfl) R_TooMany) xa_nil)))))))) CA cs__law_caught sc__law_caught (.inl rfl) rfl rfl rfl LK (by rfl) rfl (hr.mono (by decide)) (LamX.lamS_by (sc := defScope s_law) (by decide +kernel)) rfl (fun _ _ _ _ _ => rfl) (fun A' outer' s' H' E' f' c' hr' tk' => (xl_callX G_is_dye_paper tk' (hr'.mono (by decide)) (by rfl) (xa_cons (xe_tup (xa_cons xe_str (xa_cons xe_int (xa_cons (xe_tup xa_nil) xa_nil)))) (xa_cons (xv 7) (xa_cons xe_non xa_nil))))))))
      (xss_one (xs_ret xe_bl))
      xss_nil)))))))))))
      (xss_one (xs_ret (xe_and (xe_call G__law_same (hr.mono (by decide)) (by rfl) (xa_cons (xe_callNK GK_dye_paper (hr.mono (by decide)) (by rfl) (xk_cons (xe_tup (xa_cons xe_str (xa_cons xe_int (xa_cons (xe_tup (xa_cons (xe_tup (xa_cons xe_int (xa_cons xe_int xa_nil))) (xa_cons (xe_tup (xa_cons xe_int (xa_cons xe_int xa_nil))) (xa_cons (xe_tup (xa_cons xe_int (xa_cons xe_int xa_nil))) xa_nil)))) xa_nil)))) (xk_cons xe_int xk_nil))) (xa_cons (xe_tup (xa_cons xe_bl (xa_cons (xe_tup (xa_cons (xe_tup (xa_cons (xe_tup xa_nil) xa_nil)) xa_nil)) xa_nil))) xa_nil))) (xe_one (xe_call G__law_same (hr.mono (by decide)) (by rfl) (xa_cons (xe_callNK GK_least_dyes (hr.mono (by decide)) (by rfl) (xk_cons (xe_tup (xa_cons xe_str (xa_cons xe_int (xa_cons (xe_tup xa_nil) xa_nil)))) xk_nil)) (xa_cons xe_int xa_nil))))))))), fun ds M Φ h => ?_⟩)
  obtain ⟨ns, rfl, hl, k⟩ := h
  walk_at "dl"
  refine ⟨ns, rfl, by omega, fun d l M1 nd nl hd ev => ?_⟩
  walk_at "dl"
  rw [List.length_map]
  refine ⟨by omega, by omega, ?_⟩
  refine for_by (fun i Γ M' => ∃ (y2 y3 y4 y5 y6 y7 y8 y9 : Option D), Γ = [some (.scr (ns.map .int)), some (.ptr d), y2, y3, y4, y5, y6, y7, y8, y9] ∧ Dr M' d l (20000 * i) ∧ Ev M M' d l) ⟨_, _, _, _, _, _, _, _, rfl, hd, ev⟩ ?_ ?_
  · rintro i x Γ M' FF hx ⟨y2, y3, y4, y5, y6, y7, y8, y9, rfl, hd1, ev1⟩ hF
    have hi := (rgD_get hx).1
    walk_at "dl"
    refine ⟨d, l, _, 4, rfl, hd1, by omega, by omega, by decide, fun c M2 c1 c2 hd2 ev2 => ?_⟩
    walk_at "dl"
    refine ⟨by omega, by omega, ?_⟩
    refine for_by (fun j Γ M' => ∃ (ts : List (Int × Int)) (y4 y5 y6 y7 y8 y9 : Option D), Γ = [some (.scr (ns.map .int)), some (.ptr d), some x, some (.lst (ts.map pairD)), y4, y5, y6, y7, y8, y9] ∧ M' = M2 ∧ ts.length = tri j ∧ ∀ t ∈ ts, InR 8 t) ⟨[], _, _, _, _, _, _, rfl, rfl, rfl, fun t h => by cases h⟩ ?_ ?_
    · rintro j x' Γ M' FF' hx' ⟨ts, y4, y5, y6, y7, y8, y9, rfl, rfl, ht1, ht2⟩ hF'
      obtain ⟨hj, rfl⟩ := rgD_get hx'
      have hj5 : j ≤ 5 := by omega
      have htl := tri_le hj5
      walk_at "dl"
      refine ⟨by omega, by omega, ?_⟩
      refine lc_by (fun x => some (match x with
        | .int b => pairD ((j : Int), b)
        | _ => .non)) ?_ (fun x hx M' _ F hF => ?_) ?_
      · rw [rgD_len]; exact szl (by omega)
      · obtain ⟨b, hb1, hb2, rfl⟩ := rgD_mem hx
        rw [Int.zero_add]
        walk_at "dl"
        exact hF
      · have er : (rgD 0 (0 + (j : Int))).filterMap (fun x => some (match x with
            | .int b => pairD ((j : Int), b)
            | _ => D.non)) = ((rgI 0 (j : Int)).map fun b => ((j : Int), b)).map pairD := by
          rw [Int.zero_add, rgD_I, List.filterMap_eq_map', List.map_map, List.map_map]; rfl
        rw [er]
        walk_at "dl"
        refine i_addl (szl (by rw [List.length_map, List.length_map, List.length_map, rgI_len]; omega)) ?_
        rw [← List.map_append]
        refine hF' _ _ ⟨_, _, _, _, _, _, _, rfl, rfl, by rw [List.length_append, List.length_map, rgI_len, ht1, tri]; omega, fun t h => ?_⟩
        rcases List.mem_append.mp h with h | h
        · exact ht2 t h
        · obtain ⟨b, hb, rfl⟩ := List.mem_map.mp h
          have := rgI_mem hb
          exact ⟨by dsimp only; omega, by dsimp only; omega, by dsimp only; omega, by dsimp only; omega⟩
    · rintro Γ M' ⟨ts, y4, y5, y6, y7, y8, y9, rfl, rfl, ht1, ht2⟩
      have htl := tri_le (j := (rgD 0 (2 + c)).length) (by rw [rgD_len]; omega)
      walk_at "dl"
      refine ⟨d, l, _, 6, 9, rfl, by omega, by omega, by omega, hd2, by omega, fun n1 t1 M3 g1 hd3 ev3 => ?_⟩
      walk_at "dl"
      refine ⟨d, l, _, 8, 12, rfl, by omega, by omega, by omega, hd3, by omega, fun n2 t2 M4 g2 hd4 ev4 => ?_⟩
      walk_at "dl"
      refine ⟨8, ts, rfl, by omega, ?_⟩
      have g3 := good_made (n := 8) (by omega) (by omega) (by omega) ht2
      walk_at "dl"
      refine ⟨by omega, by omega, ?_⟩
      refine lc_by (fun x => some (match x with
        | .int b => pairD (b + 1, b)
        | _ => .non)) ?_ (fun x hx M' _ F hF => ?_) ?_
      · rw [rgD_len]; exact szl (by omega)
      · obtain ⟨b, hb1, hb2, rfl⟩ := rgD_mem hx
        walk_at "dl"
        exact hF
      · have er : (rgD 0 5).filterMap (fun x => some (match x with
            | .int b => pairD (b + 1, b)
            | _ => D.non)) = ([(1, 0), (2, 1), (3, 2), (4, 3), (5, 4)] : List (Int × Int)).map pairD := by rfl
        rw [er]
        walk_at "dl"
        refine i_addl (szl (by simp)) ?_
        walk_at "dl"
        refine ⟨6, [(1, 0), (2, 1), (3, 2), (4, 3), (5, 4), (0, 4)], rfl, by simp, ?_⟩
        have g4 := good_made (n := 6) (ts := [(1, 0), (2, 1), (3, 2), (4, 3), (5, 4), (0, 4)]) (by omega) (by omega) (by simp) (fun t h => by
          simp only [List.mem_cons, List.not_mem_nil, or_false] at h
          rcases h with rfl | rfl | rfl | rfl | rfl | rfl <;> exact ⟨by decide, by decide, by decide, by decide⟩)
        walk_at "dl"
        have hg : ∀ y ∈ [webD n1 t1, webD n2 t2, webD 8 (ts.map nrm), webD 6 ([(1, 0), (2, 1), (3, 2), (4, 3), (5, 4), (0, 4)].map nrm)], ∃ n t, y = webD n t ∧ GoodW n t := fun y hy => by
          simp only [List.mem_cons, List.not_mem_nil, or_false] at hy
          rcases hy with rfl | rfl | rfl | rfl
          · exact ⟨_, _, rfl, g1⟩
          · exact ⟨_, _, rfl, g2⟩
          · exact ⟨_, _, rfl, g3⟩
          · exact ⟨_, _, rfl, g4⟩
        refine for_by (fun j Γ M' => ∃ (y5 y6 y7 y8 y9 : Option D), Γ = [some (.scr (ns.map .int)), some (.ptr d), some x, some (.lst (ts.map pairD)), y4, y5, y6, y7, y8, y9] ∧ Dr M' d l (20000 * i + 1000 + 1000 * j) ∧ Ev M M' d l) ⟨_, _, _, _, _, rfl, hd4.mono (by omega), ((ev1.trans ev2).trans ev3).trans ev4⟩ ?_ ?_
        · rintro j x' Γ M5 FF' hx' ⟨y5, y6, y7, y8, y9, rfl, hd5, ev5⟩ hF'
          have hj := (List.getElem?_eq_some_iff.mp hx').1
          have hj : j < 4 := hj
          obtain ⟨nn, tt, rfl, gg⟩ := hg x' (List.mem_of_getElem? hx')
          walk_at "dl"
          refine ⟨d, l, _, nn, tt, rfl, gg, hd5, by omega, fun M6 hd6 ev6 => ?_⟩
          walk_at "dl"
          try with_reducible refine i_itnT ?_
          walk_at "dl"
          refine ⟨d, l, _, _, rfl, hd6, by omega, by simp, by simp, fun z hz M7 hd7 ev7 => ?_⟩
          obtain ⟨zz, rfl, hz0, hz9⟩ : ∃ zz : Int, z = .int zz ∧ 0 < zz ∧ zz ≤ 9 := by
            simp only [List.mem_cons, List.not_mem_nil, or_false] at hz
            rcases hz with rfl | rfl | rfl
            · exact ⟨_, rfl, by omega, by omega⟩
            · exact ⟨_, rfl, by omega, by omega⟩
            · exact ⟨_, rfl, by omega, by omega⟩
          walk_at "dl"
          refine ⟨d, l, _, zz, rfl, hd7, by omega, by omega, log_small (by omega) (by omega), fun kk M8 k1 k2 hd8 ev8 => ?_⟩
          obtain ⟨kk, rfl⟩ := Int.eq_ofNat_of_zero_le k1
          walk_at "dl"
          refine ⟨d, l, _, nn, tt, kk, rfl, gg, by omega, hd8, by omega, fun M9 hd9 ev9 => ?_⟩
          walk_at "dl"
          try with_reducible refine i_itnT ?_
          walk_at "dl"
          exact hF' _ _ ⟨_, _, _, _, _, rfl, hd9.mono (by omega), (((ev5.trans ev6).trans ev7).trans ev8).trans ev9⟩
        · rintro Γ M5 ⟨y5, y6, y7, y8, y9, rfl, hd5, ev5⟩
          replace hd5 : Dr M5 d l (20000 * i + 1000 + 1000 * 4) := hd5
          walk_at "dl"
          refine ⟨d, l, _, rfl, hd5, by omega, fun o M6 o1 o2 hd6 ev6 => ?_⟩
          walk_at "dl"
          refine i_pow ⟨by decide, by decide, by decide⟩ ?_
          walk_at "dl"
          refine ⟨d, l, _, rfl, hd6, by omega, fun f M7 f1 f2 hd7 ev7 => ?_⟩
          walk_at "dl"
          have nw : ∀ {n ts}, o = webD n ts → GoodW n ts → False := fun e g => by rw [e, good_is g] at o2; cases o2
          have w1 : isWebD (webD 1 []) = true := good_is ⟨by decide, by decide, by decide, fun t h => by cases h⟩
          refine ⟨o, f, rfl, o1, f1, fun n ts k e g _ _ => (nw e g).elim, fun _ => ⟨ho, ?_⟩, fun e => (by rw [o2] at e; cases e)⟩
          walk_at "dl"
          refine i_isx XW kW ?_
          walk_at "dl"
          try with_reducible refine i_itnT ?_
          walk_at "dl"
          refine ⟨o, f, .non, rfl, o1, f1, rfl, fun n ts k e g _ _ => (nw e g).elim, fun _ => ⟨ho, ?_⟩, fun e => (by rw [o2] at e; cases e)⟩
          walk_at "dl"
          refine i_isx XW kW ?_
          walk_at "dl"
          try with_reducible refine i_itnT ?_
          walk_at "dl"
          refine ⟨o, rfl, o1, fun n ts e g => (nw e g).elim, fun _ => ⟨ho, ?_⟩⟩
          walk_at "dl"
          refine i_isx XW kW ?_
          walk_at "dl"
          try with_reducible refine i_itnT ?_
          walk_at "dl"
          have gw1 : GoodW 1 [] := ⟨by decide, by decide, by decide, fun t h => by cases h⟩
          have nf : ∀ {k : Nat}, f = .int (k : Int) → k ≤ 1000000 → False := fun e h => by
            rw [e, inW, decide_eq_true (by omega), decide_eq_true (by omega)] at f2
            cases f2
          refine ⟨_, f, rfl, good_pu gw1, f1, fun n ts k e g e2 hk => (nf e2 hk).elim, fun e => Bool.noConfusion (w1.symm.trans e), fun _ _ => ⟨ho2, ?_⟩⟩
          walk_at "dl"
          refine i_isx XD.isi kN ?_
          walk_at "dl"
          try with_reducible refine i_itT ?_
          walk_at "dl"
          refine ⟨XD.fld, hw, _, rfl, ?_⟩
          walk_at "dl"
          try refine i_itDT rfl ?_
          walk_at "dl"
          refine i_isx XD.isi kT ?_
          walk_at "dl"
          try with_reducible refine i_itnT ?_
          walk_at "dl"
          try refine ⟨szl (by decide), ?_⟩
          walk_at "dl"
          refine ⟨_, f, .non, rfl, good_pu gw1, f1, rfl, fun n ts k e g e2 hk => (nf e2 hk).elim, fun e => Bool.noConfusion (w1.symm.trans e), fun _ _ => ⟨ho2, ?_⟩⟩
          walk_at "dl"
          refine i_isx XD.isi kN ?_
          walk_at "dl"
          try with_reducible refine i_itT ?_
          walk_at "dl"
          refine ⟨XD.fld, hw, _, rfl, ?_⟩
          walk_at "dl"
          try refine i_itDT rfl ?_
          walk_at "dl"
          refine i_isx XD.isi kT ?_
          walk_at "dl"
          try with_reducible refine i_itnT ?_
          walk_at "dl"
          exact hF _ _ ⟨_, _, _, _, _, _, _, _, rfl, hd7.mono (by omega), (ev5.trans ev6).trans ev7⟩
  · rintro Γ M2 ⟨y2, y3, y4, y5, y6, y7, y8, y9, rfl, hd2, ev2⟩
    have wi : ∀ (n : Int) (ts : List (Int × Int)) (n' : Int) (ts' : List (Int × Int)), webD n ts = webD n' ts' → n = n' ∧ ts = ts' := fun _ _ _ _ e => webD_inj e
    walk_at "dl"
    have g3 : GoodW 3 [(0, 1), (0, 2), (1, 2)] := ⟨by decide, by decide, by decide, fun t h => by
      simp only [List.mem_cons, List.not_mem_nil, or_false] at h
      rcases h with rfl | rfl | rfl <;> decide⟩
    have g8 : GoodW 8 [] := ⟨by decide, by decide, by decide, fun t h => by cases h⟩
    refine ⟨_, _, rfl, good_pu g3, rfl, fun n ts k e _ e2 _ => ?_, fun e => Bool.noConfusion ((good_is g3).symm.trans e), fun _ e => (by cases e)⟩
    obtain ⟨rfl, rfl⟩ := wi 3 [(0, 1), (0, 2), (1, 2)] _ _ e
    injection e2 with e2
    obtain rfl : 2 = k := by omega
    rw [show paperD [(0, 1), (0, 2), (1, 2)] (3 : Int).toNat 2 = .tup [.bl false, .tup [.tup [.tup []]]] from by rfl]
    walk_at "dl"
    refine ⟨_, rfl, by decide +kernel, by decide +kernel, ?_⟩
    walk_at "dl"
    try with_reducible refine i_itT ?_
    walk_at "dl"
    refine ⟨_, rfl, good_pu g8, fun n ts e _ => ?_, fun e => Bool.noConfusion ((good_is g8).symm.trans e)⟩
    obtain ⟨rfl, rfl⟩ := wi 8 [] _ _ e
    rw [show leastD [] (8 : Int).toNat = .int 1 from by rfl]
    walk_at "dl"
    refine ⟨_, rfl, by decide +kernel, by decide +kernel, ?_⟩
    exact i_drp k (ev2.sub nd nl)

end DL

namespace DL
open PySem PySem.Spec PyProof.Rows L2 TL
def fasK : List He.Fa := [.free "abs", .free "len", .free "all", .free "any", .free "isinstance", .free "int", .free "str", .free "tuple", .free "list", .free "bool", .free "dict", .free "min", .free "max", .free "range", .free "enumerate", .free "zip", .free "sorted", .free "sum", .free "reversed", .free "ValueError", .free "super", .int "MOST_PLACES" 8, .int "MOST_TIES" 12, .int "MOST_DYES" 1000000, .glo "WebError", .glo "BadWeb", .glo "BadPlace", .glo "BadNumber", .glo "TooMany", .glo "is_whole", .keep "is_whole", .glo "need_whole", .keep "need_whole", .glo "is_below", .keep "is_below", .glo "is_pair", .keep "is_pair", .glo "is_web", .keep "is_web", .glo "need_web", .keep "need_web", .glo "need_place", .keep "need_place", .glo "made", .keep "made", .glo "need_dyes", .keep "need_dyes", .glo "is_tied", .keep "is_tied", .glo "is_dyeing_in", .keep "is_dyeing_in", .glo "with_place", .keep "with_place", .glo "counts_of_partings", .keep "counts_of_partings", .glo "falling_product", .keep "falling_product", .glo "many_dyeings", .keep "many_dyeings", .glo "open_dyes", .keep "open_dyes", .glo "first_dyeing", .keep "first_dyeing", .glo "shut_tree", .keep "shut_tree", .glo "is_shut_tree", .keep "is_shut_tree", .glo "dye_paper", .keep "dye_paper", .glo "is_dye_paper", .keep "is_dye_paper", .glo "least_dyes", .keep "least_dyes", .glo "web_put", .keep "web_put", .glo "put", .keep "put", .glo "_law_begun", .keep "_law_begun", .glo "_law_blended", .keep "_law_blended", .glo "_law_draw", .keep "_law_draw", .glo "_law_pick", .keep "_law_pick", .glo "_law_shuffled", .keep "_law_shuffled", .glo "_law_caught", .keep "_law_caught", .glo "_law_is_truth", .keep "_law_is_truth", .glo "_law_same", .keep "_law_same", .glo "_law_made", .keep "_law_made", .glo "_law_web", .keep "_law_web", .glo "_law_shuffled_web", .keep "_law_shuffled_web", .glo "_law_odd", .keep "_law_odd", .glo "_law_are_wholes", .keep "_law_are_wholes", .glo "_law_is_dyeing", .keep "_law_is_dyeing", .glo "_law_bent", .keep "_law_bent", .glo "_law_bad_word", .keep "_law_bad_word", .glo "_law_far_number", .keep "_law_far_number", .glo "_law_next", .keep "_law_next", .glo "_law_is_paper", .keep "_law_is_paper", .glo "_law_judged", .keep "_law_judged", .glo "_law_changed", .keep "_law_changed", .glo "_law_goes", .keep "_law_goes", .glo "_law_least_right", .keep "_law_least_right", .glo "law", .keep "law"]
def fnsK : List He.FnD := [⟨("is_whole", none), "is_whole", "is_whole", defArgs s_is_whole, defBody s_is_whole, defScope s_is_whole⟩,
  ⟨("need_whole", none), "need_whole", "need_whole", defArgs s_need_whole, defBody s_need_whole, defScope s_need_whole⟩,
  ⟨("is_below", none), "is_below", "is_below", defArgs s_is_below, defBody s_is_below, defScope s_is_below⟩,
  ⟨("is_pair", none), "is_pair", "is_pair", defArgs s_is_pair, defBody s_is_pair, defScope s_is_pair⟩,
  ⟨("is_web", none), "is_web", "is_web", defArgs s_is_web, defBody s_is_web, defScope s_is_web⟩,
  ⟨("need_web", none), "need_web", "need_web", defArgs s_need_web, defBody s_need_web, defScope s_need_web⟩,
  ⟨("need_place", none), "need_place", "need_place", defArgs s_need_place, defBody s_need_place, defScope s_need_place⟩,
  ⟨("made", none), "made", "made", defArgs s_made, defBody s_made, defScope s_made⟩,
  ⟨("need_dyes", none), "need_dyes", "need_dyes", defArgs s_need_dyes, defBody s_need_dyes, defScope s_need_dyes⟩,
  ⟨("is_tied", none), "is_tied", "is_tied", defArgs s_is_tied, defBody s_is_tied, defScope s_is_tied⟩,
  ⟨("is_dyeing_in", none), "is_dyeing_in", "is_dyeing_in", defArgs s_is_dyeing_in, defBody s_is_dyeing_in, defScope s_is_dyeing_in⟩,
  ⟨("with_place", none), "with_place", "with_place", defArgs s_with_place, defBody s_with_place, defScope s_with_place⟩,
  ⟨("counts_of_partings", none), "counts_of_partings", "counts_of_partings", defArgs s_counts_of_partings, defBody s_counts_of_partings, defScope s_counts_of_partings⟩,
  ⟨("falling_product", none), "falling_product", "falling_product", defArgs s_falling_product, defBody s_falling_product, defScope s_falling_product⟩,
  ⟨("many_dyeings", none), "many_dyeings", "many_dyeings", defArgs s_many_dyeings, defBody s_many_dyeings, defScope s_many_dyeings⟩,
  ⟨("open_dyes", none), "open_dyes", "open_dyes", defArgs s_open_dyes, defBody s_open_dyes, defScope s_open_dyes⟩,
  ⟨("first_dyeing", none), "first_dyeing", "first_dyeing", defArgs s_first_dyeing, defBody s_first_dyeing, defScope s_first_dyeing⟩,
  ⟨("shut_tree", none), "shut_tree", "shut_tree", defArgs s_shut_tree, defBody s_shut_tree, defScope s_shut_tree⟩,
  ⟨("is_shut_tree", none), "is_shut_tree", "is_shut_tree", defArgs s_is_shut_tree, defBody s_is_shut_tree, defScope s_is_shut_tree⟩,
  ⟨("dye_paper", none), "dye_paper", "dye_paper", defArgs s_dye_paper, defBody s_dye_paper, defScope s_dye_paper⟩,
  ⟨("is_dye_paper", none), "is_dye_paper", "is_dye_paper", defArgs s_is_dye_paper, defBody s_is_dye_paper, defScope s_is_dye_paper⟩,
  ⟨("least_dyes", none), "least_dyes", "least_dyes", defArgs s_least_dyes, defBody s_least_dyes, defScope s_least_dyes⟩,
  ⟨("web_put", none), "web_put", "web_put", defArgs s_web_put, defBody s_web_put, defScope s_web_put⟩,
  ⟨("put", none), "put", "put", defArgs s_put, defBody s_put, defScope s_put⟩,
  ⟨("_law_begun", none), "_law_begun", "_law_begun", defArgs s__law_begun, defBody s__law_begun, defScope s__law_begun⟩,
  ⟨("_law_blended", none), "_law_blended", "_law_blended", defArgs s__law_blended, defBody s__law_blended, defScope s__law_blended⟩,
  ⟨("_law_draw", none), "_law_draw", "_law_draw", defArgs s__law_draw, defBody s__law_draw, defScope s__law_draw⟩,
  ⟨("_law_pick", none), "_law_pick", "_law_pick", defArgs s__law_pick, defBody s__law_pick, defScope s__law_pick⟩,
  ⟨("_law_shuffled", none), "_law_shuffled", "_law_shuffled", defArgs s__law_shuffled, defBody s__law_shuffled, defScope s__law_shuffled⟩,
  ⟨("_law_caught", none), "_law_caught", "_law_caught", defArgs s__law_caught, defBody s__law_caught, defScope s__law_caught⟩,
  ⟨("_law_is_truth", none), "_law_is_truth", "_law_is_truth", defArgs s__law_is_truth, defBody s__law_is_truth, defScope s__law_is_truth⟩,
  ⟨("_law_same", none), "_law_same", "_law_same", defArgs s__law_same, defBody s__law_same, defScope s__law_same⟩,
  ⟨("_law_made", none), "_law_made", "_law_made", defArgs s__law_made, defBody s__law_made, defScope s__law_made⟩,
  ⟨("_law_web", none), "_law_web", "_law_web", defArgs s__law_web, defBody s__law_web, defScope s__law_web⟩,
  ⟨("_law_shuffled_web", none), "_law_shuffled_web", "_law_shuffled_web", defArgs s__law_shuffled_web, defBody s__law_shuffled_web, defScope s__law_shuffled_web⟩,
  ⟨("_law_odd", none), "_law_odd", "_law_odd", defArgs s__law_odd, defBody s__law_odd, defScope s__law_odd⟩,
  ⟨("_law_are_wholes", none), "_law_are_wholes", "_law_are_wholes", defArgs s__law_are_wholes, defBody s__law_are_wholes, defScope s__law_are_wholes⟩,
  ⟨("_law_is_dyeing", none), "_law_is_dyeing", "_law_is_dyeing", defArgs s__law_is_dyeing, defBody s__law_is_dyeing, defScope s__law_is_dyeing⟩,
  ⟨("_law_bent", none), "_law_bent", "_law_bent", defArgs s__law_bent, defBody s__law_bent, defScope s__law_bent⟩,
  ⟨("_law_bad_word", none), "_law_bad_word", "_law_bad_word", defArgs s__law_bad_word, defBody s__law_bad_word, defScope s__law_bad_word⟩,
  ⟨("_law_far_number", none), "_law_far_number", "_law_far_number", defArgs s__law_far_number, defBody s__law_far_number, defScope s__law_far_number⟩,
  ⟨("_law_next", none), "_law_next", "_law_next", defArgs s__law_next, defBody s__law_next, defScope s__law_next⟩,
  ⟨("_law_is_paper", none), "_law_is_paper", "_law_is_paper", defArgs s__law_is_paper, defBody s__law_is_paper, defScope s__law_is_paper⟩,
  ⟨("_law_judged", none), "_law_judged", "_law_judged", defArgs s__law_judged, defBody s__law_judged, defScope s__law_judged⟩,
  ⟨("_law_changed", none), "_law_changed", "_law_changed", defArgs s__law_changed, defBody s__law_changed, defScope s__law_changed⟩,
  ⟨("_law_goes", none), "_law_goes", "_law_goes", defArgs s__law_goes, defBody s__law_goes, defScope s__law_goes⟩,
  ⟨("_law_least_right", none), "_law_least_right", "_law_least_right", defArgs s__law_least_right, defBody s__law_least_right, defScope s__law_least_right⟩,
  ⟨("law", none), "law", "law", defArgs s_law, defBody s_law, defScope s_law⟩]
def clsK (K : PySem.W.Frag) : Bool := excSB K (He.ga K "BadWeb") && (excSB K (He.ga K "BadPlace") && (excCB K (He.ga K "BadWeb") && (excCB K (He.ga K "BadNumber") && (excMkB PySem.Challenge.rw_ringsandcuts_k61_whole_papers_of_dyeings.prog K (He.ga K "BadNumber") "BadNumber.__init__" "word" && (excMkB PySem.Challenge.rw_ringsandcuts_k61_whole_papers_of_dyeings.prog K (He.ga K "TooMany") "TooMany.__init__" "most" && (decide (PySem.W.exmOne K (.ref (He.ga K "BadNumber")) (.ref (He.ga K "WebError")) = some true) && (decide (PySem.W.exmOne K (.ref (He.ga K "BadWeb")) (.ref (He.ga K "WebError")) = some true) && (decide (PySem.W.kitOne K (.ref (He.ga K "BadWeb")) (.ref (He.ga K "BadWeb")) = some true) && (decide (PySem.W.kitOne K (.ref (He.ga K "BadNumber")) (.ref (He.ga K "BadNumber")) = some true) && (decide (PySem.W.kitOne K (.ref (He.ga K "BadNumber")) (.ref (He.ga K "TooMany")) = some false)))))))))))
def tabK (K : PySem.W.Frag) (ts : List Addr) : Bool := tabB K ts "law"
set_option maxHeartbeats 0 in
theorem lawAt {w : World} {K : PySem.W.Frag} {mg : Str → Option Value} {h : Heap} {fa : Addr} {ts : List Addr} (X : K.In h) (G : h.Ns mainGlobals mg) (hfa : mg "law" = some (.ref fa)) (hT : ∀ P ∈ ts, h.get? P = some (PySem.W.tabObj #[])) (c : He.SaysE fasK fnsK K) (q : clsK K = true) (t : tabK K ts = true) (so_BadNumber : supObs K (He.ma K (He.ga K "BadNumber") "__init__") = (some (("__init__" : Str), "BadNumber.__init__", defArgs (inClass (topS 4) 0), FuncBody.stmts (defBody (inClass (topS 4) 0)), defScope (inClass (topS 4) 0), mainGlobals, builtinsNs) : SupV)) (so_TooMany : supObs K (He.ma K (He.ga K "TooMany") "__init__") = (some (("__init__" : Str), "TooMany.__init__", defArgs (inClass (topS 5) 0), FuncBody.stmts (defBody (inClass (topS 5) 0)), defScope (inClass (topS 5) 0), mainGlobals, builtinsNs) : SupV)) :
    LamX.LawAtS PySem.Challenge.rw_ringsandcuts_k61_whole_papers_of_dyeings w K CX0 18 63 "script" mg fa h := by
  have m_is_whole : mg "is_whole" = some (.ref (He.ga K "is_whole")) := He.glo_ok X G (c.fact 29 (f := .glo "is_whole") rfl)
  have m_need_whole : mg "need_whole" = some (.ref (He.ga K "need_whole")) := He.glo_ok X G (c.fact 31 (f := .glo "need_whole") rfl)
  have m_is_below : mg "is_below" = some (.ref (He.ga K "is_below")) := He.glo_ok X G (c.fact 33 (f := .glo "is_below") rfl)
  have m_is_pair : mg "is_pair" = some (.ref (He.ga K "is_pair")) := He.glo_ok X G (c.fact 35 (f := .glo "is_pair") rfl)
  have m_is_web : mg "is_web" = some (.ref (He.ga K "is_web")) := He.glo_ok X G (c.fact 37 (f := .glo "is_web") rfl)
  have m_need_web : mg "need_web" = some (.ref (He.ga K "need_web")) := He.glo_ok X G (c.fact 39 (f := .glo "need_web") rfl)
  have m_need_place : mg "need_place" = some (.ref (He.ga K "need_place")) := He.glo_ok X G (c.fact 41 (f := .glo "need_place") rfl)
  have m_made : mg "made" = some (.ref (He.ga K "made")) := He.glo_ok X G (c.fact 43 (f := .glo "made") rfl)
  have m_need_dyes : mg "need_dyes" = some (.ref (He.ga K "need_dyes")) := He.glo_ok X G (c.fact 45 (f := .glo "need_dyes") rfl)
  have m_is_tied : mg "is_tied" = some (.ref (He.ga K "is_tied")) := He.glo_ok X G (c.fact 47 (f := .glo "is_tied") rfl)
  have m_is_dyeing_in : mg "is_dyeing_in" = some (.ref (He.ga K "is_dyeing_in")) := He.glo_ok X G (c.fact 49 (f := .glo "is_dyeing_in") rfl)
  have m_with_place : mg "with_place" = some (.ref (He.ga K "with_place")) := He.glo_ok X G (c.fact 51 (f := .glo "with_place") rfl)
  have m_counts_of_partings : mg "counts_of_partings" = some (.ref (He.ga K "counts_of_partings")) := He.glo_ok X G (c.fact 53 (f := .glo "counts_of_partings") rfl)
  have m_falling_product : mg "falling_product" = some (.ref (He.ga K "falling_product")) := He.glo_ok X G (c.fact 55 (f := .glo "falling_product") rfl)
  have m_many_dyeings : mg "many_dyeings" = some (.ref (He.ga K "many_dyeings")) := He.glo_ok X G (c.fact 57 (f := .glo "many_dyeings") rfl)
  have m_open_dyes : mg "open_dyes" = some (.ref (He.ga K "open_dyes")) := He.glo_ok X G (c.fact 59 (f := .glo "open_dyes") rfl)
  have m_first_dyeing : mg "first_dyeing" = some (.ref (He.ga K "first_dyeing")) := He.glo_ok X G (c.fact 61 (f := .glo "first_dyeing") rfl)
  have m_shut_tree : mg "shut_tree" = some (.ref (He.ga K "shut_tree")) := He.glo_ok X G (c.fact 63 (f := .glo "shut_tree") rfl)
  have m_is_shut_tree : mg "is_shut_tree" = some (.ref (He.ga K "is_shut_tree")) := He.glo_ok X G (c.fact 65 (f := .glo "is_shut_tree") rfl)
  have m_dye_paper : mg "dye_paper" = some (.ref (He.ga K "dye_paper")) := He.glo_ok X G (c.fact 67 (f := .glo "dye_paper") rfl)
  have m_is_dye_paper : mg "is_dye_paper" = some (.ref (He.ga K "is_dye_paper")) := He.glo_ok X G (c.fact 69 (f := .glo "is_dye_paper") rfl)
  have m_least_dyes : mg "least_dyes" = some (.ref (He.ga K "least_dyes")) := He.glo_ok X G (c.fact 71 (f := .glo "least_dyes") rfl)
  have m_web_put : mg "web_put" = some (.ref (He.ga K "web_put")) := He.glo_ok X G (c.fact 73 (f := .glo "web_put") rfl)
  have m_put : mg "put" = some (.ref (He.ga K "put")) := He.glo_ok X G (c.fact 75 (f := .glo "put") rfl)
  have m__law_begun : mg "_law_begun" = some (.ref (He.ga K "_law_begun")) := He.glo_ok X G (c.fact 77 (f := .glo "_law_begun") rfl)
  have m__law_blended : mg "_law_blended" = some (.ref (He.ga K "_law_blended")) := He.glo_ok X G (c.fact 79 (f := .glo "_law_blended") rfl)
  have m__law_draw : mg "_law_draw" = some (.ref (He.ga K "_law_draw")) := He.glo_ok X G (c.fact 81 (f := .glo "_law_draw") rfl)
  have m__law_pick : mg "_law_pick" = some (.ref (He.ga K "_law_pick")) := He.glo_ok X G (c.fact 83 (f := .glo "_law_pick") rfl)
  have m__law_shuffled : mg "_law_shuffled" = some (.ref (He.ga K "_law_shuffled")) := He.glo_ok X G (c.fact 85 (f := .glo "_law_shuffled") rfl)
  have m__law_caught : mg "_law_caught" = some (.ref (He.ga K "_law_caught")) := He.glo_ok X G (c.fact 87 (f := .glo "_law_caught") rfl)
  have m__law_is_truth : mg "_law_is_truth" = some (.ref (He.ga K "_law_is_truth")) := He.glo_ok X G (c.fact 89 (f := .glo "_law_is_truth") rfl)
  have m__law_same : mg "_law_same" = some (.ref (He.ga K "_law_same")) := He.glo_ok X G (c.fact 91 (f := .glo "_law_same") rfl)
  have m__law_made : mg "_law_made" = some (.ref (He.ga K "_law_made")) := He.glo_ok X G (c.fact 93 (f := .glo "_law_made") rfl)
  have m__law_web : mg "_law_web" = some (.ref (He.ga K "_law_web")) := He.glo_ok X G (c.fact 95 (f := .glo "_law_web") rfl)
  have m__law_shuffled_web : mg "_law_shuffled_web" = some (.ref (He.ga K "_law_shuffled_web")) := He.glo_ok X G (c.fact 97 (f := .glo "_law_shuffled_web") rfl)
  have m__law_odd : mg "_law_odd" = some (.ref (He.ga K "_law_odd")) := He.glo_ok X G (c.fact 99 (f := .glo "_law_odd") rfl)
  have m__law_are_wholes : mg "_law_are_wholes" = some (.ref (He.ga K "_law_are_wholes")) := He.glo_ok X G (c.fact 101 (f := .glo "_law_are_wholes") rfl)
  have m__law_is_dyeing : mg "_law_is_dyeing" = some (.ref (He.ga K "_law_is_dyeing")) := He.glo_ok X G (c.fact 103 (f := .glo "_law_is_dyeing") rfl)
  have m__law_bent : mg "_law_bent" = some (.ref (He.ga K "_law_bent")) := He.glo_ok X G (c.fact 105 (f := .glo "_law_bent") rfl)
  have m__law_bad_word : mg "_law_bad_word" = some (.ref (He.ga K "_law_bad_word")) := He.glo_ok X G (c.fact 107 (f := .glo "_law_bad_word") rfl)
  have m__law_far_number : mg "_law_far_number" = some (.ref (He.ga K "_law_far_number")) := He.glo_ok X G (c.fact 109 (f := .glo "_law_far_number") rfl)
  have m__law_next : mg "_law_next" = some (.ref (He.ga K "_law_next")) := He.glo_ok X G (c.fact 111 (f := .glo "_law_next") rfl)
  have m__law_is_paper : mg "_law_is_paper" = some (.ref (He.ga K "_law_is_paper")) := He.glo_ok X G (c.fact 113 (f := .glo "_law_is_paper") rfl)
  have m__law_judged : mg "_law_judged" = some (.ref (He.ga K "_law_judged")) := He.glo_ok X G (c.fact 115 (f := .glo "_law_judged") rfl)
  have m__law_changed : mg "_law_changed" = some (.ref (He.ga K "_law_changed")) := He.glo_ok X G (c.fact 117 (f := .glo "_law_changed") rfl)
  have m__law_goes : mg "_law_goes" = some (.ref (He.ga K "_law_goes")) := He.glo_ok X G (c.fact 119 (f := .glo "_law_goes") rfl)
  have m__law_least_right : mg "_law_least_right" = some (.ref (He.ga K "_law_least_right")) := He.glo_ok X G (c.fact 121 (f := .glo "_law_least_right") rfl)
  have m_law : mg "law" = some (.ref (He.ga K "law")) := He.glo_ok X G (c.fact 123 (f := .glo "law") rfl)
  have m_WebError : mg "WebError" = some (.ref (He.ga K "WebError")) := He.glo_ok X G (c.fact 24 (f := .glo "WebError") rfl)
  have m_BadWeb : mg "BadWeb" = some (.ref (He.ga K "BadWeb")) := He.glo_ok X G (c.fact 25 (f := .glo "BadWeb") rfl)
  have m_BadPlace : mg "BadPlace" = some (.ref (He.ga K "BadPlace")) := He.glo_ok X G (c.fact 26 (f := .glo "BadPlace") rfl)
  have m_BadNumber : mg "BadNumber" = some (.ref (He.ga K "BadNumber")) := He.glo_ok X G (c.fact 27 (f := .glo "BadNumber") rfl)
  have m_TooMany : mg "TooMany" = some (.ref (He.ga K "TooMany")) := He.glo_ok X G (c.fact 28 (f := .glo "TooMany") rfl)
  have m_super : mg "super" = none := He.free_ok X G (c.fact 20 (f := .free "super") rfl)
  have B : Blt mg := ⟨He.free_ok X G (c.fact 0 (f := .free "abs") rfl), He.free_ok X G (c.fact 1 (f := .free "len") rfl), He.free_ok X G (c.fact 2 (f := .free "all") rfl), He.free_ok X G (c.fact 3 (f := .free "any") rfl), He.free_ok X G (c.fact 4 (f := .free "isinstance") rfl), He.free_ok X G (c.fact 5 (f := .free "int") rfl), He.free_ok X G (c.fact 6 (f := .free "str") rfl), He.free_ok X G (c.fact 7 (f := .free "tuple") rfl), He.free_ok X G (c.fact 8 (f := .free "list") rfl), He.free_ok X G (c.fact 9 (f := .free "bool") rfl), He.free_ok X G (c.fact 10 (f := .free "dict") rfl), He.free_ok X G (c.fact 11 (f := .free "min") rfl), He.free_ok X G (c.fact 12 (f := .free "max") rfl), He.free_ok X G (c.fact 13 (f := .free "range") rfl), He.free_ok X G (c.fact 14 (f := .free "enumerate") rfl), He.free_ok X G (c.fact 15 (f := .free "zip") rfl), He.free_ok X G (c.fact 16 (f := .free "sorted") rfl), He.free_ok X G (c.fact 17 (f := .free "sum") rfl), He.free_ok X G (c.fact 18 (f := .free "reversed") rfl), He.free_ok X G (c.fact 19 (f := .free "ValueError") rfl), He.int_ok X G (c.fact 21 (f := .int "MOST_PLACES" 8) rfl), He.int_ok X G (c.fact 22 (f := .int "MOST_TIES" 12) rfl), He.int_ok X G (c.fact 23 (f := .int "MOST_DYES" 1000000) rfl)⟩
  obtain ⟨q0, r0⟩ := b2 q
  obtain ⟨q1, r1⟩ := b2 r0
  obtain ⟨q2, r2⟩ := b2 r1
  obtain ⟨q3, r3⟩ := b2 r2
  obtain ⟨q4, r4⟩ := b2 r3
  obtain ⟨q5, r5⟩ := b2 r4
  obtain ⟨q6, r6⟩ := b2 r5
  obtain ⟨q7, r7⟩ := b2 r6
  obtain ⟨q8, r8⟩ := b2 r7
  obtain ⟨q9, r9⟩ := b2 r8
  have q10 := r9
  have t0 := t
  obtain ⟨hT0, nT0, C0⟩ := tabB_ok X hT t0
  obtain ⟨oc_is_whole, od_is_whole, osl_is_whole, kV_is_whole, doc_is_whole, pm_is_whole, an_is_whole, cdv_is_whole, ct_is_whole, l_is_whole, c_is_whole⟩ := c.def_ 0 (d := ⟨("is_whole", none), "is_whole", "is_whole", defArgs s_is_whole, defBody s_is_whole, defScope s_is_whole⟩) rfl
  obtain ⟨fd_is_whole, F_is_whole⟩ : ∃ fd : FuncData, Fun K "is_whole" "is_whole" s_is_whole (He.ga K "is_whole") fd := ⟨_, fun_mk (st := s_is_whole) l_is_whole c_is_whole (He.keep_ok (c.fact 30 (f := .keep "is_whole") rfl))⟩
  clear l_is_whole c_is_whole oc_is_whole od_is_whole osl_is_whole kV_is_whole doc_is_whole pm_is_whole an_is_whole cdv_is_whole ct_is_whole
  have b_is_whole := F_is_whole.binds (ps := ["value"]) fun _ _ _ _ _ _ us hl => match us, hl with | [_], _ => rfl
  obtain ⟨oc_need_whole, od_need_whole, osl_need_whole, kV_need_whole, doc_need_whole, pm_need_whole, an_need_whole, cdv_need_whole, ct_need_whole, l_need_whole, c_need_whole⟩ := c.def_ 1 (d := ⟨("need_whole", none), "need_whole", "need_whole", defArgs s_need_whole, defBody s_need_whole, defScope s_need_whole⟩) rfl
  obtain ⟨fd_need_whole, F_need_whole⟩ : ∃ fd : FuncData, Fun K "need_whole" "need_whole" s_need_whole (He.ga K "need_whole") fd := ⟨_, fun_mk (st := s_need_whole) l_need_whole c_need_whole (He.keep_ok (c.fact 32 (f := .keep "need_whole") rfl))⟩
  clear l_need_whole c_need_whole oc_need_whole od_need_whole osl_need_whole kV_need_whole doc_need_whole pm_need_whole an_need_whole cdv_need_whole ct_need_whole
  have b_need_whole := F_need_whole.binds (ps := ["value", "low", "high", "word"]) fun _ _ _ _ _ _ us hl => match us, hl with | [_, _, _, _], _ => rfl
  obtain ⟨oc_is_below, od_is_below, osl_is_below, kV_is_below, doc_is_below, pm_is_below, an_is_below, cdv_is_below, ct_is_below, l_is_below, c_is_below⟩ := c.def_ 2 (d := ⟨("is_below", none), "is_below", "is_below", defArgs s_is_below, defBody s_is_below, defScope s_is_below⟩) rfl
  obtain ⟨fd_is_below, F_is_below⟩ : ∃ fd : FuncData, Fun K "is_below" "is_below" s_is_below (He.ga K "is_below") fd := ⟨_, fun_mk (st := s_is_below) l_is_below c_is_below (He.keep_ok (c.fact 34 (f := .keep "is_below") rfl))⟩
  clear l_is_below c_is_below oc_is_below od_is_below osl_is_below kV_is_below doc_is_below pm_is_below an_is_below cdv_is_below ct_is_below
  have b_is_below := F_is_below.binds (ps := ["value", "bound"]) fun _ _ _ _ _ _ us hl => match us, hl with | [_, _], _ => rfl
  obtain ⟨oc_is_pair, od_is_pair, osl_is_pair, kV_is_pair, doc_is_pair, pm_is_pair, an_is_pair, cdv_is_pair, ct_is_pair, l_is_pair, c_is_pair⟩ := c.def_ 3 (d := ⟨("is_pair", none), "is_pair", "is_pair", defArgs s_is_pair, defBody s_is_pair, defScope s_is_pair⟩) rfl
  obtain ⟨fd_is_pair, F_is_pair⟩ : ∃ fd : FuncData, Fun K "is_pair" "is_pair" s_is_pair (He.ga K "is_pair") fd := ⟨_, fun_mk (st := s_is_pair) l_is_pair c_is_pair (He.keep_ok (c.fact 36 (f := .keep "is_pair") rfl))⟩
  clear l_is_pair c_is_pair oc_is_pair od_is_pair osl_is_pair kV_is_pair doc_is_pair pm_is_pair an_is_pair cdv_is_pair ct_is_pair
  have b_is_pair := F_is_pair.binds (ps := ["n", "value"]) fun _ _ _ _ _ _ us hl => match us, hl with | [_, _], _ => rfl
  obtain ⟨oc_is_web, od_is_web, osl_is_web, kV_is_web, doc_is_web, pm_is_web, an_is_web, cdv_is_web, ct_is_web, l_is_web, c_is_web⟩ := c.def_ 4 (d := ⟨("is_web", none), "is_web", "is_web", defArgs s_is_web, defBody s_is_web, defScope s_is_web⟩) rfl
  obtain ⟨fd_is_web, F_is_web⟩ : ∃ fd : FuncData, Fun K "is_web" "is_web" s_is_web (He.ga K "is_web") fd := ⟨_, fun_mk (st := s_is_web) l_is_web c_is_web (He.keep_ok (c.fact 38 (f := .keep "is_web") rfl))⟩
  clear l_is_web c_is_web oc_is_web od_is_web osl_is_web kV_is_web doc_is_web pm_is_web an_is_web cdv_is_web ct_is_web
  have b_is_web := F_is_web.binds (ps := ["value"]) fun _ _ _ _ _ _ us hl => match us, hl with | [_], _ => rfl
  obtain ⟨oc_need_web, od_need_web, osl_need_web, kV_need_web, doc_need_web, pm_need_web, an_need_web, cdv_need_web, ct_need_web, l_need_web, c_need_web⟩ := c.def_ 5 (d := ⟨("need_web", none), "need_web", "need_web", defArgs s_need_web, defBody s_need_web, defScope s_need_web⟩) rfl
  obtain ⟨fd_need_web, F_need_web⟩ : ∃ fd : FuncData, Fun K "need_web" "need_web" s_need_web (He.ga K "need_web") fd := ⟨_, fun_mk (st := s_need_web) l_need_web c_need_web (He.keep_ok (c.fact 40 (f := .keep "need_web") rfl))⟩
  clear l_need_web c_need_web oc_need_web od_need_web osl_need_web kV_need_web doc_need_web pm_need_web an_need_web cdv_need_web ct_need_web
  have b_need_web := F_need_web.binds (ps := ["web"]) fun _ _ _ _ _ _ us hl => match us, hl with | [_], _ => rfl
  obtain ⟨oc_need_place, od_need_place, osl_need_place, kV_need_place, doc_need_place, pm_need_place, an_need_place, cdv_need_place, ct_need_place, l_need_place, c_need_place⟩ := c.def_ 6 (d := ⟨("need_place", none), "need_place", "need_place", defArgs s_need_place, defBody s_need_place, defScope s_need_place⟩) rfl
  obtain ⟨fd_need_place, F_need_place⟩ : ∃ fd : FuncData, Fun K "need_place" "need_place" s_need_place (He.ga K "need_place") fd := ⟨_, fun_mk (st := s_need_place) l_need_place c_need_place (He.keep_ok (c.fact 42 (f := .keep "need_place") rfl))⟩
  clear l_need_place c_need_place oc_need_place od_need_place osl_need_place kV_need_place doc_need_place pm_need_place an_need_place cdv_need_place ct_need_place
  have b_need_place := F_need_place.binds (ps := ["web", "place"]) fun _ _ _ _ _ _ us hl => match us, hl with | [_, _], _ => rfl
  obtain ⟨oc_made, od_made, osl_made, kV_made, doc_made, pm_made, an_made, cdv_made, ct_made, l_made, c_made⟩ := c.def_ 7 (d := ⟨("made", none), "made", "made", defArgs s_made, defBody s_made, defScope s_made⟩) rfl
  obtain ⟨fd_made, F_made⟩ : ∃ fd : FuncData, Fun K "made" "made" s_made (He.ga K "made") fd := ⟨_, fun_mk (st := s_made) l_made c_made (He.keep_ok (c.fact 44 (f := .keep "made") rfl))⟩
  clear l_made c_made oc_made od_made osl_made kV_made doc_made pm_made an_made cdv_made ct_made
  have b_made := F_made.binds (ps := ["n", "ties"]) fun _ _ _ _ _ _ us hl => match us, hl with | [_, _], _ => rfl
  obtain ⟨oc_need_dyes, od_need_dyes, osl_need_dyes, kV_need_dyes, doc_need_dyes, pm_need_dyes, an_need_dyes, cdv_need_dyes, ct_need_dyes, l_need_dyes, c_need_dyes⟩ := c.def_ 8 (d := ⟨("need_dyes", none), "need_dyes", "need_dyes", defArgs s_need_dyes, defBody s_need_dyes, defScope s_need_dyes⟩) rfl
  obtain ⟨fd_need_dyes, F_need_dyes⟩ : ∃ fd : FuncData, Fun K "need_dyes" "need_dyes" s_need_dyes (He.ga K "need_dyes") fd := ⟨_, fun_mk (st := s_need_dyes) l_need_dyes c_need_dyes (He.keep_ok (c.fact 46 (f := .keep "need_dyes") rfl))⟩
  clear l_need_dyes c_need_dyes oc_need_dyes od_need_dyes osl_need_dyes kV_need_dyes doc_need_dyes pm_need_dyes an_need_dyes cdv_need_dyes ct_need_dyes
  have b_need_dyes := F_need_dyes.binds (ps := ["web", "k"]) fun _ _ _ _ _ _ us hl => match us, hl with | [_, _], _ => rfl
  obtain ⟨oc_is_tied, od_is_tied, osl_is_tied, kV_is_tied, doc_is_tied, pm_is_tied, an_is_tied, cdv_is_tied, ct_is_tied, l_is_tied, c_is_tied⟩ := c.def_ 9 (d := ⟨("is_tied", none), "is_tied", "is_tied", defArgs s_is_tied, defBody s_is_tied, defScope s_is_tied⟩) rfl
  obtain ⟨fd_is_tied, F_is_tied⟩ : ∃ fd : FuncData, Fun K "is_tied" "is_tied" s_is_tied (He.ga K "is_tied") fd := ⟨_, fun_mk (st := s_is_tied) l_is_tied c_is_tied (He.keep_ok (c.fact 48 (f := .keep "is_tied") rfl))⟩
  clear l_is_tied c_is_tied oc_is_tied od_is_tied osl_is_tied kV_is_tied doc_is_tied pm_is_tied an_is_tied cdv_is_tied ct_is_tied
  have b_is_tied := F_is_tied.binds (ps := ["web", "a", "b"]) fun _ _ _ _ _ _ us hl => match us, hl with | [_, _, _], _ => rfl
  obtain ⟨oc_is_dyeing_in, od_is_dyeing_in, osl_is_dyeing_in, kV_is_dyeing_in, doc_is_dyeing_in, pm_is_dyeing_in, an_is_dyeing_in, cdv_is_dyeing_in, ct_is_dyeing_in, l_is_dyeing_in, c_is_dyeing_in⟩ := c.def_ 10 (d := ⟨("is_dyeing_in", none), "is_dyeing_in", "is_dyeing_in", defArgs s_is_dyeing_in, defBody s_is_dyeing_in, defScope s_is_dyeing_in⟩) rfl
  obtain ⟨fd_is_dyeing_in, F_is_dyeing_in⟩ : ∃ fd : FuncData, Fun K "is_dyeing_in" "is_dyeing_in" s_is_dyeing_in (He.ga K "is_dyeing_in") fd := ⟨_, fun_mk (st := s_is_dyeing_in) l_is_dyeing_in c_is_dyeing_in (He.keep_ok (c.fact 50 (f := .keep "is_dyeing_in") rfl))⟩
  clear l_is_dyeing_in c_is_dyeing_in oc_is_dyeing_in od_is_dyeing_in osl_is_dyeing_in kV_is_dyeing_in doc_is_dyeing_in pm_is_dyeing_in an_is_dyeing_in cdv_is_dyeing_in ct_is_dyeing_in
  have b_is_dyeing_in := F_is_dyeing_in.binds (ps := ["web", "k", "value"]) fun _ _ _ _ _ _ us hl => match us, hl with | [_, _, _], _ => rfl
  obtain ⟨oc_with_place, od_with_place, osl_with_place, kV_with_place, doc_with_place, pm_with_place, an_with_place, cdv_with_place, ct_with_place, l_with_place, c_with_place⟩ := c.def_ 11 (d := ⟨("with_place", none), "with_place", "with_place", defArgs s_with_place, defBody s_with_place, defScope s_with_place⟩) rfl
  obtain ⟨fd_with_place, F_with_place⟩ : ∃ fd : FuncData, Fun K "with_place" "with_place" s_with_place (He.ga K "with_place") fd := ⟨_, fun_mk (st := s_with_place) l_with_place c_with_place (He.keep_ok (c.fact 52 (f := .keep "with_place") rfl))⟩
  clear l_with_place c_with_place oc_with_place od_with_place osl_with_place kV_with_place doc_with_place pm_with_place an_with_place cdv_with_place ct_with_place
  have b_with_place := F_with_place.binds (ps := ["web", "place", "parting"]) fun _ _ _ _ _ _ us hl => match us, hl with | [_, _, _], _ => rfl
  obtain ⟨oc_counts_of_partings, od_counts_of_partings, osl_counts_of_partings, kV_counts_of_partings, doc_counts_of_partings, pm_counts_of_partings, an_counts_of_partings, cdv_counts_of_partings, ct_counts_of_partings, l_counts_of_partings, c_counts_of_partings⟩ := c.def_ 12 (d := ⟨("counts_of_partings", none), "counts_of_partings", "counts_of_partings", defArgs s_counts_of_partings, defBody s_counts_of_partings, defScope s_counts_of_partings⟩) rfl
  obtain ⟨fd_counts_of_partings, F_counts_of_partings⟩ : ∃ fd : FuncData, Fun K "counts_of_partings" "counts_of_partings" s_counts_of_partings (He.ga K "counts_of_partings") fd := ⟨_, fun_mk (st := s_counts_of_partings) l_counts_of_partings c_counts_of_partings (He.keep_ok (c.fact 54 (f := .keep "counts_of_partings") rfl))⟩
  clear l_counts_of_partings c_counts_of_partings oc_counts_of_partings od_counts_of_partings osl_counts_of_partings kV_counts_of_partings doc_counts_of_partings pm_counts_of_partings an_counts_of_partings cdv_counts_of_partings ct_counts_of_partings
  have b_counts_of_partings := F_counts_of_partings.binds (ps := ["web"]) fun _ _ _ _ _ _ us hl => match us, hl with | [_], _ => rfl
  obtain ⟨oc_falling_product, od_falling_product, osl_falling_product, kV_falling_product, doc_falling_product, pm_falling_product, an_falling_product, cdv_falling_product, ct_falling_product, l_falling_product, c_falling_product⟩ := c.def_ 13 (d := ⟨("falling_product", none), "falling_product", "falling_product", defArgs s_falling_product, defBody s_falling_product, defScope s_falling_product⟩) rfl
  obtain ⟨fd_falling_product, F_falling_product⟩ : ∃ fd : FuncData, Fun K "falling_product" "falling_product" s_falling_product (He.ga K "falling_product") fd := ⟨_, fun_mk (st := s_falling_product) l_falling_product c_falling_product (He.keep_ok (c.fact 56 (f := .keep "falling_product") rfl))⟩
  clear l_falling_product c_falling_product oc_falling_product od_falling_product osl_falling_product kV_falling_product doc_falling_product pm_falling_product an_falling_product cdv_falling_product ct_falling_product
  have b_falling_product := F_falling_product.binds (ps := ["k", "many"]) fun _ _ _ _ _ _ us hl => match us, hl with | [_, _], _ => rfl
  obtain ⟨oc_many_dyeings, od_many_dyeings, osl_many_dyeings, kV_many_dyeings, doc_many_dyeings, pm_many_dyeings, an_many_dyeings, cdv_many_dyeings, ct_many_dyeings, l_many_dyeings, c_many_dyeings⟩ := c.def_ 14 (d := ⟨("many_dyeings", none), "many_dyeings", "many_dyeings", defArgs s_many_dyeings, defBody s_many_dyeings, defScope s_many_dyeings⟩) rfl
  obtain ⟨fd_many_dyeings, F_many_dyeings⟩ : ∃ fd : FuncData, Fun K "many_dyeings" "many_dyeings" s_many_dyeings (He.ga K "many_dyeings") fd := ⟨_, fun_mk (st := s_many_dyeings) l_many_dyeings c_many_dyeings (He.keep_ok (c.fact 58 (f := .keep "many_dyeings") rfl))⟩
  clear l_many_dyeings c_many_dyeings oc_many_dyeings od_many_dyeings osl_many_dyeings kV_many_dyeings doc_many_dyeings pm_many_dyeings an_many_dyeings cdv_many_dyeings ct_many_dyeings
  have b_many_dyeings := F_many_dyeings.binds (ps := ["web", "k"]) fun _ _ _ _ _ _ us hl => match us, hl with | [_, _], _ => rfl
  obtain ⟨oc_open_dyes, od_open_dyes, osl_open_dyes, kV_open_dyes, doc_open_dyes, pm_open_dyes, an_open_dyes, cdv_open_dyes, ct_open_dyes, l_open_dyes, c_open_dyes⟩ := c.def_ 15 (d := ⟨("open_dyes", none), "open_dyes", "open_dyes", defArgs s_open_dyes, defBody s_open_dyes, defScope s_open_dyes⟩) rfl
  obtain ⟨fd_open_dyes, F_open_dyes⟩ : ∃ fd : FuncData, Fun K "open_dyes" "open_dyes" s_open_dyes (He.ga K "open_dyes") fd := ⟨_, fun_mk (st := s_open_dyes) l_open_dyes c_open_dyes (He.keep_ok (c.fact 60 (f := .keep "open_dyes") rfl))⟩
  clear l_open_dyes c_open_dyes oc_open_dyes od_open_dyes osl_open_dyes kV_open_dyes doc_open_dyes pm_open_dyes an_open_dyes cdv_open_dyes ct_open_dyes
  have b_open_dyes := F_open_dyes.binds (ps := ["web", "k", "dyes"]) fun _ _ _ _ _ _ us hl => match us, hl with | [_, _, _], _ => rfl
  obtain ⟨oc_first_dyeing, od_first_dyeing, osl_first_dyeing, kV_first_dyeing, doc_first_dyeing, pm_first_dyeing, an_first_dyeing, cdv_first_dyeing, ct_first_dyeing, l_first_dyeing, c_first_dyeing⟩ := c.def_ 16 (d := ⟨("first_dyeing", none), "first_dyeing", "first_dyeing", defArgs s_first_dyeing, defBody s_first_dyeing, defScope s_first_dyeing⟩) rfl
  obtain ⟨fd_first_dyeing, F_first_dyeing⟩ : ∃ fd : FuncData, Fun K "first_dyeing" "first_dyeing" s_first_dyeing (He.ga K "first_dyeing") fd := ⟨_, fun_mk (st := s_first_dyeing) l_first_dyeing c_first_dyeing (He.keep_ok (c.fact 62 (f := .keep "first_dyeing") rfl))⟩
  clear l_first_dyeing c_first_dyeing oc_first_dyeing od_first_dyeing osl_first_dyeing kV_first_dyeing doc_first_dyeing pm_first_dyeing an_first_dyeing cdv_first_dyeing ct_first_dyeing
  have b_first_dyeing := F_first_dyeing.binds (ps := ["web", "k", "dyes"]) fun _ _ _ _ _ _ us hl => match us, hl with | [_, _, _], _ => rfl
  obtain ⟨oc_shut_tree, od_shut_tree, osl_shut_tree, kV_shut_tree, doc_shut_tree, pm_shut_tree, an_shut_tree, cdv_shut_tree, ct_shut_tree, l_shut_tree, c_shut_tree⟩ := c.def_ 17 (d := ⟨("shut_tree", none), "shut_tree", "shut_tree", defArgs s_shut_tree, defBody s_shut_tree, defScope s_shut_tree⟩) rfl
  obtain ⟨fd_shut_tree, F_shut_tree⟩ : ∃ fd : FuncData, Fun K "shut_tree" "shut_tree" s_shut_tree (He.ga K "shut_tree") fd := ⟨_, fun_mk (st := s_shut_tree) l_shut_tree c_shut_tree (He.keep_ok (c.fact 64 (f := .keep "shut_tree") rfl))⟩
  clear l_shut_tree c_shut_tree oc_shut_tree od_shut_tree osl_shut_tree kV_shut_tree doc_shut_tree pm_shut_tree an_shut_tree cdv_shut_tree ct_shut_tree
  have b_shut_tree := F_shut_tree.binds (ps := ["web", "k", "dyes"]) fun _ _ _ _ _ _ us hl => match us, hl with | [_, _, _], _ => rfl
  obtain ⟨oc_is_shut_tree, od_is_shut_tree, osl_is_shut_tree, kV_is_shut_tree, doc_is_shut_tree, pm_is_shut_tree, an_is_shut_tree, cdv_is_shut_tree, ct_is_shut_tree, l_is_shut_tree, c_is_shut_tree⟩ := c.def_ 18 (d := ⟨("is_shut_tree", none), "is_shut_tree", "is_shut_tree", defArgs s_is_shut_tree, defBody s_is_shut_tree, defScope s_is_shut_tree⟩) rfl
  obtain ⟨fd_is_shut_tree, F_is_shut_tree⟩ : ∃ fd : FuncData, Fun K "is_shut_tree" "is_shut_tree" s_is_shut_tree (He.ga K "is_shut_tree") fd := ⟨_, fun_mk (st := s_is_shut_tree) l_is_shut_tree c_is_shut_tree (He.keep_ok (c.fact 66 (f := .keep "is_shut_tree") rfl))⟩
  clear l_is_shut_tree c_is_shut_tree oc_is_shut_tree od_is_shut_tree osl_is_shut_tree kV_is_shut_tree doc_is_shut_tree pm_is_shut_tree an_is_shut_tree cdv_is_shut_tree ct_is_shut_tree
  have b_is_shut_tree := F_is_shut_tree.binds (ps := ["web", "k", "dyes", "value"]) fun _ _ _ _ _ _ us hl => match us, hl with | [_, _, _, _], _ => rfl
  obtain ⟨oc_dye_paper, od_dye_paper, osl_dye_paper, kV_dye_paper, doc_dye_paper, pm_dye_paper, an_dye_paper, cdv_dye_paper, ct_dye_paper, l_dye_paper, c_dye_paper⟩ := c.def_ 19 (d := ⟨("dye_paper", none), "dye_paper", "dye_paper", defArgs s_dye_paper, defBody s_dye_paper, defScope s_dye_paper⟩) rfl
  obtain ⟨fd_dye_paper, F_dye_paper⟩ : ∃ fd : FuncData, Fun K "dye_paper" "dye_paper" s_dye_paper (He.ga K "dye_paper") fd := ⟨_, fun_mk (st := s_dye_paper) l_dye_paper c_dye_paper (He.keep_ok (c.fact 68 (f := .keep "dye_paper") rfl))⟩
  clear l_dye_paper c_dye_paper oc_dye_paper od_dye_paper osl_dye_paper kV_dye_paper doc_dye_paper pm_dye_paper an_dye_paper cdv_dye_paper ct_dye_paper
  have b_dye_paper := F_dye_paper.binds (ps := ["web", "k"]) fun _ _ _ _ _ _ us hl => match us, hl with | [_, _], _ => rfl
  obtain ⟨oc_is_dye_paper, od_is_dye_paper, osl_is_dye_paper, kV_is_dye_paper, doc_is_dye_paper, pm_is_dye_paper, an_is_dye_paper, cdv_is_dye_paper, ct_is_dye_paper, l_is_dye_paper, c_is_dye_paper⟩ := c.def_ 20 (d := ⟨("is_dye_paper", none), "is_dye_paper", "is_dye_paper", defArgs s_is_dye_paper, defBody s_is_dye_paper, defScope s_is_dye_paper⟩) rfl
  obtain ⟨fd_is_dye_paper, F_is_dye_paper⟩ : ∃ fd : FuncData, Fun K "is_dye_paper" "is_dye_paper" s_is_dye_paper (He.ga K "is_dye_paper") fd := ⟨_, fun_mk (st := s_is_dye_paper) l_is_dye_paper c_is_dye_paper (He.keep_ok (c.fact 70 (f := .keep "is_dye_paper") rfl))⟩
  clear l_is_dye_paper c_is_dye_paper oc_is_dye_paper od_is_dye_paper osl_is_dye_paper kV_is_dye_paper doc_is_dye_paper pm_is_dye_paper an_is_dye_paper cdv_is_dye_paper ct_is_dye_paper
  have b_is_dye_paper := F_is_dye_paper.binds (ps := ["web", "k", "value"]) fun _ _ _ _ _ _ us hl => match us, hl with | [_, _, _], _ => rfl
  obtain ⟨oc_least_dyes, od_least_dyes, osl_least_dyes, kV_least_dyes, doc_least_dyes, pm_least_dyes, an_least_dyes, cdv_least_dyes, ct_least_dyes, l_least_dyes, c_least_dyes⟩ := c.def_ 21 (d := ⟨("least_dyes", none), "least_dyes", "least_dyes", defArgs s_least_dyes, defBody s_least_dyes, defScope s_least_dyes⟩) rfl
  obtain ⟨fd_least_dyes, F_least_dyes⟩ : ∃ fd : FuncData, Fun K "least_dyes" "least_dyes" s_least_dyes (He.ga K "least_dyes") fd := ⟨_, fun_mk (st := s_least_dyes) l_least_dyes c_least_dyes (He.keep_ok (c.fact 72 (f := .keep "least_dyes") rfl))⟩
  clear l_least_dyes c_least_dyes oc_least_dyes od_least_dyes osl_least_dyes kV_least_dyes doc_least_dyes pm_least_dyes an_least_dyes cdv_least_dyes ct_least_dyes
  have b_least_dyes := F_least_dyes.binds (ps := ["web"]) fun _ _ _ _ _ _ us hl => match us, hl with | [_], _ => rfl
  obtain ⟨oc_web_put, od_web_put, osl_web_put, kV_web_put, doc_web_put, pm_web_put, an_web_put, cdv_web_put, ct_web_put, l_web_put, c_web_put⟩ := c.def_ 22 (d := ⟨("web_put", none), "web_put", "web_put", defArgs s_web_put, defBody s_web_put, defScope s_web_put⟩) rfl
  obtain ⟨fd_web_put, F_web_put⟩ : ∃ fd : FuncData, Fun K "web_put" "web_put" s_web_put (He.ga K "web_put") fd := ⟨_, fun_mk (st := s_web_put) l_web_put c_web_put (He.keep_ok (c.fact 74 (f := .keep "web_put") rfl))⟩
  clear l_web_put c_web_put oc_web_put od_web_put osl_web_put kV_web_put doc_web_put pm_web_put an_web_put cdv_web_put ct_web_put
  have b_web_put := F_web_put.binds (ps := ["web", "place", "other_place"]) fun _ _ _ _ _ _ us hl => match us, hl with | [_, _, _], _ => rfl
  obtain ⟨oc_put, od_put, osl_put, kV_put, doc_put, pm_put, an_put, cdv_put, ct_put, l_put, c_put⟩ := c.def_ 23 (d := ⟨("put", none), "put", "put", defArgs s_put, defBody s_put, defScope s_put⟩) rfl
  obtain ⟨fd_put, F_put⟩ : ∃ fd : FuncData, Fun K "put" "put" s_put (He.ga K "put") fd := ⟨_, fun_mk (st := s_put) l_put c_put (He.keep_ok (c.fact 76 (f := .keep "put") rfl))⟩
  clear l_put c_put oc_put od_put osl_put kV_put doc_put pm_put an_put cdv_put ct_put
  have b_put := F_put.binds (ps := ["web", "place", "other_place"]) fun _ _ _ _ _ _ us hl => match us, hl with | [_, _, _], _ => rfl
  obtain ⟨oc__law_begun, od__law_begun, osl__law_begun, kV__law_begun, doc__law_begun, pm__law_begun, an__law_begun, cdv__law_begun, ct__law_begun, l__law_begun, c__law_begun⟩ := c.def_ 24 (d := ⟨("_law_begun", none), "_law_begun", "_law_begun", defArgs s__law_begun, defBody s__law_begun, defScope s__law_begun⟩) rfl
  obtain ⟨fd__law_begun, F__law_begun⟩ : ∃ fd : FuncData, Fun K "_law_begun" "_law_begun" s__law_begun (He.ga K "_law_begun") fd := ⟨_, fun_mk (st := s__law_begun) l__law_begun c__law_begun (He.keep_ok (c.fact 78 (f := .keep "_law_begun") rfl))⟩
  clear l__law_begun c__law_begun oc__law_begun od__law_begun osl__law_begun kV__law_begun doc__law_begun pm__law_begun an__law_begun cdv__law_begun ct__law_begun
  have b__law_begun := F__law_begun.binds (ps := ["script"]) fun _ _ _ _ _ _ us hl => match us, hl with | [_], _ => rfl
  obtain ⟨oc__law_blended, od__law_blended, osl__law_blended, kV__law_blended, doc__law_blended, pm__law_blended, an__law_blended, cdv__law_blended, ct__law_blended, l__law_blended, c__law_blended⟩ := c.def_ 25 (d := ⟨("_law_blended", none), "_law_blended", "_law_blended", defArgs s__law_blended, defBody s__law_blended, defScope s__law_blended⟩) rfl
  obtain ⟨fd__law_blended, F__law_blended⟩ : ∃ fd : FuncData, Fun K "_law_blended" "_law_blended" s__law_blended (He.ga K "_law_blended") fd := ⟨_, fun_mk (st := s__law_blended) l__law_blended c__law_blended (He.keep_ok (c.fact 80 (f := .keep "_law_blended") rfl))⟩
  clear l__law_blended c__law_blended oc__law_blended od__law_blended osl__law_blended kV__law_blended doc__law_blended pm__law_blended an__law_blended cdv__law_blended ct__law_blended
  have b__law_blended := F__law_blended.binds (ps := ["state"]) fun _ _ _ _ _ _ us hl => match us, hl with | [_], _ => rfl
  obtain ⟨oc__law_draw, od__law_draw, osl__law_draw, kV__law_draw, doc__law_draw, pm__law_draw, an__law_draw, cdv__law_draw, ct__law_draw, l__law_draw, c__law_draw⟩ := c.def_ 26 (d := ⟨("_law_draw", none), "_law_draw", "_law_draw", defArgs s__law_draw, defBody s__law_draw, defScope s__law_draw⟩) rfl
  obtain ⟨fd__law_draw, F__law_draw⟩ : ∃ fd : FuncData, Fun K "_law_draw" "_law_draw" s__law_draw (He.ga K "_law_draw") fd := ⟨_, fun_mk (st := s__law_draw) l__law_draw c__law_draw (He.keep_ok (c.fact 82 (f := .keep "_law_draw") rfl))⟩
  clear l__law_draw c__law_draw oc__law_draw od__law_draw osl__law_draw kV__law_draw doc__law_draw pm__law_draw an__law_draw cdv__law_draw ct__law_draw
  have b__law_draw := F__law_draw.binds (ps := ["state", "room"]) fun _ _ _ _ _ _ us hl => match us, hl with | [_, _], _ => rfl
  obtain ⟨oc__law_pick, od__law_pick, osl__law_pick, kV__law_pick, doc__law_pick, pm__law_pick, an__law_pick, cdv__law_pick, ct__law_pick, l__law_pick, c__law_pick⟩ := c.def_ 27 (d := ⟨("_law_pick", none), "_law_pick", "_law_pick", defArgs s__law_pick, defBody s__law_pick, defScope s__law_pick⟩) rfl
  obtain ⟨fd__law_pick, F__law_pick⟩ : ∃ fd : FuncData, Fun K "_law_pick" "_law_pick" s__law_pick (He.ga K "_law_pick") fd := ⟨_, fun_mk (st := s__law_pick) l__law_pick c__law_pick (He.keep_ok (c.fact 84 (f := .keep "_law_pick") rfl))⟩
  clear l__law_pick c__law_pick oc__law_pick od__law_pick osl__law_pick kV__law_pick doc__law_pick pm__law_pick an__law_pick cdv__law_pick ct__law_pick
  have b__law_pick := F__law_pick.binds (ps := ["state", "some"]) fun _ _ _ _ _ _ us hl => match us, hl with | [_, _], _ => rfl
  obtain ⟨oc__law_shuffled, od__law_shuffled, osl__law_shuffled, kV__law_shuffled, doc__law_shuffled, pm__law_shuffled, an__law_shuffled, cdv__law_shuffled, ct__law_shuffled, l__law_shuffled, c__law_shuffled⟩ := c.def_ 28 (d := ⟨("_law_shuffled", none), "_law_shuffled", "_law_shuffled", defArgs s__law_shuffled, defBody s__law_shuffled, defScope s__law_shuffled⟩) rfl
  obtain ⟨fd__law_shuffled, F__law_shuffled⟩ : ∃ fd : FuncData, Fun K "_law_shuffled" "_law_shuffled" s__law_shuffled (He.ga K "_law_shuffled") fd := ⟨_, fun_mk (st := s__law_shuffled) l__law_shuffled c__law_shuffled (He.keep_ok (c.fact 86 (f := .keep "_law_shuffled") rfl))⟩
  clear l__law_shuffled c__law_shuffled oc__law_shuffled od__law_shuffled osl__law_shuffled kV__law_shuffled doc__law_shuffled pm__law_shuffled an__law_shuffled cdv__law_shuffled ct__law_shuffled
  have b__law_shuffled := F__law_shuffled.binds (ps := ["state", "some"]) fun _ _ _ _ _ _ us hl => match us, hl with | [_, _], _ => rfl
  obtain ⟨oc__law_caught, od__law_caught, osl__law_caught, kV__law_caught, doc__law_caught, pm__law_caught, an__law_caught, cdv__law_caught, ct__law_caught, l__law_caught, c__law_caught⟩ := c.def_ 29 (d := ⟨("_law_caught", none), "_law_caught", "_law_caught", defArgs s__law_caught, defBody s__law_caught, defScope s__law_caught⟩) rfl
  have F__law_caught : Fun K "_law_caught" "_law_caught" s__law_caught (He.ga K "_law_caught") _ := fun_mk (st := s__law_caught) l__law_caught c__law_caught (He.keep_ok (c.fact 88 (f := .keep "_law_caught") rfl))
  have b__law_caught := F__law_caught.binds (ps := ["action"]) fun _ _ _ _ _ _ us hl => match us, hl with | [_], _ => rfl
  obtain ⟨oc__law_is_truth, od__law_is_truth, osl__law_is_truth, kV__law_is_truth, doc__law_is_truth, pm__law_is_truth, an__law_is_truth, cdv__law_is_truth, ct__law_is_truth, l__law_is_truth, c__law_is_truth⟩ := c.def_ 30 (d := ⟨("_law_is_truth", none), "_law_is_truth", "_law_is_truth", defArgs s__law_is_truth, defBody s__law_is_truth, defScope s__law_is_truth⟩) rfl
  obtain ⟨fd__law_is_truth, F__law_is_truth⟩ : ∃ fd : FuncData, Fun K "_law_is_truth" "_law_is_truth" s__law_is_truth (He.ga K "_law_is_truth") fd := ⟨_, fun_mk (st := s__law_is_truth) l__law_is_truth c__law_is_truth (He.keep_ok (c.fact 90 (f := .keep "_law_is_truth") rfl))⟩
  clear l__law_is_truth c__law_is_truth oc__law_is_truth od__law_is_truth osl__law_is_truth kV__law_is_truth doc__law_is_truth pm__law_is_truth an__law_is_truth cdv__law_is_truth ct__law_is_truth
  have b__law_is_truth := F__law_is_truth.binds (ps := ["found", "due"]) fun _ _ _ _ _ _ us hl => match us, hl with | [_, _], _ => rfl
  obtain ⟨oc__law_same, od__law_same, osl__law_same, kV__law_same, doc__law_same, pm__law_same, an__law_same, cdv__law_same, ct__law_same, l__law_same, c__law_same⟩ := c.def_ 31 (d := ⟨("_law_same", none), "_law_same", "_law_same", defArgs s__law_same, defBody s__law_same, defScope s__law_same⟩) rfl
  obtain ⟨fd__law_same, F__law_same⟩ : ∃ fd : FuncData, Fun K "_law_same" "_law_same" s__law_same (He.ga K "_law_same") fd := ⟨_, fun_mk (st := s__law_same) l__law_same c__law_same (He.keep_ok (c.fact 92 (f := .keep "_law_same") rfl))⟩
  clear l__law_same c__law_same oc__law_same od__law_same osl__law_same kV__law_same doc__law_same pm__law_same an__law_same cdv__law_same ct__law_same
  have b__law_same := F__law_same.binds (ps := ["found", "due"]) fun _ _ _ _ _ _ us hl => match us, hl with | [_, _], _ => rfl
  obtain ⟨oc__law_made, od__law_made, osl__law_made, kV__law_made, doc__law_made, pm__law_made, an__law_made, cdv__law_made, ct__law_made, l__law_made, c__law_made⟩ := c.def_ 32 (d := ⟨("_law_made", none), "_law_made", "_law_made", defArgs s__law_made, defBody s__law_made, defScope s__law_made⟩) rfl
  obtain ⟨fd__law_made, F__law_made⟩ : ∃ fd : FuncData, Fun K "_law_made" "_law_made" s__law_made (He.ga K "_law_made") fd := ⟨_, fun_mk (st := s__law_made) l__law_made c__law_made (He.keep_ok (c.fact 94 (f := .keep "_law_made") rfl))⟩
  clear l__law_made c__law_made oc__law_made od__law_made osl__law_made kV__law_made doc__law_made pm__law_made an__law_made cdv__law_made ct__law_made
  have b__law_made := F__law_made.binds (ps := ["n", "ties"]) fun _ _ _ _ _ _ us hl => match us, hl with | [_, _], _ => rfl
  obtain ⟨oc__law_web, od__law_web, osl__law_web, kV__law_web, doc__law_web, pm__law_web, an__law_web, cdv__law_web, ct__law_web, l__law_web, c__law_web⟩ := c.def_ 33 (d := ⟨("_law_web", none), "_law_web", "_law_web", defArgs s__law_web, defBody s__law_web, defScope s__law_web⟩) rfl
  obtain ⟨fd__law_web, F__law_web⟩ : ∃ fd : FuncData, Fun K "_law_web" "_law_web" s__law_web (He.ga K "_law_web") fd := ⟨_, fun_mk (st := s__law_web) l__law_web c__law_web (He.keep_ok (c.fact 96 (f := .keep "_law_web") rfl))⟩
  clear l__law_web c__law_web oc__law_web od__law_web osl__law_web kV__law_web doc__law_web pm__law_web an__law_web cdv__law_web ct__law_web
  have b__law_web := F__law_web.binds (ps := ["draws", "places", "most"]) fun _ _ _ _ _ _ us hl => match us, hl with | [_, _, _], _ => rfl
  obtain ⟨oc__law_shuffled_web, od__law_shuffled_web, osl__law_shuffled_web, kV__law_shuffled_web, doc__law_shuffled_web, pm__law_shuffled_web, an__law_shuffled_web, cdv__law_shuffled_web, ct__law_shuffled_web, l__law_shuffled_web, c__law_shuffled_web⟩ := c.def_ 34 (d := ⟨("_law_shuffled_web", none), "_law_shuffled_web", "_law_shuffled_web", defArgs s__law_shuffled_web, defBody s__law_shuffled_web, defScope s__law_shuffled_web⟩) rfl
  obtain ⟨fd__law_shuffled_web, F__law_shuffled_web⟩ : ∃ fd : FuncData, Fun K "_law_shuffled_web" "_law_shuffled_web" s__law_shuffled_web (He.ga K "_law_shuffled_web") fd := ⟨_, fun_mk (st := s__law_shuffled_web) l__law_shuffled_web c__law_shuffled_web (He.keep_ok (c.fact 98 (f := .keep "_law_shuffled_web") rfl))⟩
  clear l__law_shuffled_web c__law_shuffled_web oc__law_shuffled_web od__law_shuffled_web osl__law_shuffled_web kV__law_shuffled_web doc__law_shuffled_web pm__law_shuffled_web an__law_shuffled_web cdv__law_shuffled_web ct__law_shuffled_web
  have b__law_shuffled_web := F__law_shuffled_web.binds (ps := ["draws", "n", "ties"]) fun _ _ _ _ _ _ us hl => match us, hl with | [_, _, _], _ => rfl
  obtain ⟨oc__law_odd, od__law_odd, osl__law_odd, kV__law_odd, doc__law_odd, pm__law_odd, an__law_odd, cdv__law_odd, ct__law_odd, l__law_odd, c__law_odd⟩ := c.def_ 35 (d := ⟨("_law_odd", none), "_law_odd", "_law_odd", defArgs s__law_odd, defBody s__law_odd, defScope s__law_odd⟩) rfl
  obtain ⟨fd__law_odd, F__law_odd⟩ : ∃ fd : FuncData, Fun K "_law_odd" "_law_odd" s__law_odd (He.ga K "_law_odd") fd := ⟨_, fun_mk (st := s__law_odd) l__law_odd c__law_odd (He.keep_ok (c.fact 100 (f := .keep "_law_odd") rfl))⟩
  clear l__law_odd c__law_odd oc__law_odd od__law_odd osl__law_odd kV__law_odd doc__law_odd pm__law_odd an__law_odd cdv__law_odd ct__law_odd
  have b__law_odd := F__law_odd.binds (ps := ["draws"]) fun _ _ _ _ _ _ us hl => match us, hl with | [_], _ => rfl
  obtain ⟨oc__law_are_wholes, od__law_are_wholes, osl__law_are_wholes, kV__law_are_wholes, doc__law_are_wholes, pm__law_are_wholes, an__law_are_wholes, cdv__law_are_wholes, ct__law_are_wholes, l__law_are_wholes, c__law_are_wholes⟩ := c.def_ 36 (d := ⟨("_law_are_wholes", none), "_law_are_wholes", "_law_are_wholes", defArgs s__law_are_wholes, defBody s__law_are_wholes, defScope s__law_are_wholes⟩) rfl
  obtain ⟨fd__law_are_wholes, F__law_are_wholes⟩ : ∃ fd : FuncData, Fun K "_law_are_wholes" "_law_are_wholes" s__law_are_wholes (He.ga K "_law_are_wholes") fd := ⟨_, fun_mk (st := s__law_are_wholes) l__law_are_wholes c__law_are_wholes (He.keep_ok (c.fact 102 (f := .keep "_law_are_wholes") rfl))⟩
  clear l__law_are_wholes c__law_are_wholes oc__law_are_wholes od__law_are_wholes osl__law_are_wholes kV__law_are_wholes doc__law_are_wholes pm__law_are_wholes an__law_are_wholes cdv__law_are_wholes ct__law_are_wholes
  have b__law_are_wholes := F__law_are_wholes.binds (ps := ["value"]) fun _ _ _ _ _ _ us hl => match us, hl with | [_], _ => rfl
  obtain ⟨oc__law_is_dyeing, od__law_is_dyeing, osl__law_is_dyeing, kV__law_is_dyeing, doc__law_is_dyeing, pm__law_is_dyeing, an__law_is_dyeing, cdv__law_is_dyeing, ct__law_is_dyeing, l__law_is_dyeing, c__law_is_dyeing⟩ := c.def_ 37 (d := ⟨("_law_is_dyeing", none), "_law_is_dyeing", "_law_is_dyeing", defArgs s__law_is_dyeing, defBody s__law_is_dyeing, defScope s__law_is_dyeing⟩) rfl
  obtain ⟨fd__law_is_dyeing, F__law_is_dyeing⟩ : ∃ fd : FuncData, Fun K "_law_is_dyeing" "_law_is_dyeing" s__law_is_dyeing (He.ga K "_law_is_dyeing") fd := ⟨_, fun_mk (st := s__law_is_dyeing) l__law_is_dyeing c__law_is_dyeing (He.keep_ok (c.fact 104 (f := .keep "_law_is_dyeing") rfl))⟩
  clear l__law_is_dyeing c__law_is_dyeing oc__law_is_dyeing od__law_is_dyeing osl__law_is_dyeing kV__law_is_dyeing doc__law_is_dyeing pm__law_is_dyeing an__law_is_dyeing cdv__law_is_dyeing ct__law_is_dyeing
  have b__law_is_dyeing := F__law_is_dyeing.binds (ps := ["web", "k", "value"]) fun _ _ _ _ _ _ us hl => match us, hl with | [_, _, _], _ => rfl
  obtain ⟨oc__law_bent, od__law_bent, osl__law_bent, kV__law_bent, doc__law_bent, pm__law_bent, an__law_bent, cdv__law_bent, ct__law_bent, l__law_bent, c__law_bent⟩ := c.def_ 38 (d := ⟨("_law_bent", none), "_law_bent", "_law_bent", defArgs s__law_bent, defBody s__law_bent, defScope s__law_bent⟩) rfl
  obtain ⟨fd__law_bent, F__law_bent⟩ : ∃ fd : FuncData, Fun K "_law_bent" "_law_bent" s__law_bent (He.ga K "_law_bent") fd := ⟨_, fun_mk (st := s__law_bent) l__law_bent c__law_bent (He.keep_ok (c.fact 106 (f := .keep "_law_bent") rfl))⟩
  clear l__law_bent c__law_bent oc__law_bent od__law_bent osl__law_bent kV__law_bent doc__law_bent pm__law_bent an__law_bent cdv__law_bent ct__law_bent
  have b__law_bent := F__law_bent.binds (ps := ["draws", "value"]) fun _ _ _ _ _ _ us hl => match us, hl with | [_, _], _ => rfl
  obtain ⟨oc__law_bad_word, od__law_bad_word, osl__law_bad_word, kV__law_bad_word, doc__law_bad_word, pm__law_bad_word, an__law_bad_word, cdv__law_bad_word, ct__law_bad_word, l__law_bad_word, c__law_bad_word⟩ := c.def_ 39 (d := ⟨("_law_bad_word", none), "_law_bad_word", "_law_bad_word", defArgs s__law_bad_word, defBody s__law_bad_word, defScope s__law_bad_word⟩) rfl
  have F__law_bad_word : Fun K "_law_bad_word" "_law_bad_word" s__law_bad_word (He.ga K "_law_bad_word") _ := fun_mk (st := s__law_bad_word) l__law_bad_word c__law_bad_word (He.keep_ok (c.fact 108 (f := .keep "_law_bad_word") rfl))
  have b__law_bad_word := F__law_bad_word.binds (ps := ["action", "word"]) fun _ _ _ _ _ _ us hl => match us, hl with | [_, _], _ => rfl
  obtain ⟨oc__law_far_number, od__law_far_number, osl__law_far_number, kV__law_far_number, doc__law_far_number, pm__law_far_number, an__law_far_number, cdv__law_far_number, ct__law_far_number, l__law_far_number, c__law_far_number⟩ := c.def_ 40 (d := ⟨("_law_far_number", none), "_law_far_number", "_law_far_number", defArgs s__law_far_number, defBody s__law_far_number, defScope s__law_far_number⟩) rfl
  obtain ⟨fd__law_far_number, F__law_far_number⟩ : ∃ fd : FuncData, Fun K "_law_far_number" "_law_far_number" s__law_far_number (He.ga K "_law_far_number") fd := ⟨_, fun_mk (st := s__law_far_number) l__law_far_number c__law_far_number (He.keep_ok (c.fact 110 (f := .keep "_law_far_number") rfl))⟩
  clear l__law_far_number c__law_far_number oc__law_far_number od__law_far_number osl__law_far_number kV__law_far_number doc__law_far_number pm__law_far_number an__law_far_number cdv__law_far_number ct__law_far_number
  have b__law_far_number := F__law_far_number.binds (ps := ["draws", "low", "high"]) fun _ _ _ _ _ _ us hl => match us, hl with | [_, _, _], _ => rfl
  obtain ⟨oc__law_next, od__law_next, osl__law_next, kV__law_next, doc__law_next, pm__law_next, an__law_next, cdv__law_next, ct__law_next, l__law_next, c__law_next⟩ := c.def_ 41 (d := ⟨("_law_next", none), "_law_next", "_law_next", defArgs s__law_next, defBody s__law_next, defScope s__law_next⟩) rfl
  obtain ⟨fd__law_next, F__law_next⟩ : ∃ fd : FuncData, Fun K "_law_next" "_law_next" s__law_next (He.ga K "_law_next") fd := ⟨_, fun_mk (st := s__law_next) l__law_next c__law_next (He.keep_ok (c.fact 112 (f := .keep "_law_next") rfl))⟩
  clear l__law_next c__law_next oc__law_next od__law_next osl__law_next kV__law_next doc__law_next pm__law_next an__law_next cdv__law_next ct__law_next
  have b__law_next := F__law_next.binds (ps := ["web", "k", "dyes"]) fun _ _ _ _ _ _ us hl => match us, hl with | [_, _, _], _ => rfl
  obtain ⟨oc__law_is_paper, od__law_is_paper, osl__law_is_paper, kV__law_is_paper, doc__law_is_paper, pm__law_is_paper, an__law_is_paper, cdv__law_is_paper, ct__law_is_paper, l__law_is_paper, c__law_is_paper⟩ := c.def_ 42 (d := ⟨("_law_is_paper", none), "_law_is_paper", "_law_is_paper", defArgs s__law_is_paper, defBody s__law_is_paper, defScope s__law_is_paper⟩) rfl
  obtain ⟨fd__law_is_paper, F__law_is_paper⟩ : ∃ fd : FuncData, Fun K "_law_is_paper" "_law_is_paper" s__law_is_paper (He.ga K "_law_is_paper") fd := ⟨_, fun_mk (st := s__law_is_paper) l__law_is_paper c__law_is_paper (He.keep_ok (c.fact 114 (f := .keep "_law_is_paper") rfl))⟩
  clear l__law_is_paper c__law_is_paper oc__law_is_paper od__law_is_paper osl__law_is_paper kV__law_is_paper doc__law_is_paper pm__law_is_paper an__law_is_paper cdv__law_is_paper ct__law_is_paper
  have b__law_is_paper := F__law_is_paper.binds (ps := ["web", "k", "value"]) fun _ _ _ _ _ _ us hl => match us, hl with | [_, _, _], _ => rfl
  obtain ⟨oc__law_judged, od__law_judged, osl__law_judged, kV__law_judged, doc__law_judged, pm__law_judged, an__law_judged, cdv__law_judged, ct__law_judged, l__law_judged, c__law_judged⟩ := c.def_ 43 (d := ⟨("_law_judged", none), "_law_judged", "_law_judged", defArgs s__law_judged, defBody s__law_judged, defScope s__law_judged⟩) rfl
  obtain ⟨fd__law_judged, F__law_judged⟩ : ∃ fd : FuncData, Fun K "_law_judged" "_law_judged" s__law_judged (He.ga K "_law_judged") fd := ⟨_, fun_mk (st := s__law_judged) l__law_judged c__law_judged (He.keep_ok (c.fact 116 (f := .keep "_law_judged") rfl))⟩
  clear l__law_judged c__law_judged oc__law_judged od__law_judged osl__law_judged kV__law_judged doc__law_judged pm__law_judged an__law_judged cdv__law_judged ct__law_judged
  have b__law_judged := F__law_judged.binds (ps := ["web", "k", "value"]) fun _ _ _ _ _ _ us hl => match us, hl with | [_, _, _], _ => rfl
  obtain ⟨oc__law_changed, od__law_changed, osl__law_changed, kV__law_changed, doc__law_changed, pm__law_changed, an__law_changed, cdv__law_changed, ct__law_changed, l__law_changed, c__law_changed⟩ := c.def_ 44 (d := ⟨("_law_changed", none), "_law_changed", "_law_changed", defArgs s__law_changed, defBody s__law_changed, defScope s__law_changed⟩) rfl
  obtain ⟨fd__law_changed, F__law_changed⟩ : ∃ fd : FuncData, Fun K "_law_changed" "_law_changed" s__law_changed (He.ga K "_law_changed") fd := ⟨_, fun_mk (st := s__law_changed) l__law_changed c__law_changed (He.keep_ok (c.fact 118 (f := .keep "_law_changed") rfl))⟩
  clear l__law_changed c__law_changed oc__law_changed od__law_changed osl__law_changed kV__law_changed doc__law_changed pm__law_changed an__law_changed cdv__law_changed ct__law_changed
  have b__law_changed := F__law_changed.binds (ps := ["draws", "value"]) fun _ _ _ _ _ _ us hl => match us, hl with | [_, _], _ => rfl
  obtain ⟨oc__law_goes, od__law_goes, osl__law_goes, kV__law_goes, doc__law_goes, pm__law_goes, an__law_goes, cdv__law_goes, ct__law_goes, l__law_goes, c__law_goes⟩ := c.def_ 45 (d := ⟨("_law_goes", none), "_law_goes", "_law_goes", defArgs s__law_goes, defBody s__law_goes, defScope s__law_goes⟩) rfl
  obtain ⟨fd__law_goes, F__law_goes⟩ : ∃ fd : FuncData, Fun K "_law_goes" "_law_goes" s__law_goes (He.ga K "_law_goes") fd := ⟨_, fun_mk (st := s__law_goes) l__law_goes c__law_goes (He.keep_ok (c.fact 120 (f := .keep "_law_goes") rfl))⟩
  clear l__law_goes c__law_goes oc__law_goes od__law_goes osl__law_goes kV__law_goes doc__law_goes pm__law_goes an__law_goes cdv__law_goes ct__law_goes
  have b__law_goes := F__law_goes.binds (ps := ["draws", "web", "k"]) fun _ _ _ _ _ _ us hl => match us, hl with | [_, _, _], _ => rfl
  obtain ⟨oc__law_least_right, od__law_least_right, osl__law_least_right, kV__law_least_right, doc__law_least_right, pm__law_least_right, an__law_least_right, cdv__law_least_right, ct__law_least_right, l__law_least_right, c__law_least_right⟩ := c.def_ 46 (d := ⟨("_law_least_right", none), "_law_least_right", "_law_least_right", defArgs s__law_least_right, defBody s__law_least_right, defScope s__law_least_right⟩) rfl
  obtain ⟨fd__law_least_right, F__law_least_right⟩ : ∃ fd : FuncData, Fun K "_law_least_right" "_law_least_right" s__law_least_right (He.ga K "_law_least_right") fd := ⟨_, fun_mk (st := s__law_least_right) l__law_least_right c__law_least_right (He.keep_ok (c.fact 122 (f := .keep "_law_least_right") rfl))⟩
  clear l__law_least_right c__law_least_right oc__law_least_right od__law_least_right osl__law_least_right kV__law_least_right doc__law_least_right pm__law_least_right an__law_least_right cdv__law_least_right ct__law_least_right
  have b__law_least_right := F__law_least_right.binds (ps := ["draws", "web"]) fun _ _ _ _ _ _ us hl => match us, hl with | [_, _], _ => rfl
  obtain ⟨oc_law, od_law, osl_law, kV_law, doc_law, pm_law, an_law, cdv_law, ct_law, l_law, c_law⟩ := c.def_ 47 (d := ⟨("law", none), "law", "law", defArgs s_law, defBody s_law, defScope s_law⟩) rfl
  have e_law := tabB_code t0 (He.eqO_ok (c.fact 123 (f := .glo "law") rfl)) l_law
  replace e_law : cdv_law = .ref (tc K "law") := e_law
  subst e_law
  have F_law : Fun K "law" "law" s_law (He.ga K "law") _ := fun_mk (st := s_law) l_law c_law (He.keep_ok (c.fact 124 (f := .keep "law") rfl))
  have b_law := F_law.binds (ps := ["script"]) fun _ _ _ _ _ _ us hl => match us, hl with | [_], _ => rfl
  have e_fa := hfa.symm.trans m_law
  have e_fa : fa = He.ga K "law" := by injection e_fa with e; injection e
  subst e_fa
  obtain ⟨TT, hTT⟩ : ∃ TT : List (Addr × Str), TT = [(tP K "law", (envOfC "law" (defScope s_law) 0 0 .none).qual ++ "<lambda>")] := ⟨_, rfl⟩
  refine ⟨PySem.W.fnOf "law" "law" (defArgs s_law) (defBody s_law) (defScope s_law) .none kV_law doc_law pm_law an_law (.ref (tc K "law")) ct_law, [(tc K "law", tP K "law")], LawSp K TT 63, List.forall_mem_cons.mpr ⟨hT0, fun _ z => nomatch z⟩, List.forall_mem_cons.mpr ⟨nT0, fun _ z => nomatch z⟩, List.forall_mem_cons.mpr ⟨C0, fun _ z => nomatch z⟩, fun s v => .of_eq rfl, fun H a ns hl hb hH hS => ⟨a, ns, rfl, hl, hb, hS, tabs0 ?_, fun _ => rfl⟩, fun base KB NB TB => ?_⟩
  · rw [hTT]; exact List.forall_mem_cons.mpr ⟨(hH (tc K "law", tP K "law") (by simp)), fun _ z => nomatch z⟩
  have X_BadWeb := excSB_ok q0 m_BadWeb
  have X_BadPlace := excSB_ok q1 m_BadPlace
  have XW := (excCB_ok q2).isi
  have XD := excCB_ok q3
  have XM := excMk_ok (w := w) (base := base) (x := "BadNumber") (s1 := "self") (s2 := "word") q4 ⟨_, _, _, _, _, _, _, _, _, _, _, rfl, fun _ _ _ _ => rfl⟩ ⟨⟨_, rfl, rfl⟩, rfl, rfl, rfl, by decide +kernel, by decide +kernel, by decide +kernel, by decide +kernel, by decide +kernel, by decide +kernel, by decide +kernel, by decide +kernel, by decide +kernel, fun _ _ _ _ _ _ _ _ us hl => match us, hl with | [_, _], _ => rfl⟩ so_BadNumber m_BadNumber m_super
  have XT := excMk_ok (w := w) (base := base) (x := "TooMany") (s1 := "self") (s2 := "most") q5 ⟨_, _, _, _, _, _, _, _, _, _, _, rfl, fun _ _ _ _ => rfl⟩ ⟨⟨_, rfl, rfl⟩, rfl, rfl, rfl, by decide +kernel, by decide +kernel, by decide +kernel, by decide +kernel, by decide +kernel, by decide +kernel, by decide +kernel, by decide +kernel, by decide +kernel, fun _ _ _ _ _ _ _ _ us hl => match us, hl with | [_, _], _ => rfl⟩ so_TooMany m_TooMany m_super
  have X_BadNumber := XM.1
  have hw := XM.2
  have X_TooMany := XT.1
  have kW := of_decide_eq_true q8
  have kN := of_decide_eq_true q9
  have kT := of_decide_eq_true q10
  obtain ⟨okC, hokC⟩ : ∃ okC : Addr → Prop, okC = fun C => C = He.ga K "BadNumber" ∨ C = He.ga K "BadWeb" := ⟨_, rfl⟩
  have ho2 : okC (He.ga K "BadNumber") := by rw [hokC]; exact .inl rfl
  have ho : okC (He.ga K "BadWeb") := by rw [hokC]; exact .inr rfl
  have hok : ∀ C, okC C → PySem.W.exmOne K (.ref C) (.ref (He.ga K "WebError")) = some true := by
    intro C hC
    rw [hokC] at hC
    rcases hC with rfl | rfl
    · exact of_decide_eq_true q6
    · exact of_decide_eq_true q7
  have LK_law : LamK base mg TT (tc K "law") (tP K "law") (envOfC "law" (defScope s_law) 0 0 .none).qual := ⟨TB (tc K "law", tP K "law") (by simp), by rw [hTT]; simp, fun p hp e => by
    rw [hTT] at hp
    simp only [List.mem_cons, List.not_mem_nil, or_false] at hp
    rcases hp with rfl
    · rfl⟩
  have CA : CaughtK K mg s__law_caught (He.ga K "_law_caught") (.ref (He.ga K "WebError")) okC := ⟨m__law_caught, He.keep_ok (c.fact 88 (f := .keep "_law_caught") rfl), ⟨_, _, _, _, _, _, _, _, _, l__law_caught, c__law_caught, b__law_caught⟩, m_WebError, hok⟩
  have DK__law_bad_word : DefK K mg "_law_bad_word" s__law_bad_word (He.ga K "_law_bad_word") ["action", "word"] := ⟨m__law_bad_word, He.keep_ok (c.fact 108 (f := .keep "_law_bad_word") rfl), ⟨_, _, _, _, _, _, _, _, _, l__law_bad_word, c__law_bad_word, b__law_bad_word⟩⟩
  have G_is_whole := ok_is_whole (P := PySem.Challenge.rw_ringsandcuts_k61_whole_papers_of_dyeings.prog) (w := w) (base := base) (T := TT) (B := B) (F := F_is_whole) (hm := m_is_whole) (hb := b_is_whole)
  have G_made := ok_made (P := PySem.Challenge.rw_ringsandcuts_k61_whole_papers_of_dyeings.prog) (w := w) (base := base) (T := TT) (B := B) (F := F_made) (hm := m_made) (hb := b_made)
  have G_is_tied := ok_is_tied (P := PySem.Challenge.rw_ringsandcuts_k61_whole_papers_of_dyeings.prog) (w := w) (base := base) (T := TT) (B := B) (F := F_is_tied) (hm := m_is_tied) (hb := b_is_tied)
  have G_falling_product := ok_falling_product (P := PySem.Challenge.rw_ringsandcuts_k61_whole_papers_of_dyeings.prog) (w := w) (base := base) (T := TT) (B := B) (F := F_falling_product) (hm := m_falling_product) (hb := b_falling_product)
  have G__law_begun := ok__law_begun (P := PySem.Challenge.rw_ringsandcuts_k61_whole_papers_of_dyeings.prog) (w := w) (base := base) (T := TT) (B := B) (F := F__law_begun) (hm := m__law_begun) (hb := b__law_begun)
  have G__law_blended := ok__law_blended (P := PySem.Challenge.rw_ringsandcuts_k61_whole_papers_of_dyeings.prog) (w := w) (base := base) (T := TT) (B := B) (F := F__law_blended) (hm := m__law_blended) (hb := b__law_blended)
  have G__law_is_truth := ok__law_is_truth (P := PySem.Challenge.rw_ringsandcuts_k61_whole_papers_of_dyeings.prog) (w := w) (base := base) (T := TT) (B := B) (F := F__law_is_truth) (hm := m__law_is_truth) (hb := b__law_is_truth)
  have G__law_made := ok__law_made (P := PySem.Challenge.rw_ringsandcuts_k61_whole_papers_of_dyeings.prog) (w := w) (base := base) (T := TT) (B := B) (F := F__law_made) (hm := m__law_made) (hb := b__law_made)
  have G__law_are_wholes := ok__law_are_wholes (P := PySem.Challenge.rw_ringsandcuts_k61_whole_papers_of_dyeings.prog) (w := w) (base := base) (T := TT) (B := B) (F := F__law_are_wholes) (hm := m__law_are_wholes) (hb := b__law_are_wholes)
  have G__law_next := ok__law_next (P := PySem.Challenge.rw_ringsandcuts_k61_whole_papers_of_dyeings.prog) (w := w) (base := base) (T := TT) (B := B) (F := F__law_next) (hm := m__law_next) (hb := b__law_next)
  have G_is_below := ok_is_below (P := PySem.Challenge.rw_ringsandcuts_k61_whole_papers_of_dyeings.prog) (w := w) (base := base) (T := TT) (B := B) (G_is_whole := G_is_whole) (F := F_is_below) (hm := m_is_below) (hb := b_is_below)
  have G_with_place := ok_with_place (P := PySem.Challenge.rw_ringsandcuts_k61_whole_papers_of_dyeings.prog) (w := w) (base := base) (T := TT) (B := B) (G_is_tied := G_is_tied) (F := F_with_place) (hm := m_with_place) (hb := b_with_place)
  have G_open_dyes := ok_open_dyes (P := PySem.Challenge.rw_ringsandcuts_k61_whole_papers_of_dyeings.prog) (w := w) (base := base) (T := TT) (B := B) (G_is_tied := G_is_tied) (F := F_open_dyes) (hm := m_open_dyes) (hb := b_open_dyes)
  have G_web_put := ok_web_put (P := PySem.Challenge.rw_ringsandcuts_k61_whole_papers_of_dyeings.prog) (w := w) (base := base) (T := TT) (B := B) (G_made := G_made) (F := F_web_put) (hm := m_web_put) (hb := b_web_put)
  have G__law_draw := ok__law_draw (P := PySem.Challenge.rw_ringsandcuts_k61_whole_papers_of_dyeings.prog) (w := w) (base := base) (T := TT) (B := B) (G__law_blended := G__law_blended) (F := F__law_draw) (hm := m__law_draw) (hb := b__law_draw)
  have G__law_same := ok__law_same (P := PySem.Challenge.rw_ringsandcuts_k61_whole_papers_of_dyeings.prog) (w := w) (base := base) (T := TT) (B := B) (G__law_is_truth := G__law_is_truth) (F := F__law_same) (hm := m__law_same) (hb := b__law_same)
  have G__law_is_dyeing := ok__law_is_dyeing (P := PySem.Challenge.rw_ringsandcuts_k61_whole_papers_of_dyeings.prog) (w := w) (base := base) (T := TT) (B := B) (G__law_are_wholes := G__law_are_wholes) (F := F__law_is_dyeing) (hm := m__law_is_dyeing) (hb := b__law_is_dyeing)
  have G__law_is_paper := ok__law_is_paper (P := PySem.Challenge.rw_ringsandcuts_k61_whole_papers_of_dyeings.prog) (w := w) (base := base) (T := TT) (B := B) (G__law_next := G__law_next) (F := F__law_is_paper) (hm := m__law_is_paper) (hb := b__law_is_paper)
  have G_need_whole := ok_need_whole (P := PySem.Challenge.rw_ringsandcuts_k61_whole_papers_of_dyeings.prog) (w := w) (base := base) (T := TT) (B := B) (G_is_whole := G_is_whole) (X_BadNumber := X_BadNumber) (F := F_need_whole) (hm := m_need_whole) (hb := b_need_whole)
  have G_is_pair := ok_is_pair (P := PySem.Challenge.rw_ringsandcuts_k61_whole_papers_of_dyeings.prog) (w := w) (base := base) (T := TT) (B := B) (G_is_below := G_is_below) (F := F_is_pair) (hm := m_is_pair) (hb := b_is_pair)
  have G_need_place := ok_need_place (P := PySem.Challenge.rw_ringsandcuts_k61_whole_papers_of_dyeings.prog) (w := w) (base := base) (T := TT) (B := B) (G_is_below := G_is_below) (X_BadPlace := X_BadPlace) (F := F_need_place) (hm := m_need_place) (hb := b_need_place)
  have G_is_dyeing_in := ok_is_dyeing_in (P := PySem.Challenge.rw_ringsandcuts_k61_whole_papers_of_dyeings.prog) (w := w) (base := base) (T := TT) (B := B) (G_is_below := G_is_below) (F := F_is_dyeing_in) (hm := m_is_dyeing_in) (hb := b_is_dyeing_in)
  have G_counts_of_partings := ok_counts_of_partings (P := PySem.Challenge.rw_ringsandcuts_k61_whole_papers_of_dyeings.prog) (w := w) (base := base) (T := TT) (B := B) (G_is_tied := G_is_tied) (G_with_place := G_with_place) (F := F_counts_of_partings) (hm := m_counts_of_partings) (hb := b_counts_of_partings)
  have G__law_pick := ok__law_pick (P := PySem.Challenge.rw_ringsandcuts_k61_whole_papers_of_dyeings.prog) (w := w) (base := base) (T := TT) (B := B) (G__law_draw := G__law_draw) (F := F__law_pick) (hm := m__law_pick) (hb := b__law_pick)
  have G__law_shuffled := ok__law_shuffled (P := PySem.Challenge.rw_ringsandcuts_k61_whole_papers_of_dyeings.prog) (w := w) (base := base) (T := TT) (B := B) (G__law_draw := G__law_draw) (F := F__law_shuffled) (hm := m__law_shuffled) (hb := b__law_shuffled)
  have G__law_judged := ok__law_judged (P := PySem.Challenge.rw_ringsandcuts_k61_whole_papers_of_dyeings.prog) (w := w) (base := base) (T := TT) (B := B) (G__law_is_dyeing := G__law_is_dyeing) (G__law_is_paper := G__law_is_paper) (F := F__law_judged) (hm := m__law_judged) (hb := b__law_judged)
  have G_is_web := ok_is_web (P := PySem.Challenge.rw_ringsandcuts_k61_whole_papers_of_dyeings.prog) (w := w) (base := base) (T := TT) (B := B) (G_is_pair := G_is_pair) (G_is_whole := G_is_whole) (F := F_is_web) (hm := m_is_web) (hb := b_is_web)
  have G__law_shuffled_web := ok__law_shuffled_web (P := PySem.Challenge.rw_ringsandcuts_k61_whole_papers_of_dyeings.prog) (w := w) (base := base) (T := TT) (B := B) (G__law_made := G__law_made) (G__law_shuffled := G__law_shuffled) (F := F__law_shuffled_web) (hm := m__law_shuffled_web) (hb := b__law_shuffled_web)
  have G__law_odd := ok__law_odd (P := PySem.Challenge.rw_ringsandcuts_k61_whole_papers_of_dyeings.prog) (w := w) (base := base) (T := TT) (B := B) (G__law_pick := G__law_pick) (F := F__law_odd) (hm := m__law_odd) (hb := b__law_odd)
  have G__law_bent := ok__law_bent (P := PySem.Challenge.rw_ringsandcuts_k61_whole_papers_of_dyeings.prog) (w := w) (base := base) (T := TT) (B := B) (G__law_draw := G__law_draw) (G__law_pick := G__law_pick) (F := F__law_bent) (hm := m__law_bent) (hb := b__law_bent)
  have G__law_far_number := ok__law_far_number (P := PySem.Challenge.rw_ringsandcuts_k61_whole_papers_of_dyeings.prog) (w := w) (base := base) (T := TT) (B := B) (G__law_draw := G__law_draw) (G__law_pick := G__law_pick) (F := F__law_far_number) (hm := m__law_far_number) (hb := b__law_far_number)
  have G_need_web := ok_need_web (P := PySem.Challenge.rw_ringsandcuts_k61_whole_papers_of_dyeings.prog) (w := w) (base := base) (T := TT) (B := B) (G_is_web := G_is_web) (X_BadWeb := X_BadWeb) (F := F_need_web) (hm := m_need_web) (hb := b_need_web)
  have G__law_web := ok__law_web (P := PySem.Challenge.rw_ringsandcuts_k61_whole_papers_of_dyeings.prog) (w := w) (base := base) (T := TT) (B := B) (G__law_draw := G__law_draw) (G__law_made := G__law_made) (G__law_shuffled := G__law_shuffled) (G__law_shuffled_web := G__law_shuffled_web) (F := F__law_web) (hm := m__law_web) (hb := b__law_web)
  have G__law_changed := ok__law_changed (P := PySem.Challenge.rw_ringsandcuts_k61_whole_papers_of_dyeings.prog) (w := w) (base := base) (T := TT) (B := B) (G__law_bent := G__law_bent) (G__law_draw := G__law_draw) (G__law_pick := G__law_pick) (F := F__law_changed) (hm := m__law_changed) (hb := b__law_changed)
  have G_need_dyes := ok_need_dyes (P := PySem.Challenge.rw_ringsandcuts_k61_whole_papers_of_dyeings.prog) (w := w) (base := base) (T := TT) (B := B) (G_need_web := G_need_web) (G_need_whole := G_need_whole) (F := F_need_dyes) (hm := m_need_dyes) (hb := b_need_dyes)
  have GG_least_dyes := ok_least_dyes (P := PySem.Challenge.rw_ringsandcuts_k61_whole_papers_of_dyeings.prog) (w := w) (base := base) (T := TT) (B := B) (G_counts_of_partings := G_counts_of_partings) (G_need_web := G_need_web) (F := F_least_dyes) (hm := m_least_dyes) (hb := b_least_dyes)
  have G_least_dyes := GG_least_dyes.1
  have GK_least_dyes := GG_least_dyes.2 ["web"] (bindsK (ps := ["web"]) F_least_dyes fun _ _ _ _ _ _ us hl => match us, hl with | [_], _ => rfl)
  have G_put := ok_put (P := PySem.Challenge.rw_ringsandcuts_k61_whole_papers_of_dyeings.prog) (w := w) (base := base) (T := TT) (B := B) (G_need_place := G_need_place) (G_need_web := G_need_web) (G_web_put := G_web_put) (X_TooMany := X_TooMany) (F := F_put) (hm := m_put) (hb := b_put)
  have G_many_dyeings := ok_many_dyeings (P := PySem.Challenge.rw_ringsandcuts_k61_whole_papers_of_dyeings.prog) (w := w) (base := base) (T := TT) (B := B) (G_counts_of_partings := G_counts_of_partings) (G_falling_product := G_falling_product) (G_need_dyes := G_need_dyes) (F := F_many_dyeings) (hm := m_many_dyeings) (hb := b_many_dyeings)
  have G__law_least_right := ok__law_least_right (P := PySem.Challenge.rw_ringsandcuts_k61_whole_papers_of_dyeings.prog) (w := w) (base := base) (T := TT) (B := B) (G__law_draw := G__law_draw) (G__law_shuffled := G__law_shuffled) (G_least_dyes := G_least_dyes) (G_many_dyeings := G_many_dyeings) (G_put := G_put) (F := F__law_least_right) (hm := m__law_least_right) (hb := b__law_least_right)
  have G_first_dyeing := (ok_first_dyeing (P := PySem.Challenge.rw_ringsandcuts_k61_whole_papers_of_dyeings.prog) (w := w) (base := base) (T := TT) (B := B) (G_open_dyes := G_open_dyes) (F := F_first_dyeing) (hm := m_first_dyeing) (hb := b_first_dyeing)) 10
  have G_shut_tree := (ok_shut_tree (P := PySem.Challenge.rw_ringsandcuts_k61_whole_papers_of_dyeings.prog) (w := w) (base := base) (T := TT) (B := B) (G_open_dyes := G_open_dyes) (F := F_shut_tree) (hm := m_shut_tree) (hb := b_shut_tree)) 10
  have G_is_shut_tree := (ok_is_shut_tree (P := PySem.Challenge.rw_ringsandcuts_k61_whole_papers_of_dyeings.prog) (w := w) (base := base) (T := TT) (B := B) (G_open_dyes := G_open_dyes) (F := F_is_shut_tree) (hm := m_is_shut_tree) (hb := b_is_shut_tree)) 10
  have GG_dye_paper := ok_dye_paper (P := PySem.Challenge.rw_ringsandcuts_k61_whole_papers_of_dyeings.prog) (w := w) (base := base) (T := TT) (B := B) (G_first_dyeing := G_first_dyeing) (G_need_dyes := G_need_dyes) (G_shut_tree := G_shut_tree) (F := F_dye_paper) (hm := m_dye_paper) (hb := b_dye_paper)
  have G_dye_paper := GG_dye_paper.1
  have GK_dye_paper := GG_dye_paper.2 ["web", "k"] (bindsK (ps := ["web", "k"]) F_dye_paper fun _ _ _ _ _ _ us hl => match us, hl with | [_, _], _ => rfl)
  have G_is_dye_paper := ok_is_dye_paper (P := PySem.Challenge.rw_ringsandcuts_k61_whole_papers_of_dyeings.prog) (w := w) (base := base) (T := TT) (B := B) (G_is_dyeing_in := G_is_dyeing_in) (G_is_shut_tree := G_is_shut_tree) (G_need_dyes := G_need_dyes) (F := F_is_dye_paper) (hm := m_is_dye_paper) (hb := b_is_dye_paper)
  have G__law_goes := ok__law_goes (P := PySem.Challenge.rw_ringsandcuts_k61_whole_papers_of_dyeings.prog) (w := w) (base := base) (T := TT) (B := B) (G__law_changed := G__law_changed) (G__law_is_truth := G__law_is_truth) (G__law_judged := G__law_judged) (G_dye_paper := G_dye_paper) (G_is_dye_paper := G_is_dye_paper) (G_many_dyeings := G_many_dyeings) (F := F__law_goes) (hm := m__law_goes) (hb := b__law_goes)
  exact ok_law (B := B) (G__law_begun := G__law_begun) (G__law_draw := G__law_draw) (G__law_far_number := G__law_far_number) (G__law_goes := G__law_goes) (G__law_least_right := G__law_least_right) (G__law_made := G__law_made) (G__law_odd := G__law_odd) (G__law_pick := G__law_pick) (G__law_same := G__law_same) (G__law_web := G__law_web) (G_dye_paper := G_dye_paper) (G_is_dye_paper := G_is_dye_paper) (G_least_dyes := G_least_dyes) (R_BadNumber := m_BadNumber) (R_BadWeb := m_BadWeb) (R_TooMany := m_TooMany) (GK_dye_paper := GK_dye_paper) (GK_least_dyes := GK_least_dyes) (CA := CA) (LK := LK_law) (DK__law_bad_word := DK__law_bad_word) (ho := ho) (ho2 := ho2) (XW := XW) (kW := kW) (XD := XD) (kN := kN) (kT := kT) (hw := hw) (lk := l_law) (hcd := c_law)
end DL
open PySem PySem.W PyProof.Rows
set_option maxRecDepth 100000 in
set_option maxHeartbeats 0 in
theorem PySem.Challenge.cw_ringsandcuts_k61_whole_papers_of_dyeings_holds : PySem.Challenge.rw_ringsandcuts_k61_whole_papers_of_dyeings.Holds := by
  w_on; o_law; k_head; (case hw => w_witness2)
  k_fill
  refine LamX.walk_ofTs (l := PySem.Challenge.rw_ringsandcuts_k61_whole_papers_of_dyeings) (n := 63) (k := 18) (x := "script") (CX := fun _ => L2.CX0) rfl (by decide) rfl ⟨rfl, by decide, by decide⟩ (fun w h Y => PySem.W.km_in_of Y) ?F (fun _ _ _ _ _ z => z)
  case F =>
    intro w mg fa h Y KX G hmg
    exact DL.lawAt KX G hmg (PySem.W.km_tabs_of Y) (by show He.obsE _ _ _ = He.valE _; kernel_rfl) (by kernel_rfl) (by kernel_rfl) (by kernel_rfl) (by kernel_rfl)
