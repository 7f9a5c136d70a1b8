import PyProof.Rows.All
import Wide.All
import OpenK.AllK
import Wide.FinOn
import PyProof.EqAt
import PyProof.EqKinds
import PyProof.TupleCall
import HandS.ForMost
import HandS.ForExc
import HandS.Lambda
import HandS.Deep
import HandS.IsInst
import HandS.TupAny
import HandS.TupMul
import HandS.Style
import HandS.Wide
import PyProof.StrOps2
import HandS.Conv
import PyProof.ListStr
import HandS.ExcInit
import KE.KExcSuper
import KE.KExcIs
import HandS.TryOnly
import HandS.ExcIs
import HandS.ExcField
import HandS.Zip
import HandS.Dict
import HandS.HeadHook1
import HandS.EndTab
import KE.KNestM
import PySem.Challenge.RW_ringsandcuts_k79_whole_texts_of_webs
set_option Elab.async false
set_option linter.all false
set_option maxRecDepth 100000
set_option maxHeartbeats 4000000
/-! DLa: plain data over the hand layer: values D, the store of changing objects M, readings over data. -/
namespace DL
open PySem PySem.Spec PyProof.Rows L2

inductive D where
  | non | bl (b : Bool) | int (i : Int) | str (x : Str) | tup (xs : List D) | lst (xs : List D) | dic (kvs : List (Key × D)) | ptr (a : Addr) | ty (n : String)
  | exc (C : Addr) (fs : List (Str × D)) | scr (xs : List D)

/-- what may change -/
inductive MO where
  | lst (xs : List D) | dK (kvs : List (Key × D)) | dT (kvs : List (List Key × D))
abbrev Mem := Addr → Option MO
def Mem.set (M : Mem) (a : Addr) (o : MO) : Mem := fun b => if b = a then some o else M b
def Mem.del (M : Mem) (a : Addr) : Mem := fun b => if b = a then none else M b
@[simp] theorem Mem.set_same {M : Mem} {a : Addr} {o : MO} : M.set a o a = some o := by unfold Mem.set; rw [if_pos rfl]
theorem Mem.set_ne {M : Mem} {a b : Addr} {o : MO} (h : b ≠ a) : M.set a o b = M b := by unfold Mem.set; rw [if_neg h]
@[simp] theorem Mem.set_set {M : Mem} {a : Addr} {o u : MO} : (M.set a o).set a u = M.set a u := by funext b; unfold Mem.set; split <;> rfl
@[simp] theorem Mem.del_same {M : Mem} {a : Addr} : M.del a a = none := by unfold Mem.del; rw [if_pos rfl]
theorem Mem.del_ne {M : Mem} {a b : Addr} (h : b ≠ a) : M.del a b = M b := by unfold Mem.del; rw [if_neg h]
theorem Mem.ne_of_none {M : Mem} {a b : Addr} {o : MO} (h : M a = some o) (h' : M b = none) : a ≠ b := by intro e; subst e; rw [h] at h'; cases h'

/-- a list that never changes: frozen, or the written part's -/
def FzL (K : PySem.W.Frag) (H : Hp) (a : Addr) (xs : List V) : Prop :=
  (∃ o, H a = some (.frz o (.lst xs))) ∨
    ∃ (o : Obj) (its : Array Value) (n : Nat), K.lookup a = some o ∧ o.cls = .type "list" ∧ o.dict = none ∧ o.data = .seq its n ∧ its.size ≤ sizeLine ∧ Vals xs its.toList
theorem FzL.sq {K : PySem.W.Frag} {H : Hp} {a : Addr} {xs : List V} (h : FzL K H a xs) : SqL K H a xs := by
  rcases h with h | h
  · exact .inl (.inr h)
  · exact .inr h

/-- frozen, tracked -/
def FzR (H : Hp) (a : Addr) (xs : List V) : Prop := ∃ o, H a = some (.frz o (.lst xs))
/-- an exception object that stands still -/
def ExcAt (H : Hp) (a C : Addr) (fs : List (Str × V)) : Prop :=
  ∃ (oe : Obj) (d : Option Addr) (φ : Heap → Prop), H a = some (.frz oe (.ext φ)) ∧ Zc (.ref C) d oe ∧ (∃ vs, oe.data = .fields vs) ∧
    ((d = none ∧ fs = []) ∨ ∃ dd od, d = some dd ∧ H dd = some (.frz od (.xd fs)))

mutual
inductive Rep (K : PySem.W.Frag) (H : Hp) : V → D → Prop
  | non : Rep K H .non .non
  | bl (b : Bool) : Rep K H (.bl b) (.bl b)
  | int (i : Int) : Rep K H (.int i) (.int i)
  | str (x : Str) : Rep K H (.str x) (.str x)
  | ptr (a : Addr) : Rep K H (.ref a) (.ptr a)
  | ty (n : String) : Rep K H (.ty n) (.ty n)
  | lst {a : Addr} {xs : List V} {ds : List D} : FzR H a xs → Reps K H xs ds → Rep K H (.ref a) (.lst ds)
  | scr {a : Addr} {xs : List V} {ds : List D} : FzL K H a xs → Reps K H xs ds → Rep K H (.ref a) (.scr ds)
  | tup {a : Addr} {xs : List V} {ds : List D} : H a = some (.tup xs) → Reps K H xs ds → Rep K H (.ref a) (.tup ds)
  | dic {a : Addr} {kvs : List (Key × V)} {ds : List (Key × D)} : (∃ o, H a = some (.frz o (.dK kvs))) → RepK K H kvs ds → Rep K H (.ref a) (.dic ds)
  | exc {a C : Addr} {fs : List (Str × V)} {ds : List (Str × D)} : ExcAt H a C fs → RepF K H fs ds → Rep K H (.ref a) (.exc C ds)
inductive Reps (K : PySem.W.Frag) (H : Hp) : List V → List D → Prop
  | nil : Reps K H [] []
  | cons {v : V} {vs : List V} {d : D} {ds : List D} : Rep K H v d → Reps K H vs ds → Reps K H (v :: vs) (d :: ds)
inductive RepK (K : PySem.W.Frag) (H : Hp) : List (Key × V) → List (Key × D) → Prop
  | nil : RepK K H [] []
  | cons {k : Key} {v : V} {vs : List (Key × V)} {d : D} {ds : List (Key × D)} : Rep K H v d → RepK K H vs ds → RepK K H ((k, v) :: vs) ((k, d) :: ds)
inductive RepF (K : PySem.W.Frag) (H : Hp) : List (Str × V) → List (Str × D) → Prop
  | nil : RepF K H [] []
  | cons {k : Str} {v : V} {vs : List (Str × V)} {d : D} {ds : List (Str × D)} : Rep K H v d → RepF K H vs ds → RepF K H ((k, v) :: vs) ((k, d) :: ds)
end
inductive RepT (K : PySem.W.Frag) (H : Hp) : List (List Key × V) → List (List Key × D) → Prop
  | nil : RepT K H [] []
  | cons {k : List Key} {v : V} {vs : List (List Key × V)} {d : D} {ds : List (List Key × D)} : Rep K H v d → RepT K H vs ds → RepT K H ((k, v) :: vs) ((k, d) :: ds)
def RepM (K : PySem.W.Frag) (H : Hp) : HO → MO → Prop
  | .lst vs, .lst ds => Reps K H vs ds
  | .dK kvs, .dK ds => RepK K H kvs ds
  | .dT kvs, .dT ds => RepT K H kvs ds
  | _, _ => False

/-- what never changes stays -/
structure Kp (T : List (Addr × Str)) (H H' : Hp) : Prop where
  tup : ∀ b xs, H b = some (.tup xs) → H' b = some (.tup xs)
  frz : ∀ b o u, H b = some (.frz o u) → H' b = some (.frz o u)
  tab : LamX.Tabs T H → LamX.Tabs T H'
section
variable {T : List (Addr × Str)} {K : PySem.W.Frag} {H H' H1 H2 : Hp}
theorem Kp.refl : Kp T H H := ⟨fun _ _ h => h, fun _ _ _ h => h, fun h => h⟩
theorem Kp.trans (a : Kp T H H1) (b : Kp T H1 H2) : Kp T H H2 := ⟨fun c xs h => b.tup c xs (a.tup c xs h), fun c o u h => b.frz c o u (a.frz c o u h), fun h => b.tab (a.tab h)⟩
theorem Kp.ext (e : ∀ b o, H b = some o → H' b = some o) : Kp T H H' := ⟨fun b xs h => e b _ h, fun b o u h => e b _ h, fun h => h.ext e⟩
theorem Kp.new {p : Addr} {o : HO} (h : H p = none) : Kp T H (upd H p o) := .ext fun a u e => by rw [upd_ne (ne_of_none e h)]; exact e
def Chg : HO → Prop
  | .lst _ => True
  | .dK _ => True
  | .dT _ => True
  | _ => False
theorem Kp.mut {p : Addr} {o u : HO} (h : H p = some o) (c : Chg o) : Kp T H (upd H p u) := by
  have ne : ∀ b w, H b = some w → ¬ Chg w → b ≠ p := fun b w e nc z => by subst z; rw [h] at e; cases e; exact nc c
  refine ⟨fun b xs e => ?_, fun b o u e => ?_, fun t q hq => ?_⟩
  · rw [upd_ne (ne b _ e fun z => z)]; exact e
  · rw [upd_ne (ne b _ e fun z => z)]; exact e
  · obtain ⟨ps, h1, h2, h3⟩ := t q hq
    refine ⟨ps, by rw [upd_ne (ne _ _ h1 fun z => z)]; exact h1, h2, fun pos cv hc => ?_⟩
    obtain ⟨c0, e1, e2⟩ := h3 pos cv hc
    exact ⟨c0, e1, by rw [upd_ne (ne _ _ e2 fun z => z)]; exact e2⟩
theorem kp_rdT {a : Addr} {xs : List V} (k : Kp T H H') (h : SqT K H a xs) : SqT K H' a xs := by
  rcases h with (h | ⟨o, h⟩) | h
  · exact .inl (.inl (k.tup _ _ h))
  · exact .inl (.inr ⟨o, k.frz _ _ _ h⟩)
  · exact .inr h
theorem kp_fzl {a : Addr} {xs : List V} (k : Kp T H H') (h : FzL K H a xs) : FzL K H' a xs := by
  rcases h with ⟨o, h⟩ | h
  · exact .inl ⟨o, k.frz _ _ _ h⟩
  · exact .inr h
theorem kp_exc {a C : Addr} {fs : List (Str × V)} (k : Kp T H H') (h : ExcAt H a C fs) : ExcAt H' a C fs := by
  obtain ⟨oe, d, φ, h1, h2, h3, h4⟩ := h
  refine ⟨oe, d, φ, k.frz _ _ _ h1, h2, h3, ?_⟩
  rcases h4 with h4 | ⟨dd, od, e, h4⟩
  · exact .inl h4
  · exact .inr ⟨dd, od, e, k.frz _ _ _ h4⟩
mutual
theorem Rep.mono (k : Kp T H H') : ∀ {d : D} {v : V}, Rep K H v d → Rep K H' v d
  | .non, _, h => by cases h; exact .non
  | .bl _, _, h => by cases h; exact .bl _
  | .int _, _, h => by cases h; exact .int _
  | .str _, _, h => by cases h; exact .str _
  | .ptr _, _, h => by cases h; exact .ptr _
  | .ty _, _, h => by cases h; exact .ty _
  | .lst ds, _, h => by cases h with | lst a b => obtain ⟨o, a⟩ := a; exact .lst ⟨o, k.frz _ _ _ a⟩ (Reps.mono k b)
  | .scr ds, _, h => by cases h with | scr a b => exact .scr (kp_fzl k a) (Reps.mono k b)
  | .tup ds, _, h => by cases h with | tup a b => exact .tup (k.tup _ _ a) (Reps.mono k b)
  | .dic ds, _, h => by cases h with | dic a b => obtain ⟨o, a⟩ := a; exact .dic ⟨o, k.frz _ _ _ a⟩ (RepK.mono k b)
  | .exc C ds, _, h => by cases h with | exc a b => exact .exc (kp_exc k a) (RepF.mono k b)
theorem Reps.mono (k : Kp T H H') : ∀ {ds : List D} {vs : List V}, Reps K H vs ds → Reps K H' vs ds
  | [], _, h => by cases h; exact .nil
  | d :: ds, _, h => by cases h with | cons a b => exact .cons (Rep.mono k a) (Reps.mono k b)
theorem RepK.mono (k : Kp T H H') : ∀ {ds : List (Key × D)} {vs : List (Key × V)}, RepK K H vs ds → RepK K H' vs ds
  | [], _, h => by cases h; exact .nil
  | (_, d) :: ds, _, h => by cases h with | cons a b => exact .cons (Rep.mono k a) (RepK.mono k b)
theorem RepF.mono (k : Kp T H H') : ∀ {ds : List (Str × D)} {vs : List (Str × V)}, RepF K H vs ds → RepF K H' vs ds
  | [], _, h => by cases h; exact .nil
  | (_, d) :: ds, _, h => by cases h with | cons a b => exact .cons (Rep.mono k a) (RepF.mono k b)
end
theorem RepT.mono (k : Kp T H H') : ∀ {ds : List (List Key × D)} {vs : List (List Key × V)}, RepT K H vs ds → RepT K H' vs ds
  | [], _, h => by cases h; exact .nil
  | (_, d) :: ds, _, h => by cases h with | cons a b => exact .cons (a.mono k) (RepT.mono k b)
theorem RepM.mono (k : Kp T H H') {o : HO} {m : MO} (h : RepM K H o m) : RepM K H' o m := by
  cases o <;> cases m <;> first | exact h.elim | exact Reps.mono k h | exact RepK.mono k h | exact RepT.mono k h
theorem RepM.chg {o : HO} {m : MO} (h : RepM K H o m) : Chg o := by
  cases o <;> cases m <;> first | exact h.elim | exact True.intro

/-- the store is held -/
def MOk (K : PySem.W.Frag) (H : Hp) (M : Mem) : Prop := ∀ a m, M a = some m → ∃ o, H a = some o ∧ RepM K H o m
theorem MOk.ext {M : Mem} (e : ∀ b o, H b = some o → H' b = some o) (h : MOk K H M) : MOk K H' M := fun a m q => by
  obtain ⟨o, h1, h2⟩ := h a m q
  exact ⟨o, e _ _ h1, h2.mono (T := []) (.ext e)⟩
theorem MOk.free {M : Mem} (h : MOk K H M) {a : Addr} (n : H a = none) : M a = none := by
  cases q : M a with
  | none => rfl
  | some m => obtain ⟨o, h1, _⟩ := h a m q; rw [n] at h1; cases h1
theorem MOk.new {M : Mem} {p : Addr} {o : HO} (h : MOk K H M) (n : H p = none) : MOk K (upd H p o) M := h.ext fun a u e => by rw [upd_ne (ne_of_none e n)]; exact e
theorem MOk.put {M : Mem} {p : Addr} {o : HO} {m : MO} (h : MOk K H M) (k : Kp T H (upd H p o)) (r : RepM K H o m) : MOk K (upd H p o) (M.set p m) := fun a m' q => by
  by_cases e : a = p
  · subst e; rw [Mem.set_same] at q; cases q; exact ⟨o, upd_same, r.mono k⟩
  · rw [Mem.set_ne e] at q
    obtain ⟨o', h1, h2⟩ := h a m' q
    exact ⟨o', by rw [upd_ne e]; exact h1, h2.mono k⟩
theorem MOk.drop {M : Mem} {p : Addr} {o : HO} (h : MOk K H M) (k : Kp T H (upd H p o)) : MOk K (upd H p o) (M.del p) := fun a m' q => by
  by_cases e : a = p
  · subst e; rw [Mem.del_same] at q; cases q
  · rw [Mem.del_ne e] at q
    obtain ⟨o', h1, h2⟩ := h a m' q
    exact ⟨o', by rw [upd_ne e]; exact h1, h2.mono k⟩
theorem MOk.del {M : Mem} {p : Addr} (h : MOk K H M) : MOk K H (M.del p) := fun a m' q => by
  by_cases e : a = p
  · subst e; rw [Mem.del_same] at q; cases q
  · rw [Mem.del_ne e] at q; exact h a m' q
theorem MOk.sub {M M' : Mem} (h : MOk K H M) (e : ∀ a m, M' a = some m → M a = some m) : MOk K H M' := fun a m q => h a m (e a m q)

theorem Reps.length : ∀ {vs : List V} {ds : List D}, Reps K H vs ds → vs.length = ds.length
  | _, _, .nil => rfl
  | _, _, .cons _ t => by rw [List.length_cons, List.length_cons, Reps.length t]
theorem Reps.get : ∀ {vs : List V} {ds : List D} {i : Nat} {d : D}, Reps K H vs ds → ds[i]? = some d → ∃ v, vs[i]? = some v ∧ Rep K H v d
  | _, _, _, _, .nil, e => by simp at e
  | _, _, 0, _, .cons r _, e => by simp at e; subst e; exact ⟨_, rfl, r⟩
  | _, _, i + 1, x, .cons _ t, e => by
    obtain ⟨u, h1, h2⟩ := Reps.get (i := i) (d := x) t (by simpa using e)
    exact ⟨u, by simpa using h1, h2⟩
theorem Reps.getV : ∀ {vs : List V} {ds : List D} {i : Nat} {v : V}, Reps K H vs ds → vs[i]? = some v → ∃ d, ds[i]? = some d ∧ Rep K H v d
  | _, _, _, _, .nil, e => by simp at e
  | _, _, 0, _, .cons r _, e => by simp at e; subst e; exact ⟨_, rfl, r⟩
  | _, _, i + 1, x, .cons _ t, e => by
    obtain ⟨u, h1, h2⟩ := Reps.getV (i := i) (v := x) t (by simpa using e)
    exact ⟨u, by simpa using h1, h2⟩
theorem Reps.append : ∀ {vs ws : List V} {ds es : List D}, Reps K H vs ds → Reps K H ws es → Reps K H (vs ++ ws) (ds ++ es)
  | _, _, _, _, .nil, s => s
  | _, _, _, _, .cons r t, s => .cons r (Reps.append t s)
theorem Reps.take : ∀ {vs : List V} {ds : List D} (n : Nat), Reps K H vs ds → Reps K H (vs.take n) (ds.take n)
  | _, _, 0, _ => .nil
  | _, _, _ + 1, .nil => .nil
  | _, _, n + 1, .cons r t => .cons r (Reps.take n t)
theorem Reps.drop : ∀ {vs : List V} {ds : List D} (n : Nat), Reps K H vs ds → Reps K H (vs.drop n) (ds.drop n)
  | _, _, 0, r => r
  | _, _, _ + 1, .nil => .nil
  | _, _, n + 1, .cons _ t => Reps.drop n t
theorem Reps.reverse {vs : List V} {ds : List D} (h : Reps K H vs ds) : Reps K H vs.reverse ds.reverse := by
  induction ds generalizing vs with
  | nil => cases h; exact .nil
  | cons d ds ih => cases h with | cons a b => rw [List.reverse_cons, List.reverse_cons]; exact (ih b).append (.cons a .nil)
theorem Reps.eraseIdx : ∀ {vs : List V} {ds : List D} (i : Nat), Reps K H vs ds → Reps K H (vs.eraseIdx i) (ds.eraseIdx i)
  | _, _, _, .nil => .nil
  | _, _, 0, .cons _ t => t
  | _, _, i + 1, .cons r t => .cons r (Reps.eraseIdx i t)
theorem Reps.set {v : V} {d : D} (r : Rep K H v d) : ∀ {vs : List V} {ds : List D} (i : Nat), Reps K H vs ds → Reps K H (vs.set i v) (ds.set i d)
  | _, _, _, .nil => .nil
  | _, _, 0, .cons _ t => .cons r t
  | _, _, i + 1, .cons q t => .cons q (Reps.set r i t)
theorem Reps.rep {vs : List V} {ds : List D} (h : Reps K H vs ds) : ∀ k : Nat, Reps K H (List.replicate k vs).flatten (List.replicate k ds).flatten
  | 0 => .nil
  | k + 1 => by rw [List.replicate_succ, List.replicate_succ, List.flatten_cons, List.flatten_cons]; exact h.append (Reps.rep h k)

/-- a list's items, read -/
def lsD (M : Mem) : D → Option (List D)
  | .lst xs => some xs
  | .scr xs => some xs
  | .ptr p => match M p with
    | some (.lst xs) => some xs
    | _ => none
  | _ => none
def lsR (M : Mem) : D → Option (List D)
  | .lst xs => some xs
  | .ptr p => match M p with
    | some (.lst xs) => some xs
    | _ => none
  | _ => none
theorem lsR_rep {M : Mem} {v : V} {d : D} {xs : List D} (r : Rep K H v d) (m : MOk K H M) (h : lsR M d = some xs) : ∃ a vs, v = .ref a ∧ Rd H a (.lst vs) ∧ Reps K H vs xs := by
  unfold lsR at h
  split at h
  · cases h
    cases r with
    | lst a b => exact ⟨_, _, rfl, .inr a, b⟩
  · rename_i p
    split at h
    · rename_i ys hp
      cases h
      cases r
      obtain ⟨o, h1, h2⟩ := m _ _ hp
      cases o <;> first | exact h2.elim | exact ⟨_, _, rfl, .inl h1, h2⟩
    · cases h
  · cases h
theorem lsD_rep {M : Mem} {v : V} {d : D} {xs : List D} (r : Rep K H v d) (m : MOk K H M) (h : lsD M d = some xs) : ∃ a vs, v = .ref a ∧ SqL K H a vs ∧ Reps K H vs xs := by
  unfold lsD at h
  split at h
  · cases h
    cases r with
    | lst a b => exact ⟨_, _, rfl, .inl (.inr a), b⟩
  · cases h
    cases r with
    | scr a b => exact ⟨_, _, rfl, a.sq, b⟩
  · rename_i p
    split at h
    · rename_i ys hp
      cases h
      cases r
      obtain ⟨o, h1, h2⟩ := m _ _ hp
      cases o <;> first | exact h2.elim | exact ⟨_, _, rfl, .of h1, h2⟩
    · cases h
  · cases h
end
end DL

/-! DLb: a list is frozen; readings over data, expressions. -/
namespace DL
abbrev Sg := List (Option L2.V)
open PySem PySem.Spec PyProof.Rows L2

/-! ### a list is frozen (a step of the proof, not of the program) -/
section
variable {X : Cx} {pins : List (Addr × Obj)} {σ : Sg} {H : Hp} {s : Shared} {p : Addr} {o : HO}
theorem inv_frzO (I : Inv X pins σ H s) (h : H p = some o) (c : Chg o) : ∃ ob, Inv X pins σ (upd H p (.frz ob o)) s := by
  have ok := I.hok p _ h
  obtain ⟨ob, e⟩ : ∃ ob, s.heap.get? p = some ob := by
    cases o <;> first
      | exact c.elim
      | (obtain ⟨z, its, n, r, e⟩ := ok; exact ⟨_, e⟩)
      | (obtain ⟨z, y, vs, r, o', es, ep, e, _⟩ := ok; exact ⟨_, e⟩)
  have neT : ∀ b w, H b = some w → ¬ Chg w → b ≠ p := fun b w q1 nc z => by rw [z, h] at q1; cases q1; exact nc c
  have neN : ∀ b, H b = none → b ≠ p := fun b q1 z => by rw [z, h] at q1; cases q1
  have stay : ∀ b, H b = none → upd H p (.frz ob o) b = none := fun b e => by rw [upd_ne (neN b e)]; exact e
  have hoT : ∀ a b, H b = some (.own a) → upd H p (.frz ob o) b = some (.own a) := fun a b q => by rw [upd_ne (neT b _ q fun z => z)]; exact q
  have htT : ∀ b xs, H b = some (.tup xs) → upd H p (.frz ob o) b = some (.tup xs) := fun b xs q => by rw [upd_ne (neT b _ q fun z => z)]; exact q
  refine ⟨ob, I.ok, I.os, I.bare, ⟨I.base.keep, I.base.slot, fun b o' e n hx => stay b (I.base.free b o' e n hx), I.base.there, fun b xs e => ?_, fun b o' u e => ?_, fun b ps e => ?_⟩, I.loc, I.cell, stay _ I.free, fun x c e => stay _ (I.freeC x c e), fun q hq => ?_, fun b u e => ?_, I.len⟩
  · have q := I.base.tups b xs e; rw [upd_ne (neT b _ q fun z => z)]; exact q
  · have q := I.base.frzs b o' u e; rw [upd_ne (neT b _ q fun z => z)]; exact q
  · obtain ⟨more, q⟩ := I.base.tbls b ps e; exact ⟨more, by rw [upd_ne (neT b _ q fun z => z)]; exact q⟩
  · obtain ⟨e, n, ne, nf, d⟩ := I.pin q hq
    exact ⟨e, stay _ n, ne, nf, d⟩
  · by_cases hb : b = p
    · subst hb; rw [upd_same] at e; cases e
      exact ⟨‹_›, ok.stay (fun _ _ _ q => q) (hoT _) htT⟩
    · rw [upd_ne hb] at e
      exact (I.hok b u e).stay (fun _ _ _ q => q) (hoT _) htT
theorem Kp.frzO {T : List (Addr × Str)} {ob : Obj} (h : H p = some o) (c : Chg o) : Kp T H (upd H p (.frz ob o)) := Kp.mut h c
end
/-- the end Q, the value a list that is frozen ahead -/
def fz (Q : VK) : VK := fun v H => ∃ p o, v = .ref p ∧ H p = some o ∧ Chg o ∧ ∀ ob, Q v (upd H p (.frz ob o))
/-- .. or as it is -/
def fz1 (Q : VK) : VK := fun v H => fz Q v H ∨ Q v H
theorem ep_fz1 {X : Cx} {pins : List (Addr × Obj)} {σ : Sg} {Q : VK} {u : Value} {s : Shared} (h : EP X pins σ (fz1 Q) u s) : EP X pins σ Q u s := by
  obtain ⟨v, H', I, r, q | q⟩ := h
  · obtain ⟨p, xs, rfl, e, c, q⟩ := q
    obtain ⟨ob, I'⟩ := inv_frzO I e c
    exact ⟨_, _, I', r, q ob⟩
  · exact ⟨v, H', I, r, q⟩
section
variable {X : Cx}
theorem op_fz {f : Value → Value → Sem Value} {r : R2} (h : OpR X f r) : OpR X f (fun x y H Q => r x y H (fz1 Q)) := fun pins s σ H x y v u Q I rx ry q => thn (h pins s σ H x y v u _ I rx ry q) fun _ _ z => (ep_fz1 z)
theorem call_fz {f : Value} {r : List V → Hp → VK → Prop} (h : CallR X f r) : CallR X f (fun xs H Q => r xs H (fz1 Q)) := fun pins s σ H xs us Q I rx q => thn (h pins s σ H xs us _ I rx q) fun _ _ z => (ep_fz1 z)
theorem ix_fz {r : R2} (h : IxR X r) : IxR X (fun x y H Q => r x y H (fz1 Q)) := fun a b pins s σ H x y v u Q I rx ry q hs => thn (h a b pins s σ H x y v u _ I rx ry q hs) fun _ _ z => (ep_fz1 z)
theorem sl_fz {r : V → Option Int → Option Int → Hp → VK → Prop} (h : SlR X r) : SlR X (fun x lo hi H Q => r x lo hi H (fz1 Q)) := fun pins s σ H x v vl vu lo hi sl Q I rx hs pl pu q => by
  obtain ⟨T, id, a, b, c⟩ := h pins s σ H x v vl vu lo hi sl _ I rx hs pl pu q
  exact ⟨T, id, a, b, thn c fun _ _ z => (ep_fz1 z)⟩
theorem pe_fz {e : Expr} {t : TE} (h : PE X e t) : PE X e (fun σ H Q => t σ H (fz1 Q)) := ⟨fun pins s σ H Q I q => thn (h.run pins s σ H _ I q) fun _ _ z => (ep_fz1 z)⟩
end

/-! ### readings over data -/
abbrev Gam := List (Option D)
abbrev Cont := D → Mem → Prop
abbrev DE := Gam → Mem → Cont → Prop
abbrev DT := Gam → Mem → (Bool → Mem → Prop) → Prop
abbrev DA := Gam → Mem → (List D → Mem → Prop) → Prop
structure DEnds where
  nx : Gam → Mem → Prop
  rt : Cont
  bk : Gam → Mem → Prop := fun _ _ => False
  ct : Gam → Mem → Prop := fun _ _ => False
abbrev DS := DEnds → Gam → Mem → Prop
abbrev DG := D → Gam → Mem → (Gam → Mem → Prop) → Prop

structure EnvOk (K : PySem.W.Frag) (T : List (Addr × Str)) (Γ : Gam) (M : Mem) (σ : Sg) (H : Hp) : Prop where
  loc : ∀ (i : Nat) (d : D), Γ[i]? = some (some d) → ∃ v, σ[i]? = some (some v) ∧ Rep K H v d
  len : Γ.length = σ.length
  mem : MOk K H M
  tab : LamX.Tabs T H
section
variable {K : PySem.W.Frag} {T : List (Addr × Str)} {Γ Γ' : Gam} {M M' : Mem} {σ : Sg} {H H' : Hp}
theorem EnvOk.go (e : EnvOk K T Γ M σ H) (k : Kp T H H') (m : MOk K H' M') : EnvOk K T Γ M' σ H' :=
  ⟨fun i d h => by obtain ⟨v, h1, h2⟩ := e.loc i d h; exact ⟨v, h1, h2.mono k⟩, e.len, m, k.tab e.tab⟩
theorem EnvOk.set {v : V} {d : D} (e : EnvOk K T Γ M σ H) (i : Nat) (r : Rep K H v d) : EnvOk K T (Γ.set i (some d)) M (σ.set i (some v)) H := by
  refine ⟨fun j d' h => ?_, by simp [e.len], e.mem, e.tab⟩
  by_cases hj : i = j
  · subst hj
    by_cases hi : i < Γ.length
    · rw [List.getElem?_set_self hi] at h; cases h
      exact ⟨v, List.getElem?_set_self (by rw [← e.len]; exact hi), r⟩
    · rw [List.getElem?_eq_none (by simpa using hi)] at h; cases h
  · rw [List.getElem?_set_ne hj] at h
    obtain ⟨v', h1, h2⟩ := e.loc j d' h
    exact ⟨v', by rw [List.getElem?_set_ne hj]; exact h1, h2⟩
/-- a name forgotten -/
theorem EnvOk.un {o : Option V} (e : EnvOk K T Γ M σ H) (i : Nat) : EnvOk K T (Γ.set i none) M (σ.set i o) H := by
  refine ⟨fun j d' h => ?_, by simp [e.len], e.mem, e.tab⟩
  by_cases hj : i = j
  · subst hj
    by_cases hi : i < Γ.length
    · rw [List.getElem?_set_self hi] at h; cases h
    · rw [List.getElem?_eq_none (by simpa using hi)] at h; cases h
  · rw [List.getElem?_set_ne hj] at h
    obtain ⟨v', h1, h2⟩ := e.loc j d' h
    exact ⟨v', by rw [List.getElem?_set_ne hj]; exact h1, h2⟩
end

/-- what is wanted behind, of values and heaps, if Φ is of data -/
def Goes (K : PySem.W.Frag) (T : List (Addr × Str)) (H : Hp) (Φ : Cont) (Q : VK) : Prop := ∀ v H' d M', Φ d M' → Kp T H H' → MOk K H' M' → Rep K H' v d → Q v H'
def lift (K : PySem.W.Frag) (T : List (Addr × Str)) (de : DE) : TE := fun σ H Q => ∃ Γ M Φ, EnvOk K T Γ M σ H ∧ de Γ M Φ ∧ Goes K T H Φ Q
def liftT (K : PySem.W.Frag) (T : List (Addr × Str)) (dt : DT) : TT := fun σ H Q => ∃ Γ M Φ, EnvOk K T Γ M σ H ∧ dt Γ M Φ ∧ ∀ b H' M', Φ b M' → Kp T H H' → MOk K H' M' → Q b H'
def liftA (K : PySem.W.Frag) (T : List (Addr × Str)) (da : DA) : TA := fun σ H Q => ∃ Γ M Φ, EnvOk K T Γ M σ H ∧ da Γ M Φ ∧ ∀ vs H' ds M', Φ ds M' → Kp T H H' → MOk K H' M' → Reps K H' vs ds → Q vs H'
def liftS (K : PySem.W.Frag) (T : List (Addr × Str)) (ds : DS) : TS := fun Dn σ H => ∃ Γ M E, EnvOk K T Γ M σ H ∧ ds E Γ M ∧
  (∀ σ' H' Γ' M', E.nx Γ' M' → Kp T H H' → EnvOk K T Γ' M' σ' H' → Dn.nx σ' H') ∧ (∀ σ' H' Γ' M', E.bk Γ' M' → Kp T H H' → EnvOk K T Γ' M' σ' H' → Dn.bk σ' H') ∧
  (∀ σ' H' Γ' M', E.ct Γ' M' → Kp T H H' → EnvOk K T Γ' M' σ' H' → Dn.ct σ' H') ∧ Goes K T H E.rt Dn.rt
/-- a target: the value stored -/
def liftG (K : PySem.W.Frag) (T : List (Addr × Str)) (dg : DG) : TG := fun v σ H Q => ∃ d Γ M Φ, EnvOk K T Γ M σ H ∧ Rep K H v d ∧ dg d Γ M Φ ∧ ∀ σ' H' Γ' M', Φ Γ' M' → Kp T H H' → EnvOk K T Γ' M' σ' H' → Q σ' H'

abbrev XE (X : Cx) (T : List (Addr × Str)) (e : Expr) (de : DE) : Prop := PE X e (lift X.K T de)
abbrev XT (X : Cx) (T : List (Addr × Str)) (e : Expr) (dt : DT) : Prop := PT X e (liftT X.K T dt)
abbrev XA (X : Cx) (T : List (Addr × Str)) (es : List Expr) (da : DA) : Prop := PA X es (liftA X.K T da)
abbrev XS (X : Cx) (T : List (Addr × Str)) (st : Stmt) (ds : DS) : Prop := PS X st (liftS X.K T ds)
abbrev XSs (X : Cx) (T : List (Addr × Str)) (st : List Stmt) (ds : DS) : Prop := PSs X st (liftS X.K T ds)
abbrev XG (X : Cx) (T : List (Addr × Str)) (e : Expr) (dg : DG) : Prop := PG X e (liftG X.K T dg)

section
variable {X : Cx}
theorem pe_weak {e : Expr} {t t' : TE} (h : PE X e t) (w : ∀ σ H Q, t' σ H Q → t σ H Q) : PE X e t' := ⟨fun pins s σ H Q I q => h.run pins s σ H Q I (w _ _ _ q)⟩
theorem pt_weak {e : Expr} {t t' : TT} (h : PT X e t) (w : ∀ σ H Q, t' σ H Q → t σ H Q) : PT X e t' := ⟨fun pins s σ H Q I q => h.run pins s σ H Q I (w _ _ _ q)⟩
theorem pw_weak {e : Expr} {t t' : TT} (h : PW X e t) (w : ∀ σ H Q, t' σ H Q → t σ H Q) : PW X e t' := ⟨fun wh pins s σ H Q I q => h.run wh pins s σ H Q I (w _ _ _ q)⟩
theorem pa_weak {es : List Expr} {t t' : TA} (h : PA X es t) (w : ∀ σ H Q, t' σ H Q → t σ H Q) : PA X es t' := ⟨fun pos pins s σ H Q I q => h.run pos pins s σ H Q I (w _ _ _ q)⟩
theorem ps_weak {st : Stmt} {t t' : TS} (h : PS X st t) (w : ∀ D σ H, t' D σ H → t D σ H) : PS X st t' := ⟨fun pins s σ H D I q => h.run pins s σ H D I (w _ _ _ q)⟩
theorem pss_weak {st : List Stmt} {t t' : TS} (h : PSs X st t) (w : ∀ D σ H, t' D σ H → t D σ H) : PSs X st t' := ⟨fun pins s σ H D I q => h.run pins s σ H D I (w _ _ _ q)⟩
theorem pg_weak {e : Expr} {t t' : TG} (h : PG X e t) (w : ∀ v σ H Q, t' v σ H Q → t v σ H Q) : PG X e t' := ⟨fun pins s σ H v u Q I r q => h.run pins s σ H v u Q I r (w _ _ _ _ q)⟩
end

/-! ### operators by data -/
def R2D (K : PySem.W.Frag) (T : List (Addr × Str)) (r : R2) (f : D → D → Mem → Cont → Prop) : Prop :=
  ∀ (x y : V) (d e : D) (H : Hp) (M : Mem) (Φ : Cont) (Q : VK), Rep K H x d → Rep K H y e → MOk K H M → f d e M Φ → Goes K T H Φ Q → r x y H Q
def CRD (K : PySem.W.Frag) (T : List (Addr × Str)) (r : List V → Hp → VK → Prop) (f : List D → Mem → Cont → Prop) : Prop :=
  ∀ (xs : List V) (ds : List D) (H : Hp) (M : Mem) (Φ : Cont) (Q : VK), Reps K H xs ds → MOk K H M → f ds M Φ → Goes K T H Φ Q → r xs H Q
section
variable {X : Cx} {T : List (Addr × Str)} {a b : Expr} {da db : DE} {pos : Pos} {K : PySem.W.Frag} {H H1 : Hp} {Φ : Cont} {Q : VK} {M : Mem} {σ : Sg}
theorem Goes.imp {Φ' : Cont} (g : Goes K T H Φ Q) (h : ∀ d M, Φ' d M → Φ d M) : Goes K T H Φ' Q := fun v H' d M' q => g v H' d M' (h _ _ q)
theorem Goes.from (g : Goes K T H Φ Q) (k : Kp T H H1) : Goes K T H1 Φ Q := fun v H' d M' φ k' => g v H' d M' φ (k.trans k')
/-- the value at once, the heap as it is -/
theorem Goes.now (g : Goes K T H Φ Q) (m : MOk K H M) {v : V} {d : D} (φ : Φ d M) (r : Rep K H v d) : Q v H := g v H d M φ .refl m r
theorem Goes.newT (g : Goes K T H Φ Q) (m : MOk K H M) {vs : List V} {ds : List D} {p : Addr} (n : H p = none) (φ : Φ (.tup ds) M) (r : Reps K H vs ds) : Q (.ref p) (upd H p (.tup vs)) :=
  g _ _ _ _ φ (.new n) (m.new n) (.tup upd_same (r.mono (T := T) (.new n)))
/-- a new list, frozen -/
theorem Goes.newF (g : Goes K T H Φ Q) (m : MOk K H M) {vs : List V} {ds : List D} {p : Addr} (n : H p = none) (φ : Φ (.lst ds) M) (r : Reps K H vs ds) : fz1 Q (.ref p) (upd H p (.lst vs)) := by
  refine .inl ⟨p, .lst vs, rfl, upd_same, True.intro, fun ob => ?_⟩
  rw [upd_upd]
  exact g _ _ _ _ φ (.new n) (m.new n) (.lst ⟨ob, upd_same⟩ (r.mono (T := T) (.new n)))
/-- a new list, to change -/
theorem Goes.newL (g : Goes K T H Φ Q) (m : MOk K H M) {vs : List V} {ds : List D} {p : Addr} (n : H p = none) (φ : ∀ p, M p = none → Φ (.ptr p) (M.set p (.lst ds))) (r : Reps K H vs ds) : Q (.ref p) (upd H p (.lst vs)) :=
  g _ _ _ _ (φ p (m.free n)) (.new n) (m.put (T := T) (.new n) r) (.ptr p)

def dVar (i : Nat) : DE := fun Γ M Φ => match Γ[i]? with
  | some (some d) => Φ d M
  | _ => False
def dC (d : D) : DE := fun _ M Φ => Φ d M
theorem xe_var {x : Str} (i : Nat) (h : PE X (.Name x pos) (tVar i)) : XE X T (.Name x pos) (dVar i) := pe_weak h fun σ H Q q => by
  obtain ⟨Γ, M, Φ, e, q, g⟩ := q
  unfold dVar at q
  split at q
  · rename_i d hd
    obtain ⟨v, h1, h2⟩ := e.loc i d hd
    exact ⟨v, h1, g.now e.mem q h2⟩
  · exact q.elim
/-- the name in slot i -/
theorem xv (i : Nat) {x : Str} (hN : X.N[i]? = some x := by rfl) (hv : Vis X.env.scope x := by first | exact Or.inl rfl | exact Or.inr (Or.inl rfl) | exact Or.inr (Or.inr rfl)) (hd : (x == ("__debug__" : Str)) = false := by decide)
    (hcd : (x == ("__classdict__" : Str)) = false := by decide) : XE X T (.Name x pos) (dVar i) := xe_var i (pe_var hN hv hd hcd)
theorem xe_c {e : Expr} {v : V} {d : D} (h : PE X e (tC v)) (r : ∀ H, Rep X.K H v d) : XE X T e (dC d) := pe_weak h fun σ H Q q => by
  obtain ⟨Γ, M, Φ, e, q, g⟩ := q
  exact g.now e.mem q (r H)
theorem xe_int {i : Int} {j} : XE X T (.Constant (.int i) j pos) (dC (.int i)) := xe_c pe_int fun _ => .int _
theorem xe_bl {b : Bool} {j} : XE X T (.Constant (.bool b) j pos) (dC (.bl b)) := xe_c pe_bl fun _ => .bl _
theorem xe_non {j} : XE X T (.Constant .none j pos) (dC .non) := xe_c pe_non fun _ => .non
theorem xe_str {x : Str} {j} : XE X T (.Constant (.str x) j pos) (dC (.str x)) := xe_c pe_str fun _ => .str _

def dBin (f : D → D → Mem → Cont → Prop) (da db : DE) : DE := fun Γ M Φ => da Γ M fun d M1 => db Γ M1 fun e M2 => f d e M2 Φ
theorem lift_op {r : R2} {f : D → D → Mem → Cont → Prop} (hr : R2D X.K T r f) {σ : Sg} {H : Hp} {Q : VK} (q : lift X.K T (dBin f da db) σ H Q) : tOp r (lift X.K T da) (lift X.K T db) σ H Q := by
  obtain ⟨Γ, M, Φ, env, h, k⟩ := q
  refine ⟨Γ, M, _, env, h, fun v1 H1 d1 M1 φ1 k1 m1 r1 => ⟨Γ, M1, _, env.go k1 m1, φ1, fun v2 H2 d2 M2 φ2 k2 m2 r2 => ?_⟩⟩
  exact hr _ _ _ _ _ _ _ _ (r1.mono k2) r2 m2 φ2 (k.from (k1.trans k2))
theorem xe_op {op : Operator} {r : R2} {f : D → D → Mem → Cont → Prop} (ho : OpR X (binaryOp op) r) (hr : R2D X.K T r f) (ha : XE X T a da) (hb : XE X T b db) : XE X T (.BinOp a op b pos) (dBin f da db) := pe_weak (pe_op ho ha hb) fun σ H Q q => lift_op hr q
theorem xe_cmp {op : CmpOp} {r : R2} {f : D → D → Mem → Cont → Prop} (ho : OpR X (compareOp op) r) (hr : R2D X.K T r f) (ha : XE X T a da) (hb : XE X T b db) (hm : behindInMarks op b = false) : XE X T (.Compare a [op] [b] pos) (dBin f da db) :=
  pe_weak (pe_cmpR ho ha hb hm) fun σ H Q q => lift_op hr q
theorem xe_ix {r : R2} {f : D → D → Mem → Cont → Prop} (ho : IxR X r) (hr : R2D X.K T r f) (ha : XE X T a da) (hb : XE X T b db) (hs : PlainIx b) : XE X T (.Subscript a b pos) (dBin f da db) :=
  pe_weak (pe_ix ho ha hb hs) fun σ H Q q => lift_op hr q
theorem R2D.or {r r' : R2} {f f' : D → D → Mem → Cont → Prop} (h : R2D K T r f) (h' : R2D K T r' f') : R2D K T (fun x y H Q => r x y H Q ∨ r' x y H Q) (fun d e M Φ => f d e M Φ ∨ f' d e M Φ) := fun x y d e H M Φ Q rx ry m q g =>
  q.elim (fun q => .inl (h x y d e H M Φ Q rx ry m q g)) fun q => .inr (h' x y d e H M Φ Q rx ry m q g)

/-! ### arguments, calls -/
def daNil : DA := fun _ M Φ => Φ [] M
def daCons (de : DE) (da : DA) : DA := fun Γ M Φ => de Γ M fun d M1 => da Γ M1 fun ds M2 => Φ (d :: ds) M2
theorem xa_nil : XA X T [] daNil := pa_weak pa_nil fun σ H Q q => by
  obtain ⟨Γ, M, Φ, e, q, g⟩ := q
  exact g [] H [] M q .refl e.mem .nil
theorem xa_cons {e : Expr} {es : List Expr} {de : DE} {dr : DA} (he : XE X T e de) (hr : XA X T es dr) (hs : starEach (e :: es) X.env = (false, eval e X.env) :: starEach es X.env := by rfl) : XA X T (e :: es) (daCons de dr) := pa_weak (pa_cons he hr hs) fun σ H Q q => by
  obtain ⟨Γ, M, Φ, env, h, k⟩ := q
  refine ⟨Γ, M, _, env, h, fun v1 H1 d1 M1 φ1 k1 m1 r1 => ⟨Γ, M1, _, env.go k1 m1, φ1, fun v2 H2 d2 M2 φ2 k2 m2 r2 => ?_⟩⟩
  exact k _ _ _ _ φ2 (k1.trans k2) m2 (.cons (r1.mono k2) r2)
def dCB (f : List D → Mem → Cont → Prop) (da : DA) : DE := fun Γ M Φ => da Γ M fun ds M1 => f ds M1 Φ
theorem lift_cb {r : List V → Hp → VK → Prop} {f : List D → Mem → Cont → Prop} {da : DA} (hr : CRD X.K T r f) {σ : Sg} {H : Hp} {Q : VK} (q : lift X.K T (dCB f da) σ H Q) : tCB r (liftA X.K T da) σ H Q := by
  obtain ⟨Γ, M, Φ, env, h, k⟩ := q
  exact ⟨Γ, M, _, env, h, fun vs H1 ds M1 φ1 k1 m1 r1 => hr _ _ _ _ _ _ r1 m1 φ1 (k.from k1)⟩
section
variable {x : Str} {p : Pos} {e : Expr} {es : List Expr} {da : DA} {id Ty : String} {r : List V → Hp → VK → Prop} {f : List D → Mem → Cont → Prop}
theorem xe_callB (hc : CallR X (.builtin id) r) (hr : CRD X.K T r f) (hg : Gl X x) (hm : X.mg x = none) (hv : bootBuiltins x = some (.builtin id)) (ha : XA X T (e :: es) da) (hn : x ≠ "__name__" := by decide) (hdb : (x == ("__debug__" : Str)) = false := by decide)
    (he : starEach (e :: es) X.env = (false, eval e X.env) :: starEach es X.env := by rfl) (hpl : (backTo pos (starEach es X.env)).any (·.1) = false := by rfl) : XE X T (.Call (.Name x p) (e :: es) [] pos) (dCB f da) :=
  pe_weak (pe_callB hc hg hm hv ha hn hdb he hpl) fun σ H Q q => lift_cb hr q
theorem xe_callTy (hc : CallR X (.type Ty) r) (hr : CRD X.K T r f) (hg : Gl X x) (hm : X.mg x = none) (hv : bootBuiltins x = some (.type Ty)) (ha : XA X T (e :: es) da) (hn : x ≠ "__name__" := by decide) (hdb : (x == ("__debug__" : Str)) = false := by decide)
    (he : starEach (e :: es) X.env = (false, eval e X.env) :: starEach es X.env := by rfl) (hpl : (backTo pos (starEach es X.env)).any (·.1) = false := by rfl) : XE X T (.Call (.Name x p) (e :: es) [] pos) (dCB f da) :=
  pe_weak (pe_callTy hc hg hm hv ha hn hdb he hpl) fun σ H Q q => lift_cb hr q
end

/-! ### displays -/
def dTup (da : DA) : DE := fun Γ M Φ => da Γ M fun ds M1 => ds.length ≤ sizeLine ∧ Φ (.tup ds) M1
def dLst (da : DA) : DE := fun Γ M Φ => da Γ M fun ds M1 => ds.length ≤ sizeLine ∧ Φ (.lst ds) M1
def dLstM (da : DA) : DE := fun Γ M Φ => da Γ M fun ds M1 => ds.length ≤ sizeLine ∧ ∀ p, M1 p = none → Φ (.ptr p) (M1.set p (.lst ds))
theorem xe_tup {es : List Expr} {da : DA} {x1} (h : XA X T es da) : XE X T (.Tuple es x1 pos) (dTup da) := pe_weak (pe_tup h) fun σ H Q q => by
  obtain ⟨Γ, M, Φ, env, h, k⟩ := q
  exact ⟨Γ, M, _, env, h, fun vs H1 ds M1 φ1 k1 m1 r1 => ⟨by rw [r1.length]; exact φ1.1, fun p n => (k.from k1).newT m1 n φ1.2 r1⟩⟩
theorem xe_lst {es : List Expr} {da : DA} (h : XA X T es da) : XE X T (.List es pos) (dLst da) := pe_weak (pe_fz (pe_lst h)) fun σ H Q q => by
  obtain ⟨Γ, M, Φ, env, h, k⟩ := q
  exact ⟨Γ, M, _, env, h, fun vs H1 ds M1 φ1 k1 m1 r1 => ⟨by rw [r1.length]; exact φ1.1, fun p n => (k.from k1).newF m1 n φ1.2 r1⟩⟩
theorem xe_lstM {es : List Expr} {da : DA} (h : XA X T es da) : XE X T (.List es pos) (dLstM da) := pe_weak (pe_lst h) fun σ H Q q => by
  obtain ⟨Γ, M, Φ, env, h, k⟩ := q
  exact ⟨Γ, M, _, env, h, fun vs H1 ds M1 φ1 k1 m1 r1 => ⟨by rw [r1.length]; exact φ1.1, fun p n => (k.from k1).newL m1 n φ1.2 r1⟩⟩
/-- a changing list (dict) is frozen where it is read for the last time -/
def dFz (de : DE) : DE := fun Γ M Φ => de Γ M fun d M1 => match d with
  | .ptr p => match M1 p with
    | some (.lst xs) => Φ (.lst xs) (M1.del p)
    | some (.dK xs) => Φ (.dic xs) (M1.del p)
    | _ => False
  | _ => False
theorem xe_fz {e : Expr} {de : DE} (h : XE X T e de) : XE X T e (dFz de) := pe_weak (pe_fz h) fun σ H Q q => by
  obtain ⟨Γ, M, Φ, env, h, k⟩ := q
  refine ⟨Γ, M, _, env, h, fun v H1 d M1 φ1 k1 m1 r1 => ?_⟩
  cases d <;> first | exact φ1.elim | skip
  rename_i p
  dsimp only at φ1
  split at φ1
  · rename_i xs hp
    obtain ⟨o, h1, h2⟩ := m1 _ _ hp
    cases o <;> first | exact h2.elim | skip
    rename_i vs
    cases r1
    refine .inl ⟨p, .lst vs, rfl, h1, True.intro, fun ob => ?_⟩
    have kk : Kp T H1 (upd H1 p (.frz ob (.lst vs))) := Kp.mut h1 True.intro
    exact k _ _ _ _ φ1 (k1.trans kk) (m1.drop kk) (.lst ⟨ob, upd_same⟩ (Reps.mono kk h2))
  · rename_i xs hp
    obtain ⟨o, h1, h2⟩ := m1 _ _ hp
    cases o <;> first | exact h2.elim | skip
    rename_i vs
    cases r1
    refine .inl ⟨p, .dK vs, rfl, h1, True.intro, fun ob => ?_⟩
    have kk : Kp T H1 (upd H1 p (.frz ob (.dK vs))) := Kp.mut h1 True.intro
    exact k _ _ _ _ φ1 (k1.trans kk) (m1.drop kk) (.dic ⟨ob, upd_same⟩ (RepK.mono kk h2))
  · exact φ1.elim
end
end DL

/-! DLc: operators, comparisons, subscripts, slices over data. -/
namespace DL
open PySem PySem.Spec PyProof.Rows L2
section
variable {X : Cx} {K : PySem.W.Frag} {T : List (Addr × Str)}
theorem rdL {pins : List (Addr × Obj)} {σ : Sg} {H : Hp} {s : Shared} {l : Addr} {xs : List V} (I : Inv X pins σ H s) (h : Rd H l (.lst xs)) :
    xs.length ≤ sizeLine ∧ ∃ (its : List Value) (n : Nat), Vals xs its ∧ xs.length = its.length ∧ s.heap.get? l = some { cls := .type "list", data := .seq its.toArray n } := by
  obtain ⟨z, its, n, r, e⟩ := h.ok I.hok
  exact ⟨z, its, n, r, r.length, e⟩
/-! ### + -/
def rCatG : R2 := fun x y H Q => ∃ l b xs zs, x = .ref l ∧ y = .ref b ∧ Rd H l (.lst xs) ∧ Rd H b (.lst zs) ∧ xs.length + zs.length ≤ sizeLine ∧ ∀ p, H p = none → Q (.ref p) (upd H p (.lst (xs ++ zs)))
theorem op_catG : OpR X (binaryOp .Add) rCatG := by
  intro pins s σ H x y v u Q I rx ry h
  obtain ⟨l, b, xs, zs, rfl, rfl, hH, hB, hz, q⟩ := h
  cases rx
  cases ry
  obtain ⟨z, its, n, r, hl, e⟩ := rdL I hH
  obtain ⟨z2, its2, n2, r2, hl2, e2⟩ := rdL I hB
  refine PySem.P.add_list e e2 ?_ (by rw [List.size_toArray, List.size_toArray]; omega)
  have ea : its.toArray ++ its2.toArray = (its ++ its2).toArray := by simp
  rw [ea]
  exact ⟨.ref _, _, I.lnew (t' := s.toks) (r.append r2) (by rw [List.length_append]; omega), rfl, q _ I.fresh⟩
def rAddStr : R2 := fun x y H Q => ∃ i j, x = .str i ∧ y = .str j ∧ i.length + j.length ≤ sizeLine ∧ Q (.str (i ++ j)) H
def rAddInt : R2 := rI0 fun i j => .int (i + j)
def fAdd : D → D → Mem → Cont → Prop := fun d e M Φ => match d, e with
  | .int i, .int j => Φ (.int (i + j)) M
  | .str a, .str b => a.length + b.length ≤ sizeLine ∧ Φ (.str (a ++ b)) M
  | .tup xs, .tup ys => xs.length + ys.length ≤ sizeLine ∧ Φ (.tup (xs ++ ys)) M
  | d, e => ∃ xs ys, lsR M d = some xs ∧ lsR M e = some ys ∧ xs.length + ys.length ≤ sizeLine ∧ Φ (.lst (xs ++ ys)) M
def rAddA (K : PySem.W.Frag) : R2 := fun x y H Q => rAddInt x y H Q ∨ rAddStr x y H Q ∨ rCatA K x y H Q ∨ rCatG x y H (fz1 Q)
theorem op_addA : OpR X (binaryOp .Add) (rAddA X.K) := op_add.or (op_add_str.or (op_catA.or (op_fz op_catG)))
theorem d_add : R2D K T (rAddA K) fAdd := by
  intro x y d e H M Φ Q rx ry m q g
  have list : (∃ xs ys, lsR M d = some xs ∧ lsR M e = some ys ∧ xs.length + ys.length ≤ sizeLine ∧ Φ (.lst (xs ++ ys)) M) → rAddA K x y H Q := by
    rintro ⟨xs, ys, h1, h2, hz, φ⟩
    obtain ⟨l, vs, rfl, a1, b1⟩ := lsR_rep rx m h1
    obtain ⟨l2, ws, rfl, a2, b2⟩ := lsR_rep ry m h2
    exact .inr (.inr (.inr ⟨l, l2, vs, ws, rfl, rfl, a1, a2, by rw [b1.length, b2.length]; exact hz, fun p n => g.newF m n φ (b1.append b2)⟩))
  unfold fAdd at q
  split at q
  · cases rx; cases ry; exact .inl ⟨_, _, rfl, rfl, g.now m q (.int _)⟩
  · cases rx; cases ry; exact .inr (.inl ⟨_, _, rfl, rfl, q.1, g.now m q.2 (.str _)⟩)
  · obtain ⟨hz, φ⟩ := q
    cases rx with
    | @tup a xs _ ha ra =>
      cases ry with
      | @tup b ys _ hb rb =>
        refine .inr (.inr (.inl ⟨a, b, xs, ys, rfl, rfl, .of ha, .of hb, by rw [ra.length, rb.length]; exact hz, fun ex => ?_, fun ex ey => ?_, fun ex ey p n => g.newT m n φ (ra.append rb)⟩))
        · subst ex; cases ra; exact g.now m φ (.tup hb rb)
        · subst ey; cases rb; rw [List.append_nil] at φ; exact g.now m φ (.tup ha ra)
  · exact list q
theorem xe_add {a b : Expr} {da db : DE} {pos : Pos} (ha : XE X T a da) (hb : XE X T b db) : XE X T (.BinOp a .Add b pos) (dBin fAdd da db) := xe_op op_addA d_add ha hb
/-! ### - -/
def fSub : D → D → Mem → Cont → Prop := fun d e M Φ => match d, e with
  | .int i, .int j => Φ (.int (i - j)) M
  | _, _ => False
theorem d_sub : R2D K T (rI0 fun i j => .int (i - j)) fSub := by
  intro x y d e H M Φ Q rx ry m q g
  unfold fSub at q
  split at q
  · cases rx; cases ry; exact ⟨_, _, rfl, rfl, g.now m q (.int _)⟩
  · exact q.elim
theorem xe_sub {a b : Expr} {da db : DE} {pos : Pos} (ha : XE X T a da) (hb : XE X T b db) : XE X T (.BinOp a .Sub b pos) (dBin fSub da db) := xe_op op_sub d_sub ha hb
/-! ### * -/
def rRepG : R2 := fun x y H Q => ∃ l k xs, x = .ref l ∧ y = .int k ∧ Rd H l (.lst xs) ∧ -(2 ^ 63) ≤ k ∧ k < 2 ^ 63 ∧ xs.length * k.toNat ≤ sizeLine ∧
  ∀ p, H p = none → Q (.ref p) (upd H p (.lst (List.replicate k.toNat xs).flatten))
theorem op_repG : OpR X (binaryOp .Mult) rRepG := by
  intro pins s σ H x y v u Q I rx ry h
  obtain ⟨l, k, xs, rfl, rfl, hH, h1, h2, hz, q⟩ := h
  cases rx
  obtain ⟨t, rfl⟩ := ry
  obtain ⟨z, its, n, r, hl, e⟩ := rdL I hH
  have hlen : its.toArray.size * k.toNat ≤ sizeLine := by rw [List.size_toArray, ← hl]; exact hz
  have hcap : ¬ its.toArray.size * k.toNat > (2 ^ 63 - 1) / 8 := by
    have : (sizeLine : Nat) ≤ (2 ^ 63 - 1) / 8 := by decide
    omega
  have hfit : ¬ (!Builtin.List.listFitsIndex k) = true := by
    rw [fitsIndex_both h1 h2]
    exact Bool.false_ne_true
  have hlong : ¬ Builtin.List.listTooLong (its.toArray.size * k.toNat) = true := by
    rw [notLongL hlen]
    exact Bool.false_ne_true
  have hnew : List.foldl (fun x1 x2 => x1 ++ x2) #[] (List.replicate (if its.toArray.isEmpty = true then 0 else k.toNat) its.toArray) = (List.replicate k.toNat its).flatten.toArray := by
    have f0 : ∀ m : Nat, List.foldl (fun x1 x2 => x1 ++ x2) #[] (List.replicate m its.toArray) = (List.replicate m its).flatten.toArray := fun m => by
      have := foldl_rep its m []
      rw [List.nil_append] at this
      exact this
    rw [f0]
    cases its with
    | nil => simp
    | cons a r' => rw [if_neg (by simp)]
  refine wpAny_binaryOp_repeat_ref (T := "list") (U := "int") (by decide) ⟨_, e, rfl⟩ (fun s' => typeIs_int s' k t) noFill_list_mul F.fills_int_mul F.slot_int_rmul repeat_list F.slot_int_index.lookup
    (call_meets F.slot_int_rmul (typeIs_int s k t) F.entry_int_rmul (F.args_int_rmul_2 _ _) (int___rmul___int_list k t l its.toArray n)
      ⟨e, rfl, ⟨_, e, rfl⟩, call_meets F.slot_list_mul ⟨_, e, rfl⟩ F.entry_list_mul (F.args_list_mul_2 _ _) (AutoListH.list___mul___list_int_3 l its.toArray n k t hfit hcap hlong) ⟨e, ?_⟩⟩)
  rw [hnew]
  exact ⟨.ref _, _, I.lnew (t' := s.toks) (r.rep k.toNat) (by rw [PyProof.Rows.lm_len_rep_flat, Nat.mul_comm]; exact hz), rfl, q _ I.fresh⟩
/-- a text times an int -/
def strRep (x : Str) (n : Nat) : Str := ⟨(List.replicate n x.cps.toList).flatten.toArray⟩
theorem strRep_one (x : Str) : strRep x 1 = x := by cases x; simp [strRep]
theorem fold_rep (a : Array Nat) : ∀ (k : Nat) (acc : Array Nat), (List.replicate k a).foldl (· ++ ·) acc = acc ++ (List.replicate k a.toList).flatten.toArray
  | 0, acc => by simp
  | k + 1, acc => by
    rw [List.replicate_succ, List.foldl_cons, fold_rep a k, List.replicate_succ, List.flatten_cons]
    apply Array.ext'
    simp
theorem length_strRep (x : Str) (n : Nat) : (strRep x n).length = n * x.length := by
  unfold strRep Str.length
  simp
def rRepS : R2 := fun x y H Q => ∃ z k, x = .str z ∧ y = .int k ∧ 2 ≤ k ∧ k ≤ 100000 ∧ 1 ≤ z.length ∧ z.length ≤ 100 ∧ Q (.str (strRep z k.toNat)) H
theorem op_repS : OpR X (binaryOp .Mult) rRepS := by
  intro pins s σ H x y v u Q I rx ry h
  obtain ⟨z, k, rfl, rfl, h1, h2, h3, h4, q⟩ := h
  obtain ⟨t, rfl⟩ := rx
  obtain ⟨t', rfl⟩ := ry
  have hk : ¬ k < 1 := by omega
  have hk1 : (k == 1 || z.length == 0) = false := by
    have a1 : (k == 1) = false := by simp; omega
    have a2 : (z.length == 0) = false := by simp; omega
    rw [a1, a2]; rfl
  have hm : z.length * k.toNat ≤ 100 * 100000 := Nat.mul_le_mul h4 (by omega)
  refine PySem.P.mul_str ?_ (fun _ _ => ?_) (fun _ _ => ?_) ?_
  · rw [decide_eq_false (by omega), decide_eq_false (by omega)]; rfl
  · have h5 : (100 : Int) ≤ (2 ^ 63 - 1) / k := (Int.le_ediv_iff_mul_le (by omega)).mpr (by omega)
    omega
  · unfold Builtin.Str.tooLong
    rw [sizeLine_eq]
    simp
    omega
  · rw [if_neg hk, hk1, if_neg (by decide), fold_rep]
    have e : (⟨#[] ++ (List.replicate k.toNat z.cps.toList).flatten.toArray⟩ : Str) = strRep z k.toNat := by unfold strRep; simp
    rw [e]
    refine ⟨?_, .str _, H, I.tok _, ⟨_, rfl⟩, q⟩
    have hl := length_strRep z k.toNat
    rw [sizeLine_eq]
    rw [Nat.mul_comm] at hl
    show (strRep z k.toNat).length ≤ _
    omega
def fMul : D → D → Mem → Cont → Prop := fun d e M Φ => match d, e with
  | .int i, .int j => IntMulOk i j ∧ Φ (.int (i * j)) M
  | .str a, .int k => 2 ≤ k ∧ k ≤ 100000 ∧ 1 ≤ a.length ∧ a.length ≤ 100 ∧ Φ (.str (strRep a k.toNat)) M
  | .tup xs, .int k => xs ≠ [] ∧ 2 ≤ k ∧ k ≤ 1000 ∧ xs.length ≤ 1000 ∧ Φ (.tup (List.replicate k.toNat xs).flatten) M
  | d, .int k => ∃ xs, lsR M d = some xs ∧ -(2 ^ 63) ≤ k ∧ k < 2 ^ 63 ∧ xs.length * k.toNat ≤ sizeLine ∧ Φ (.lst (List.replicate k.toNat xs).flatten) M
  | _, _ => False
def rMulInt : R2 := rI IntMulOk fun i j => .int (i * j)
theorem op_mulX : OpR X (binaryOp .Mult) rMulInt := opI fun _ _ _ _ _ _ _ hc q => mul_int q hc
def rMulA (K : PySem.W.Frag) : R2 := fun x y H Q => rMulInt x y H Q ∨ rRepS x y H Q ∨ rRepT K x y H Q ∨ rRepG x y H (fz1 Q)
theorem op_mulA : OpR X (binaryOp .Mult) (rMulA X.K) := op_mulX.or (op_repS.or (op_repT.or (op_fz op_repG)))
theorem d_mul : R2D K T (rMulA K) fMul := by
  intro x y d e H M Φ Q rx ry m q g
  unfold fMul at q
  split at q
  · cases rx; cases ry; exact .inl ⟨_, _, rfl, rfl, q.1, g.now m q.2 (.int _)⟩
  · cases rx; cases ry
    obtain ⟨h1, h2, h3, h4, φ⟩ := q
    exact .inr (.inl ⟨_, _, rfl, rfl, h1, h2, h3, h4, g.now m φ (.str _)⟩)
  · obtain ⟨h0, h1, h2, h3, φ⟩ := q
    cases ry
    cases rx with
    | @tup a xs _ ha ra =>
      refine .inr (.inr (.inl ⟨a, _, xs, rfl, rfl, .of ha, fun z => h0 ?_, h1, h2, by rw [ra.length]; exact h3, fun p n => g.newT m n φ (ra.rep _)⟩))
      subst z; cases ra; rfl
  · obtain ⟨xs, h1, h2, h3, h4, φ⟩ := q
    cases ry
    obtain ⟨l, vs, rfl, a1, b1⟩ := lsR_rep rx m h1
    exact .inr (.inr (.inr ⟨l, _, vs, rfl, rfl, a1, h2, h3, by rw [b1.length]; exact h4, fun p n => g.newF m n φ (b1.rep _)⟩))
  · exact q.elim
theorem xe_mul {a b : Expr} {da db : DE} {pos : Pos} (ha : XE X T a da) (hb : XE X T b db) : XE X T (.BinOp a .Mult b pos) (dBin fMul da db) := xe_op op_mulA d_mul ha hb
/-! ### // % ** -/
def fFdiv : D → D → Mem → Cont → Prop := fun d e M Φ => match d, e with
  | .int i, .int j => CDivW i j ∧ Φ (.int (i / j)) M
  | _, _ => False
theorem d_fdiv : R2D K T (rI CDivW fun i j => .int (i / j)) fFdiv := by
  intro x y d e H M Φ Q rx ry m q g
  unfold fFdiv at q
  split at q
  · cases rx; cases ry; exact ⟨_, _, rfl, rfl, q.1, g.now m q.2 (.int _)⟩
  · exact q.elim
theorem xe_fdiv {a b : Expr} {da db : DE} {pos : Pos} (ha : XE X T a da) (hb : XE X T b db) : XE X T (.BinOp a .FloorDiv b pos) (dBin fFdiv da db) := xe_op op_fdivW d_fdiv ha hb
def fMod : D → D → Mem → Cont → Prop := fun d e M Φ => match d, e with
  | .int i, .int j => 0 < j ∧ Φ (.int (i % j)) M
  | _, _ => False
theorem d_mod : R2D K T (rI (fun _ j => 0 < j) fun i j => .int (i % j)) fMod := by
  intro x y d e H M Φ Q rx ry m q g
  unfold fMod at q
  split at q
  · cases rx; cases ry; exact ⟨_, _, rfl, rfl, q.1, g.now m q.2 (.int _)⟩
  · exact q.elim
theorem xe_mod {a b : Expr} {da db : DE} {pos : Pos} (ha : XE X T a da) (hb : XE X T b db) : XE X T (.BinOp a .Mod b pos) (dBin fMod da db) := xe_op op_mod d_mod ha hb
def fPow : D → D → Mem → Cont → Prop := fun d e M Φ => match d, e with
  | .int i, .int j => CPow i j ∧ Φ (.int (i ^ j.toNat)) M
  | _, _ => False
theorem d_pow : R2D K T (rI CPow fun i j => .int (i ^ j.toNat)) fPow := by
  intro x y d e H M Φ Q rx ry m q g
  unfold fPow at q
  split at q
  · cases rx; cases ry; exact ⟨_, _, rfl, rfl, q.1, g.now m q.2 (.int _)⟩
  · exact q.elim
theorem xe_pow {a b : Expr} {da db : DE} {pos : Pos} (ha : XE X T a da) (hb : XE X T b db) : XE X T (.BinOp a .Pow b pos) (dBin fPow da db) := xe_op op_pow d_pow ha hb
def dNeg (da : DE) : DE := fun Γ M Φ => da Γ M fun d M1 => match d with
  | .int i => Φ (.int (-i)) M1
  | _ => False
theorem xe_neg {a : Expr} {da : DE} {pos : Pos} (ha : XE X T a da) : XE X T (.UnaryOp .USub a pos) (dNeg da) := pe_weak (pe_un un_neg ha) fun σ H Q q => by
  obtain ⟨Γ, M, Φ, env, h, k⟩ := q
  refine ⟨Γ, M, _, env, h, fun v H1 d M1 φ1 k1 m1 r1 => ?_⟩
  cases d <;> first | exact φ1.elim | skip
  cases r1
  exact ⟨_, rfl, (k.from k1).now m1 φ1 (.int _)⟩

/-! ### order of ints -/
def fCmp (p : Int → Int → Bool) : D → D → Mem → Cont → Prop := fun d e M Φ => match d, e with
  | .int i, .int j => Φ (.bl (p i j)) M
  | _, _ => False
theorem d_cmp {p : Int → Int → Bool} : R2D K T (rI0 fun i j => .bl (p i j)) (fCmp p) := by
  intro x y d e H M Φ Q rx ry m q g
  unfold fCmp at q
  split at q
  · cases rx; cases ry; exact ⟨_, _, rfl, rfl, g.now m q (.bl _)⟩
  · exact q.elim
abbrev fLt := fCmp fun i j => decide (i < j)
abbrev fLe := fCmp fun i j => decide (i ≤ j)
abbrev fGt := fCmp fun i j => decide (j < i)
abbrev fGe := fCmp fun i j => decide (j ≤ i)
section
variable {a b : Expr} {da db : DE} {pos : Pos}
theorem xe_lt (ha : XE X T a da) (hb : XE X T b db) : XE X T (.Compare a [.Lt] [b] pos) (dBin fLt da db) := xe_cmp op_lt d_cmp ha hb (nomark _)
theorem xe_le (ha : XE X T a da) (hb : XE X T b db) : XE X T (.Compare a [.LtE] [b] pos) (dBin fLe da db) := xe_cmp op_le d_cmp ha hb (nomark _)
theorem xe_gt (ha : XE X T a da) (hb : XE X T b db) : XE X T (.Compare a [.Gt] [b] pos) (dBin fGt da db) := xe_cmp op_gt d_cmp ha hb (nomark _)
theorem xe_ge (ha : XE X T a da) (hb : XE X T b db) : XE X T (.Compare a [.GtE] [b] pos) (dBin fGe da db) := xe_cmp op_ge d_cmp ha hb (nomark _)
end

/-! ### == -/
mutual
def D.py : D → Option PyData
  | .non => some .none
  | .bl b => some (.bool b)
  | .int i => some (.int i)
  | .str x => some (.str x)
  | .tup xs => (D.pyAll xs).map .tuple
  | .lst xs => (D.pyAll xs).map .list
  | _ => none
def D.pyAll : List D → Option (List PyData)
  | [] => some []
  | d :: ds => (D.py d).bind fun x => (D.pyAll ds).map fun xs => x :: xs
end
mutual
theorem py_rep {H : Hp} : ∀ {d : D} {v : V} {e : PyData}, Rep K H v d → D.py d = some e → Dp K H v e
  | .non, _, _, r, h => by cases r; cases h; exact .non
  | .bl _, _, _, r, h => by cases r; cases h; exact .bl _
  | .int _, _, _, r, h => by cases r; cases h; exact .int _
  | .str _, _, _, r, h => by cases r; cases h; exact .str _
  | .tup xs, _, e, r, h => by
    simp only [D.py, Option.map_eq_some_iff] at h
    obtain ⟨es, h1, rfl⟩ := h
    cases r with | tup a b => exact .tup (.of a) (pyAll_rep b h1)
  | .lst xs, _, e, r, h => by
    simp only [D.py, Option.map_eq_some_iff] at h
    obtain ⟨es, h1, rfl⟩ := h
    cases r with | lst a b => exact .lst (.inl (.inr a)) (pyAll_rep b h1)
  | .dic _, _, _, _, h => by simp [D.py] at h
  | .ptr _, _, _, _, h => by simp [D.py] at h
  | .ty _, _, _, _, h => by simp [D.py] at h
  | .exc _ _, _, _, _, h => by simp [D.py] at h
  | .scr _, _, _, _, h => by simp [D.py] at h
theorem pyAll_rep {H : Hp} : ∀ {ds : List D} {vs : List V} {es : List PyData}, Reps K H vs ds → D.pyAll ds = some es → DpAll K H vs es
  | [], _, _, r, h => by cases r; cases h; exact .nil
  | d :: ds, _, es, r, h => by
    simp only [D.pyAll, Option.bind_eq_some_iff, Option.map_eq_some_iff] at h
    obtain ⟨x, h1, xs, h2, rfl⟩ := h
    cases r with | cons a b => exact .cons (py_rep a h1) (pyAll_rep b h2)
end
/-- also a list that may change -/
def pyM (M : Mem) : D → Option PyData
  | .ptr p => match M p with
    | some (.lst xs) => (D.pyAll xs).map .list
    | _ => none
  | d => D.py d
theorem pyM_rep {H : Hp} {M : Mem} {d : D} {v : V} {e : PyData} (r : Rep K H v d) (m : MOk K H M) (h : pyM M d = some e) : Dp K H v e := by
  unfold pyM at h
  split at h
  · rename_i p
    split at h
    · rename_i ys hp
      simp only [Option.map_eq_some_iff] at h
      obtain ⟨es, h1, rfl⟩ := h
      cases r
      obtain ⟨o, h2, h3⟩ := m _ _ hp
      cases o <;> first | exact h3.elim | exact .lst (.of h2) (pyAll_rep h3 h1)
    · cases h
  · exact py_rep r h
def fEq : D → D → Mem → Cont → Prop := fun d e M Φ => match d, e with
  | .int i, .int j => Φ (.bl (decide (i = j))) M
  | .str i, .str j => Φ (.bl (decide (i = j))) M
  | .bl i, .bl j => Φ (.bl (decide (i = j))) M
  | d, e => ∃ x y, pyM M d = some x ∧ pyM M e = some y ∧ SeqAt.shaped x = true ∧ SeqAt.shaped y = true ∧ Φ (.bl (PyData.eqv x y)) M
def fNe : D → D → Mem → Cont → Prop := fun d e M Φ => match d, e with
  | .int i, .int j => Φ (.bl (!decide (i = j))) M
  | .str i, .str j => Φ (.bl (!decide (i = j))) M
  | .bl i, .bl j => Φ (.bl (!decide (i = j))) M
  | d, e => ∃ x y, pyM M d = some x ∧ pyM M e = some y ∧ SeqAt.shaped x = true ∧ SeqAt.shaped y = true ∧ Φ (.bl (!PyData.eqv x y)) M
def rEqA (K : PySem.W.Frag) : R2 := fun x y H Q => rEq x y H Q ∨ rEqD K x y H Q
def rNeA (K : PySem.W.Frag) : R2 := fun x y H Q => rNe x y H Q ∨ rNeD K x y H Q
theorem dec_VI {i j : Int} : decide (V.int i = V.int j) = decide (i = j) := by by_cases h : i = j <;> simp [h]
theorem dec_VS {i j : Str} : decide (V.str i = V.str j) = decide (i = j) := by by_cases h : i = j <;> simp [h]
theorem dec_VB {i j : Bool} : decide (V.bl i = V.bl j) = decide (i = j) := by by_cases h : i = j <;> simp [h]
theorem d_eq : R2D K T (rEqA K) fEq := by
  intro x y d e H M Φ Q rx ry m q g
  unfold fEq at q
  split at q
  · cases rx; cases ry; exact .inl ⟨rfl, by rw [dec_VI]; exact g.now m q (.bl _)⟩
  · cases rx; cases ry; exact .inl ⟨rfl, by rw [dec_VS]; exact g.now m q (.bl _)⟩
  · cases rx; cases ry; exact .inl ⟨rfl, by rw [dec_VB]; exact g.now m q (.bl _)⟩
  · obtain ⟨a, b, h1, h2, h3, h4, φ⟩ := q
    exact .inr ⟨a, b, pyM_rep rx m h1, pyM_rep ry m h2, h3, h4, g.now m φ (.bl _)⟩
theorem d_ne : R2D K T (rNeA K) fNe := by
  intro x y d e H M Φ Q rx ry m q g
  unfold fNe at q
  split at q
  · cases rx; cases ry; exact .inl ⟨rfl, by rw [dec_VI]; exact g.now m q (.bl _)⟩
  · cases rx; cases ry; exact .inl ⟨rfl, by rw [dec_VS]; exact g.now m q (.bl _)⟩
  · cases rx; cases ry; exact .inl ⟨rfl, by rw [dec_VB]; exact g.now m q (.bl _)⟩
  · obtain ⟨a, b, h1, h2, h3, h4, φ⟩ := q
    exact .inr ⟨a, b, pyM_rep rx m h1, pyM_rep ry m h2, h3, h4, g.now m φ (.bl _)⟩
section
variable {a b : Expr} {da db : DE} {pos : Pos}
theorem xe_eq (hu : X.A.units + 64 < cLine) (ha : XE X T a da) (hb : XE X T b db) : XE X T (.Compare a [.Eq] [b] pos) (dBin fEq da db) := xe_cmp (op_eq.or (op_eqD hu)) d_eq ha hb (nomark _)
theorem xe_ne (hu : X.A.units + 64 < cLine) (ha : XE X T a da) (hb : XE X T b db) : XE X T (.Compare a [.NotEq] [b] pos) (dBin fNe da db) := xe_cmp (op_ne.or (op_neD hu)) d_ne ha hb (nomark _)
end

/-! ### is -/
def isNonD : D → Bool
  | .non => true
  | _ => false
theorem isNon_rep {H : Hp} {v : V} {d : D} (r : Rep K H v d) : decide (v = V.non) = isNonD d := by cases r <;> simp [isNonD]
def fIs : D → D → Mem → Cont → Prop := fun d e M Φ => match d, e with
  | .bl a, .bl b => Φ (.bl (decide (a = b))) M
  | d, .non => Φ (.bl (isNonD d)) M
  | _, _ => False
def fIsNot : D → D → Mem → Cont → Prop := fun d e M Φ => match d, e with
  | .bl a, .bl b => Φ (.bl (!decide (a = b))) M
  | d, .non => Φ (.bl (!isNonD d)) M
  | _, _ => False
def rIsA : R2 := fun x y H Q => rIsB x y H Q ∨ (y = V.non ∧ Q (.bl (decide (x = V.non))) H)
def rIsNotA : R2 := fun x y H Q => rNotB x y H Q ∨ (y = V.non ∧ Q (.bl (!decide (x = V.non))) H)
theorem d_is : R2D K T rIsA fIs := by
  intro x y d e H M Φ Q rx ry m q g
  unfold fIs at q
  split at q
  · cases rx; cases ry; exact .inl ⟨_, _, rfl, rfl, g.now m q (.bl _)⟩
  · cases ry; exact .inr ⟨rfl, by rw [isNon_rep rx]; exact g.now m q (.bl _)⟩
  · exact q.elim
theorem d_isNot : R2D K T rIsNotA fIsNot := by
  intro x y d e H M Φ Q rx ry m q g
  unfold fIsNot at q
  split at q
  · cases rx; cases ry; exact .inl ⟨_, _, rfl, rfl, g.now m q (.bl _)⟩
  · cases ry; exact .inr ⟨rfl, by rw [isNon_rep rx]; exact g.now m q (.bl _)⟩
  · exact q.elim
section
variable {a b : Expr} {da db : DE} {pos : Pos}
theorem xe_is (ha : XE X T a da) (hb : XE X T b db) : XE X T (.Compare a [.Is] [b] pos) (dBin fIs da db) := xe_cmp (op_isBl.or op_isN) d_is ha hb (nomark _)
theorem xe_isNot (ha : XE X T a da) (hb : XE X T b db) : XE X T (.Compare a [.IsNot] [b] pos) (dBin fIsNot da db) := xe_cmp (op_notBl.or op_notN) d_isNot ha hb (nomark _)
end
end
end DL

/-! DLd: in, subscripts, slices, built-in calls and methods over data. -/
namespace DL
open PySem PySem.Spec PyProof.Rows L2
section
variable {X : Cx} {K : PySem.W.Frag} {T : List (Addr × Str)}
/-! ### in -/
def flatD : D → Bool
  | .non => true
  | .bl _ => true
  | .int _ => true
  | .str _ => true
  | _ => false
def vOf : D → V
  | .non => .non
  | .bl b => .bl b
  | .int i => .int i
  | .str x => .str x
  | _ => .non
theorem vOf_rep {H : Hp} {v : V} {d : D} (r : Rep K H v d) (h : flatD d = true) : v = vOf d ∧ flatV v = true := by
  cases r <;> first | exact ⟨rfl, rfl⟩ | cases h
theorem vOf_reps {H : Hp} : ∀ {vs : List V} {ds : List D}, Reps K H vs ds → ds.all flatD = true → vs = ds.map vOf ∧ vs.all flatV = true
  | _, _, .nil, _ => ⟨rfl, rfl⟩
  | _, _, .cons (v := v) (vs := vs) a b, h => by
    rw [List.all_cons, Bool.and_eq_true] at h
    obtain ⟨h1, h2⟩ := vOf_rep a h.1
    obtain ⟨h3, h4⟩ := vOf_reps b h.2
    exact ⟨by rw [List.map_cons, ← h1, ← h3], by rw [List.all_cons, h2, h4]; rfl⟩
/-- x == y of flat data -/
def eqF (y x : D) : Bool := eqV (vOf y) (vOf x)
def sqD (M : Mem) : D → Option (List D)
  | .tup xs => some xs
  | d => lsD M d
theorem sqD_rep {H : Hp} {M : Mem} {v : V} {d : D} {xs : List D} (r : Rep K H v d) (m : MOk K H M) (h : sqD M d = some xs) : ∃ a vs, v = .ref a ∧ (SqL K H a vs ∨ SqT K H a vs) ∧ Reps K H vs xs := by
  unfold sqD at h
  split at h
  · cases h
    cases r with | tup a b => exact ⟨_, _, rfl, .inr (.of a), b⟩
  · obtain ⟨a, vs, e, h1, h2⟩ := lsD_rep r m h
    exact ⟨a, vs, e, .inl h1, h2⟩
def fIn : D → D → Mem → Cont → Prop := fun d e M Φ => match d, e with
  | .str x, .str z => ∃ c, x = ⟨#[c]⟩ ∧ Φ (.bl (decide (c ∈ z.cps.toList))) M
  | d, e => ∃ xs, sqD M e = some xs ∧ flatD d = true ∧ xs.all flatD = true ∧ Φ (.bl (xs.any fun y => eqF y d)) M
def fNotIn : D → D → Mem → Cont → Prop := fun d e M Φ => match d, e with
  | .str x, .str z => ∃ c, x = ⟨#[c]⟩ ∧ Φ (.bl (!decide (c ∈ z.cps.toList))) M
  | d, e => ∃ xs, sqD M e = some xs ∧ flatD d = true ∧ xs.all flatD = true ∧ Φ (.bl (!xs.any fun y => eqF y d)) M
def rInS1 : R2 := fun x y H Q => ∃ (c : Nat) (z : Str), x = .str ⟨#[c]⟩ ∧ y = .str z ∧ Q (.bl (decide (c ∈ z.cps.toList))) H
def rNotInS1 : R2 := fun x y H Q => ∃ (c : Nat) (z : Str), x = .str ⟨#[c]⟩ ∧ y = .str z ∧ Q (.bl (!decide (c ∈ z.cps.toList))) H
def rInA (K : PySem.W.Frag) : R2 := fun x y H Q => rInS1 x y H Q ∨ rIn K false x y H Q
def rNotInA (K : PySem.W.Frag) : R2 := fun x y H Q => rNotInS1 x y H Q ∨ rIn K true x y H Q
theorem inV_eq {x : D} {xs : List D} : inV (vOf x) (xs.map vOf) = xs.any fun y => eqF y x := by
  unfold inV eqF
  rw [List.any_map]
  rfl
theorem d_in : R2D K T (rInA K) fIn := by
  intro x y d e H M Φ Q rx ry m q g
  unfold fIn at q
  split at q
  · obtain ⟨c, rfl, φ⟩ := q
    cases rx; cases ry; exact .inl ⟨c, _, rfl, rfl, g.now m φ (.bl _)⟩
  · obtain ⟨xs, h1, h2, h3, φ⟩ := q
    obtain ⟨a, vs, rfl, h4, h5⟩ := sqD_rep ry m h1
    obtain ⟨rfl, h6⟩ := vOf_rep rx h2
    obtain ⟨rfl, h7⟩ := vOf_reps h5 h3
    exact .inr ⟨a, _, rfl, h4, h6, h7, by rw [if_neg Bool.false_ne_true, inV_eq]; exact g.now m φ (.bl _)⟩
theorem d_notIn : R2D K T (rNotInA K) fNotIn := by
  intro x y d e H M Φ Q rx ry m q g
  unfold fNotIn at q
  split at q
  · obtain ⟨c, rfl, φ⟩ := q
    cases rx; cases ry; exact .inl ⟨c, _, rfl, rfl, g.now m φ (.bl _)⟩
  · obtain ⟨xs, h1, h2, h3, φ⟩ := q
    obtain ⟨a, vs, rfl, h4, h5⟩ := sqD_rep ry m h1
    obtain ⟨rfl, h6⟩ := vOf_rep rx h2
    obtain ⟨rfl, h7⟩ := vOf_reps h5 h3
    exact .inr ⟨a, _, rfl, h4, h6, h7, by rw [if_pos rfl, inV_eq]; exact g.now m φ (.bl _)⟩
section
variable {a b : Expr} {da db : DE} {pos : Pos}
theorem xe_in (ha : XE X T a da) (hb : XE X T b db) (hm : behindInMarks .In b = false := by rfl) : XE X T (.Compare a [.In] [b] pos) (dBin fIn da db) := xe_cmp (op_in_sign.or op_in_seq) d_in ha hb hm
theorem xe_notIn (ha : XE X T a da) (hb : XE X T b db) (hm : behindInMarks .NotIn b = false := by rfl) : XE X T (.Compare a [.NotIn] [b] pos) (dBin fNotIn da db) := xe_cmp (op_notIn_sign.or op_notIn_seq) d_notIn ha hb hm
end
/-! ### subscripts -/
theorem atI_rep {H : Hp} {vs : List V} {ds : List D} {i : Int} {d : D} (r : Reps K H vs ds) (h : atI ds i = some d) : ∃ v, atI vs i = some v ∧ Rep K H v d := by
  unfold atI at h ⊢
  rw [← r.length] at h
  cases e : ixN vs.length i with
  | none => rw [e] at h; cases h
  | some j =>
    rw [e] at h
    exact r.get (i := j) h
def fIx : D → D → Mem → Cont → Prop := fun d e M Φ => match d, e with
  | .str z, .int i => ∃ c, z.length ≤ sizeLine ∧ atI z.cps.toList i = some c ∧ Φ (.str ⟨#[c]⟩) M
  | .tup xs, .int i => ∃ x, atI xs i = some x ∧ Φ x M
  | d, .int i => ∃ xs x, lsD M d = some xs ∧ atI xs i = some x ∧ Φ x M
  | _, _ => False
theorem d_ix : R2D K T (rIx K) fIx := by
  intro x y d e H M Φ Q rx ry m q g
  unfold fIx at q
  split at q
  · obtain ⟨c, h1, h2, φ⟩ := q
    cases rx; cases ry
    exact .inr (.inr ⟨_, _, c, rfl, rfl, h1, h2, g.now m φ (.str _)⟩)
  · obtain ⟨x, h1, φ⟩ := q
    cases ry
    cases rx with
    | @tup a vs _ ha ra =>
      obtain ⟨v, h2, h3⟩ := atI_rep ra h1
      exact .inr (.inl ⟨a, vs, _, v, rfl, rfl, .of ha, h2, g.now m φ h3⟩)
  · obtain ⟨xs, x, h0, h1, φ⟩ := q
    cases ry
    obtain ⟨a, vs, rfl, h4, h5⟩ := lsD_rep rx m h0
    obtain ⟨v, h2, h3⟩ := atI_rep h5 h1
    exact .inl ⟨a, vs, _, v, rfl, rfl, h4, h2, g.now m φ h3⟩
  · exact q.elim
theorem xe_item {a b : Expr} {da db : DE} {pos : Pos} (ha : XE X T a da) (hb : XE X T b db) (hs : PlainIx b := by exact fun _ _ => rfl) : XE X T (.Subscript a b pos) (dBin fIx da db) := xe_ix ix_seq d_ix ha hb hs
/-! ### d[k] of a dict in the store; the keys are texts or ints -/
def keyD : D → Option Key
  | .int i => some (.inl i)
  | .str x => some (.inr x)
  | _ => none
theorem keyD_rep {H : Hp} {v : V} {d : D} {k : Key} (r : Rep K H v d) (h : keyD d = some k) : v = kV k := by
  cases r <;> simp [keyD] at h <;> subst h <;> rfl
def valD {κ : Type} [DecidableEq κ] (kvs : List (κ × D)) (k : κ) : Option D := (kvs.find? fun kv => decide (kv.1 = k)).map (·.2)
def putD {κ : Type} [DecidableEq κ] (kvs : List (κ × D)) (k : κ) (d : D) : List (κ × D) :=
  if (kvs.any fun kv => decide (kv.1 = k)) = true then kvs.map (fun kv => if kv.1 = k then (kv.1, d) else kv) else kvs ++ [(k, d)]
theorem valK_rep {H : Hp} {k : Key} {d : D} : ∀ {kvs : List (Key × V)} {ds : List (Key × D)}, RepK K H kvs ds → valD ds k = some d → ∃ v, valV kvs k = some v ∧ Rep K H v d
  | _, _, .nil, h => by cases h
  | _, _, .cons (k := k') (v := v) (vs := vs) (d := d') (ds := ds) a b, h => by
    unfold valD at h
    unfold valV
    rw [List.find?_cons] at h ⊢
    by_cases e : k' = k
    · simp only [e, decide_true] at h ⊢
      cases h
      exact ⟨_, rfl, a⟩
    · simp only [e, decide_false] at h ⊢
      exact valK_rep b h
theorem repK_any {H : Hp} {k : Key} : ∀ {kvs : List (Key × V)} {ds : List (Key × D)}, RepK K H kvs ds → (kvs.any fun kv => decide (kv.1 = k)) = ds.any fun kv => decide (kv.1 = k)
  | _, _, .nil => rfl
  | _, _, .cons a b => by rw [List.any_cons, List.any_cons, repK_any b]
theorem repK_map {H : Hp} {k : Key} {v : V} {d : D} (r : Rep K H v d) : ∀ {kvs : List (Key × V)} {ds : List (Key × D)}, RepK K H kvs ds → RepK K H (kvs.map fun kv => if kv.1 = k then (kv.1, v) else kv) (ds.map fun kv => if kv.1 = k then (kv.1, d) else kv)
  | _, _, .nil => .nil
  | _, _, .cons (k := k') a b => by
    rw [List.map_cons, List.map_cons]
    by_cases e : k' = k
    · simp only [e, if_true]; exact .cons r (repK_map r b)
    · simp only [e, if_false]; exact .cons a (repK_map r b)
theorem repK_app {H : Hp} : ∀ {kvs ls : List (Key × V)} {ds es : List (Key × D)}, RepK K H kvs ds → RepK K H ls es → RepK K H (kvs ++ ls) (ds ++ es)
  | _, _, _, _, .nil, s => s
  | _, _, _, _, .cons a b, s => .cons a (repK_app b s)
theorem repK_put {H : Hp} {k : Key} {v : V} {d : D} (r : Rep K H v d) {kvs : List (Key × V)} {ds : List (Key × D)} (h : RepK K H kvs ds) : RepK K H (putK kvs k v) (putD ds k d) := by
  unfold putK putD
  rw [repK_any h]
  split
  · exact repK_map r h
  · exact repK_app h (.cons r .nil)
theorem repK_len {H : Hp} : ∀ {kvs : List (Key × V)} {ds : List (Key × D)}, RepK K H kvs ds → kvs.length = ds.length
  | _, _, .nil => rfl
  | _, _, .cons a b => by rw [List.length_cons, List.length_cons, repK_len b]
def dKs (M : Mem) : D → Option (List (Key × D))
  | .dic kvs => some kvs
  | .ptr p => match M p with
    | some (.dK kvs) => some kvs
    | _ => none
  | _ => none
theorem dKs_rep {H : Hp} {M : Mem} {v : V} {d : D} {xs : List (Key × D)} (r : Rep K H v d) (m : MOk K H M) (h : dKs M d = some xs) : ∃ a kvs, v = .ref a ∧ Rd H a (.dK kvs) ∧ RepK K H kvs xs := by
  unfold dKs at h
  split at h
  · cases h
    cases r with | dic a b => exact ⟨_, _, rfl, .inr a, b⟩
  · rename_i p
    split at h
    · rename_i ys hp
      cases h
      cases r
      obtain ⟨o, h1, h2⟩ := m _ _ hp
      cases o <;> first | exact h2.elim | exact ⟨_, _, rfl, .inl h1, h2⟩
    · cases h
  · cases h
def fDGet : D → D → Mem → Cont → Prop := fun d e M Φ => ∃ kvs k x, dKs M d = some kvs ∧ keyD e = some k ∧ valD kvs k = some x ∧ Φ x M
theorem xe_dget {o i : Expr} {dd di : DE} {pos : Pos} (hu : X.A.units + 1 < cLine) (ho : XE X T o dd) (hi : XE X T i di) (hs : NoSl i := by exact fun _ _ => rfl) : XE X T (.Subscript o i pos) (dBin fDGet dd di) := pe_weak (pe_dget hu ho hi hs) fun σ H Q q => by
  obtain ⟨Γ, M, Φ, env, h, k⟩ := q
  refine ⟨Γ, M, _, env, h, fun v1 H1 d1 M1 φ1 k1 m1 r1 => ⟨Γ, M1, _, env.go k1 m1, φ1, fun v2 H2 d2 M2 φ2 k2 m2 r2 => ?_⟩⟩
  obtain ⟨kvs, key, x, h1, h2, h3, φ⟩ := φ2
  obtain ⟨a, ks, rfl, ha, hk⟩ := dKs_rep (r1.mono k2) m2 h1
  obtain rfl := keyD_rep r2 h2
  obtain ⟨v, h4, h5⟩ := valK_rep hk h3
  exact ⟨a, v, rfl, .inl ⟨ks, key, ha, rfl, h4.symm⟩, (k.from (k1.trans k2)).now m2 φ h5⟩
/-- d[k] = e: e first -/
def dDPut (dd di dv : DE) : DS := fun E Γ M => dv Γ M fun v M1 => dd Γ M1 fun d M2 => di Γ M2 fun i M3 => ∃ p kvs k, d = .ptr p ∧ M3 p = some (.dK kvs) ∧ keyD i = some k ∧ kvs.length < sizeLine ∧ E.nx Γ (M3.set p (.dK (putD kvs k v)))
theorem xs_dput {o i value : Expr} {dd di dv : DE} {pos pos' : Pos} (hu : X.A.units + 1 < cLine) (ho : XE X T o dd) (hi : XE X T i di) (hv : XE X T value dv) (hs : swapsWith value (some (.Subscript o i pos')) pos.line X.env = pure false := by rfl) :
    XS X T (.Assign [.Subscript o i pos'] value pos) (dDPut dd di dv) := ps_weak (ps_dput hu ho hi hv hs) fun Dn σ H q => by
  obtain ⟨Γ, M, E, env, h, hn, hb, hc, hr⟩ := q
  refine ⟨Γ, M, _, env, h, fun v1 H1 d1 M1 φ1 k1 m1 r1 => ⟨Γ, M1, _, env.go k1 m1, φ1, fun v2 H2 d2 M2 φ2 k2 m2 r2 => ⟨Γ, M2, _, (env.go k1 m1).go k2 m2, φ2, fun v3 H3 d3 M3 φ3 k3 m3 r3 => ?_⟩⟩⟩
  obtain ⟨p, kvs, k, rfl, h1, h2, h3, φ⟩ := φ3
  cases r2
  obtain rfl := keyD_rep r3 h2
  obtain ⟨o, h4, h5⟩ := m3 _ _ h1
  cases o <;> first | exact h5.elim | skip
  rename_i ks
  have hl := repK_len h5
  have kk : Kp T H3 (upd H3 p (.dK (putK ks k v1))) := Kp.mut h4 True.intro
  have m4 := m3.put (m := .dK (putD kvs k d1)) kk (repK_put ((r1.mono k2).mono k3) h5)
  exact ⟨p, _, rfl, DPut.k h4 (by rw [hl]; exact h3), hn _ _ _ _ φ (((k1.trans k2).trans k3).trans kk) ((((env.go k1 m1).go k2 m2).go k3 m3).go kk m4)⟩

/-! ### slices -/
abbrev DO := Gam → Mem → (Option Int → Mem → Prop) → Prop
def liftO (K : PySem.W.Frag) (T : List (Addr × Str)) (d : DO) : TO := fun σ H Q => ∃ Γ M Φ, EnvOk K T Γ M σ H ∧ d Γ M Φ ∧ ∀ o H' M', Φ o M' → Kp T H H' → MOk K H' M' → Q o H'
theorem po_weak {e : Option Expr} {t t' : TO} (h : PO X e t) (w : ∀ σ H Q, t' σ H Q → t σ H Q) : PO X e t' := ⟨fun pins s σ H Q I q => h.run pins s σ H Q I (w _ _ _ q)⟩
def doNo : DO := fun _ M Φ => Φ none M
def doAt (de : DE) : DO := fun Γ M Φ => de Γ M fun d M1 => match d with
  | .int i => Φ (some i) M1
  | _ => False
theorem xo_no : PO X none (liftO X.K T doNo) := po_weak po_none fun σ H Q q => by
  obtain ⟨Γ, M, Φ, env, h, k⟩ := q
  exact k _ _ _ h .refl env.mem
theorem xo_at {e : Expr} {de : DE} (he : XE X T e de) : PO X (some e) (liftO X.K T (doAt de)) := po_weak (po_some he) fun σ H Q q => by
  obtain ⟨Γ, M, Φ, env, h, k⟩ := q
  refine ⟨Γ, M, _, env, h, fun v1 H1 d1 M1 φ1 k1 m1 r1 => ?_⟩
  cases d1 <;> first | exact φ1.elim | skip
  cases r1
  exact ⟨_, rfl, k _ _ _ φ1 k1 m1⟩
def cutD (xs : List D) (lo hi : Option Int) : List D := (xs.drop (HT.sIx xs.length 0 lo)).take (HT.sIx xs.length xs.length hi - HT.sIx xs.length 0 lo)
theorem cut_reps {H : Hp} {vs : List V} {ds : List D} (r : Reps K H vs ds) (lo hi : Option Int) : Reps K H (cutV vs lo hi) (cutD ds lo hi) := by
  unfold cutV cutD
  rw [r.length]
  exact (r.drop _).take _
def fSl : D → Option Int → Option Int → Mem → Cont → Prop := fun d lo hi M Φ => match d with
  | .str z => z.length ≤ sizeLine ∧ Φ (.str (cutS z lo hi)) M
  | .tup xs => Φ (.tup (cutD xs lo hi)) M
  | d => ∃ xs, lsD M d = some xs ∧ Φ (.lst (cutD xs lo hi)) M
def dSl (de : DE) (dl dh : DO) : DE := fun Γ M Φ => de Γ M fun d M1 => dl Γ M1 fun lo M2 => dh Γ M2 fun hi M3 => fSl d lo hi M3 Φ
theorem sIx_whole {n : Nat} {lo hi : Option Int} (h : HT.sIx n 0 lo = 0 ∧ HT.sIx n n hi = n) {xs : List D} (hn : xs.length = n) : cutD xs lo hi = xs := by
  unfold cutD
  rw [hn, h.1, h.2, List.drop_zero, Nat.sub_zero, ← hn, List.take_length]
theorem xe_slice {e : Expr} {lo hi : Option Expr} {de : DE} {dl dh : DO} {pos p2 : Pos} (he : XE X T e de) (hl : PO X lo (liftO X.K T dl)) (hh : PO X hi (liftO X.K T dh)) : XE X T (.Subscript e (.Slice lo hi none p2) pos) (dSl de dl dh) :=
  pe_weak (pe_slice ((sl_fz sl_list).or (sl_str.or sl_tupA)) he hl hh) fun σ H Q q => by
  obtain ⟨Γ, M, Φ, env, h, k⟩ := q
  refine ⟨Γ, M, _, env, h, fun v1 H1 d1 M1 φ1 k1 m1 r1 => ⟨Γ, M1, _, env.go k1 m1, φ1, fun l H2 M2 φ2 k2 m2 => ⟨Γ, M2, _, (env.go k1 m1).go k2 m2, φ2, fun u H3 M3 φ3 k3 m3 => ?_⟩⟩⟩
  have r3 := (r1.mono k2).mono k3
  have g := k.from ((k1.trans k2).trans k3)
  unfold fSl at φ3
  split at φ3
  · cases r3
    exact .inr (.inl ⟨_, rfl, φ3.1, g.now m3 φ3.2 (.str _)⟩)
  · cases r3 with
    | @tup a vs _ ha ra =>
      refine .inr (.inr ⟨a, vs, rfl, .of ha, fun w => ?_, fun w p n => g.newT m3 n φ3 (cut_reps ra l u)⟩)
      rw [sIx_whole w ra.length.symm] at φ3
      exact g.now m3 φ3 (.tup ha ra)
  · obtain ⟨xs, h1, φ⟩ := φ3
    obtain ⟨a, vs, rfl, h4, h5⟩ := lsD_rep r3 m3 h1
    exact .inl ⟨a, vs, rfl, h4, fun p n => g.newF m3 n φ (cut_reps h5 l u)⟩
/-- xs[::-1] of a list -/
def dRev (de : DE) : DE := fun Γ M Φ => de Γ M fun d M1 => ∃ xs, lsD M1 d = some xs ∧ Φ (.lst xs.reverse) M1
theorem xe_rev {e : Expr} {de : DE} {k : Nat} {p1 p2 p3 pos : Pos} (he : XE X T e de) : XE X T (.Subscript e (.Slice none none (some (.UnaryOp .USub (.Constant (.int 1) k p1) p2)) p3) pos) (dRev de) := pe_weak (pe_fz (pe_revL he)) fun σ H Q q => by
  obtain ⟨Γ, M, Φ, env, h, k⟩ := q
  refine ⟨Γ, M, _, env, h, fun v1 H1 d1 M1 φ1 k1 m1 r1 => ?_⟩
  obtain ⟨xs, h1, φ⟩ := φ1
  obtain ⟨a, vs, rfl, h4, h5⟩ := lsD_rep r1 m1 h1
  exact ⟨a, vs, rfl, h4, fun p n => (k.from k1).newF m1 n φ h5.reverse⟩

/-! ### built-in calls -/
def fAbs : List D → Mem → Cont → Prop := fun ds M Φ => match ds with
  | [.int i] => Φ (.int (i.natAbs : Int)) M
  | _ => False
theorem reps1 {H : Hp} {xs : List V} {d : D} (r : Reps K H xs [d]) : ∃ v, xs = [v] ∧ Rep K H v d := by
  cases r with | cons a b => cases b; exact ⟨_, rfl, a⟩
theorem reps2 {H : Hp} {xs : List V} {d e : D} (r : Reps K H xs [d, e]) : ∃ v u, xs = [v, u] ∧ Rep K H v d ∧ Rep K H u e := by
  cases r with | cons a b => cases b with | cons b c => cases c; exact ⟨_, _, rfl, a, b⟩
def rAbs : List V → Hp → VK → Prop := fun xs H Q => ∃ i, xs = [.int i] ∧ Q (.int (if i < 0 then -i else i)) H
theorem d_abs : CRD K T rAbs fAbs := by
  intro xs ds H M Φ Q r m q g
  unfold fAbs at q
  split at q
  · obtain ⟨v, rfl, rv⟩ := reps1 r
    cases rv
    rename_i i
    have e : (if i < 0 then -i else i) = (i.natAbs : Int) := by split <;> omega
    exact ⟨i, rfl, by rw [e]; exact g.now m q (.int _)⟩
  · exact q.elim
def fMax2 : List D → Mem → Cont → Prop := fun ds M Φ => match ds with
  | [.int i, .int j] => Φ (.int (max i j)) M
  | _ => False
def fMin2 : List D → Mem → Cont → Prop := fun ds M Φ => match ds with
  | [.int i, .int j] => Φ (.int (min i j)) M
  | _ => False
def rMaxI : List V → Hp → VK → Prop := fun xs H Q => ∃ i j, xs = [.int i, .int j] ∧ Q (.int (if j > i then j else i)) H
def rMinI : List V → Hp → VK → Prop := fun xs H Q => ∃ i j, xs = [.int i, .int j] ∧ Q (.int (if j < i then j else i)) H
theorem d_max2 : CRD K T rMaxI fMax2 := by
  intro xs ds H M Φ Q r m q g
  unfold fMax2 at q
  split at q
  · rename_i i j
    obtain ⟨v, u, rfl, rv, ru⟩ := reps2 r
    cases rv; cases ru
    have e : (if j > i then j else i) = max i j := by split <;> omega
    exact ⟨_, _, rfl, by rw [e]; exact g.now m q (.int _)⟩
  · exact q.elim
theorem d_min2 : CRD K T rMinI fMin2 := by
  intro xs ds H M Φ Q r m q g
  unfold fMin2 at q
  split at q
  · rename_i i j
    obtain ⟨v, u, rfl, rv, ru⟩ := reps2 r
    cases rv; cases ru
    have e : (if j < i then j else i) = min i j := by split <;> omega
    exact ⟨_, _, rfl, by rw [e]; exact g.now m q (.int _)⟩
  · exact q.elim
def fInt : List D → Mem → Cont → Prop := fun ds M Φ => match ds with
  | [.int i] => Φ (.int i) M
  | [.str a] => ∃ n, PySem.intText? a = some n ∧ a.length ≤ 640 ∧ Φ (.int n) M
  | _ => False
def rInt1 : List V → Hp → VK → Prop := fun xs H Q => (∃ i, xs = [.int i] ∧ Q (.int i) H) ∨ ∃ k, xs = [.bl k] ∧ Q (.int (if k then 1 else 0)) H
def rIntS : List V → Hp → VK → Prop := fun xs H Q => ∃ a n, xs = [.str a] ∧ PySem.intText? a = some n ∧ a.length ≤ 640 ∧ Q (.int n) H
theorem d_int : CRD K T (fun xs H Q => rInt1 xs H Q ∨ rIntS xs H Q) fInt := by
  intro xs ds H M Φ Q r m q g
  unfold fInt at q
  split at q
  · obtain ⟨v, rfl, rv⟩ := reps1 r
    cases rv
    exact .inl (.inl ⟨_, rfl, g.now m q (.int _)⟩)
  · obtain ⟨n, h1, h2, φ⟩ := q
    obtain ⟨v, rfl, rv⟩ := reps1 r
    cases rv
    exact .inr ⟨_, n, rfl, h1, h2, g.now m φ (.int _)⟩
  · exact q.elim
def fStr : List D → Mem → Cont → Prop := fun ds M Φ => match ds with
  | [.int i] => i.natAbs.log2 < 1920 ∧ Φ (.str (Str.ofString (toString i))) M
  | _ => False
def rStrI : List V → Hp → VK → Prop := fun xs H Q => ∃ i, xs = [.int i] ∧ i.natAbs.log2 < 1920 ∧ Q (.str (toString i)) H
theorem d_str : CRD K T rStrI fStr := by
  intro xs ds H M Φ Q r m q g
  unfold fStr at q
  split at q
  · obtain ⟨v, rfl, rv⟩ := reps1 r
    cases rv
    exact ⟨_, rfl, q.1, g.now m q.2 (.str _)⟩
  · exact q.elim
def fLen : List D → Mem → Cont → Prop := fun ds M Φ => match ds with
  | [.str z] => z.length ≤ sizeLine ∧ Φ (.int (z.length : Int)) M
  | [d] => ∃ xs, sqD M d = some xs ∧ Φ (.int (xs.length : Int)) M
  | _ => False
def rLenA (K : PySem.W.Frag) : List V → Hp → VK → Prop := fun xs H Q => ∃ x n, xs = [x] ∧ LenV K x H n ∧ Q (.int n) H
theorem d_len : CRD K T (rLenA K) fLen := by
  intro xs ds H M Φ Q r m q g
  unfold fLen at q
  split at q
  · obtain ⟨v, rfl, rv⟩ := reps1 r
    cases rv
    exact ⟨_, _, rfl, ⟨q.1, rfl⟩, g.now m q.2 (.int _)⟩
  · obtain ⟨ys, h1, φ⟩ := q
    obtain ⟨v, rfl, rv⟩ := reps1 r
    obtain ⟨a, vs, rfl, h2, h3⟩ := sqD_rep rv m h1
    rw [← h3.length] at φ
    exact ⟨_, vs.length, rfl, h2.elim (fun h => .inl ⟨vs, h, rfl⟩) (fun h => .inr ⟨vs, h, rfl⟩), g.now m φ (.int _)⟩
  · exact q.elim
/-- list(a list, a tuple), frozen; to change -/
def fList : List D → Mem → Cont → Prop := fun ds M Φ => match ds with
  | [d] => ∃ xs, sqD M d = some xs ∧ Φ (.lst xs) M
  | _ => False
def fListM : List D → Mem → Cont → Prop := fun ds M Φ => match ds with
  | [d] => ∃ xs, sqD M d = some xs ∧ ∀ p, M p = none → Φ (.ptr p) (M.set p (.lst xs))
  | _ => False
def rListO (K : PySem.W.Frag) : List V → Hp → VK → Prop := fun xs H Q => ∃ p ys, xs = [.ref p] ∧ (SqL K H p ys ∨ SqT K H p ys) ∧ ∀ l, H l = none → Q (.ref l) (upd H l (.lst ys))
theorem d_list : CRD K T (fun xs H Q => rListO K xs H (fz1 Q)) fList := by
  intro xs ds H M Φ Q r m q g
  unfold fList at q
  split at q
  · obtain ⟨ys, h1, φ⟩ := q
    obtain ⟨v, rfl, rv⟩ := reps1 r
    obtain ⟨a, vs, rfl, h2, h3⟩ := sqD_rep rv m h1
    exact ⟨a, vs, rfl, h2, fun p n => g.newF m n φ h3⟩
  · exact q.elim
theorem d_listM : CRD K T (rListO K) fListM := by
  intro xs ds H M Φ Q r m q g
  unfold fListM at q
  split at q
  · obtain ⟨ys, h1, φ⟩ := q
    obtain ⟨v, rfl, rv⟩ := reps1 r
    obtain ⟨a, vs, rfl, h2, h3⟩ := sqD_rep rv m h1
    exact ⟨a, vs, rfl, h2, fun p n => g.newL m n φ h3⟩
  · exact q.elim
def fTuple : List D → Mem → Cont → Prop := fun ds M Φ => match ds with
  | [.tup xs] => Φ (.tup xs) M
  | [d] => ∃ xs, lsD M d = some xs ∧ Φ (.tup xs) M
  | _ => False
def rTupO (K : PySem.W.Frag) : List V → Hp → VK → Prop := fun xs H Q => ∃ p ys, xs = [.ref p] ∧ ((SqL K H p ys ∧ ∀ l, H l = none → Q (.ref l) (upd H l (.tup ys))) ∨ (SqT K H p ys ∧ Q (.ref p) H))
theorem d_tuple : CRD K T (rTupO K) fTuple := by
  intro xs ds H M Φ Q r m q g
  unfold fTuple at q
  split at q
  · obtain ⟨v, rfl, rv⟩ := reps1 r
    cases rv with
    | tup a b => exact ⟨_, _, rfl, .inr ⟨.of a, g.now m q (.tup a b)⟩⟩
  · obtain ⟨ys, h1, φ⟩ := q
    obtain ⟨v, rfl, rv⟩ := reps1 r
    obtain ⟨a, vs, rfl, h2, h3⟩ := lsD_rep rv m h1
    exact ⟨a, vs, rfl, .inl ⟨h2, fun p n => g.newT m n φ h3⟩⟩
  · exact q.elim
theorem bls_rep {H : Hp} : ∀ {bs : List Bool} {vs : List V}, Reps K H vs (bs.map D.bl) → vs = bs.map V.bl
  | [], _, r => by cases r; rfl
  | b :: bs, _, r => by
    rw [List.map_cons] at r
    cases r with
    | cons a t => cases a; rw [bls_rep t]; rfl
def fAll : List D → Mem → Cont → Prop := fun ds M Φ => match ds with
  | [d] => ∃ bs : List Bool, lsD M d = some (bs.map D.bl) ∧ Φ (.bl (bs.all id)) M
  | _ => False
def fAny : List D → Mem → Cont → Prop := fun ds M Φ => match ds with
  | [d] => ∃ bs : List Bool, lsD M d = some (bs.map D.bl) ∧ Φ (.bl (bs.any id)) M
  | _ => False
theorem d_all : CRD K T (rAll K) fAll := by
  intro xs ds H M Φ Q r m q g
  unfold fAll at q
  split at q
  · obtain ⟨bs, h1, φ⟩ := q
    obtain ⟨v, rfl, rv⟩ := reps1 r
    obtain ⟨a, vs, rfl, h2, h3⟩ := lsD_rep rv m h1
    obtain rfl := bls_rep h3
    exact ⟨a, bs, rfl, h2, g.now m φ (.bl _)⟩
  · exact q.elim
theorem d_any : CRD K T (rAny K) fAny := by
  intro xs ds H M Φ Q r m q g
  unfold fAny at q
  split at q
  · obtain ⟨bs, h1, φ⟩ := q
    obtain ⟨v, rfl, rv⟩ := reps1 r
    obtain ⟨a, vs, rfl, h2, h3⟩ := lsD_rep rv m h1
    obtain rfl := bls_rep h3
    exact ⟨a, bs, rfl, h2, g.now m φ (.bl _)⟩
  · exact q.elim
end
section
variable {X : Cx} {T : List (Addr × Str)}
/-! ### list(text) -/
def fListS : List D → Mem → Cont → Prop := fun ds M Φ => match ds with
  | [.str x] => x.length ≤ sizeLine ∧ Φ (.lst (x.cps.toList.map fun c => .str ⟨#[c]⟩)) M
  | _ => False
def rListS1 : List V → Hp → VK → Prop := fun xs H Q => ∃ x, xs = [.str x] ∧ x.length ≤ sizeLine ∧ ∀ l, H l = none → Q (.ref l) (upd H l (.lst (x.cps.toList.map fun c => .str ⟨#[c]⟩)))
theorem vals_signs : ∀ (cs : List Nat) (us : List Value), us.length = cs.length → (∀ (j : Nat) (u : Value), us[j]? = some u → ∃ c t, cs[j]? = some c ∧ u = .str ⟨#[c]⟩ t) → Vals (cs.map fun c => V.str ⟨#[c]⟩) us
  | [], [], _, _ => .nil
  | [], _ :: _, h, _ => by simp at h
  | _ :: _, [], h, _ => by simp at h
  | c :: cs, u :: us, h, f => by
    refine .cons ?_ (vals_signs cs us (by simpa using h) fun j u' hj => f (j + 1) u' (by simpa using hj))
    obtain ⟨c', t, e1, e2⟩ := f 0 u rfl
    have e3 : c = c' := by simpa using e1
    exact ⟨t, by rw [e2, e3]⟩
theorem reps_signs {K : PySem.W.Frag} {H : Hp} : ∀ (cs : List Nat), Reps K H (cs.map fun c => V.str ⟨#[c]⟩) (cs.map fun c => D.str ⟨#[c]⟩)
  | [] => .nil
  | c :: cs => .cons (.str _) (reps_signs cs)
theorem call_listS (hc : X.calm = true) : CallR X (.type "list") rListS1 := by
  intro pins s σ H xs us Q I r h
  obtain ⟨x, rfl, hz, q⟩ := h
  obtain ⟨u, rfl, rx⟩ := vals1 r
  obtain ⟨t, rfl⟩ := rx
  have hz' : x.cps.size ≤ sizeLine := hz
  refine call_list_str (I.ok.hd hc) x t (fun h' tk acc' c' kp e hi => ?_) hz'
  have hv : Vals (x.cps.toList.map fun c => V.str ⟨#[c]⟩) acc'.toList := vals_signs _ _ (by rw [Array.length_toList, Array.length_toList]; exact hi.1) fun j u hj => by
    obtain ⟨c, t, h1, h2⟩ := hi.2 j u (by rw [← hj, Array.getElem?_toList])
    exact ⟨c, t, by rw [Array.getElem?_toList]; exact h1, h2⟩
  refine ⟨.ref s.heap.objs.size, _, I.laid (t' := tk) kp (Nat.le_refl _) (show ObjOk X.prog X.w _ h' _ (.lst (x.cps.toList.map fun c => V.str ⟨#[c]⟩)) from ⟨?_, acc'.toList, c', hv, ?_⟩), rfl, q _ (I.hok.fresh (Nat.le_refl _))⟩
  · rw [List.length_map, Array.length_toList]; exact hz'
  · rw [Array.toArray_toList]; exact e
def fListA : List D → Mem → Cont → Prop := fun ds M Φ => match ds with
  | [.str x] => x.length ≤ sizeLine ∧ Φ (.lst (x.cps.toList.map fun c => .str ⟨#[c]⟩)) M
  | [d] => ∃ xs, sqD M d = some xs ∧ Φ (.lst xs) M
  | _ => False
theorem d_listA {K : PySem.W.Frag} : CRD K T (fun xs H Q => rListO K xs H (fz1 Q) ∨ rListS1 xs H (fz1 Q)) fListA := by
  intro xs ds H M Φ Q r m q g
  unfold fListA at q
  split at q
  · obtain ⟨v, rfl, rv⟩ := reps1 r
    cases rv
    exact .inr ⟨_, rfl, q.1, fun p n => g.newF m n q.2 (reps_signs _)⟩
  · obtain ⟨ys, h1, φ⟩ := q
    obtain ⟨v, rfl, rv⟩ := reps1 r
    obtain ⟨a, vs, rfl, h2, h3⟩ := sqD_rep rv m h1
    exact .inl ⟨a, vs, rfl, h2, fun p n => g.newF m n φ h3⟩
  · exact q.elim
theorem call_listA (hc : X.calm = true) : CallR X (.type "list") (fun xs H Q => rListO X.K xs H (fz1 Q) ∨ rListS1 xs H (fz1 Q)) := (call_fz call_list_of).or (call_fz (call_listS hc))
theorem call_intA : CallR X (.type "int") (fun xs H Q => rInt1 xs H Q ∨ rIntS xs H Q) := call_int1.or call_int_str
end
end DL

/-! DLe: tests, statements, loops, comprehensions over data. -/
namespace DL
open PySem PySem.Spec PyProof.Rows L2
section
variable {X : Cx} {K : PySem.W.Frag} {T : List (Addr × Str)} {pos : Pos}
/-! ### tests -/
def dB (de : DE) : DT := fun Γ M Φ => de Γ M fun d M1 => match d with
  | .bl b => Φ b M1
  | _ => False
theorem lift_B {de : DE} {σ : Sg} {H : Hp} {Q : Bool → Hp → Prop} (q : liftT K T (dB de) σ H Q) : lift K T de σ H fun x H1 => ∃ c, x = .bl c ∧ Q c H1 := by
  obtain ⟨Γ, M, Φ, env, h, k⟩ := q
  refine ⟨Γ, M, _, env, h, fun v1 H1 d1 M1 φ1 k1 m1 r1 => ?_⟩
  cases d1 <;> first | exact φ1.elim | skip
  cases r1
  exact ⟨_, rfl, k _ _ _ φ1 k1 m1⟩
theorem xt_val {e : Expr} {de : DE} (h : XE X T e de) (he : ∀ whole, isTrue e X.env whole = (do let v ← whole; standAt e.pos; holding [v] (truthy v)) := by intro _; rfl) : XT X T e (dB de) := pt_weak (pt_val h he) fun σ H Q q => lift_B q
/-- a comparison as a test -/
theorem xt_cmp {op : CmpOp} {a b : Expr} {r : R2} {f : D → D → Mem → Cont → Prop} {da db : DE} (ho : OpR X (compareOp op) r) (hr : R2D X.K T r f) (ha : XE X T a da) (hb : XE X T b db) (hm : behindInMarks op b = false) : XT X T (.Compare a [op] [b] pos) (dB (dBin f da db)) :=
  pt_weak (pt_cmpR ho ha hb hm) fun σ H Q q => lift_op hr (lift_B q)
section
variable {a b : Expr} {da db : DE}
theorem xt_eq (hu : X.A.units + 64 < cLine) (ha : XE X T a da) (hb : XE X T b db) : XT X T (.Compare a [.Eq] [b] pos) (dB (dBin fEq da db)) := xt_cmp (op_eq.or (op_eqD hu)) d_eq ha hb (nomark _)
theorem xt_ne (hu : X.A.units + 64 < cLine) (ha : XE X T a da) (hb : XE X T b db) : XT X T (.Compare a [.NotEq] [b] pos) (dB (dBin fNe da db)) := xt_cmp (op_ne.or (op_neD hu)) d_ne ha hb (nomark _)
theorem xt_is (ha : XE X T a da) (hb : XE X T b db) : XT X T (.Compare a [.Is] [b] pos) (dB (dBin fIs da db)) := xt_cmp (op_isBl.or op_isN) d_is ha hb (nomark _)
theorem xt_isNot (ha : XE X T a da) (hb : XE X T b db) : XT X T (.Compare a [.IsNot] [b] pos) (dB (dBin fIsNot da db)) := xt_cmp (op_notBl.or op_notN) d_isNot ha hb (nomark _)
theorem xt_lt (ha : XE X T a da) (hb : XE X T b db) : XT X T (.Compare a [.Lt] [b] pos) (dB (dBin fLt da db)) := xt_cmp op_lt d_cmp ha hb (nomark _)
theorem xt_le (ha : XE X T a da) (hb : XE X T b db) : XT X T (.Compare a [.LtE] [b] pos) (dB (dBin fLe da db)) := xt_cmp op_le d_cmp ha hb (nomark _)
theorem xt_gt (ha : XE X T a da) (hb : XE X T b db) : XT X T (.Compare a [.Gt] [b] pos) (dB (dBin fGt da db)) := xt_cmp op_gt d_cmp ha hb (nomark _)
theorem xt_ge (ha : XE X T a da) (hb : XE X T b db) : XT X T (.Compare a [.GtE] [b] pos) (dB (dBin fGe da db)) := xt_cmp op_ge d_cmp ha hb (nomark _)
theorem xt_in (ha : XE X T a da) (hb : XE X T b db) (hm : behindInMarks .In b = false := by rfl) : XT X T (.Compare a [.In] [b] pos) (dB (dBin fIn da db)) := xt_cmp (op_in_sign.or op_in_seq) d_in ha hb hm
theorem xt_notIn (ha : XE X T a da) (hb : XE X T b db) (hm : behindInMarks .NotIn b = false := by rfl) : XT X T (.Compare a [.NotIn] [b] pos) (dB (dBin fNotIn da db)) := xt_cmp (op_notIn_sign.or op_notIn_seq) d_notIn ha hb hm
end
def dNotT (dt : DT) : DT := fun Γ M Φ => dt Γ M fun b M1 => Φ (!b) M1
theorem xt_not {a : Expr} {dt : DT} (h : XT X T a dt) : XT X T (.UnaryOp .Not a pos) (dNotT dt) := pt_weak (pt_not h) fun σ H Q q => by
  obtain ⟨Γ, M, Φ, env, h, k⟩ := q
  exact ⟨Γ, M, _, env, h, fun b H1 M1 φ1 k1 m1 => k _ _ _ φ1 k1 m1⟩
abbrev XW (X : Cx) (T : List (Addr × Str)) (e : Expr) (dt : DT) : Prop := PW X e (liftT X.K T dt)
def dAndT (da db : DT) : DT := fun Γ M Φ => da Γ M fun b M1 => if b = true then db Γ M1 Φ else Φ false M1
def dOrT (da db : DT) : DT := fun Γ M Φ => da Γ M fun b M1 => if b = true then Φ true M1 else db Γ M1 Φ
theorem xw_and1 {a : Expr} {da : DT} (h : XT X T a da) : XW X T (.BoolOp .And [a] pos) da := pw_and1 h
theorem xw_or1 {a : Expr} {da : DT} (h : XT X T a da) : XW X T (.BoolOp .Or [a] pos) da := pw_or1 h
theorem xw_and {a b : Expr} {rest : List Expr} {da db : DT} (h : XT X T a da) (hb : XW X T (.BoolOp .And (b :: rest) pos) db) : XW X T (.BoolOp .And (a :: b :: rest) pos) (dAndT da db) := pw_weak (pw_and h hb) fun σ H Q q => by
  obtain ⟨Γ, M, Φ, env, h, k⟩ := q
  refine ⟨Γ, M, _, env, h, fun b H1 M1 φ1 k1 m1 => ?_⟩
  cases b with
  | true => exact ⟨Γ, M1, _, env.go k1 m1, φ1, fun b2 H2 M2 φ2 k2 m2 => k _ _ _ φ2 (k1.trans k2) m2⟩
  | false => exact k _ _ _ φ1 k1 m1
theorem xw_or {a b : Expr} {rest : List Expr} {da db : DT} (h : XT X T a da) (hb : XW X T (.BoolOp .Or (b :: rest) pos) db) : XW X T (.BoolOp .Or (a :: b :: rest) pos) (dOrT da db) := pw_weak (pw_or h hb) fun σ H Q q => by
  obtain ⟨Γ, M, Φ, env, h, k⟩ := q
  refine ⟨Γ, M, _, env, h, fun b H1 M1 φ1 k1 m1 => ?_⟩
  cases b with
  | true => exact k _ _ _ φ1 k1 m1
  | false => exact ⟨Γ, M1, _, env.go k1 m1, φ1, fun b2 H2 M2 φ2 k2 m2 => k _ _ _ φ2 (k1.trans k2) m2⟩
theorem xt_w {e : Expr} {dt : DT} (h : XW X T e dt) : XT X T e dt := PW.pt h
/-! ### and, or, not, if-else as values -/
def dAndV (da db : DE) : DE := fun Γ M Φ => da Γ M fun d M1 => match d with
  | .bl b => if b = true then db Γ M1 Φ else Φ (.bl false) M1
  | _ => False
def dOrV (da db : DE) : DE := fun Γ M Φ => da Γ M fun d M1 => match d with
  | .bl b => if b = true then Φ (.bl true) M1 else db Γ M1 Φ
  | _ => False
def dNotV (da : DE) : DE := fun Γ M Φ => da Γ M fun d M1 => match d with
  | .bl b => Φ (.bl (!b)) M1
  | _ => False
theorem xe_one {a : Expr} {op} {da : DE} (h : XE X T a da) : XE X T (.BoolOp op [a] pos) da := pe_one h
theorem xe_and {a b : Expr} {rest : List Expr} {da db : DE} (h : XE X T a da) (hb : XE X T (.BoolOp .And (b :: rest) pos) db) : XE X T (.BoolOp .And (a :: b :: rest) pos) (dAndV da db) := pe_weak (pe_and h hb) fun σ H Q q => by
  obtain ⟨Γ, M, Φ, env, h, k⟩ := q
  refine ⟨Γ, M, _, env, h, fun v H1 d M1 φ1 k1 m1 r1 => ?_⟩
  cases d <;> first | exact φ1.elim | skip
  cases r1
  rename_i b
  refine ⟨b, rfl, ?_⟩
  cases b with
  | true => exact ⟨Γ, M1, _, env.go k1 m1, φ1, k.from k1⟩
  | false => exact (k.from k1).now m1 φ1 (.bl _)
theorem xe_or {a b : Expr} {rest : List Expr} {da db : DE} (h : XE X T a da) (hb : XE X T (.BoolOp .Or (b :: rest) pos) db) : XE X T (.BoolOp .Or (a :: b :: rest) pos) (dOrV da db) := pe_weak (pe_or h hb) fun σ H Q q => by
  obtain ⟨Γ, M, Φ, env, h, k⟩ := q
  refine ⟨Γ, M, _, env, h, fun v H1 d M1 φ1 k1 m1 r1 => ?_⟩
  cases d <;> first | exact φ1.elim | skip
  cases r1
  rename_i b
  refine ⟨b, rfl, ?_⟩
  cases b with
  | true => exact (k.from k1).now m1 φ1 (.bl _)
  | false => exact ⟨Γ, M1, _, env.go k1 m1, φ1, k.from k1⟩
theorem xe_not {a : Expr} {da : DE} (h : XE X T a da) : XE X T (.UnaryOp .Not a pos) (dNotV da) := pe_weak (pe_not h) fun σ H Q q => by
  obtain ⟨Γ, M, Φ, env, h, k⟩ := q
  refine ⟨Γ, M, _, env, h, fun v H1 d M1 φ1 k1 m1 r1 => ?_⟩
  cases d <;> first | exact φ1.elim | skip
  cases r1
  exact ⟨_, rfl, (k.from k1).now m1 φ1 (.bl _)⟩
def dIf (dt : DT) (da db : DE) : DE := fun Γ M Φ => dt Γ M fun b M1 => if b = true then da Γ M1 Φ else db Γ M1 Φ
theorem xe_if {c a b : Expr} {dt : DT} {da db : DE} (hc : XT X T c dt) (ha : XE X T a da) (hb : XE X T b db) : XE X T (.IfExp c a b pos) (dIf dt da db) := pe_weak (pe_ifExp hc ha hb) fun σ H Q q => by
  obtain ⟨Γ, M, Φ, env, h, k⟩ := q
  refine ⟨Γ, M, _, env, h, fun b H1 M1 φ1 k1 m1 => ?_⟩
  cases b with
  | true => exact ⟨Γ, M1, _, env.go k1 m1, φ1, k.from k1⟩
  | false => exact ⟨Γ, M1, _, env.go k1 m1, φ1, k.from k1⟩
/-! ### a < b < c -/
def dChain (f f' : D → D → Mem → Cont → Prop) (da db dc : DE) : DE := fun Γ M Φ => da Γ M fun x M1 => db Γ M1 fun y M2 => f x y M2 fun z M3 => match z with
  | .bl b => if b = true then dc Γ M3 fun w M4 => f' y w M4 Φ else Φ (.bl false) M3
  | _ => False
section
variable {a b c : Expr} {da db dc : DE} {op op' : CmpOp} {r r' : R2} {f f' : D → D → Mem → Cont → Prop}
theorem lift_chain (hr : R2D X.K T r f) (hr' : R2D X.K T r' f') {σ : Sg} {H : Hp} {Q : VK} (q : lift X.K T (dChain f f' da db dc) σ H Q) : tChain r r' (lift X.K T da) (lift X.K T db) (lift X.K T dc) σ H Q := by
  obtain ⟨Γ, M, Φ, env, h, k⟩ := q
  refine ⟨Γ, M, _, env, h, fun v1 H1 d1 M1 φ1 k1 m1 r1 => ⟨Γ, M1, _, env.go k1 m1, φ1, fun v2 H2 d2 M2 φ2 k2 m2 r2 => hr _ _ _ _ _ _ _ _ (r1.mono k2) r2 m2 φ2 fun v3 H3 d3 M3 φ3 k3 m3 r3 => ?_⟩⟩
  cases d3 <;> first | exact φ3.elim | skip
  cases r3
  rename_i bb
  refine ⟨bb, rfl, ?_⟩
  cases bb with
  | true =>
    refine ⟨Γ, M3, _, ((env.go k1 m1).go k2 m2).go k3 m3, φ3, fun v4 H4 d4 M4 φ4 k4 m4 r4 => ?_⟩
    exact hr' _ _ _ _ _ _ _ _ ((r2.mono k3).mono k4) r4 m4 φ4 (k.from (((k1.trans k2).trans k3).trans k4))
  | false => exact (k.from ((k1.trans k2).trans k3)).now m3 φ3 (.bl _)
theorem xe_chain (ho : OpR X (compareOp op) r) (hr : R2D X.K T r f) (ho' : OpR X (compareOp op') r') (hr' : R2D X.K T r' f') (ha : XE X T a da) (hb : XE X T b db) (hc : XE X T c dc)
    (hm : lastMarks [op, op'] [b, c] = false := by with_unfolding_all rfl) : XE X T (.Compare a [op, op'] [b, c] pos) (dChain f f' da db dc) := pe_weak (pe_chain ho ho' ha hb hc hm) fun σ H Q q => lift_chain hr hr' q
theorem xt_chain (ho : OpR X (compareOp op) r) (hr : R2D X.K T r f) (ho' : OpR X (compareOp op') r') (hr' : R2D X.K T r' f') (ha : XE X T a da) (hb : XE X T b db) (hc : XE X T c dc)
    (hm : lastMarks [op, op'] [b, c] = false := by with_unfolding_all rfl) : XT X T (.Compare a [op, op'] [b, c] pos) (dB (dChain f f' da db dc)) := pt_weak (pt_chain ho ho' ha hb hc hm) fun σ H Q q => lift_chain hr hr' (lift_B q)
end
/-! ### statements -/
def dsNil : DS := fun E Γ M => E.nx Γ M
def dsSeq (s r : DS) : DS := fun E Γ M => s { E with nx := fun Γ' M' => r E Γ' M' } Γ M
theorem xss_nil : XSs X T [] dsNil := pss_weak pss_nil fun Dn σ H q => by
  obtain ⟨Γ, M, E, env, h, hn, hb, hc, hr⟩ := q
  exact hn _ _ _ _ h .refl env
theorem xss_cons {st : Stmt} {rest : List Stmt} {ds dr : DS} (h1 : XS X T st ds) (h2 : XSs X T rest dr) : XSs X T (st :: rest) (dsSeq ds dr) := pss_weak (pss_cons h1 h2) fun Dn σ H q => by
  obtain ⟨Γ, M, E, env, h, hn, hb, hc, hr⟩ := q
  refine ⟨Γ, M, _, env, h, fun σ' H' Γ' M' φ k e => ?_, hb, hc, hr⟩
  exact ⟨Γ', M', E, e, φ, fun σ2 H2 Γ2 M2 φ2 k2 e2 => hn _ _ _ _ φ2 (k.trans k2) e2, fun σ2 H2 Γ2 M2 φ2 k2 e2 => hb _ _ _ _ φ2 (k.trans k2) e2, fun σ2 H2 Γ2 M2 φ2 k2 e2 => hc _ _ _ _ φ2 (k.trans k2) e2, hr.from k⟩
theorem xss_one {st : Stmt} {ds : DS} (h1 : XS X T st ds) : XSs X T [st] ds := pss_one h1
theorem xs_pass : XS X T (.Pass pos) dsNil := ps_weak ps_pass fun Dn σ H q => by
  obtain ⟨Γ, M, E, env, h, hn, hb, hc, hr⟩ := q
  exact hn _ _ _ _ h .refl env
def dsBreak : DS := fun E Γ M => E.bk Γ M
def dsCont : DS := fun E Γ M => E.ct Γ M
theorem xs_break : XS X T (.Break pos) dsBreak := ps_weak ps_break fun Dn σ H q => by
  obtain ⟨Γ, M, E, env, h, hn, hb, hc, hr⟩ := q
  exact hb _ _ _ _ h .refl env
theorem xs_continue : XS X T (.Continue pos) dsCont := ps_weak ps_continue fun Dn σ H q => by
  obtain ⟨Γ, M, E, env, h, hn, hb, hc, hr⟩ := q
  exact hc _ _ _ _ h .refl env
def dsExpr (de : DE) : DS := fun E Γ M => de Γ M fun _ M1 => E.nx Γ M1
theorem xs_expr {e : Expr} {de : DE} (he : XE X T e de) (hs : swapsWith e none pos.line X.env = pure false := by rfl) : XS X T (.Expr e pos) (dsExpr de) := ps_weak (ps_expr he hs) fun Dn σ H q => by
  obtain ⟨Γ, M, E, env, h, hn, hb, hc, hr⟩ := q
  exact ⟨Γ, M, _, env, h, fun v H1 d M1 φ k m r => hn _ _ _ _ φ k (env.go k m)⟩
def dsRet (de : DE) : DS := fun E Γ M => de Γ M E.rt
theorem xs_ret {e : Expr} {de : DE} (he : XE X T e de) : XS X T (.Return (some e) pos) (dsRet de) := ps_weak (ps_ret he) fun Dn σ H q => by
  obtain ⟨Γ, M, E, env, h, hn, hb, hc, hr⟩ := q
  exact ⟨Γ, M, _, env, h, hr⟩
def dsRetN : DS := fun E Γ M => E.rt .non M
theorem xs_retN : XS X T (.Return none pos) dsRetN := ps_weak ps_retN fun Dn σ H q => by
  obtain ⟨Γ, M, E, env, h, hn, hb, hc, hr⟩ := q
  exact hr.now env.mem h .non
def dsIf (dt : DT) (d1 d2 : DS) : DS := fun E Γ M => dt Γ M fun b M1 => if b = true then d1 E Γ M1 else d2 E Γ M1
theorem xs_if {c : Expr} {a b : List Stmt} {dt : DT} {d1 d2 : DS} (hc : XT X T c dt) (ha : XSs X T a d1) (hb : XSs X T b d2) : XS X T (.If c a b pos) (dsIf dt d1 d2) := ps_weak (ps_if hc ha hb) fun Dn σ H q => by
  obtain ⟨Γ, M, E, env, h, hn, hb, hc, hr⟩ := q
  refine ⟨Γ, M, _, env, h, fun b H1 M1 φ k m => ?_⟩
  have fin : ∀ {d : DS}, d E Γ M1 → liftS X.K T d Dn σ H1 := fun {d} φ => ⟨Γ, M1, E, env.go k m, φ, fun σ2 H2 Γ2 M2 φ2 k2 e2 => hn _ _ _ _ φ2 (k.trans k2) e2, fun σ2 H2 Γ2 M2 φ2 k2 e2 => hb _ _ _ _ φ2 (k.trans k2) e2, fun σ2 H2 Γ2 M2 φ2 k2 e2 => hc _ _ _ _ φ2 (k.trans k2) e2, hr.from k⟩
  cases b with
  | true => exact fin φ
  | false => exact fin φ
/-- a statement that is not reached -/
def dsNever : DS := fun _ _ _ => False
theorem xs_never {st : Stmt} : XS X T st dsNever := ps_weak ps_never fun Dn σ H q => by
  obtain ⟨Γ, M, E, env, h, _⟩ := q
  exact h
theorem xss_never {st : List Stmt} : XSs X T st dsNever := pss_weak pss_never fun Dn σ H q => by
  obtain ⟨Γ, M, E, env, h, _⟩ := q
  exact h
/-- x = e -/
def dsSet (i : Nat) (de : DE) : DS := fun E Γ M => de Γ M fun d M1 => E.nx (Γ.set i (some d)) M1
theorem xs_set {i : Nat} {x : Str} {e : Expr} {de : DE} {pos' : Pos} (hN : X.N.Nodup) (hi : X.N[i]? = some x) (hx : Loc X.env.scope x) (he : XE X T e de) (hs : swapsWith e (some (.Name x pos')) pos.line X.env = pure false := by rfl)
    (hf : X.fn x = true ∨ X.env.scope.names.lookup x = some .local := by first | exact .inl rfl | exact .inr rfl | assumption) : XS X T (.Assign [.Name x pos'] e pos) (dsSet i de) := ps_weak (ps_set (i := i) hN hi hx he hs hf) fun Dn σ H q => by
  obtain ⟨Γ, M, E, env, h, hn, hb, hc, hr⟩ := q
  exact ⟨Γ, M, _, env, h, fun v H1 d M1 φ k m r => hn _ _ _ _ φ k ((env.go k m).set i r)⟩
/-- targets of for and of comprehensions: names, pairs of names -/
structure TgOk (K : PySem.W.Frag) (T : List (Addr × Str)) (vs : List Nat) (g : TG) (dg : DG) : Prop where
  run : ∀ (v : V) (d : D) (σ : Sg) (H : Hp) (Γ : Gam) (M : Mem) (Φ : Gam → Mem → Prop) (Q : Sg → Hp → Prop), EnvOk K T Γ M σ H → Rep K H v d → dg d Γ M Φ →
    (∀ σ' Γ', Φ Γ' M → EnvOk K T Γ' M σ' H → wipe σ' vs = wipe σ vs → Q σ' H) → g v σ H Q
theorem wipe_set (σ : Sg) (i : Nat) (x : Option V) : ∀ vs : List Nat, i ∈ vs → wipe (σ.set i x) vs = wipe σ vs
  | [], h => by simp at h
  | v :: vs, h => by
    unfold wipe
    by_cases hv : i ∈ vs
    · rw [wipe_set σ i x vs hv]
    · have e : v = i := by
        rcases List.mem_cons.mp h with e | e
        · exact e.symm
        · exact absurd e hv
      subst e
      have key : ∀ (ws : List Nat), v ∉ ws → wipe (σ.set v x) ws = (wipe σ ws).set v x := by
        intro ws
        induction ws with
        | nil => intro _; rfl
        | cons w ws ih =>
          intro hw
          unfold wipe
          rw [ih fun z => hw (List.mem_cons_of_mem _ z), List.set_comm _ _ fun z => hw (by rw [z]; exact List.mem_cons_self)]
      rw [key vs hv, List.set_set]
def dgName (i : Nat) : DG := fun d Γ M Φ => Φ (Γ.set i (some d)) M
def dgPair (i j : Nat) : DG := fun d Γ M Φ => match d with
  | .tup [a, b] => Φ ((Γ.set i (some a)).set j (some b)) M
  | _ => False
theorem tg_name {vs : List Nat} {i : Nat} (hi : i ∈ vs) : TgOk K T vs (gName i) (dgName i) := ⟨fun v d σ H Γ M Φ Q env r φ k => k _ _ φ (env.set i r) (wipe_set _ _ _ _ hi)⟩
theorem tg_pair {vs : List Nat} {i j : Nat} (hi : i ∈ vs) (hj : j ∈ vs) : TgOk K T vs (gTup K 2 (gCons (gName i) (gCons (gName j) gNil))) (dgPair i j) := ⟨fun v d σ H Γ M Φ Q env r φ k => by
  unfold dgPair at φ
  split at φ
  · cases r with
    | tup ha hr =>
      obtain ⟨x, y, rfl, rx, ry⟩ := reps2 hr
      refine ⟨_, _, rfl, .of ha, rfl, _, _, rfl, _, _, rfl, rfl, ?_⟩
      exact k _ _ φ ((env.set i rx).set j ry) (by rw [wipe_set _ _ _ _ hj, wipe_set _ _ _ _ hi])
  · exact φ.elim⟩
end
end DL

/-! DLf: loops, comprehensions, dict displays over data. -/
namespace DL
open PySem PySem.Spec PyProof.Rows L2
/-- from H on the iterator J yields xs -/
def WalkD (K : PySem.W.Frag) (T : List (Addr × Str)) (H : Hp) (J : It) (xs : List D) : Prop := ∀ H1, Kp T H H1 →
  (∀ (i : Nat) (d : D), xs[i]? = some d → J.go i H1 ∧ ∀ x H2, J.yld i H1 x H2 → (∀ a o, H1 a = some o → H2 a = some o) ∧ Rep K H2 x d) ∧ J.stop xs.length H1
abbrev DI := Gam → Mem → (List D → Mem → Prop) → Prop
def liftI (K : PySem.W.Frag) (T : List (Addr × Str)) (di : DI) : TI := fun σ H R => ∃ Γ M Φ, EnvOk K T Γ M σ H ∧ di Γ M Φ ∧ ∀ J xs H1 M1, Φ xs M1 → Kp T H H1 → MOk K H1 M1 → WalkD K T H1 J xs → R J H1
abbrev XI (X : Cx) (T : List (Addr × Str)) (tg iter : Expr) (di : DI) : Prop := PI X tg iter (liftI X.K T di)
section
variable {X : Cx} {K : PySem.W.Frag} {T : List (Addr × Str)} {pos : Pos}
theorem pi_weak {tg iter : Expr} {t t' : TI} (h : PI X tg iter t) (w : ∀ σ H R, t' σ H R → t σ H R) : PI X tg iter t' := ⟨fun pins s σ H R I q => h.run pins s σ H R I (w _ _ _ q)⟩
/-! ### what is walked -/
/-- a list or tuple that stands still -/
def diSeq (de : DE) : DI := fun Γ M Φ => de Γ M fun d M1 => match d with
  | .lst xs => Φ xs M1
  | .scr xs => Φ xs M1
  | _ => False
def diTup (de : DE) : DI := fun Γ M Φ => de Γ M fun d M1 => match d with
  | .tup xs => Φ xs M1
  | _ => False
theorem sq_still {a : Addr} {vs : List V} {H : Hp} (h : FzL K H a vs ∨ FzR H a vs) : ∀ H1, Kp T H H1 → SqL K H1 a vs := fun H1 k => by
  rcases h with h | ⟨o, h⟩
  · exact (kp_fzl k h).sq
  · exact .inl (.inr ⟨o, k.frz _ _ _ h⟩)
theorem walk_list {a : Addr} {vs : List V} {ds : List D} {H : Hp} (h : FzL K H a vs ∨ FzR H a vs) (r : Reps K H vs ds) : WalkD K T H (Itl K a) ds := fun H1 k => by
  have hs := sq_still (T := T) h H1 k
  refine ⟨fun i d hd => ?_, ⟨vs, hs, by rw [r.length]; exact Nat.le_refl _⟩⟩
  obtain ⟨v, hv, rv⟩ := r.get hd
  refine ⟨⟨vs, v, hs, hv⟩, fun x H2 y => ?_⟩
  obtain ⟨rfl, y⟩ := y
  have e := y vs hs
  rw [hv] at e; cases e
  exact ⟨fun _ _ q => q, rv.mono k⟩
theorem walk_tup {a : Addr} {vs : List V} {ds : List D} {H : Hp} (h : H a = some (.tup vs)) (r : Reps K H vs ds) : WalkD K T H (Itt K a) ds := fun H1 k => by
  have hs : SqT K H1 a vs := .of (k.tup _ _ h)
  refine ⟨fun i d hd => ?_, ⟨vs, hs, by rw [r.length]; exact Nat.le_refl _⟩⟩
  obtain ⟨v, hv, rv⟩ := r.get hd
  refine ⟨⟨vs, v, hs, hv⟩, fun x H2 y => ?_⟩
  obtain ⟨rfl, y⟩ := y
  have e := y vs hs
  rw [hv] at e; cases e
  exact ⟨fun _ _ q => q, rv.mono k⟩
theorem xi_seq {tg l : Expr} {de : DE} (h : XE X T l de) : XI X T tg l (diSeq de) := pi_weak (pi_list h) fun σ H R q => by
  obtain ⟨Γ, M, Φ, env, h, k⟩ := q
  refine ⟨Γ, M, _, env, h, fun v H1 d M1 φ1 k1 m1 r1 => ?_⟩
  cases d <;> first | exact φ1.elim | skip
  · cases r1 with | lst ha ra => exact ⟨_, rfl, ⟨_, .inl (.inr ha)⟩, k _ _ _ _ φ1 k1 m1 (walk_list (.inr ha) ra)⟩
  · cases r1 with | scr ha ra => exact ⟨_, rfl, ⟨_, ha.sq⟩, k _ _ _ _ φ1 k1 m1 (walk_list (.inl ha) ra)⟩
theorem xi_tup {tg l : Expr} {de : DE} (h : XE X T l de) : XI X T tg l (diTup de) := pi_weak (pi_tup h) fun σ H R q => by
  obtain ⟨Γ, M, Φ, env, h, k⟩ := q
  refine ⟨Γ, M, _, env, h, fun v H1 d M1 φ1 k1 m1 r1 => ?_⟩
  cases d <;> first | exact φ1.elim | skip
  cases r1 with | tup ha ra => exact ⟨_, rfl, ⟨_, .of ha⟩, k _ _ _ _ φ1 k1 m1 (walk_tup ha ra)⟩
/-- the ints lo, lo + 1, .. -/
def rgD (lo hi : Int) : List D := (List.range (hi - lo).toNat).map fun i => .int (lo + (i : Nat))
theorem walk_rng {lo : Int} {n : Nat} {H : Hp} : WalkD K T H (Itr lo n) ((List.range n).map fun i => .int (lo + (i : Nat))) := fun H1 k => by
  refine ⟨fun i d hd => ?_, ?_⟩
  · rw [List.getElem?_map] at hd
    by_cases h : i < n
    · rw [List.getElem?_range h] at hd
      cases hd
      refine ⟨h, fun x H2 y => ?_⟩
      obtain ⟨rfl, rfl⟩ := y
      exact ⟨fun _ _ q => q, .int _⟩
    · rw [List.getElem?_eq_none (by simpa using h)] at hd
      cases hd
  · show n ≤ _
    rw [List.length_map, List.length_range]
    exact Nat.le_refl _
def diRng1 (da : DA) : DI := fun Γ M Φ => da Γ M fun ds M1 => match ds with
  | [.int j] => -(2 ^ 62) ≤ j ∧ j < 2 ^ 62 ∧ Φ (rgD 0 j) M1
  | _ => False
def diRng2 (da : DA) : DI := fun Γ M Φ => da Γ M fun ds M1 => match ds with
  | [.int i, .int j] => (-(2 ^ 62) ≤ i ∧ i < 2 ^ 62 ∧ -(2 ^ 62) ≤ j ∧ j < 2 ^ 62) ∧ Φ (rgD i j) M1
  | _ => False
theorem xi_rng1 {tg a : Expr} {da : DA} {p : Pos} (hg : Gl X "range") (hm : X.mg "range" = none) (ha : XA X T [a] da) (hs : starEach [a] X.env = [(false, eval a X.env)] := by rfl) : XI X T tg (.Call (.Name "range" p) [a] [] pos) (diRng1 da) := pi_weak (pi_range1 hg hm ha hs) fun σ H R q => by
  obtain ⟨Γ, M, Φ, env, h, k⟩ := q
  refine ⟨Γ, M, _, env, h, fun vs H1 ds M1 φ1 k1 m1 r1 => ?_⟩
  split at φ1
  · obtain ⟨v, rfl, rv⟩ := reps1 r1
    cases rv
    obtain ⟨h1, h2, φ⟩ := φ1
    refine ⟨_, rfl, h1, h2, k _ _ _ _ φ k1 m1 ?_⟩
    have w := walk_rng (K := X.K) (T := T) (lo := 0) (n := Int.toNat ‹Int›) (H := H1)
    unfold rgD
    rw [Int.sub_zero]
    exact w
  · exact φ1.elim
theorem xi_rng2 {tg a b : Expr} {da : DA} {p : Pos} (hg : Gl X "range") (hm : X.mg "range" = none) (ha : XA X T [a, b] da) (hs : starEach [a, b] X.env = [(false, eval a X.env), (false, eval b X.env)] := by rfl) (hs2 : starEach [b] X.env = [(false, eval b X.env)] := by rfl) :
    XI X T tg (.Call (.Name "range" p) [a, b] [] pos) (diRng2 da) := pi_weak (pi_range2 hg hm ha hs hs2) fun σ H R q => by
  obtain ⟨Γ, M, Φ, env, h, k⟩ := q
  refine ⟨Γ, M, _, env, h, fun vs H1 ds M1 φ1 k1 m1 r1 => ?_⟩
  split at φ1
  · obtain ⟨v, u, rfl, rv, ru⟩ := reps2 r1
    cases rv; cases ru
    obtain ⟨h1, φ⟩ := φ1
    exact ⟨_, _, rfl, h1, k _ _ _ _ φ k1 m1 walk_rng⟩
  · exact φ1.elim
/-- the signs of a text -/
def diStr (de : DE) : DI := fun Γ M Φ => de Γ M fun d M1 => match d with
  | .str x => Φ (x.cps.toList.map fun c => .str ⟨#[c]⟩) M1
  | _ => False
theorem walk_str {x : Str} {H : Hp} : WalkD K T H (Its x) (x.cps.toList.map fun c => .str ⟨#[c]⟩) := fun H1 k => by
  refine ⟨fun i d hd => ?_, ?_⟩
  · rw [List.getElem?_map] at hd
    cases e : x.cps.toList[i]? with
    | none => rw [e] at hd; cases hd
    | some c =>
      rw [e] at hd
      cases hd
      have hi : i < x.cps.size := by
        have := (List.getElem?_eq_some_iff.mp e).1
        rw [Array.length_toList] at this
        exact this
      rw [Array.getElem?_toList] at e
      refine ⟨hi, fun y H2 z => ?_⟩
      obtain ⟨rfl, c', h1, rfl⟩ := z
      rw [e] at h1
      cases h1
      exact ⟨fun _ _ q => q, .str _⟩
  · show x.cps.size ≤ _
    rw [List.length_map, Array.length_toList]
    exact Nat.le_refl _
theorem xi_str {tg l : Expr} {de : DE} (h : XE X T l de) : XI X T tg l (diStr de) := pi_weak (pi_str h) fun σ H R q => by
  obtain ⟨Γ, M, Φ, env, h, k⟩ := q
  refine ⟨Γ, M, _, env, h, fun v H1 d M1 φ1 k1 m1 r1 => ?_⟩
  cases d <;> first | exact φ1.elim | skip
  cases r1
  exact ⟨_, rfl, k _ _ _ _ φ1 k1 m1 walk_str⟩
/-- the keys of a dict that stands still -/
def kD : Key → D
  | .inl i => .int i
  | .inr x => .str x
theorem kD_rep {H : Hp} (k : Key) : Rep K H (kV k) (kD k) := by cases k <;> constructor
def diKeys (de : DE) : DI := fun Γ M Φ => de Γ M fun d M1 => match d with
  | .dic kvs => Φ (kvs.map fun kv => kD kv.1) M1
  | _ => False
theorem repK_at {H : Hp} : ∀ {kvs : List (Key × V)} {ds : List (Key × D)} {i : Nat} {k : Key} {d : D}, RepK K H kvs ds → ds[i]? = some (k, d) → ∃ v, kvs[i]? = some (k, v) ∧ Rep K H v d
  | _, _, _, _, _, .nil, e => by simp at e
  | _, _, 0, _, _, .cons a b, e => by simp at e; obtain ⟨rfl, rfl⟩ := e; exact ⟨_, rfl, a⟩
  | _, _, i + 1, _, _, .cons a b, e => by
    obtain ⟨v, h1, h2⟩ := repK_at (i := i) b (by simpa using e)
    exact ⟨v, by simpa using h1, h2⟩
theorem walk_keys {a : Addr} {o : Obj} {kvs : List (Key × V)} {ds : List (Key × D)} {H : Hp} (ha : H a = some (.frz o (.dK kvs))) (ra : RepK K H kvs ds) : WalkD K T H (Itk a o kvs) (ds.map fun kv => kD kv.1) := fun H2 k2 => by
  refine ⟨fun i d hd => ?_, k2.frz _ _ _ ha, by rw [List.length_map, repK_len ra]; exact Nat.le_refl _⟩
  rw [List.getElem?_map] at hd
  cases e : ds[i]? with
  | none => rw [e] at hd; cases hd
  | some kd =>
    obtain ⟨key, d'⟩ := kd
    rw [e] at hd
    cases hd
    obtain ⟨v, h1, h2⟩ := repK_at ra e
    refine ⟨⟨k2.frz _ _ _ ha, (List.getElem?_eq_some_iff.mp h1).1⟩, fun x H3 y => ?_⟩
    obtain ⟨rfl, key', v', h3, rfl⟩ := y
    rw [h1] at h3
    cases h3
    exact ⟨fun _ _ q => q, kD_rep _⟩
theorem xi_keys {tg l : Expr} {de : DE} (h : XE X T l de) : XI X T tg l (diKeys de) := pi_weak (pi_keys h) fun σ H R q => by
  obtain ⟨Γ, M, Φ, env, h, k⟩ := q
  refine ⟨Γ, M, _, env, h, fun v H1 d M1 φ1 k1 m1 r1 => ?_⟩
  cases d with
  | dic ds =>
    cases r1 with
    | dic ha ra =>
      obtain ⟨o, ha⟩ := ha
      exact ⟨_, o, rfl, .inl ⟨_, ha, k _ _ _ _ φ1 k1 m1 (walk_keys ha ra)⟩⟩
  | _ => exact φ1.elim
/-- enumerate of a list -/
def enD : Nat → List D → List D
  | _, [] => []
  | i, d :: ds => .tup [.int (i : Nat), d] :: enD (i + 1) ds
theorem enD_len : ∀ (i : Nat) (ds : List D), (enD i ds).length = ds.length
  | _, [] => rfl
  | i, d :: ds => by unfold enD; rw [List.length_cons, List.length_cons, enD_len]
theorem enD_at : ∀ (i j : Nat) (ds : List D) (e : D), (enD i ds)[j]? = some e → ∃ d, ds[j]? = some d ∧ e = .tup [.int ((i + j : Nat) : Int), d]
  | _, _, [], _, h => by simp [enD] at h
  | i, 0, d :: ds, e, h => by simp [enD] at h; exact ⟨d, rfl, by simpa using h.symm⟩
  | i, j + 1, d :: ds, e, h => by
    unfold enD at h
    obtain ⟨d', h1, h2⟩ := enD_at (i + 1) j ds e (by simpa using h)
    exact ⟨d', by simpa using h1, by rw [h2]; congr 4; omega⟩
def diEnum (da : DA) : DI := fun Γ M Φ => da Γ M fun ds M1 => match ds with
  | [.lst xs] => Φ (enD 0 xs) M1
  | _ => False
theorem xi_enum {e : Expr} {da : DA} {p tpos : Pos} {elts : List Expr} {kk : Nat} (hg : Gl X "enumerate") (hm : X.mg "enumerate" = none) (ha : XA X T [e] da) (hs : starEach [e] X.env = [(false, eval e X.env)] := by rfl) :
    XI X T (.Tuple elts kk tpos) (.Call (.Name "enumerate" p) [e] [] pos) (diEnum da) := pi_weak (pi_enum hg hm ha hs) fun σ H R q => by
  obtain ⟨Γ, M, Φ, env, h, k⟩ := q
  refine ⟨Γ, M, _, env, h, fun vs H1 ds M1 φ1 k1 m1 r1 => ?_⟩
  split at φ1
  · rename_i xs
    obtain ⟨v, rfl, rv⟩ := reps1 r1
    cases rv with
    | @lst a vs _ hf hr =>
      refine ⟨a, vs, rfl, .inl (.inr hf), k _ _ _ _ φ1 k1 m1 fun H2 k2 => ?_⟩
      have hs := sq_still (K := X.K) (T := T) (.inr hf) H2 k2
      refine ⟨fun i d hd => ?_, ⟨vs, hs, by rw [enD_len, hr.length]; exact Nat.le_refl _⟩⟩
      obtain ⟨d', h1, rfl⟩ := enD_at 0 i xs d hd
      obtain ⟨v, hv, rv⟩ := hr.get h1
      refine ⟨⟨vs, v, hs, hv⟩, fun x H3 y => ?_⟩
      obtain ⟨T0, x0, rfl, hT, rfl, y⟩ := y
      have e := y vs hs
      rw [hv] at e; cases e
      have kn : Kp T H2 (upd H2 T0 (.tup [.int (i : Nat), v])) := .new hT
      refine ⟨fun a u q => by rw [upd_ne (ne_of_none q hT)]; exact q, .tup upd_same ?_⟩
      rw [Nat.zero_add]
      exact .cons (.int _) (.cons ((rv.mono k2).mono kn) .nil)
  · exact φ1.elim
/-! ### for -/
def forRun (dg : DG) (db : DS) (E : DEnds) : List D → Gam → Mem → Prop
  | [], Γ, M => E.nx Γ M
  | x :: xs, Γ, M => dg x Γ M fun Γ2 M2 => db { nx := forRun dg db E xs, rt := E.rt, bk := E.nx, ct := forRun dg db E xs } Γ2 M2
def dsFor (di : DI) (dg : DG) (db : DS) : DS := fun E Γ M => di Γ M fun xs M1 => forRun dg db E xs Γ M1
theorem xs_for {vs : List Nat} {tg iter : Expr} {body : List Stmt} {di : DI} {g : TG} {dg : DG} {db : DS} (hp : PassesOwn (model X.prog X.w) X.A X.env X.xe) (hc : X.calm = true) (hi : XI X T tg iter di) (hg : PG X tg g) (tg_ : TgOk X.K T vs g dg) (hb : XSs X T body db)
    (hs : ∀ x, foldedSetIterable iter X.env x = pure x := by intro _; rfl) : XS X T (.For tg iter body [] pos) (dsFor di dg db) := ps_weak (ps_for hp hc hi hg hb hs) fun Dn σ H q => by
  obtain ⟨Γ, M, E, env, h, hn, hbk, hct, hr⟩ := q
  refine ⟨Γ, M, _, env, h, fun J xs H1 M1 φ k m w => ?_⟩
  refine ⟨fun i m σ' H' => ∃ Γ' M', EnvOk X.K T Γ' M' σ' H' ∧ Kp T H1 H' ∧ i ≤ xs.length ∧ m = xs.length - i ∧ forRun dg db E (xs.drop i) Γ' M', ⟨xs.length, Γ, M1, env.go k m, .refl, Nat.zero_le _, by simp, by simpa using φ⟩, ?_⟩
  rintro i mm σ' H' ⟨Γ', M', env', k', hi', rfl, φ'⟩
  obtain ⟨wi, ws⟩ := w H' k'
  by_cases hlt : i < xs.length
  · right
    have hx : xs[i]? = some xs[i] := by simp [hlt]
    obtain ⟨go, yld⟩ := wi i _ hx
    refine ⟨go, fun σ2 H2 => ∃ Γ2 M2, EnvOk X.K T Γ2 M2 σ2 H2 ∧ Kp T H1 H2 ∧ forRun dg db E (xs.drop (i + 1)) Γ2 M2, fun σ2 H2 n2 => ?_, fun x H2 y => ?_⟩
    · obtain ⟨Γ2, M2, e2, k2, f2⟩ := n2
      exact ⟨xs.length - (i + 1), by omega, Γ2, M2, e2, k2, hlt, rfl, f2⟩
    · obtain ⟨ex, rx⟩ := yld x H2 y
      have kx : Kp T H' H2 := .ext ex
      rw [List.drop_eq_getElem_cons hlt] at φ'
      refine tg_.run _ _ _ _ _ _ _ _ (env'.go kx (env'.mem.ext ex)) rx φ' fun σ3 Γ3 φ3 e3 _ => ?_
      refine ⟨Γ3, M', _, e3, φ3, fun σ4 H4 Γ4 M4 φ4 k4 e4 => ⟨Γ4, M4, e4, (k'.trans kx).trans k4, φ4⟩, fun σ4 H4 Γ4 M4 φ4 k4 e4 => hn _ _ _ _ φ4 (k.trans ((k'.trans kx).trans k4)) e4, fun σ4 H4 Γ4 M4 φ4 k4 e4 => ⟨Γ4, M4, e4, (k'.trans kx).trans k4, φ4⟩, hr.from (k.trans (k'.trans kx))⟩
  · left
    have e : i = xs.length := by omega
    subst e
    rw [List.drop_length] at φ'
    exact ⟨ws, hn _ _ _ _ φ' (k.trans k') env'⟩
/-! ### while -/
def dsWhile (dt : DT) (db : DS) : DS := fun E Γ M => ∃ W : Nat → Gam → Mem → Prop, (∃ m, W m Γ M) ∧ ∀ m Γ M, W m Γ M → dt Γ M fun b M1 =>
  if b = true then db { nx := fun Γ' M' => ∃ m', m' < m ∧ W m' Γ' M', rt := E.rt, bk := E.nx, ct := fun Γ' M' => ∃ m', m' < m ∧ W m' Γ' M' } Γ M1 else E.nx Γ M1
theorem xs_while {c : Expr} {body : List Stmt} {dt : DT} {db : DS} (hp : PassesOwn (model X.prog X.w) X.A X.env X.xe) (hc : XT X T c dt) (hb : XSs X T body db) : XS X T (.While c body [] pos) (dsWhile dt db) := ps_weak (ps_while hp hc hb) fun Dn σ H q => by
  obtain ⟨Γ, M, E, env, ⟨W, ⟨m0, w0⟩, h⟩, hn, hbk, hct, hr⟩ := q
  refine ⟨fun m σ' H' => ∃ Γ' M', EnvOk X.K T Γ' M' σ' H' ∧ Kp T H H' ∧ W m Γ' M', ⟨m0, Γ, M, env, .refl, w0⟩, ?_⟩
  rintro m σ' H' ⟨Γ', M', env', k', w'⟩
  refine ⟨Γ', M', _, env', h m Γ' M' w', fun b H1 M1 φ k m1 => ?_⟩
  cases b with
  | true =>
    refine ⟨fun σ2 H2 => ∃ m', m' < m ∧ ∃ Γ2 M2, EnvOk X.K T Γ2 M2 σ2 H2 ∧ Kp T H H2 ∧ W m' Γ2 M2, fun σ2 H2 ⟨m', l, z⟩ => ⟨m', l, z⟩, ?_⟩
    refine ⟨Γ', M1, _, env'.go k m1, φ, fun σ4 H4 Γ4 M4 φ4 k4 e4 => ?_, fun σ4 H4 Γ4 M4 φ4 k4 e4 => hn _ _ _ _ φ4 ((k'.trans k).trans k4) e4, fun σ4 H4 Γ4 M4 φ4 k4 e4 => ?_, hr.from (k'.trans k)⟩
    · obtain ⟨m', l, w4⟩ := φ4
      exact ⟨m', l, Γ4, M4, e4, (k'.trans k).trans k4, w4⟩
    · obtain ⟨m', l, w4⟩ := φ4
      exact ⟨m', l, Γ4, M4, e4, (k'.trans k).trans k4, w4⟩
  | false => exact hn _ _ _ _ φ (k'.trans k) (env'.go k m1)
/-! ### comprehensions -/
def wipeG (Γ : Gam) : List Nat → Gam
  | [] => Γ
  | v :: vs => (wipeG Γ vs).set v none
theorem wipe_env {Γ : Gam} {M : Mem} {σ : Sg} {H : Hp} (e : EnvOk K T Γ M σ H) : ∀ vs : List Nat, EnvOk K T (wipeG Γ vs) M (wipe σ vs) H
  | [] => e
  | v :: vs => (wipe_env e vs).un v
def compRun (p : Addr) (Γw : Gam) (dg : DG) (dt : DT) (de : DE) (Φ : List D → Mem → Prop) : List D → List D → Mem → Prop
  | [], acc, M => M p = some (.lst acc) ∧ Φ acc M
  | x :: xs, acc, M => dg x Γw M fun Γ2 M2 => dt Γ2 M2 fun b M3 =>
      if b = true then de Γ2 M3 fun d M4 => M4 p = some (.lst acc) ∧ acc.length < sizeLine ∧ compRun p Γw dg dt de Φ xs (acc ++ [d]) (M4.set p (.lst (acc ++ [d])))
      else compRun p Γw dg dt de Φ xs acc M3
/-- the new list at p behind the comprehension: Φ p items store -/
def dLcP (vs : List Nat) (di : DI) (dg : DG) (dt : DT) (de : DE) (Γ : Gam) (M : Mem) (Φ : Addr → List D → Mem → Prop) : Prop :=
  di Γ M fun xs M1 => ∀ p, M1 p = none → compRun p (wipeG Γ vs) dg dt de (Φ p) xs [] (M1.set p (.lst []))
theorem wipe_idem (σ : Sg) (vs : List Nat) : wipe (wipe σ vs) vs = wipe σ vs := by
  have key : ∀ (us : List Nat) (τ : Sg), (∀ i ∈ us, i ∈ vs) → wipe (wipe τ us) vs = wipe τ vs := by
    intro us
    induction us with
    | nil => intro τ _; rfl
    | cons u us ih =>
      intro τ h
      show wipe ((wipe τ us).set u none) vs = wipe τ vs
      rw [wipe_set _ _ _ _ (h u List.mem_cons_self)]
      exact ih τ fun i hi => h i (List.mem_cons_of_mem _ hi)
  exact key vs σ fun i hi => hi
theorem lift_lc {vs : List Nat} {di : DI} {g : TG} {dg : DG} {dt : DT} {de : DE} (tg_ : TgOk K T vs g dg) {Γ : Gam} {M : Mem} {Φ : Addr → List D → Mem → Prop} {σ : Sg} {H : Hp} {Q : VK} (env : EnvOk K T Γ M σ H) (h : dLcP vs di dg dt de Γ M Φ)
    (k : ∀ p ws acc H' M', Φ p acc M' → M' p = some (.lst acc) → Kp T H H' → MOk K H' M' → H' p = some (.lst ws) → Reps K H' ws acc → Q (.ref p) H') : tLc (liftI K T di) g (liftT K T dt) (lift K T de) vs σ H Q := by
  refine ⟨Γ, M, _, env, h, fun J xs H1 M1 φ k1 m1 w p np => ?_⟩
  have kp : Kp T H1 (upd H1 p (.lst [])) := .new np
  have mp : MOk K (upd H1 p (.lst [])) (M1.set p (.lst [])) := m1.put (m := .lst []) kp .nil
  have e0 : EnvOk K T Γ (M1.set p (.lst [])) σ (upd H1 p (.lst [])) := env.go (k1.trans kp) mp
  refine ⟨fun i m H' => ∃ M' acc, EnvOk K T Γ M' σ H' ∧ Kp T H1 H' ∧ i ≤ xs.length ∧ m = xs.length - i ∧ compRun p (wipeG Γ vs) dg dt de (Φ p) (xs.drop i) acc M', ⟨xs.length, _, [], e0, kp, Nat.zero_le _, by simp, by simpa using φ p (m1.free np)⟩, ?_⟩
  rintro i mm H' ⟨M', acc, env', k', hi', rfl, φ'⟩
  obtain ⟨wi, ws⟩ := w H' k'
  by_cases hlt : i < xs.length
  · right
    have hx : xs[i]? = some xs[i] := by simp [hlt]
    obtain ⟨go, yld⟩ := wi i _ hx
    refine ⟨go, fun H2 => ∃ M2 acc2, EnvOk K T Γ M2 σ H2 ∧ Kp T H1 H2 ∧ compRun p (wipeG Γ vs) dg dt de (Φ p) (xs.drop (i + 1)) acc2 M2, fun H2 n2 => ?_, fun x H2 y => ?_⟩
    · obtain ⟨M2, acc2, e2, k2, f2⟩ := n2
      exact ⟨xs.length - (i + 1), by omega, M2, acc2, e2, k2, hlt, rfl, f2⟩
    · obtain ⟨ex, rx⟩ := yld x H2 y
      have kx : Kp T H' H2 := .ext ex
      rw [List.drop_eq_getElem_cons hlt] at φ'
      have e2 := env'.go kx (env'.mem.ext ex)
      refine tg_.run _ _ _ _ _ _ _ _ (wipe_env e2 vs) rx φ' fun σ3 Γ3 φ3 e3 hw => ⟨by rw [hw]; exact wipe_idem _ _, ?_⟩
      refine ⟨Γ3, M', _, e3, φ3, fun b H4 M4 φ4 k4 m4 => ?_⟩
      cases b with
      | true =>
        refine ⟨Γ3, M4, _, e3.go k4 m4, φ4, fun v H5 d M5 φ5 k5 m5 r5 => ?_⟩
        obtain ⟨hp, hl, φ6⟩ := φ5
        obtain ⟨o, h1, h2⟩ := m5 _ _ hp
        cases o <;> first | exact h2.elim | skip
        rename_i us
        have kk : Kp T H5 (upd H5 p (.lst (us ++ [v]))) := Kp.mut h1 True.intro
        have h2' : Reps K H5 us acc := h2
        have m6 := m5.put (m := .lst (acc ++ [d])) kk (h2'.append (.cons r5 .nil))
        exact ⟨us, h1, by rw [h2'.length]; exact hl, _, _, (env'.go (kx.trans ((k4.trans k5).trans kk)) m6), k'.trans (kx.trans ((k4.trans k5).trans kk)), φ6⟩
      | false => exact ⟨M4, acc, env'.go (kx.trans k4) m4, k'.trans (kx.trans k4), φ4⟩
  · left
    have e : i = xs.length := by omega
    subst e
    rw [List.drop_length] at φ'
    obtain ⟨hp, φ⟩ := φ'
    obtain ⟨o, h1, h2⟩ := env'.mem _ _ hp
    cases o <;> first | exact h2.elim | skip
    exact ⟨ws, k p _ acc _ M' φ hp (k1.trans k') env'.mem h1 h2⟩
/-- frozen; to change -/
def dLc (vs : List Nat) (di : DI) (dg : DG) (dt : DT) (de : DE) : DE := fun Γ M Φ => dLcP vs di dg dt de Γ M fun p acc M' => Φ (.lst acc) (M'.del p)
def dLcM (vs : List Nat) (di : DI) (dg : DG) (dt : DT) (de : DE) : DE := fun Γ M Φ => dLcP vs di dg dt de Γ M fun p acc M' => Φ (.ptr p) M'
section
variable {elt tg iter : Expr} {ifs : List Expr} {scope : Scope} {own : List (Str × Nat)} {di : DI} {g : TG} {dg : DG} {dt : DT} {de : DE}
theorem xe_lc (hc : X.calm = true) (hN : X.N.Nodup) (hi : XI X T tg iter di) (ok : BlkOk X.N X.env.scope scope own) (tg_ : TgOk X.K T (own.map (·.2)) g dg)
    (hg : ∀ (s : Shared) (H : Hp) (C : Addr) (cl : List (Str × Addr)) (fp : List Addr), PG (X.blk s H scope (compEnvC scope cl C X.env) fp) tg g) (ht : ∀ (s : Shared) (H : Hp) (C : Addr) (cl : List (Str × Addr)) (fp : List Addr), PTs (X.blk s H scope (compEnvC scope cl C X.env) fp) ifs (liftT X.K T dt))
    (he : ∀ (s : Shared) (H : Hp) (C : Addr) (cl : List (Str × Addr)) (fp : List Addr), XE (X.blk s H scope (compEnvC scope cl C X.env) fp) T elt de) (hs : ∀ x, foldedSetIterable iter X.env x = pure x := by intro _; rfl) :
    XE X T (.ListComp elt [⟨tg, iter, ifs, 0⟩] scope pos) (dLc (own.map (·.2)) di dg dt de) := pe_weak (pe_fz (pe_lc hc hN hi ok hg ht he hs)) fun σ H Q q => by
  obtain ⟨Γ, M, Φ, env, h, k⟩ := q
  refine lift_lc tg_ env h fun p ws acc H' M' φ hp k' m' h1 h2 => .inl ⟨p, _, rfl, h1, True.intro, fun ob => ?_⟩
  have kk : Kp T H' (upd H' p (.frz ob (.lst ws))) := Kp.mut h1 True.intro
  exact k _ _ _ _ φ (k'.trans kk) (m'.drop kk) (.lst ⟨ob, upd_same⟩ (Reps.mono kk h2))
theorem xe_lcM (hc : X.calm = true) (hN : X.N.Nodup) (hi : XI X T tg iter di) (ok : BlkOk X.N X.env.scope scope own) (tg_ : TgOk X.K T (own.map (·.2)) g dg)
    (hg : ∀ (s : Shared) (H : Hp) (C : Addr) (cl : List (Str × Addr)) (fp : List Addr), PG (X.blk s H scope (compEnvC scope cl C X.env) fp) tg g) (ht : ∀ (s : Shared) (H : Hp) (C : Addr) (cl : List (Str × Addr)) (fp : List Addr), PTs (X.blk s H scope (compEnvC scope cl C X.env) fp) ifs (liftT X.K T dt))
    (he : ∀ (s : Shared) (H : Hp) (C : Addr) (cl : List (Str × Addr)) (fp : List Addr), XE (X.blk s H scope (compEnvC scope cl C X.env) fp) T elt de) (hs : ∀ x, foldedSetIterable iter X.env x = pure x := by intro _; rfl) :
    XE X T (.ListComp elt [⟨tg, iter, ifs, 0⟩] scope pos) (dLcM (own.map (·.2)) di dg dt de) := pe_weak (pe_lc hc hN hi ok hg ht he hs) fun σ H Q q => by
  obtain ⟨Γ, M, Φ, env, h, k⟩ := q
  exact lift_lc tg_ env h fun p ws acc H' M' φ hp k' m' h1 h2 => k _ _ _ _ φ k' m' (.ptr p)
def dtYes : DT := fun _ M Φ => Φ true M
theorem xts_nil : PTs X [] (liftT X.K T dtYes) := ⟨fun pins s σ H Q I q => by
  obtain ⟨Γ, M, Φ, env, h, k⟩ := q
  exact pts_nil.run pins s σ H Q I (k _ _ _ h .refl env.mem)⟩
theorem xts_one {c : Expr} {dt : DT} (h : XT X T c dt) : PTs X [c] (liftT X.K T dt) := pts_one h
/-- a changing thing may be frozen behind a statement -/
theorem ps_fz {st : Stmt} {t : TS} (h : PS X st t) : PS X st (fun Dn σ H => t { Dn with nx := fun σ' H' => (∃ p o, H' p = some o ∧ Chg o ∧ ∀ ob, Dn.nx σ' (upd H' p (.frz ob o))) ∨ Dn.nx σ' H' } σ H) := ⟨fun pins s σ H Dn I q => thn (h.run pins s σ H _ I q) fun f s' z => by
  cases f with
  | next =>
    obtain ⟨σ', H', I', q⟩ := z
    rcases q with ⟨p, o, h1, h2, h3⟩ | q
    · obtain ⟨ob, I2⟩ := inv_frzO I' h1 h2
      exact ⟨σ', _, I2, h3 ob⟩
    · exact ⟨σ', H', I', q⟩
  | brk => exact z
  | cont => exact z
  | ret u => exact z⟩
/-- y = [..], y a local -/
theorem xs_setLc {i : Nat} {y : Str} {py spos : Pos} (hc : X.calm = true) (hN : X.N.Nodup) (hy : X.N[i]? = some y) (hyl : X.env.scope.names.lookup y = some .local)
    (hsw : swapsWith (.ListComp elt [⟨tg, iter, ifs, 0⟩] scope pos) (some (.Name y py)) spos.line X.env = pure true) (hi : XI X T tg iter di) (ok : BlkOk X.N X.env.scope scope own) (tg_ : TgOk X.K T (own.map (·.2)) g dg)
    (hg : ∀ (s : Shared) (H : Hp) (C : Addr) (cl : List (Str × Addr)) (fp : List Addr), PG (X.blk s H scope (compEnvC scope cl C X.env) fp) tg g) (ht : ∀ (s : Shared) (H : Hp) (C : Addr) (cl : List (Str × Addr)) (fp : List Addr), PTs (X.blk s H scope (compEnvC scope cl C X.env) fp) ifs (liftT X.K T dt))
    (he : ∀ (s : Shared) (H : Hp) (C : Addr) (cl : List (Str × Addr)) (fp : List Addr), XE (X.blk s H scope (compEnvC scope cl C X.env) fp) T elt de) (hs : ∀ x, foldedSetIterable iter X.env x = pure x := by intro _; rfl) :
    XS X T (.Assign [.Name y py] (.ListComp elt [⟨tg, iter, ifs, 0⟩] scope pos) spos) (dsSet i (dLc (own.map (·.2)) di dg dt de)) := ps_weak (ps_fz (ps_setLc hc hN hy hyl hsw hi ok hg ht he hs)) fun Dn σ H q => by
  obtain ⟨Γ, M, E, env, h, hn, hb, hct, hr⟩ := q
  refine lift_lc tg_ env h fun p ws acc H' M' φ hp k' m' h1 h2 => .inl ⟨p, _, h1, True.intro, fun ob => ?_⟩
  have kk : Kp T H' (upd H' p (.frz ob (.lst ws))) := Kp.mut h1 True.intro
  exact hn _ _ _ _ φ (k'.trans kk) ((env.go (k'.trans kk) (m'.drop kk)).set i (.lst ⟨ob, upd_same⟩ (Reps.mono kk h2)))
theorem xs_setLcM {i : Nat} {y : Str} {py spos : Pos} (hc : X.calm = true) (hN : X.N.Nodup) (hy : X.N[i]? = some y) (hyl : X.env.scope.names.lookup y = some .local)
    (hsw : swapsWith (.ListComp elt [⟨tg, iter, ifs, 0⟩] scope pos) (some (.Name y py)) spos.line X.env = pure true) (hi : XI X T tg iter di) (ok : BlkOk X.N X.env.scope scope own) (tg_ : TgOk X.K T (own.map (·.2)) g dg)
    (hg : ∀ (s : Shared) (H : Hp) (C : Addr) (cl : List (Str × Addr)) (fp : List Addr), PG (X.blk s H scope (compEnvC scope cl C X.env) fp) tg g) (ht : ∀ (s : Shared) (H : Hp) (C : Addr) (cl : List (Str × Addr)) (fp : List Addr), PTs (X.blk s H scope (compEnvC scope cl C X.env) fp) ifs (liftT X.K T dt))
    (he : ∀ (s : Shared) (H : Hp) (C : Addr) (cl : List (Str × Addr)) (fp : List Addr), XE (X.blk s H scope (compEnvC scope cl C X.env) fp) T elt de) (hs : ∀ x, foldedSetIterable iter X.env x = pure x := by intro _; rfl) :
    XS X T (.Assign [.Name y py] (.ListComp elt [⟨tg, iter, ifs, 0⟩] scope pos) spos) (dsSet i (dLcM (own.map (·.2)) di dg dt de)) := ps_weak (ps_setLc hc hN hy hyl hsw hi ok hg ht he hs) fun Dn σ H q => by
  obtain ⟨Γ, M, E, env, h, hn, hb, hct, hr⟩ := q
  exact lift_lc tg_ env h fun p ws acc H' M' φ hp k' m' h1 h2 => hn _ _ _ _ φ k' ((env.go k' m').set i (.ptr p))
end
end
end DL

/-! DLg: methods, isinstance, dict displays, defs and their calls over data. -/
namespace DL
open PySem PySem.Spec PyProof.Rows L2
section
variable {X : Cx} {K : PySem.W.Frag} {T : List (Addr × Str)}
/-! ### methods of lists -/
def MRD (K : PySem.W.Frag) (T : List (Addr × Str)) (r : V → List V → Hp → VK → Prop) (f : D → List D → Mem → Cont → Prop) : Prop :=
  ∀ (x : V) (xs : List V) (d : D) (ds : List D) (H : Hp) (M : Mem) (Φ : Cont) (Q : VK), Rep K H x d → Reps K H xs ds → MOk K H M → f d ds M Φ → Goes K T H Φ Q → r x xs H Q
def dBM (f : D → List D → Mem → Cont → Prop) (do_ : DE) (da : DA) : DE := fun Γ M Φ => do_ Γ M fun d M1 => (lsR M1 d).isSome = true ∧ da Γ M1 fun ds M2 => f d ds M2 Φ
def dBM0 (f : D → List D → Mem → Cont → Prop) (do_ : DE) : DE := fun Γ M Φ => do_ Γ M fun d M1 => (lsR M1 d).isSome = true ∧ f d [] M1 Φ
section
variable {o e : Expr} {es : List Expr} {do_ : DE} {da : DA} {name : Str} {apos cpos : Pos} {id : String} {r : V → List V → Hp → VK → Prop} {f : D → List D → Mem → Cont → Prop}
theorem tyV_list {H : Hp} {M : Mem} {v : V} {d : D} (rv : Rep K H v d) (m : MOk K H M) (h : (lsR M d).isSome = true) : tyV K "list" v H := by
  obtain ⟨xs, h⟩ := Option.isSome_iff_exists.mp h
  obtain ⟨a, vs, rfl, h1, h2⟩ := lsR_rep rv m h
  exact .inl ⟨rfl, vs, .inl h1⟩
theorem xe_bm (slot : Slot "list" name id) (hty : typeOf (.builtin id) = pure (.type "method_descriptor")) (hm : MtR X id r) (hr : MRD X.K T r f) (ho : XE X T o do_) (ha : XA X T (e :: es) da)
    (hbase : attributeBase o name X.env (eval o X.env) = eval o X.env := by rfl)
    (hfew : ((backTo cpos (starEach (e :: es) X.env)).all (fun x => !x.1) && (backToKw cpos (keywordEach [] X.env)).all (fun x => x.1.isSome)
      && decide ((e :: es).length + ([] : List Keyword).length + (if ([] : List Keyword).isEmpty then 0 else 1) < 30)) = true := by rfl)
    (hline : (apos.endLine == cpos.line) = true := by rfl) (hs : starEach (e :: es) X.env = (false, eval e X.env) :: starEach es X.env := by rfl) (hplain : (backTo cpos (starEach es X.env)).any (·.1) = false := by rfl) :
    XE X T (.Call (.Attribute o name apos) (e :: es) [] cpos) (dBM f do_ da) := pe_weak (pe_bm PySem.F.plainAttrs_list slot hty hm ho ha hbase hfew hline hs hplain) fun σ H Q q => by
  obtain ⟨Γ, M, Φ, env, h, k⟩ := q
  refine ⟨Γ, M, _, env, h, fun v1 H1 d1 M1 φ1 k1 m1 r1 => ⟨tyV_list r1 m1 φ1.1, Γ, M1, _, env.go k1 m1, φ1.2, fun vs H2 ds M2 φ2 k2 m2 r2 => ?_⟩⟩
  exact hr _ _ _ _ _ _ _ _ (r1.mono k2) r2 m2 φ2 (k.from (k1.trans k2))
theorem xe_bm0 (slot : Slot "list" name id) (hty : typeOf (.builtin id) = pure (.type "method_descriptor")) (hm : MtR X id r) (hr : MRD X.K T r f) (ho : XE X T o do_)
    (hbase : attributeBase o name X.env (eval o X.env) = eval o X.env := by rfl) (hline : (apos.endLine == cpos.line) = true := by rfl) : XE X T (.Call (.Attribute o name apos) [] [] cpos) (dBM0 f do_) := pe_weak (pe_bm0 PySem.F.plainAttrs_list slot hty hm ho hbase hline) fun σ H Q q => by
  obtain ⟨Γ, M, Φ, env, h, k⟩ := q
  refine ⟨Γ, M, _, env, h, fun v1 H1 d1 M1 φ1 k1 m1 r1 => ⟨tyV_list r1 m1 φ1.1, ?_⟩⟩
  exact hr _ _ _ _ _ _ _ _ r1 .nil m1 φ1.2 (k.from k1)
end
theorem ptr_lst {H : Hp} {M : Mem} {p : Addr} {xs : List D} (m : MOk K H M) (h : M p = some (.lst xs)) : ∃ vs, H p = some (.lst vs) ∧ Reps K H vs xs := by
  obtain ⟨o, h1, h2⟩ := m _ _ h
  cases o <;> first | exact h2.elim | exact ⟨_, h1, h2⟩
/-- the list at p becomes another -/
theorem Goes.putL {H : Hp} {Φ : Cont} {Q : VK} {M : Mem} {p : Addr} {vs ws : List V} {ds : List D} {v : V} {d : D} (g : Goes K T H Φ Q) (m : MOk K H M) (h : H p = some (.lst vs)) (r : Reps K H ws ds) (rv : Rep K H v d) (φ : Φ d (M.set p (.lst ds))) : Q v (upd H p (.lst ws)) := by
  have kk : Kp T H (upd H p (.lst ws)) := Kp.mut h True.intro
  exact g _ _ _ _ φ kk (m.put (m := .lst ds) kk r) (rv.mono kk)
def fAppend : D → List D → Mem → Cont → Prop := fun d ds M Φ => ∃ p xs x, d = .ptr p ∧ ds = [x] ∧ M p = some (.lst xs) ∧ xs.length < sizeLine ∧ Φ .non (M.set p (.lst (xs ++ [x])))
theorem d_append : MRD K T rAppend fAppend := by
  intro x xs d ds H M Φ Q rx rs m q g
  obtain ⟨p, ys, y, rfl, rfl, hp, hl, φ⟩ := q
  cases rx
  obtain ⟨v, rfl, rv⟩ := reps1 rs
  obtain ⟨vs, h1, h2⟩ := ptr_lst m hp
  exact ⟨p, vs, v, rfl, rfl, h1, by rw [h2.length]; exact hl, g.putL m h1 (h2.append (.cons rv .nil)) .non φ⟩
theorem Reps.dropLast {H : Hp} : ∀ {vs : List V} {ds : List D}, Reps K H vs ds → Reps K H vs.dropLast ds.dropLast
  | _, _, .nil => .nil
  | _, _, .cons _ .nil => .nil
  | _, _, .cons r (.cons r2 t) => .cons r (Reps.dropLast (.cons r2 t))
def fPop : D → List D → Mem → Cont → Prop := fun d ds M Φ => ∃ p xs x, d = .ptr p ∧ ds = [] ∧ M p = some (.lst xs) ∧ xs[xs.length - 1]? = some x ∧ Φ x (M.set p (.lst xs.dropLast))
theorem d_pop : MRD K T rPop fPop := by
  intro x xs d ds H M Φ Q rx rs m q g
  obtain ⟨p, ys, y, rfl, rfl, hp, hl, φ⟩ := q
  cases rx
  cases rs
  obtain ⟨vs, h1, h2⟩ := ptr_lst m hp
  rw [← h2.length] at hl
  obtain ⟨v, h3, h4⟩ := h2.get hl
  exact ⟨p, vs, v, rfl, rfl, h1, h3, g.putL m h1 h2.dropLast h4 φ⟩
def fPopAt : D → List D → Mem → Cont → Prop := fun d ds M Φ => ∃ p xs i k x, d = .ptr p ∧ ds = [.int i] ∧ M p = some (.lst xs) ∧ -(2 ^ 63) ≤ i ∧ i < 2 ^ 63 ∧ seqIndex? i xs.length = some k ∧ xs[k]? = some x ∧ Φ x (M.set p (.lst (xs.eraseIdx k)))
theorem d_popAt : MRD K T rPopAt fPopAt := by
  intro x xs d ds H M Φ Q rx rs m q g
  obtain ⟨p, ys, i, k, y, rfl, rfl, hp, a1, a2, a3, hl, φ⟩ := q
  cases rx
  obtain ⟨v, rfl, rv⟩ := reps1 rs
  cases rv
  obtain ⟨vs, h1, h2⟩ := ptr_lst m hp
  obtain ⟨v, h3, h4⟩ := h2.get hl
  exact ⟨p, vs, i, k, v, rfl, rfl, h1, a1, a2, by rw [h2.length]; exact a3, h3, g.putL m h1 (h2.eraseIdx k) h4 φ⟩
def rExtG : V → List V → Hp → VK → Prop := fun x vs H Q => ∃ l b xs zs, x = .ref l ∧ vs = [.ref b] ∧ H l = some (.lst xs) ∧ Rd H b (.lst zs) ∧ xs.length + zs.length ≤ sizeLine ∧ Q .non (upd H l (.lst (xs ++ zs)))
theorem mt_extG : MtR X "list.extend" rExtG := by
  intro pins s σ H x vs v us Q I rx rv h
  obtain ⟨l, b, xs, zs, rfl, rfl, hH, hB, hz, q⟩ := h
  cases rx
  obtain ⟨u, rfl, ru⟩ := rv.one
  cases ru
  obtain ⟨z, its, n, r, hl, e⟩ := I.lstM hH
  obtain ⟨z2, its2, n2, r2, hl2, e2⟩ := rdL I hB
  have hsz : its.toArray.size + its2.toArray.size ≤ sizeLine := by rw [List.size_toArray, List.size_toArray]; omega
  have hlong : ¬ (!its.toArray.isEmpty && Builtin.List.listTooLong (its.toArray.size + its2.toArray.size)) = true := by
    rw [notLongL hsz, Bool.and_false]
    exact Bool.false_ne_true
  refine call_meets F.slot_list_extend ⟨_, e, rfl⟩ F.entry_list_extend (F.args_list_extend_2 _ _)
    (AutoSeq1.list_extend_list_list_0 l its.toArray n b its2.toArray n2 hlong (by rw [List.size_toArray]; omega) (by omega)) ⟨e, e2, ?_⟩
  refine ⟨.non, _, I.lset (its' := its ++ its2) hH e (by simp) (r.append r2) ?_, rfl, q⟩
  rw [List.length_append]
  omega
def fExtend : D → List D → Mem → Cont → Prop := fun d ds M Φ => ∃ p xs e zs, d = .ptr p ∧ ds = [e] ∧ M p = some (.lst xs) ∧ lsR M e = some zs ∧ xs.length + zs.length ≤ sizeLine ∧ Φ .non (M.set p (.lst (xs ++ zs)))
theorem d_extend : MRD K T rExtG fExtend := by
  intro x xs d ds H M Φ Q rx rs m q g
  obtain ⟨p, ys, e, zs, rfl, rfl, hp, hz, hl, φ⟩ := q
  cases rx
  obtain ⟨v, rfl, rv⟩ := reps1 rs
  obtain ⟨vs, h1, h2⟩ := ptr_lst m hp
  obtain ⟨b, ws, rfl, h3, h4⟩ := lsR_rep rv m hz
  exact ⟨p, b, vs, ws, rfl, rfl, h1, h3, by rw [h2.length, h4.length]; exact hl, g.putL m h1 (h2.append h4) .non φ⟩
section
variable {o e : Expr} {do_ de : DE} {apos cpos : Pos}
theorem xe_append (ho : XE X T o do_) (he : XE X T e de) (hbase : attributeBase o "append" X.env (eval o X.env) = eval o X.env := by rfl) (hline : (apos.endLine == cpos.line) = true := by rfl) (hs : starEach [e] X.env = (false, eval e X.env) :: starEach [] X.env := by rfl)
    (hfew : ((backTo cpos (starEach [e] X.env)).all (fun x => !x.1) && (backToKw cpos (keywordEach [] X.env)).all (fun x => x.1.isSome) && decide ([e].length + ([] : List Keyword).length + (if ([] : List Keyword).isEmpty then 0 else 1) < 30)) = true := by rfl) :
    XE X T (.Call (.Attribute o "append" apos) [e] [] cpos) (dBM fAppend do_ (daCons de daNil)) := xe_bm PySem.F.slot_list_append PySem.F.type_list_append mt_append d_append ho (xa_cons he xa_nil hs) hbase hfew hline hs
theorem xe_extend (ho : XE X T o do_) (he : XE X T e de) (hbase : attributeBase o "extend" X.env (eval o X.env) = eval o X.env := by rfl) (hline : (apos.endLine == cpos.line) = true := by rfl) (hs : starEach [e] X.env = (false, eval e X.env) :: starEach [] X.env := by rfl)
    (hfew : ((backTo cpos (starEach [e] X.env)).all (fun x => !x.1) && (backToKw cpos (keywordEach [] X.env)).all (fun x => x.1.isSome) && decide ([e].length + ([] : List Keyword).length + (if ([] : List Keyword).isEmpty then 0 else 1) < 30)) = true := by rfl) :
    XE X T (.Call (.Attribute o "extend" apos) [e] [] cpos) (dBM fExtend do_ (daCons de daNil)) := xe_bm PySem.F.slot_list_extend PySem.F.type_list_extend mt_extG d_extend ho (xa_cons he xa_nil hs) hbase hfew hline hs
theorem xe_pop (ho : XE X T o do_) (hbase : attributeBase o "pop" X.env (eval o X.env) = eval o X.env := by rfl) (hline : (apos.endLine == cpos.line) = true := by rfl) : XE X T (.Call (.Attribute o "pop" apos) [] [] cpos) (dBM0 fPop do_) :=
  xe_bm0 PySem.F.slot_list_pop PySem.F.type_list_pop mt_pop d_pop ho hbase hline
theorem xe_popAt (ho : XE X T o do_) (he : XE X T e de) (hbase : attributeBase o "pop" X.env (eval o X.env) = eval o X.env := by rfl) (hline : (apos.endLine == cpos.line) = true := by rfl) (hs : starEach [e] X.env = (false, eval e X.env) :: starEach [] X.env := by rfl)
    (hfew : ((backTo cpos (starEach [e] X.env)).all (fun x => !x.1) && (backToKw cpos (keywordEach [] X.env)).all (fun x => x.1.isSome) && decide ([e].length + ([] : List Keyword).length + (if ([] : List Keyword).isEmpty then 0 else 1) < 30)) = true := by rfl) :
    XE X T (.Call (.Attribute o "pop" apos) [e] [] cpos) (dBM fPopAt do_ (daCons de daNil)) := xe_bm PySem.F.slot_list_pop PySem.F.type_list_pop mt_popAt d_popAt ho (xa_cons he xa_nil hs) hbase hfew hline hs
end
/-! ### split, join -/
def dM1 (f : Str → D → Mem → Cont → Prop) (do_ de : DE) : DE := fun Γ M Φ => do_ Γ M fun d M1 => match d with
  | .str a => de Γ M1 fun e M2 => f a e M2 Φ
  | _ => False
def fSplit : Str → D → Mem → Cont → Prop := fun a e M Φ => match e with
  | .str b => (b.length == 0) = false ∧ a.length + 2 ≤ sizeLine ∧ Φ (.lst ((Txt.split a b).map .str)) M
  | _ => False
def fJoin : Str → D → Mem → Cont → Prop := fun a e M Φ => ∃ ys : List Str, sqD M e = some (ys.map .str) ∧ (ys.map (·.length)).sum + ys.length * a.length ≤ 16777216 ∧ Φ (.str (Txt.join a ys)) M
theorem reps_strs {H : Hp} : ∀ (ys : List Str), Reps K H (ys.map V.str) (ys.map D.str)
  | [] => .nil
  | y :: ys => .cons (.str y) (reps_strs ys)
theorem strs_rep {H : Hp} : ∀ {ys : List Str} {vs : List V}, Reps K H vs (ys.map D.str) → vs = ys.map V.str
  | [], _, r => by cases r; rfl
  | y :: ys, _, r => by
    rw [List.map_cons] at r
    cases r with
    | cons a t => cases a; rw [strs_rep t]; rfl
section
variable {o e : Expr} {do_ de : DE} {apos pos : Pos}
theorem xe_split (ho : XE X T o do_) (he : XE X T e de) (hs : starEach [e] X.env = [(false, eval e X.env)] := by rfl) (hbase : attributeBase o "split" X.env (eval o X.env) = eval o X.env := by rfl) (hline : (apos.endLine == pos.line) = true := by rfl) :
    XE X T (.Call (.Attribute o "split" apos) [e] [] pos) (dM1 fSplit do_ de) := pe_weak (pe_fz (pe_split ho he hs hbase hline)) fun σ H Q q => by
  obtain ⟨Γ, M, Φ, env, h, k⟩ := q
  refine ⟨Γ, M, _, env, h, fun v1 H1 d1 M1 φ1 k1 m1 r1 => ?_⟩
  cases d1 <;> first | exact φ1.elim | skip
  cases r1
  refine ⟨⟨_, rfl⟩, Γ, M1, _, env.go k1 m1, φ1, fun v2 H2 d2 M2 φ2 k2 m2 r2 => ?_⟩
  cases d2 <;> first | exact φ2.elim | skip
  cases r2
  exact ⟨_, _, rfl, rfl, φ2.1, φ2.2.1, fun p n => by
    have := (k.from (k1.trans k2)).newF (vs := (Txt.split _ _).map V.str) m2 n φ2.2.2 (reps_strs _)
    exact this⟩
theorem xe_join (ho : XE X T o do_) (he : XE X T e de) (hs : starEach [e] X.env = [(false, eval e X.env)] := by rfl) (hbase : attributeBase o "join" X.env (eval o X.env) = eval o X.env := by rfl) (hline : (apos.endLine == pos.line) = true := by rfl) :
    XE X T (.Call (.Attribute o "join" apos) [e] [] pos) (dM1 fJoin do_ de) := pe_weak (pe_join ho he hs hbase hline) fun σ H Q q => by
  obtain ⟨Γ, M, Φ, env, h, k⟩ := q
  refine ⟨Γ, M, _, env, h, fun v1 H1 d1 M1 φ1 k1 m1 r1 => ?_⟩
  cases d1 <;> first | exact φ1.elim | skip
  cases r1
  refine ⟨⟨_, rfl⟩, Γ, M1, _, env.go k1 m1, φ1, fun v2 H2 d2 M2 φ2 k2 m2 r2 => ?_⟩
  obtain ⟨ys, h1, h2, φ⟩ := φ2
  obtain ⟨a, vs, rfl, h3, h4⟩ := sqD_rep r2 m2 h1
  obtain rfl := strs_rep h4
  exact ⟨_, a, ys, rfl, rfl, h3, h2, (k.from (k1.trans k2)).now m2 φ (.str _)⟩
end
/-! ### isinstance with built-in types -/
def tyD (M : Mem) : D → Option String
  | .non => some "NoneType"
  | .bl _ => some "bool"
  | .int _ => some "int"
  | .str _ => some "str"
  | .tup _ => some "tuple"
  | .lst _ => some "list"
  | .dic _ => some "dict"
  | .ptr p => match M p with
    | some (.lst _) => some "list"
    | some (.dK _) => some "dict"
    | some (.dT _) => some "dict"
    | none => none
  | _ => none
theorem tyD_rep {H : Hp} {M : Mem} {v : V} {d : D} {t : String} (r : Rep K H v d) (m : MOk K H M) (h : tyD M d = some t) : TyX K H v (.type t) := by
  cases r with
  | non => cases h; exact .base .non
  | bl b => cases h; exact .base (.bl b)
  | int i => cases h; exact .base (.int i)
  | str x => cases h; exact .base (.str x)
  | tup a b => cases h; exact .base (.tup a)
  | lst a b => cases h; obtain ⟨o, a⟩ := a; exact .base (.frz a)
  | dic a b => cases h; obtain ⟨o, a⟩ := a; exact .fDict a
  | ptr p =>
    unfold tyD at h
    dsimp only at h
    split at h
    · rename_i xs hp; cases h; obtain ⟨o, h1, h2⟩ := m _ _ hp; cases o <;> first | exact h2.elim | exact .base (.lst h1)
    · rename_i xs hp; cases h; obtain ⟨o, h1, h2⟩ := m _ _ hp; cases o <;> first | exact h2.elim | exact .base (.dK h1)
    · rename_i xs hp; cases h; obtain ⟨o, h1, h2⟩ := m _ _ hp; cases o <;> first | exact h2.elim | exact .base (.dT h1)
    · cases h
  | ty n => cases h
  | exc a b => cases h
  | scr a b => cases h
def fIsi : List D → Mem → Cont → Prop := fun ds M Φ => match ds with
  | [d, .ty n] => ∃ t b, tyD M d = some t ∧ kitB t n = some b ∧ Φ (.bl b) M
  | [d, .tup [.ty n, .ty n']] => ∃ t b b', tyD M d = some t ∧ kitB t n = some b ∧ kitB t n' = some b' ∧ Φ (.bl (b || b')) M
  | _ => False
theorem d_isi : CRD K T (fun xs H Q => rIsi K xs H Q ∨ rIsiT K xs H Q) fIsi := by
  intro xs ds H M Φ Q r m q g
  unfold fIsi at q
  split at q
  · obtain ⟨t, b, h1, h2, φ⟩ := q
    obtain ⟨v, u, rfl, rv, ru⟩ := reps2 r
    cases ru
    exact .inl ⟨v, _, _, _, b, rfl, .ty _, tyD_rep rv m h1, kit_ty h2, g.now m φ (.bl _)⟩
  · obtain ⟨t, b, b', h1, h2, h3, φ⟩ := q
    obtain ⟨v, u, rfl, rv, ru⟩ := reps2 r
    cases ru with
    | tup ha hr =>
      obtain ⟨x, y, rfl, rx, ry⟩ := reps2 hr
      cases rx; cases ry
      refine .inr ⟨v, _, _, _, _, b || b', rfl, ha, .cons (.ty _) (.cons (.ty _) .nil), tyD_rep rv m h1, ?_, g.now m φ (.bl _)⟩
      exact kitAny_cons (kit_ty h2) (fun e => by
        subst e
        exact kitAny_cons (kit_ty h3) (fun e => by subst e; exact kitAny_nil) (fun e => by subst e; rfl)) (fun e => by subst e; rfl)
  · exact q.elim
theorem call_isiA : CallR X (.builtin "isinstance") (fun xs H Q => rIsi X.K xs H Q ∨ rIsiT X.K xs H Q) := call_isi.or call_isiT
theorem xe_ty {x : Str} {n : String} {pos : Pos} (hg : Gl X x) (hm : X.mg x = none) (hv : bootBuiltins x = some (.type n)) (hn : x ≠ "__name__" := by decide) (hd : (x == ("__debug__" : Str)) = false := by decide) : XE X T (.Name x pos) (dC (.ty n)) :=
  xe_c (pe_bltn (v := .ty n) hg hm hv rfl hn hd) fun _ => .ty n
/-- a class, a def, by its address; a constant of the module -/
theorem xe_ref {x : Str} {a : Addr} {pos : Pos} (hg : Gl X x) (hm : X.mg x = some (.ref a)) (hd : (x == ("__debug__" : Str)) = false := by decide) : XE X T (.Name x pos) (dC (.ptr a)) := xe_c (pe_glob (v := .ref a) hg hm rfl hd) fun _ => .ptr a
theorem xe_gint {x : Str} {i : Int} {t : Tok} {pos : Pos} (hg : Gl X x) (hm : X.mg x = some (.int i t)) (hd : (x == ("__debug__" : Str)) = false := by decide) : XE X T (.Name x pos) (dC (.int i)) := xe_c (pe_glob (v := .int i) hg hm ⟨t, rfl⟩ hd) fun _ => .int i
theorem xe_gstr {x z : Str} {t : Tok} {pos : Pos} (hg : Gl X x) (hm : X.mg x = some (.str z t)) (hd : (x == ("__debug__" : Str)) = false := by decide) : XE X T (.Name x pos) (dC (.str z)) := xe_c (pe_glob (v := .str z) hg hm ⟨t, rfl⟩ hd) fun _ => .str z
/-! ### {k: v, ..} -/
def dPairs : List (DE × DE) → Gam → Mem → (List (D × D) → Mem → Prop) → Prop
  | [], _, M, Φ => Φ [] M
  | (k, v) :: r, Γ, M, Φ => k Γ M fun a M1 => v Γ M1 fun b M2 => dPairs r Γ M2 fun ps M3 => Φ ((a, b) :: ps) M3
inductive Rep2 (K : PySem.W.Frag) (H : Hp) : List (V × V) → List (D × D) → Prop
  | nil : Rep2 K H [] []
  | cons {v u : V} {d e : D} {vs : List (V × V)} {ds : List (D × D)} : Rep K H v d → Rep K H u e → Rep2 K H vs ds → Rep2 K H ((v, u) :: vs) ((d, e) :: ds)
theorem Rep2.mono {H H' : Hp} (k : Kp T H H') : ∀ {vs : List (V × V)} {ds : List (D × D)}, Rep2 K H vs ds → Rep2 K H' vs ds
  | _, _, .nil => .nil
  | _, _, .cons a b t => .cons (a.mono k) (b.mono k) (Rep2.mono k t)
theorem lift_pairs : ∀ (trs : List (DE × DE)) {Γ : Gam} {M : Mem} {Φ : List (D × D) → Mem → Prop} {σ : Sg} {H : Hp} {Q : List (V × V) → Hp → Prop}, EnvOk K T Γ M σ H → dPairs trs Γ M Φ →
    (∀ ps H' ds M', Φ ds M' → Kp T H H' → MOk K H' M' → Rep2 K H' ps ds → Q ps H') → tPairs (trs.map fun p => (lift K T p.1, lift K T p.2)) σ H Q
  | [], _, _, _, _, _, _, env, h, k => k _ _ _ _ h .refl env.mem .nil
  | (a, b) :: trs, Γ, M, Φ, σ, H, Q, env, h, k => by
    refine ⟨Γ, M, _, env, h, fun v1 H1 d1 M1 φ1 k1 m1 r1 => ⟨Γ, M1, _, env.go k1 m1, φ1, fun v2 H2 d2 M2 φ2 k2 m2 r2 => ?_⟩⟩
    exact lift_pairs trs ((env.go k1 m1).go k2 m2) φ2 fun ps H3 ds M3 φ3 k3 m3 r3 => k _ _ _ _ φ3 ((k1.trans k2).trans k3) m3 (.cons ((r1.mono k2).mono k3) (r2.mono k3) r3)
def mergeD (kvs more : List (Key × D)) : List (Key × D) := more.foldl (fun acc kv => putD acc kv.1 kv.2) kvs
theorem merge_rep {H : Hp} : ∀ {ms : List (Key × D)} {more : List (Key × V)} {kvs : List (Key × V)} {ds : List (Key × D)}, RepK K H more ms → RepK K H kvs ds → RepK K H (mergeK kvs more) (mergeD ds ms)
  | [], _, _, _, a, h => by cases a; exact h
  | (k, d) :: ms, _, _, _, a, h => by
    cases a with
    | cons a b =>
      have := merge_rep b (repK_put (k := k) a h)
      exact this
theorem kD_inv {H : Hp} {v : V} {k : Key} (r : Rep K H v (kD k)) : v = kV k := by cases k <;> (cases r; rfl)
theorem rep2_kvs {H : Hp} : ∀ {kvs : List (Key × D)} {ps : List (V × V)}, Rep2 K H ps (kvs.map fun kv => (kD kv.1, kv.2)) → ∃ vs : List (Key × V), ps = vs.map (fun kv => (kV kv.1, kv.2)) ∧ RepK K H vs kvs
  | [], _, r => by cases r; exact ⟨[], rfl, .nil⟩
  | (k, d) :: kvs, _, r => by
    rw [List.map_cons] at r
    cases r with
    | @cons v u _ _ _ _ a b t =>
      obtain ⟨vs, rfl, h⟩ := rep2_kvs t
      obtain rfl := kD_inv a
      exact ⟨(k, u) :: vs, rfl, .cons b h⟩
/-- a written dict, to change; frozen -/
def dDictM (trs : List (DE × DE)) : DE := fun Γ M Φ => ∀ p, M p = none → dPairs trs Γ (M.set p (.dK [])) fun ps M1 => M1 p = some (.dK []) ∧ ∃ kvs : List (Key × D), ps = kvs.map (fun kv => (kD kv.1, kv.2)) ∧ kvs.length ≤ 15 ∧ Φ (.ptr p) (M1.set p (.dK (mergeD [] kvs)))
def dDict (trs : List (DE × DE)) : DE := fun Γ M Φ => ∀ p, M p = none → dPairs trs Γ (M.set p (.dK [])) fun ps M1 => M1 p = some (.dK []) ∧ ∃ kvs : List (Key × D), ps = kvs.map (fun kv => (kD kv.1, kv.2)) ∧ kvs.length ≤ 15 ∧ Φ (.dic (mergeD [] kvs)) (M1.del p)
abbrev XPs (X : Cx) (T : List (Addr × Str)) (pos : Pos) (ks : List (Option Expr)) (vs : List Expr) (trs : List (DE × DE)) : Prop := PPs X pos ks vs (trs.map fun p => (lift X.K T p.1, lift X.K T p.2))
theorem xps_nil {pos : Pos} : XPs X T pos [] [] [] := pps_nil
theorem xps_cons {pos : Pos} {k v : Expr} {ks : List (Option Expr)} {vs : List Expr} {dk dv : DE} {trs : List (DE × DE)} (hk : XE X T k dk) (hv : XE X T v dv) (hr : XPs X T pos ks vs trs) : XPs X T pos (some k :: ks) (v :: vs) ((dk, dv) :: trs) := pps_cons hk hv hr
theorem lift_dict {trs : List (DE × DE)} {Γ : Gam} {M : Mem} {σ : Sg} {H : Hp} {Q : VK} {Φ : Addr → List (Key × D) → Mem → Prop} (env : EnvOk K T Γ M σ H)
    (h : ∀ p, M p = none → dPairs trs Γ (M.set p (.dK [])) fun ps M1 => M1 p = some (.dK []) ∧ ∃ kvs : List (Key × D), ps = kvs.map (fun kv => (kD kv.1, kv.2)) ∧ kvs.length ≤ 15 ∧ Φ p kvs M1)
    (k : ∀ p vs kvs H' M', Φ p kvs M' → Kp T H H' → MOk K H' M' → H' p = some (.dK []) → RepK K H' (mergeK [] vs) (mergeD [] kvs) → Q (.ref p) (upd H' p (.dK (mergeK [] vs)))) : tDisp (trs.map fun p => (lift K T p.1, lift K T p.2)) σ H Q := by
  intro p np
  have kp : Kp T H (upd H p (.dK [])) := .new np
  have mp : MOk K (upd H p (.dK [])) (M.set p (.dK [])) := env.mem.put (m := .dK []) kp .nil
  refine lift_pairs trs (env.go kp mp) (h p (env.mem.free np)) fun ps H1 ds M1 φ k1 m1 r1 => ?_
  obtain ⟨hp, kvs, rfl, hl, φ⟩ := φ
  obtain ⟨vs, rfl, hk⟩ := rep2_kvs r1
  obtain ⟨o, h1, h2⟩ := m1 _ _ hp
  cases o <;> first | exact h2.elim | skip
  cases h2
  exact ⟨h1, vs, rfl, by rw [repK_len hk]; exact hl, k _ _ _ _ _ φ (kp.trans k1) m1 h1 (merge_rep hk .nil)⟩
section
variable {pos : Pos} {keys : List (Option Expr)} {values : List Expr} {trs : List (DE × DE)}
theorem xe_dictM (h : XPs X T pos keys values trs) (hall : keys.all (·.isSome) = true := by rfl) (hl : keys.length = values.length := by rfl) (h0 : keys ≠ [] := by intro z; cases z) (h15 : keys.length ≤ 15 := by decide) : XE X T (.Dict keys values pos) (dDictM trs) := pe_weak (pe_disp h hall hl h0 h15) fun σ H Q q => by
  obtain ⟨Γ, M, Φ, env, h, k⟩ := q
  refine lift_dict env h fun p vs kvs H' M' φ k' m' h1 h2 => ?_
  have kk : Kp T H' (upd H' p (.dK (mergeK [] vs))) := Kp.mut h1 True.intro
  exact k _ _ _ _ φ (k'.trans kk) (m'.put (m := .dK _) kk h2) (.ptr p)
theorem xe_dict (h : XPs X T pos keys values trs) (hall : keys.all (·.isSome) = true := by rfl) (hl : keys.length = values.length := by rfl) (h0 : keys ≠ [] := by intro z; cases z) (h15 : keys.length ≤ 15 := by decide) : XE X T (.Dict keys values pos) (dDict trs) := pe_weak (pe_fz (pe_disp h hall hl h0 h15)) fun σ H Q q => by
  obtain ⟨Γ, M, Φ, env, h, k⟩ := q
  refine lift_dict env h fun p vs kvs H' M' φ k' m' h1 h2 => .inl ⟨p, _, rfl, upd_same, True.intro, fun ob => ?_⟩
  rw [upd_upd]
  have kk : Kp T H' (upd H' p (.frz ob (.dK (mergeK [] vs)))) := Kp.mut h1 True.intro
  exact k _ _ _ _ φ (k'.trans kk) (m'.drop kk) (.dic ⟨ob, upd_same⟩ (RepK.mono kk h2))
end
end
/-! ### defs -/
abbrev FS := List D → Mem → Cont → Prop
def FSp (K : PySem.W.Frag) (T : List (Addr × Str)) (n : Nat) (fs : FS) : Sp := fun vs H Q _ => ∃ ds M Φ, vs.length = n ∧ Reps K H vs ds ∧ MOk K H M ∧ LamX.Tabs T H ∧ fs ds M Φ ∧ Goes K T H Φ Q
/-- the def that the module's x names keeps fs -/
structure Has (P : Program) (w : World) (K : PySem.W.Frag) (mg : Str → Option Value) (base : Heap) (T : List (Addr × Str)) (x : Str) (k n : Nat) (fs : FS) : Prop where
  len : ∀ ds M Φ, fs ds M Φ → ds.length = n
  ex : ∃ (f : Addr) (fd : FuncData) (ps : List Str), ps.length = n ∧ FnOk P w K mg base CX0 k f fd ps (FSp K T n fs) ∧ mg x = some (.ref f) ∧ PySem.W.keepIn K (.ref f) = true ∧ L2.Binds K fd ps []
theorem Has.mono {P : Program} {w : World} {K : PySem.W.Frag} {mg : Str → Option Value} {base : Heap} {T : List (Addr × Str)} {x : Str} {j k n : Nat} {fs : FS} (h : Has P w K mg base T x j n fs) (l : j ≤ k) : Has P w K mg base T x k n fs := by
  obtain ⟨len, f, fd, ps, a, b, c⟩ := h
  exact ⟨len, f, fd, ps, a, b.mono l, c⟩
theorem Has.imp {P : Program} {w : World} {K : PySem.W.Frag} {mg : Str → Option Value} {base : Heap} {T : List (Addr × Str)} {x : Str} {k n : Nat} {fs gs : FS} (h : Has P w K mg base T x k n fs) (l : ∀ ds M Φ, gs ds M Φ → fs ds M Φ) : Has P w K mg base T x k n gs := by
  obtain ⟨len, f, fd, ps, a, b, c⟩ := h
  exact ⟨fun ds M Φ q => len _ _ _ (l _ _ _ q), f, fd, ps, a, b.imp fun vs H Q E ⟨ds, M, Φ, h1, h2, h3, h4, h5, h6⟩ => ⟨ds, M, Φ, h1, h2, h3, h4, l _ _ _ h5, h6⟩, c⟩
def dCall (fs : FS) (da : DA) : DE := fun Γ M Φ => da Γ M fun ds M1 => fs ds M1 Φ
section
variable {X : Cx} {T : List (Addr × Str)} {x : Str} {k n : Nat} {fs : FS} {p pos : Pos} {e : Expr} {es : List Expr} {da : DA}
theorem xe_call (h : Has X.prog X.w X.K X.mg X.base T x k n fs) (hr : Room k X.A) (hg : Gl X x) (ha : XA X T (e :: es) da) (hdb : (x == ("__debug__" : Str)) = false := by decide)
    (he : starEach (e :: es) X.env = (false, eval e X.env) :: starEach es X.env := by rfl) (hpl : (backTo pos (starEach es X.env)).any (·.1) = false := by rfl) : XE X T (.Call (.Name x p) (e :: es) [] pos) (dCall fs da) := by
  obtain ⟨len, f, fd, ps, hn, F, hm, hk, hb⟩ := h
  refine pe_weak (pe_call F hr hg hm hk hb .nil pass0 ha hdb he hpl) fun σ H Q q => ?_
  obtain ⟨Γ, M, Φ, env, h, g⟩ := q
  refine ⟨Γ, M, _, env, h, fun vs H1 ds M1 φ1 k1 m1 r1 => ?_⟩
  show FSp X.K T n fs (vs ++ []) H1 Q E0
  rw [List.append_nil]
  exact ⟨ds, M1, Φ, by rw [r1.length]; exact len _ _ _ φ1, r1, m1, k1.tab env.tab, φ1, g.from k1⟩
/-- f(k = e) with the one parameter's name -/
theorem xe_callKw {kn : Str} {kp : Pos} {de : DE} (h : Has X.prog X.w X.K X.mg X.base T x k 1 fs) (hkb : ∀ (f : Addr) (fd : FuncData) (ps : List Str), X.mg x = some (.ref f) → FnOk X.prog X.w X.K X.mg X.base CX0 k f fd ps (FSp X.K T 1 fs) → ∀ (s : Shared) (w' : Value), X.K.In s.heap → BindsTo s fd ⟨[], [(kn, w')]⟩ (ps.zip [w']))
    (hr : Room k X.A) (hg : Gl X x) (ha : XE X T e de) (hall : (backToKw pos (keywordEach [⟨some kn, e, kp⟩] X.env)).all (·.1.isSome) = true := by rfl) (hks : (backToKw pos (keywordEach [⟨some kn, e, kp⟩] X.env)).filterMap (·.1) = [kn] := by rfl)
    (hdb : (x == ("__debug__" : Str)) = false := by decide) (hpl : ((backTo pos (starEach [] X.env)).any (·.1) || (backToKw pos (keywordEach [⟨some kn, e, kp⟩] X.env)).any (·.1.isNone)) = false := by rfl) :
    XE X T (.Call (.Name x p) [] [⟨some kn, e, kp⟩] pos) (dCall fs (daCons de daNil)) := by
  obtain ⟨len, f, fd, ps, hn, F, hm, hk, hb⟩ := h
  refine ⟨fun pins s σ H Q I q => ?_⟩
  obtain ⟨Γ, M, Φ, env, h, g⟩ := q
  refine wpAny_Call_Name_kw (ld_glob I hg hm ?_ hdb)
  refine PySem.W.callWith_KW0 (h₀ := X.base) I.ok.mod.kin hk hall ?_ hpl
  refine thn ((pk_cons (nm := some kn) (kpos := kp) ha pk_nil).run pos pins s σ H (fun zs H1 => ∃ v d M1, zs = [v] ∧ Rep X.K H1 v d ∧ MOk X.K H1 M1 ∧ Kp T H H1 ∧ fs [d] M1 Φ) I ⟨Γ, M, _, env, h, fun v1 H1 d1 M1 φ1 k1 m1 r1 => ⟨v1, d1, M1, rfl, r1, m1, k1, φ1⟩⟩) fun ws s2 ⟨zs, H2, I2, rz, q2⟩ => ⟨I2.kIn, ?_⟩
  obtain ⟨v, d, M1, rfl, r1, m1, k1, φ1⟩ := q2
  obtain ⟨w', rfl, rw'⟩ := vals1 rz
  rw [hks]
  have hsp : FSp X.K T 1 fs [v] H2 Q E0 := ⟨[d], M1, Φ, rfl, .cons r1 .nil, m1, k1.tab env.tab, φ1, g.from k1⟩
  refine wpAny_call (codeAny_mono (F.run X.A X.stack s2 H2 ⟨[], [(kn, w')]⟩ [w'] [v] Q E0 hr I2.env0 (hkb f fd ps hm F s2 w' I2.kIn) (.cons rw' .nil) hsp) fun r s' hq => ?_)
  cases r with
  | error e => exact (show False from hq).elim
  | ok fl =>
    cases fl with
    | ret u => exact I2.after hq
    | next => exact False.elim hq
    | brk => exact False.elim hq
    | cont => exact False.elim hq
end
def startG (N : List Str) (ds : List D) : Gam := ds.map some ++ List.replicate (N.length - ds.length) none
theorem start_env {K : PySem.W.Frag} {T : List (Addr × Str)} {N : List Str} {vs : List V} {ds : List D} {H : Hp} {M : Mem} (r : Reps K H vs ds) (m : MOk K H M) (t : LamX.Tabs T H) : EnvOk K T (startG N ds) M (L2.start N vs) H := by
  refine ⟨fun i d h => ?_, ?_, m, t⟩
  · unfold startG at h
    unfold L2.start
    by_cases hi : i < ds.length
    · rw [List.getElem?_append_left (by simpa using hi), List.getElem?_map] at h
      rw [List.getElem?_append_left (by rw [List.length_map, r.length]; exact hi), List.getElem?_map]
      cases e : ds[i]? with
      | none => rw [e] at h; cases h
      | some d' =>
        rw [e] at h
        cases h
        obtain ⟨v, h1, h2⟩ := r.get e
        exact ⟨v, by rw [h1]; rfl, h2⟩
    · rw [List.getElem?_append_right (by simpa using hi)] at h
      rw [List.getElem?_replicate] at h
      split at h <;> cases h
  · unfold startG L2.start
    simp [r.length]
/-- what a store keeps -/
def Sub (M M' : Mem) : Prop := ∀ a m, M a = some m → M' a = some m
theorem Sub.refl {M : Mem} : Sub M M := fun _ _ h => h
theorem Sub.trans {M M1 M2 : Mem} (a : Sub M M1) (b : Sub M1 M2) : Sub M M2 := fun c m h => b c m (a c m h)
theorem sub_set {M : Mem} {p : Addr} {o : MO} (h : M p = none) : Sub M (M.set p o) := fun a m q => by rw [Mem.set_ne (Mem.ne_of_none q h)]; exact q
/-- .. of a smaller store: what a def made for itself is forgotten at its end -/
def drp (Φ : Cont) : Cont := fun d M' => ∃ M, Sub M M' ∧ Φ d M
theorem Goes.drp {K : PySem.W.Frag} {T : List (Addr × Str)} {H : Hp} {Φ : Cont} {Q : VK} (g : Goes K T H Φ Q) : Goes K T H (drp Φ) Q := fun v H' d M' ⟨M, s, φ⟩ k m r => g v H' d M φ k (m.sub s) r
theorem okD {P : Program} {w : World} {K : PySem.W.Frag} {mg : Str → Option Value} {base : Heap} {T : List (Addr × Str)} {x qual : Str} {st : Stmt} {f : Addr} {fd : FuncData} {N ps : List Str} {k : Nat} {fs : FS} (F : Fun K x qual st f fd) (S : FnScope N ps (defScope st)) (hm : mg x = some (.ref f)) (hb : L2.Binds K fd ps [])
    (len : ∀ ds M Φ, fs ds M Φ → ds.length = ps.length)
    (body : ∀ (cdv : Value) (A : Around) (outer : List Env) (s : Shared) (H : Hp) (E : XK), Room k (A.deeper (envOfC qual (defScope st) s.heap.objs.size f cdv)) →
      ∃ dsb, XSs (cxOf CX0 P w K mg base N qual (defScope st) f cdv A outer s H E).nox T (defBody st) dsb ∧ ∀ ds M Φ, fs ds M Φ → dsb { nx := fun _ M' => drp Φ .non M', rt := drp Φ } (startG N ds) M) :
    Has P w K mg base T x (k + 1) ps.length fs := by
  refine ⟨len, f, fd, ps, rfl, F.ok S (fun vs H Q E h => ?_) (fun cdv A outer s H vs Q E hr h => ?_), hm, F.kp, hb⟩
  · obtain ⟨ds, M, Φ, h, _⟩ := h
    exact h
  · obtain ⟨ds, M, Φ, hl, r, m, t, h, g⟩ := h
    obtain ⟨dsb, hx, hd⟩ := body cdv A outer s H E hr
    refine ⟨_, hx, startG N ds, M, _, start_env r m t, hd ds M Φ h, fun σ' H' Γ' M' φ k' e' => ?_, fun _ _ _ _ φ => φ.elim, fun _ _ _ _ φ => φ.elim, g.drp⟩
    exact g.drp _ _ _ _ φ k' e'.mem .non
end DL

/-! DLh: walks of any sequence, pairs of names, lists to change. -/
namespace DL
open PySem PySem.Spec PyProof.Rows L2
section
variable {X : Cx} {K : PySem.W.Frag} {T : List (Addr × Str)} {pos : Pos}
/-- a list, a tuple, a text, the keys of a dict: by what comes -/
def itD : D → Option (List D)
  | .lst xs => some xs
  | .scr xs => some xs
  | .tup xs => some xs
  | .str x => some (x.cps.toList.map fun c => .str ⟨#[c]⟩)
  | .dic kvs => some (kvs.map fun kv => kD kv.1)
  | _ => none
def diAny (de : DE) : DI := fun Γ M Φ => de Γ M fun d M1 => ∃ xs, itD d = some xs ∧ Φ xs M1
theorem xi_any {tg l : Expr} {de : DE} (h : XE X T l de) : XI X T tg l (diAny de) := by
  refine ⟨fun pins s σ H R I q => ?_⟩
  obtain ⟨Γ, M, Φ, env, hd, k⟩ := q
  refine thn (h.run pins s σ H (fun v H1 => ∃ d M1, Rep X.K H1 v d ∧ MOk X.K H1 M1 ∧ Kp T H H1 ∧ ∃ xs, itD d = some xs ∧ Φ xs M1) I ⟨Γ, M, _, env, hd, fun v H1 d M1 φ1 k1 m1 r1 => ⟨d, M1, r1, m1, k1, φ1⟩⟩) fun v s1 ⟨x, H1, I1, r1, q1⟩ => ?_
  obtain ⟨d, M1, rd, m1, k1, xs, hx, φ⟩ := q1
  have list : ∀ {a : Addr} {vs : List V}, x = .ref a → (FzL X.K H1 a vs ∨ FzR H1 a vs) → Reps X.K H1 vs xs → wpAny (model X.prog X.w) X.A (pyIter v) (PIE X pins σ tg R) X.xe s1 := fun {a vs} e hf hr => by
    subst e
    cases r1
    obtain ⟨its, rv, pl, hz⟩ := I1.list (sq_still (T := T) hf H1 .refl)
    exact wpAny_pyIter_list pl.isList (pi_one (tk := s1.toks) I1 _ (turn_list a _) ⟨_, Heap.get?_push_size _ rfl, rfl, rfl⟩ (k _ _ _ _ φ k1 m1 (walk_list hf hr)))
  cases d with
  | lst ys => cases hx; cases rd with | lst ha ra => exact list rfl (.inr ha) ra
  | scr ys => cases hx; cases rd with | scr ha ra => exact list rfl (.inl ha) ra
  | tup ys =>
    cases hx
    cases rd with
    | @tup a vs _ ha ra =>
      cases r1
      obtain ⟨its, rv, pl, hz⟩ := I1.tuple (.of ha)
      exact wpAny_pyIter_tuple (show s1.heap.IsTuple a its.toArray from pl) (pi_one (tk := s1.toks) I1 _ (turn_tuple a _) ⟨_, Heap.get?_push_size _ rfl, rfl, rfl⟩ (k _ _ _ _ φ k1 m1 (walk_tup ha ra)))
  | str z =>
    cases hx
    cases rd
    obtain ⟨t, rfl⟩ := r1
    have w := k _ _ _ _ φ k1 m1 walk_str
    cases ha : z.cps.all (· < 128)
    · exact wpAny_pyIter_wide ha (pi_one (tk := s1.toks) I1 _ (turn_str _ z t "str_iterator" (.inr rfl)) ⟨_, Heap.get?_push_size _ rfl, rfl, rfl⟩ w)
    · exact wpAny_pyIter_ascii ha (pi_one (tk := s1.toks) I1 _ (turn_str _ z t "str_ascii_iterator" (.inl rfl)) ⟨_, Heap.get?_push_size _ rfl, rfl, rfl⟩ w)
  | dic ds =>
    cases hx
    cases rd with
    | dic ha ra =>
      obtain ⟨o, ha⟩ := ha
      cases r1
      obtain ⟨hs, hgd, hx, es, ep, vs, hdt, hsz, kv, hm⟩ := I1.frzK ha
      refine iter_keys hs hgd hx hdt (pi_one (tk := s1.toks) I1 _ (turn_keys _ hdt) ⟨_, Heap.get?_push_size _ rfl, rfl, ?_⟩ (k _ _ _ _ φ k1 m1 (walk_keys ha ra)))
      rw [hsz]
      rfl
  | _ => cases hx
/-! ### a, b = x, y; a, b = e -/
def dsPar (i j : Nat) (da : DA) : DS := fun E Γ M => da Γ M fun ds M1 => match ds with
  | [a, b] => E.nx ((Γ.set i (some a)).set j (some b)) M1
  | _ => False
theorem xs_par {i j : Nat} {x y : Str} {a b : Expr} {da : DA} {px py pt : Pos} {kt k2 pt2} (hc : X.calm = true) (hN : X.N.Nodup) (hi : X.N[i]? = some x) (hj : X.N[j]? = some y) (hij : i ≠ j)
    (hx : X.env.scope.names.lookup x = some .local) (hy : X.env.scope.names.lookup y = some .local) (ha : XA X T [a, b] da)
    (hw : swappedStores [.Tuple [.Name x px, .Name y py] kt pt] (.Tuple [a, b] k2 pt2) X.env = pure (some [x, y]))
    (hs : swapsWithSole [.Tuple [.Name x px, .Name y py] kt pt] (.Tuple [a, b] k2 pt2) pos.line X.env = pure false := by rfl) :
    XS X T (.Assign [.Tuple [.Name x px, .Name y py] kt pt] (.Tuple [a, b] k2 pt2) pos) (dsPar i j da) := ps_weak (ps_par (i := i) (j := j) hc hN hi hj hij hx hy ha hw hs) fun Dn σ H q => by
  obtain ⟨Γ, M, E, env, h, hn, hb, hct, hr⟩ := q
  refine ⟨Γ, M, _, env, h, fun vs H1 ds M1 φ k1 m1 r1 => ?_⟩
  split at φ
  · obtain ⟨v, u, rfl, rv, ru⟩ := reps2 r1
    exact ⟨v, u, rfl, hn _ _ _ _ φ k1 (((env.go k1 m1).set i rv).set j ru)⟩
  · exact φ.elim
def dsAsgP (i j : Nat) (de : DE) : DS := fun E Γ M => de Γ M fun d M1 => match d with
  | .tup [a, b] => E.nx ((Γ.set i (some a)).set j (some b)) M1
  | _ => False
theorem xs_asgP {i j : Nat} {x y : Str} {e : Expr} {de : DE} {px py pt : Pos} {kt} (hc : X.calm = true) (hN : X.N.Nodup) (hi : X.N[i]? = some x) (hj : X.N[j]? = some y) (he : XE X T e de)
    (hx : Loc X.env.scope x := by first | exact Or.inl rfl | exact Or.inr rfl) (hy : Loc X.env.scope y := by first | exact Or.inl rfl | exact Or.inr rfl)
    (hfx : X.fn x = true ∨ X.env.scope.names.lookup x = some .local := by first | exact .inl rfl | exact .inr rfl) (hfy : X.fn y = true ∨ X.env.scope.names.lookup y = some .local := by first | exact .inl rfl | exact .inr rfl)
    (hn : (assignEach [.Name x px, .Name y py] X.env).length = 2 := by rfl) (hst : (assignEach [.Name x px, .Name y py] X.env).findIdx? (·.1) = none := by rfl)
    (h1 : (assignEach [.Name x px, .Name y py] X.env).map (·.2) = assign (.Name x px) X.env :: (assignEach [.Name y py] X.env).map (·.2) := by rfl) (h2 : (assignEach [.Name y py] X.env).map (·.2) = assign (.Name y py) X.env :: (assignEach [] X.env).map (·.2) := by rfl)
    (hs : swapsWithSole [.Tuple [.Name x px, .Name y py] kt pt] e pos.line X.env = pure false := by rfl) (hw : swappedStores [.Tuple [.Name x px, .Name y py] kt pt] e X.env = pure none := by rfl)
    (h3 : (assignEach [.Tuple [.Name x px, .Name y py] kt pt] X.env).map (·.2) = [assign (.Tuple [.Name x px, .Name y py] kt pt) X.env] := by rfl) :
    XS X T (.Assign [.Tuple [.Name x px, .Name y py] kt pt] e pos) (dsAsgP i j de) :=
  ps_weak (ps_asg he (pg_tup hc (pgs_cons (pg_name (i := i) hN hi hx hfx) (pgs_cons (pg_name (i := j) hN hj hy hfy) pgs_nil h2) h1) hn hst) hs hw h3) fun Dn σ H q => by
  obtain ⟨Γ, M, E, env, h, hnx, hb, hct, hr⟩ := q
  refine ⟨Γ, M, _, env, h, fun v H1 d M1 φ k1 m1 r1 => ?_⟩
  split at φ
  · cases r1 with
    | tup ha ra =>
      obtain ⟨v, u, rfl, rv, ru⟩ := reps2 ra
      exact ⟨_, _, rfl, .of ha, rfl, _, _, rfl, _, _, rfl, rfl, hnx _ _ _ _ φ k1 (((env.go k1 m1).set i rv).set j ru)⟩
  · exact φ.elim
/-! ### constants of the module -/
theorem xe_gint' {x : Str} {i : Int} (hg : Gl X x) (hm : ∃ t, X.mg x = some (.int i t)) (hd : (x == ("__debug__" : Str)) = false := by decide) : XE X T (.Name x pos) (dC (.int i)) := by obtain ⟨t, hm⟩ := hm; exact xe_gint hg hm hd
theorem xe_gstr' {x z : Str} (hg : Gl X x) (hm : ∃ t, X.mg x = some (.str z t)) (hd : (x == ("__debug__" : Str)) = false := by decide) : XE X T (.Name x pos) (dC (.str z)) := by obtain ⟨t, hm⟩ := hm; exact xe_gstr hg hm hd
/-! ### if-else as a test -/
def dIfT (dt da db : DT) : DT := fun Γ M Ψ => dt Γ M fun b M1 => if b = true then da Γ M1 Ψ else db Γ M1 Ψ
theorem xt_if {c a b : Expr} {dt da db : DT} (hc : XT X T c dt) (ha : XT X T a da) (hb : XT X T b db) : XT X T (.IfExp c a b pos) (dIfT dt da db) := by
  refine ⟨fun pins s σ H Q I q => ?_⟩
  obtain ⟨Γ, M, Ψ, env, h, k⟩ := q
  refine isTrue_IfExp (thn (hc.run pins s σ H (fun b H1 => ∃ M1, EnvOk X.K T Γ M1 σ H1 ∧ Kp T H H1 ∧ (if b = true then da Γ M1 Ψ else db Γ M1 Ψ)) I ⟨Γ, M, _, env, h, fun b H1 M1 φ k1 m1 => ⟨M1, env.go k1 m1, k1, φ⟩⟩) fun v s1 hh => ?_)
  obtain ⟨H1, I1, M1, env1, k1, φ⟩ := hh
  cases v with
  | true => exact ha.run pins s1 σ H1 Q I1 ⟨Γ, M1, Ψ, env1, φ, fun b H' M' p k' m' => k b H' M' p (k1.trans k') m'⟩
  | false => exact hb.run pins s1 σ H1 Q I1 ⟨Γ, M1, Ψ, env1, φ, fun b H' M' p k' m' => k b H' M' p (k1.trans k') m'⟩
/-! ### lists to change -/
theorem slM {e : Expr} {lo hi : Option Expr} {de : DE} {dl dh : DO} {p2 : Pos} (he : XE X T e de) (hl : PO X lo (liftO X.K T dl)) (hh : PO X hi (liftO X.K T dh)) :
    XE X T (.Subscript e (.Slice lo hi none p2) pos) (fun Γ M Φ => de Γ M fun d M1 => dl Γ M1 fun lo M2 => dh Γ M2 fun hi M3 => ∃ xs, lsD M3 d = some xs ∧ ∀ p, M3 p = none → Φ (.ptr p) (M3.set p (.lst (cutD xs lo hi)))) :=
  pe_weak (pe_slice sl_list he hl hh) fun σ H Q q => by
  obtain ⟨Γ, M, Φ, env, h, k⟩ := q
  refine ⟨Γ, M, _, env, h, fun v1 H1 d1 M1 φ1 k1 m1 r1 => ⟨Γ, M1, _, env.go k1 m1, φ1, fun l H2 M2 φ2 k2 m2 => ⟨Γ, M2, _, (env.go k1 m1).go k2 m2, φ2, fun u H3 M3 φ3 k3 m3 => ?_⟩⟩⟩
  have g := k.from ((k1.trans k2).trans k3)
  obtain ⟨xs, h1, φ⟩ := φ3
  obtain ⟨a, vs, rfl, h4, h5⟩ := lsD_rep ((r1.mono k2).mono k3) m3 h1
  exact ⟨a, vs, rfl, h4, fun p n => g.newL m3 n φ (cut_reps h5 l u)⟩
def dSlM (de : DE) (dl dh : DO) : DE := fun Γ M Φ => de Γ M fun d M1 => dl Γ M1 fun lo M2 => dh Γ M2 fun hi M3 => ∃ xs, lsD M3 d = some xs ∧ ∀ p, M3 p = none → Φ (.ptr p) (M3.set p (.lst (cutD xs lo hi)))
theorem xe_sliceM {e : Expr} {lo hi : Option Expr} {de : DE} {dl dh : DO} {p2 : Pos} (he : XE X T e de) (hl : PO X lo (liftO X.K T dl)) (hh : PO X hi (liftO X.K T dh)) : XE X T (.Subscript e (.Slice lo hi none p2) pos) (dSlM de dl dh) := slM he hl hh
def fMulM : D → D → Mem → Cont → Prop := fun d e M Φ => match e with
  | .int k => ∃ xs, lsR M d = some xs ∧ -(2 ^ 63) ≤ k ∧ k < 2 ^ 63 ∧ xs.length * k.toNat ≤ sizeLine ∧ ∀ p, M p = none → Φ (.ptr p) (M.set p (.lst (List.replicate k.toNat xs).flatten))
  | _ => False
theorem d_mulM : R2D K T rRepG fMulM := by
  intro x y d e H M Φ Q rx ry m q g
  unfold fMulM at q
  split at q
  · obtain ⟨xs, h1, h2, h3, h4, φ⟩ := q
    cases ry
    obtain ⟨l, vs, rfl, a1, b1⟩ := lsR_rep rx m h1
    exact ⟨l, _, vs, rfl, rfl, a1, h2, h3, by rw [b1.length]; exact h4, fun p n => g.newL m n φ (b1.rep _)⟩
  · exact q.elim
theorem xe_mulM {a b : Expr} {da db : DE} (ha : XE X T a da) (hb : XE X T b db) : XE X T (.BinOp a .Mult b pos) (dBin fMulM da db) := xe_op op_repG d_mulM ha hb
def fAddM : D → D → Mem → Cont → Prop := fun d e M Φ => ∃ xs ys, lsR M d = some xs ∧ lsR M e = some ys ∧ xs.length + ys.length ≤ sizeLine ∧ ∀ p, M p = none → Φ (.ptr p) (M.set p (.lst (xs ++ ys)))
theorem d_addM : R2D K T rCatG fAddM := by
  intro x y d e H M Φ Q rx ry m q g
  obtain ⟨xs, ys, h1, h2, hz, φ⟩ := q
  obtain ⟨l, vs, rfl, a1, b1⟩ := lsR_rep rx m h1
  obtain ⟨l2, ws, rfl, a2, b2⟩ := lsR_rep ry m h2
  exact ⟨l, l2, vs, ws, rfl, rfl, a1, a2, by rw [b1.length, b2.length]; exact hz, fun p n => g.newL m n φ (b1.append b2)⟩
theorem xe_addM {a b : Expr} {da db : DE} (ha : XE X T a da) (hb : XE X T b db) : XE X T (.BinOp a .Add b pos) (dBin fAddM da db) := xe_op op_catG d_addM ha hb
/-- list(range(..)) -/
theorem rg_reps {H : Hp} (a b : Int) : Reps K H (rgV a b) (rgD a b) := by
  unfold rgV rgD
  generalize (b - a).toNat = n
  have key : ∀ l : List Nat, Reps K H (l.map fun i : Nat => V.int (a + (i : Nat))) (l.map fun i : Nat => D.int (a + (i : Nat))) := fun l => by
    induction l with
    | nil => exact .nil
    | cons x l ih => exact .cons (.int _) ih
  exact key _
def dListRg1 (da : DE) : DE := fun Γ M Φ => da Γ M fun d M1 => match d with
  | .int n => RgOk 0 n ∧ Φ (.lst (rgD 0 n)) M1
  | _ => False
def dTupRg1 (da : DE) : DE := fun Γ M Φ => da Γ M fun d M1 => match d with
  | .int n => RgOk 0 n ∧ Φ (.tup (rgD 0 n)) M1
  | _ => False
theorem xe_listRg1 {a : Expr} {da : DE} {p p2 pos2 : Pos} (hc : X.calm = true) (hg : Gl X "list") (hm : X.mg "list" = none) (hg2 : Gl X "range") (hm2 : X.mg "range" = none) (ha : XE X T a da) (na : starEach [a] X.env = (false, eval a X.env) :: starEach [] X.env := by rfl)
    (nb : starEach [.Call (.Name "range" p2) [a] [] pos2] X.env = (false, eval (.Call (.Name "range" p2) [a] [] pos2) X.env) :: starEach [] X.env := by rfl) : XE X T (.Call (.Name "list" p) [.Call (.Name "range" p2) [a] [] pos2] [] pos) (dListRg1 da) := pe_weak (pe_fz (pe_listRg hc hg hm (prg_1 hg2 hm2 ha na) nb)) fun σ H Q q => by
  obtain ⟨Γ, M, Φ, env, h, k⟩ := q
  refine ⟨Γ, M, _, env, h, fun v H1 d M1 φ k1 m1 r1 => ?_⟩
  cases d <;> first | exact φ.elim | skip
  cases r1
  exact ⟨_, rfl, φ.1, fun p n => (k.from k1).newF m1 n φ.2 (rg_reps _ _)⟩
theorem xe_tupRg1 {a : Expr} {da : DE} {p p2 pos2 : Pos} (hc : X.calm = true) (hg : Gl X "tuple") (hm : X.mg "tuple" = none) (hg2 : Gl X "range") (hm2 : X.mg "range" = none) (ha : XE X T a da) (na : starEach [a] X.env = (false, eval a X.env) :: starEach [] X.env := by rfl)
    (nb : starEach [.Call (.Name "range" p2) [a] [] pos2] X.env = (false, eval (.Call (.Name "range" p2) [a] [] pos2) X.env) :: starEach [] X.env := by rfl) : XE X T (.Call (.Name "tuple" p) [.Call (.Name "range" p2) [a] [] pos2] [] pos) (dTupRg1 da) := pe_weak (pe_tupRg hc hg hm (prg_1 hg2 hm2 ha na) nb) fun σ H Q q => by
  obtain ⟨Γ, M, Φ, env, h, k⟩ := q
  refine ⟨Γ, M, _, env, h, fun v H1 d M1 φ k1 m1 r1 => ?_⟩
  cases d <;> first | exact φ.elim | skip
  cases r1
  exact ⟨_, rfl, φ.1, fun p n => (k.from k1).newT m1 n φ.2 (rg_reps _ _)⟩
end
end DL

/-! DLs: the readings step by step. -/
namespace DL
open PySem PySem.Spec PyProof.Rows L2
section
variable {Γ : Gam} {M : Mem} {Φ : Cont} {Ψ : Bool → Mem → Prop} {Θ : List D → Mem → Prop} {E : DEnds} {d e : D} {i : Nat} {de da db dc : DE} {dt du : DT} {ds dr d1 d2 : DS} {aa : DA} {f f' : D → D → Mem → Cont → Prop} {fs : FS}
/-! ### structure -/
theorem i_var (h : Γ[i]? = some (some d)) (k : Φ d M) : dVar i Γ M Φ := by unfold dVar; rw [h]; exact k
theorem i_c (k : Φ d M) : dC d Γ M Φ := k
theorem i_bin (k : da Γ M fun d M1 => db Γ M1 fun e M2 => f d e M2 Φ) : dBin f da db Γ M Φ := k
theorem i_anil (k : Θ [] M) : daNil Γ M Θ := k
theorem i_acons (k : de Γ M fun d M1 => aa Γ M1 fun ds M2 => Θ (d :: ds) M2) : daCons de aa Γ M Θ := k
theorem i_cb {g : List D → Mem → Cont → Prop} (k : aa Γ M fun ds M1 => g ds M1 Φ) : dCB g aa Γ M Φ := k
theorem i_call (k : aa Γ M fun ds M1 => fs ds M1 Φ) : dCall fs aa Γ M Φ := k
theorem i_tup (k : aa Γ M fun ds M1 => ds.length ≤ sizeLine ∧ Φ (.tup ds) M1) : dTup aa Γ M Φ := k
theorem i_lst (k : aa Γ M fun ds M1 => ds.length ≤ sizeLine ∧ Φ (.lst ds) M1) : dLst aa Γ M Φ := k
theorem i_lstM (k : aa Γ M fun ds M1 => ds.length ≤ sizeLine ∧ ∀ p, M1 p = none → Φ (.ptr p) (M1.set p (.lst ds))) : dLstM aa Γ M Φ := k
theorem i_B (k : de Γ M fun d M1 => match d with
  | .bl b => Ψ b M1
  | _ => False) : dB de Γ M Ψ := k
theorem i_Bb {b : Bool} (k : Ψ b M) : (match (D.bl b) with
  | .bl b => Ψ b M
  | _ => False) := k
theorem i_notT (k : dt Γ M fun b M1 => Ψ (!b) M1) : dNotT dt Γ M Ψ := k
theorem i_andT (k : dt Γ M fun b M1 => if b = true then du Γ M1 Ψ else Ψ false M1) : dAndT dt du Γ M Ψ := k
theorem i_orT (k : dt Γ M fun b M1 => if b = true then Ψ true M1 else du Γ M1 Ψ) : dOrT dt du Γ M Ψ := k
theorem i_andV (k : da Γ M fun d M1 => match d with
  | .bl b => if b = true then db Γ M1 Φ else Φ (.bl false) M1
  | _ => False) : dAndV da db Γ M Φ := k
theorem i_orV (k : da Γ M fun d M1 => match d with
  | .bl b => if b = true then Φ (.bl true) M1 else db Γ M1 Φ
  | _ => False) : dOrV da db Γ M Φ := k
theorem i_notV (k : da Γ M fun d M1 => match d with
  | .bl b => Φ (.bl (!b)) M1
  | _ => False) : dNotV da Γ M Φ := k
theorem i_if (k : dt Γ M fun b M1 => if b = true then da Γ M1 Φ else db Γ M1 Φ) : dIf dt da db Γ M Φ := k
theorem i_ifT {dv : DT} (k : dt Γ M fun b M1 => if b = true then du Γ M1 Ψ else dv Γ M1 Ψ) : dIfT dt du dv Γ M Ψ := k
theorem i_chain (k : da Γ M fun x M1 => db Γ M1 fun y M2 => f x y M2 fun z M3 => match z with
  | .bl b => if b = true then dc Γ M3 fun w M4 => f' y w M4 Φ else Φ (.bl false) M3
  | _ => False) : dChain f f' da db dc Γ M Φ := k
theorem i_itT {A B : Prop} (k : A) : if true = true then A else B := by rw [if_pos rfl]; exact k
theorem i_itF {A B : Prop} (k : B) : if false = true then A else B := by rw [if_neg Bool.false_ne_true]; exact k
theorem i_itnT {A B : Prop} (k : B) : if (!true) = true then A else B := by rw [if_neg (by decide)]; exact k
theorem i_itnF {A B : Prop} (k : A) : if (!false) = true then A else B := by rw [if_pos (by decide)]; exact k
theorem i_itnB {b : Bool} {A B : Prop} (h1 : b = true → B) (h2 : b = false → A) : if (!b) = true then A else B := by
  cases b
  · exact i_itnF (h2 rfl)
  · exact i_itnT (h1 rfl)
theorem i_itND {p A B : Prop} [Decidable p] (h : p) (k : B) : if (!decide p) = true then A else B := by rw [decide_eq_true h]; exact i_itnT k
theorem i_itNF {p A B : Prop} [Decidable p] (h : ¬ p) (k : A) : if (!decide p) = true then A else B := by rw [decide_eq_false h]; exact i_itnF k
theorem i_itD {p A B : Prop} [Decidable p] (h1 : p → A) (h2 : ¬ p → B) : if decide p = true then A else B := by
  by_cases h : p
  · rw [decide_eq_true h]; exact i_itT (h1 h)
  · rw [decide_eq_false h]; exact i_itF (h2 h)
theorem i_itDT {p A B : Prop} [Decidable p] (h : p) (k : A) : if decide p = true then A else B := by rw [decide_eq_true h]; exact i_itT k
theorem i_itDF {p A B : Prop} [Decidable p] (h : ¬ p) (k : B) : if decide p = true then A else B := by rw [decide_eq_false h]; exact i_itF k
theorem i_itN {p A B : Prop} [Decidable p] (h1 : p → B) (h2 : ¬ p → A) : if (!decide p) = true then A else B := by
  by_cases h : p
  · rw [decide_eq_true h]; exact i_itF (h1 h)
  · rw [decide_eq_false h]; exact i_itT (h2 h)
theorem i_itB {b : Bool} {A B : Prop} (h1 : b = true → A) (h2 : b = false → B) : if b = true then A else B := by
  cases b
  · exact i_itF (h2 rfl)
  · exact i_itT (h1 rfl)
/-- the test's answer is another way to say c -/
theorem i_itE {b c : Bool} {A B : Prop} (e : b = c) (k : if c = true then A else B) : if b = true then A else B := by rw [e]; exact k
theorem i_szl {xs : List D} {A : Prop} (n : Nat) (e : xs.length = n) (h : n ≤ 100) (k : A) : xs.length ≤ sizeLine ∧ A := ⟨by rw [e, sizeLine_eq]; omega, k⟩
theorem i_TF {A : Prop} {b : Bool} (k : b = true → A) (h : b = false → False) : if b = true then A else False := by
  cases b
  · exact (h rfl).elim
  · exact i_itT (k rfl)
/-! ### statements -/
theorem i_drp {M' : Mem} (k : Φ d M) (h : Sub M M') : drp Φ d M' := ⟨M, h, k⟩
theorem i_drp0 (k : Φ d M) : drp Φ d M := ⟨M, .refl, k⟩
theorem i_seq (k : ds { E with nx := fun Γ' M' => dr E Γ' M' } Γ M) : dsSeq ds dr E Γ M := k
theorem i_cut (W : Gam → Mem → Prop) (h1 : ∀ F : Gam → Mem → Prop, (∀ Γ M, W Γ M → F Γ M) → ds { E with nx := F } Γ M) (h2 : ∀ Γ M, W Γ M → dr E Γ M) : dsSeq ds dr E Γ M := h1 _ h2
theorem i_nil (k : E.nx Γ M) : dsNil E Γ M := k
theorem i_expr (k : de Γ M fun _ M1 => E.nx Γ M1) : dsExpr de E Γ M := k
theorem i_ret (k : de Γ M E.rt) : dsRet de E Γ M := k
theorem i_ifs (k : dt Γ M fun b M1 => if b = true then d1 E Γ M1 else d2 E Γ M1) : dsIf dt d1 d2 E Γ M := k
theorem i_set (k : de Γ M fun d M1 => E.nx (Γ.set i (some d)) M1) : dsSet i de E Γ M := k
theorem i_par {j : Nat} (k : aa Γ M fun ds M1 => match ds with
  | [a, b] => E.nx ((Γ.set i (some a)).set j (some b)) M1
  | _ => False) : dsPar i j aa E Γ M := k
theorem i_asgP {j : Nat} (k : de Γ M fun d M1 => match d with
  | .tup [a, b] => E.nx ((Γ.set i (some a)).set j (some b)) M1
  | _ => False) : dsAsgP i j de E Γ M := k
theorem i_gName {Φ : Gam → Mem → Prop} (k : Φ (Γ.set i (some d)) M) : dgName i d Γ M Φ := k
theorem i_gPair {Φ : Gam → Mem → Prop} {j : Nat} {a b : D} (k : Φ ((Γ.set i (some a)).set j (some b)) M) : dgPair i j (.tup [a, b]) Γ M Φ := k
/-! ### arithmetic -/
theorem i_add {x y : Int} (k : Φ (.int (x + y)) M) : fAdd (.int x) (.int y) M Φ := k
theorem i_sub {x y : Int} (k : Φ (.int (x - y)) M) : fSub (.int x) (.int y) M Φ := k
theorem i_mul {x y : Int} (h : IntMulOk x y) (k : Φ (.int (x * y)) M) : fMul (.int x) (.int y) M Φ := ⟨h, k⟩
theorem i_mulL {x y : Int} (h1 : -(2 ^ 64) < x) (h2 : x < 2 ^ 64) (k : Φ (.int (x * y)) M) : fMul (.int x) (.int y) M Φ := ⟨CMul.ok (Or.inl ⟨h1, h2⟩), k⟩
theorem i_mulR {x y : Int} (h1 : -(2 ^ 64) < y) (h2 : y < 2 ^ 64) (k : Φ (.int (x * y)) M) : fMul (.int x) (.int y) M Φ := ⟨CMul.ok (Or.inr ⟨h1, h2⟩), k⟩
theorem i_fdivc {x y : Int} (h1 : 0 < y) (h2 : y < 4294967296) (k : Φ (.int (x / y)) M) : fFdiv (.int x) (.int y) M Φ := ⟨⟨h1, by
  have : y.natAbs.log2 < 32 := by
    rw [Nat.log2_lt (by omega)]; omega
  omega⟩, k⟩
theorem i_fdiv {x y : Int} (h : CDivW x y) (k : Φ (.int (x / y)) M) : fFdiv (.int x) (.int y) M Φ := ⟨h, k⟩
theorem i_mod {x y : Int} (h : 0 < y) (k : Φ (.int (x % y)) M) : fMod (.int x) (.int y) M Φ := ⟨h, k⟩
theorem i_pow {x y : Int} (h : CPow x y) (k : Φ (.int (x ^ y.toNat)) M) : fPow (.int x) (.int y) M Φ := ⟨h, k⟩
theorem i_adds {x y : Str} (h : x.length + y.length ≤ sizeLine) (k : Φ (.str (x ++ y)) M) : fAdd (.str x) (.str y) M Φ := ⟨h, k⟩
theorem i_addt {xs ys : List D} (h : xs.length + ys.length ≤ sizeLine) (k : Φ (.tup (xs ++ ys)) M) : fAdd (.tup xs) (.tup ys) M Φ := ⟨h, k⟩
theorem i_addl {xs ys : List D} (h : xs.length + ys.length ≤ sizeLine) (k : Φ (.lst (xs ++ ys)) M) : fAdd (.lst xs) (.lst ys) M Φ := ⟨xs, ys, rfl, rfl, h, k⟩
theorem i_mull {xs : List D} {y : Int} (h1 : -(2 ^ 63) ≤ y) (h2 : y < 2 ^ 63) (h : xs.length * y.toNat ≤ sizeLine) (k : Φ (.lst (List.replicate y.toNat xs).flatten) M) : fMul (.lst xs) (.int y) M Φ := ⟨xs, rfl, h1, h2, h, k⟩
theorem i_neg (k : da Γ M fun d M1 => match d with
  | .int i => Φ (.int (-i)) M1
  | _ => False) : dNeg da Γ M Φ := k
/-! ### comparisons -/
theorem i_cmp {p : Int → Int → Bool} {x y : Int} (k : Φ (.bl (p x y)) M) : fCmp p (.int x) (.int y) M Φ := k
theorem i_eqi {x y : Int} (k : Φ (.bl (decide (x = y))) M) : fEq (.int x) (.int y) M Φ := k
theorem i_eqs {x y : Str} (k : Φ (.bl (decide (x = y))) M) : fEq (.str x) (.str y) M Φ := k
theorem i_eqb {x y : Bool} (k : Φ (.bl (decide (x = y))) M) : fEq (.bl x) (.bl y) M Φ := k
theorem i_nei {x y : Int} (k : Φ (.bl (!decide (x = y))) M) : fNe (.int x) (.int y) M Φ := k
theorem i_nes {x y : Str} (k : Φ (.bl (!decide (x = y))) M) : fNe (.str x) (.str y) M Φ := k
theorem i_neb {x y : Bool} (k : Φ (.bl (!decide (x = y))) M) : fNe (.bl x) (.bl y) M Φ := k
theorem i_isN {x : D} (k : Φ (.bl (isNonD x)) M) : fIs x .non M Φ := by
  unfold fIs
  split
  · rename_i h; cases h
  · exact k
  · rename_i h1 h2; exact (h1 rfl).elim
theorem i_isB {x y : Bool} (k : Φ (.bl (decide (x = y))) M) : fIs (.bl x) (.bl y) M Φ := k
theorem i_isNotN {x : D} (k : Φ (.bl (!isNonD x)) M) : fIsNot x .non M Φ := by
  unfold fIsNot
  split
  · rename_i h; cases h
  · exact k
  · rename_i h1 h2; exact (h1 rfl).elim
theorem i_isNotB {x y : Bool} (k : Φ (.bl (!decide (x = y))) M) : fIsNot (.bl x) (.bl y) M Φ := k
theorem i_ins {c : Nat} {z : Str} (k : Φ (.bl (decide (c ∈ z.cps.toList))) M) : fIn (.str ⟨#[c]⟩) (.str z) M Φ := ⟨c, rfl, k⟩
theorem i_notIns {c : Nat} {z : Str} (k : Φ (.bl (!decide (c ∈ z.cps.toList))) M) : fNotIn (.str ⟨#[c]⟩) (.str z) M Φ := ⟨c, rfl, k⟩
theorem i_inq {xs : List D} (h1 : sqD M e = some xs) (h2 : flatD d = true) (h3 : xs.all flatD = true) (h4 : ∀ x z, d = .str x → e = .str z → False) (k : Φ (.bl (xs.any fun y => eqF y d)) M) : fIn d e M Φ := by
  unfold fIn
  split
  · exact (h4 _ _ rfl rfl).elim
  · exact ⟨xs, h1, h2, h3, k⟩
theorem i_notInq {xs : List D} (h1 : sqD M e = some xs) (h2 : flatD d = true) (h3 : xs.all flatD = true) (h4 : ∀ x z, d = .str x → e = .str z → False) (k : Φ (.bl (!xs.any fun y => eqF y d)) M) : fNotIn d e M Φ := by
  unfold fNotIn
  split
  · exact (h4 _ _ rfl rfl).elim
  · exact ⟨xs, h1, h2, h3, k⟩
/-- == of any data -/
theorem fEq_py {x y : PyData} (h1 : pyM M d = some x) (h2 : pyM M e = some y) (h3 : SeqAt.shaped x = true) (h4 : SeqAt.shaped y = true) (k : Φ (.bl (PyData.eqv x y)) M) : fEq d e M Φ := by
  unfold fEq
  split
  · cases h1; cases h2
    rename_i i j
    have q : PyData.eqv (.int i) (.int j) = decide (i = j) := by simp [PyData.eqv]; by_cases h : i = j <;> simp [h]
    rw [q] at k; exact k
  · cases h1; cases h2
    rename_i i j
    have q : PyData.eqv (.str i) (.str j) = decide (i = j) := by simp [PyData.eqv]; by_cases h : i = j <;> simp [h]
    rw [q] at k; exact k
  · cases h1; cases h2
    rename_i i j
    have q : PyData.eqv (.bool i) (.bool j) = decide (i = j) := by simp [PyData.eqv]; by_cases h : i = j <;> simp [h]
    rw [q] at k; exact k
  · exact ⟨x, y, h1, h2, h3, h4, k⟩
theorem fNe_py {x y : PyData} (h1 : pyM M d = some x) (h2 : pyM M e = some y) (h3 : SeqAt.shaped x = true) (h4 : SeqAt.shaped y = true) (k : Φ (.bl (!PyData.eqv x y)) M) : fNe d e M Φ := by
  unfold fNe
  split
  · cases h1; cases h2
    rename_i i j
    have q : PyData.eqv (.int i) (.int j) = decide (i = j) := by simp [PyData.eqv]; by_cases h : i = j <;> simp [h]
    rw [q] at k; exact k
  · cases h1; cases h2
    rename_i i j
    have q : PyData.eqv (.str i) (.str j) = decide (i = j) := by simp [PyData.eqv]; by_cases h : i = j <;> simp [h]
    rw [q] at k; exact k
  · cases h1; cases h2
    rename_i i j
    have q : PyData.eqv (.bool i) (.bool j) = decide (i = j) := by simp [PyData.eqv]; by_cases h : i = j <;> simp [h]
    rw [q] at k; exact k
  · exact ⟨x, y, h1, h2, h3, h4, k⟩
/-- xs != [] of a list that may change -/
theorem lsD_p {p : Addr} {xs : List D} (h : M p = some (.lst xs)) : lsD M (.ptr p) = some xs := by unfold lsD; dsimp only; rw [h]
theorem lsR_p {p : Addr} {xs : List D} (h : M p = some (.lst xs)) : lsR M (.ptr p) = some xs := by unfold lsR; dsimp only; rw [h]
theorem sqD_p {p : Addr} {xs : List D} (h : M p = some (.lst xs)) : sqD M (.ptr p) = some xs := by unfold sqD; dsimp only; exact lsD_p h
theorem pyM_p {p : Addr} {xs : List D} (h : M p = some (.lst xs)) : pyM M (.ptr p) = (D.pyAll xs).map .list := by unfold pyM; dsimp only; rw [h]
theorem py_ints : ∀ ns : List Int, D.pyAll (ns.map .int) = some (ns.map .int)
  | [] => rfl
  | n :: ns => by simp only [List.map_cons, D.pyAll, D.py, py_ints ns]; rfl
theorem canLay_ints : ∀ ns : List Int, PyData.canLayAll0 (ns.map .int) = true
  | [] => rfl
  | n :: ns => by simp only [List.map_cons, PyData.canLayAll0, PyData.canLay0, canLay_ints ns]; rfl
theorem depth_ints : ∀ ns : List Int, PyData.depthAll (ns.map .int) = 0
  | [] => rfl
  | n :: ns => by simp only [List.map_cons, PyData.depthAll, PyData.depth, depth_ints ns]; rfl
theorem shaped_ints (ns : List Int) : SeqAt.shaped (.list (ns.map .int)) = true := by
  unfold SeqAt.shaped
  simp only [PyData.canLay0, canLay_ints, PyData.depth, depth_ints]
  decide
theorem eqv_nil (xs : List PyData) : PyData.eqv (.list xs) (.list []) = xs.isEmpty := by cases xs <;> simp [PyData.eqv, PyData.eqvAll]
theorem i_neLn {p : Addr} {ns : List Int} (h : M p = some (.lst (ns.map .int))) (k : Φ (.bl (!ns.isEmpty)) M) : fNe (.ptr p) (.lst []) M Φ :=
  fNe_py (x := .list (ns.map .int)) (y := .list []) (by rw [pyM_p h, py_ints]; rfl) rfl (shaped_ints ns) (by decide +kernel) (by rw [eqv_nil, List.isEmpty_map]; exact k)
theorem i_neLF {ns : List Int} (k : Φ (.bl (!ns.isEmpty)) M) : fNe (.lst (ns.map .int)) (.lst []) M Φ :=
  fNe_py (x := .list (ns.map .int)) (y := .list []) (by show (D.pyAll _).map _ = _; rw [py_ints]; rfl) rfl (shaped_ints ns) (by decide +kernel) (by rw [eqv_nil, List.isEmpty_map]; exact k)
/-! ### items, slices -/
theorem i_ixt {xs : List D} {j : Int} {x : D} (h : atI xs j = some x) (k : Φ x M) : fIx (.tup xs) (.int j) M Φ := ⟨x, h, k⟩
theorem i_ixl {xs : List D} {j : Int} {x : D} (h : atI xs j = some x) (k : Φ x M) : fIx (.lst xs) (.int j) M Φ := ⟨xs, x, rfl, h, k⟩
theorem i_ixs {z : Str} {j : Int} {c : Nat} (h0 : z.length ≤ sizeLine) (h : atI z.cps.toList j = some c) (k : Φ (.str ⟨#[c]⟩) M) : fIx (.str z) (.int j) M Φ := ⟨c, h0, h, k⟩
theorem i_dget {p : Addr} {kvs : List (Key × D)} {key : Key} {x : D} (h1 : M p = some (.dK kvs)) (h2 : keyD e = some key) (h3 : valD kvs key = some x) (k : Φ x M) : fDGet (.ptr p) e M Φ := ⟨kvs, key, x, by unfold dKs; dsimp only; rw [h1], h2, h3, k⟩
theorem i_dgetF {kvs : List (Key × D)} {key : Key} {x : D} (h2 : keyD e = some key) (h3 : valD kvs key = some x) (k : Φ x M) : fDGet (.dic kvs) e M Φ := ⟨kvs, key, x, rfl, h2, h3, k⟩
theorem i_dput {dd di dv : DE} (k : dv Γ M fun v M1 => dd Γ M1 fun d M2 => di Γ M2 fun i M3 => ∃ p kvs key, d = .ptr p ∧ M3 p = some (.dK kvs) ∧ keyD i = some key ∧ kvs.length < sizeLine ∧ E.nx Γ (M3.set p (.dK (putD kvs key v)))) : dDPut dd di dv E Γ M := k
theorem i_sl {dl dh : DO} (k : de Γ M fun d M1 => dl Γ M1 fun lo M2 => dh Γ M2 fun hi M3 => fSl d lo hi M3 Φ) : dSl de dl dh Γ M Φ := k
theorem i_slM {dl dh : DO} (k : de Γ M fun d M1 => dl Γ M1 fun lo M2 => dh Γ M2 fun hi M3 => ∃ xs, lsD M3 d = some xs ∧ ∀ p, M3 p = none → Φ (.ptr p) (M3.set p (.lst (cutD xs lo hi)))) : dSlM de dl dh Γ M Φ := k
theorem i_oNo {Φ : Option Int → Mem → Prop} (k : Φ none M) : doNo Γ M Φ := k
theorem i_oAt {Φ : Option Int → Mem → Prop} (k : de Γ M fun d M1 => match d with
  | .int i => Φ (some i) M1
  | _ => False) : doAt de Γ M Φ := k
theorem i_sls {z : Str} {lo hi : Option Int} (h : z.length ≤ sizeLine) (k : Φ (.str (cutS z lo hi)) M) : fSl (.str z) lo hi M Φ := ⟨h, k⟩
theorem i_slt {xs : List D} {lo hi : Option Int} (k : Φ (.tup (cutD xs lo hi)) M) : fSl (.tup xs) lo hi M Φ := k
theorem i_sll {xs : List D} {lo hi : Option Int} (k : Φ (.lst (cutD xs lo hi)) M) : fSl (.lst xs) lo hi M Φ := ⟨xs, rfl, k⟩
theorem i_rev (k : de Γ M fun d M1 => ∃ xs, lsD M1 d = some xs ∧ Φ (.lst xs.reverse) M1) : dRev de Γ M Φ := k
theorem i_fz (k : de Γ M fun d M1 => match d with
  | .ptr p => match M1 p with
    | some (.lst xs) => Φ (.lst xs) (M1.del p)
    | some (.dK xs) => Φ (.dic xs) (M1.del p)
    | _ => False
  | _ => False) : dFz de Γ M Φ := k
theorem i_fzL {p : Addr} {xs : List D} {Φ2 : List (Key × D) → Prop} (h : M p = some (.lst xs)) (k : Φ (.lst xs) (M.del p)) : (match (D.ptr p) with
  | .ptr p => match M p with
    | some (.lst xs) => Φ (.lst xs) (M.del p)
    | some (.dK xs) => Φ (.dic xs) (M.del p)
    | _ => False
  | _ => False) := by dsimp only; rw [h]; exact k
/-! ### built-ins -/
theorem i_abs {x : Int} (k : Φ (.int (x.natAbs : Int)) M) : fAbs [.int x] M Φ := k
theorem i_max {x y : Int} (k : Φ (.int (max x y)) M) : fMax2 [.int x, .int y] M Φ := k
theorem i_min {x y : Int} (k : Φ (.int (min x y)) M) : fMin2 [.int x, .int y] M Φ := k
theorem i_int {x : Int} (k : Φ (.int x) M) : fInt [.int x] M Φ := k
theorem i_str {x : Int} (h : x.natAbs.log2 < 1920) (k : Φ (.str (Str.ofString (toString x))) M) : fStr [.int x] M Φ := ⟨h, k⟩
theorem i_lens {z : Str} (h : z.length ≤ sizeLine) (k : Φ (.int (z.length : Int)) M) : fLen [.str z] M Φ := ⟨h, k⟩
theorem i_lent {xs : List D} (k : Φ (.int (xs.length : Int)) M) : fLen [.tup xs] M Φ := ⟨xs, rfl, k⟩
theorem i_lenl {xs : List D} (k : Φ (.int (xs.length : Int)) M) : fLen [.lst xs] M Φ := ⟨xs, rfl, k⟩
theorem i_lenc {xs : List D} (k : Φ (.int (xs.length : Int)) M) : fLen [.scr xs] M Φ := ⟨xs, rfl, k⟩
theorem i_lenp {p : Addr} {xs : List D} (h : M p = some (.lst xs)) (k : Φ (.int (xs.length : Int)) M) : fLen [.ptr p] M Φ := ⟨xs, sqD_p h, k⟩
theorem i_tupt {xs : List D} (k : Φ (.tup xs) M) : fTuple [.tup xs] M Φ := k
theorem i_tupl {xs : List D} (k : Φ (.tup xs) M) : fTuple [.lst xs] M Φ := ⟨xs, rfl, k⟩
theorem i_tupp {p : Addr} {xs : List D} (h : M p = some (.lst xs)) (k : Φ (.tup xs) M) : fTuple [.ptr p] M Φ := ⟨xs, lsD_p h, k⟩
theorem i_lists {z : Str} (h : z.length ≤ sizeLine) (k : Φ (.lst (z.cps.toList.map fun c => .str ⟨#[c]⟩)) M) : fListA [.str z] M Φ := ⟨h, k⟩
theorem i_listl {xs : List D} (k : Φ (.lst xs) M) : fListA [.lst xs] M Φ := ⟨xs, rfl, k⟩
theorem i_listt {xs : List D} (k : Φ (.lst xs) M) : fListA [.tup xs] M Φ := ⟨xs, rfl, k⟩
theorem i_listp {p : Addr} {xs : List D} (h : M p = some (.lst xs)) (k : Φ (.lst xs) M) : fListA [.ptr p] M Φ := ⟨xs, sqD_p h, k⟩
theorem i_listM {xs : List D} (h : sqD M d = some xs) (k : ∀ p, M p = none → Φ (.ptr p) (M.set p (.lst xs))) : fListM [d] M Φ := ⟨xs, h, k⟩
theorem i_all {bs : List Bool} (h : lsD M d = some (bs.map D.bl)) (k : Φ (.bl (bs.all id)) M) : fAll [d] M Φ := ⟨bs, h, k⟩
theorem i_isi {n t : String} {b : Bool} (h1 : tyD M d = some t) (h2 : kitB t n = some b) (k : Φ (.bl b) M) : fIsi [d, .ty n] M Φ := ⟨t, b, h1, h2, k⟩
theorem i_isi2 {n n' t : String} {b b' : Bool} (h1 : tyD M d = some t) (h2 : kitB t n = some b) (h3 : kitB t n' = some b') (k : Φ (.bl (b || b')) M) : fIsi [d, .tup [.ty n, .ty n']] M Φ := ⟨t, b, b', h1, h2, h3, k⟩
/-! ### isinstance, case by case -/
def isiG (d : D) (n : String) (M : Mem) (Φ : Cont) : Prop := fIsi [d, .ty n] M Φ
theorem i_isiG {n : String} (k : isiG d n M Φ) : fIsi [d, .ty n] M Φ := k
theorem isi_non_int  (k : Φ (.bl false) M) : isiG (.non) "int" M Φ := ⟨"NoneType", false, rfl, by decide +kernel, k⟩
theorem isi_non_bool  (k : Φ (.bl false) M) : isiG (.non) "bool" M Φ := ⟨"NoneType", false, rfl, by decide +kernel, k⟩
theorem isi_non_str  (k : Φ (.bl false) M) : isiG (.non) "str" M Φ := ⟨"NoneType", false, rfl, by decide +kernel, k⟩
theorem isi_non_tuple  (k : Φ (.bl false) M) : isiG (.non) "tuple" M Φ := ⟨"NoneType", false, rfl, by decide +kernel, k⟩
theorem isi_non_list  (k : Φ (.bl false) M) : isiG (.non) "list" M Φ := ⟨"NoneType", false, rfl, by decide +kernel, k⟩
theorem isi_non_dict  (k : Φ (.bl false) M) : isiG (.non) "dict" M Φ := ⟨"NoneType", false, rfl, by decide +kernel, k⟩
theorem isi_bl_int {b : Bool} (k : Φ (.bl true) M) : isiG (.bl b) "int" M Φ := ⟨"bool", true, rfl, by decide +kernel, k⟩
theorem isi_bl_bool {b : Bool} (k : Φ (.bl true) M) : isiG (.bl b) "bool" M Φ := ⟨"bool", true, rfl, by decide +kernel, k⟩
theorem isi_bl_str {b : Bool} (k : Φ (.bl false) M) : isiG (.bl b) "str" M Φ := ⟨"bool", false, rfl, by decide +kernel, k⟩
theorem isi_bl_tuple {b : Bool} (k : Φ (.bl false) M) : isiG (.bl b) "tuple" M Φ := ⟨"bool", false, rfl, by decide +kernel, k⟩
theorem isi_bl_list {b : Bool} (k : Φ (.bl false) M) : isiG (.bl b) "list" M Φ := ⟨"bool", false, rfl, by decide +kernel, k⟩
theorem isi_bl_dict {b : Bool} (k : Φ (.bl false) M) : isiG (.bl b) "dict" M Φ := ⟨"bool", false, rfl, by decide +kernel, k⟩
theorem isi_int_int {i : Int} (k : Φ (.bl true) M) : isiG (.int i) "int" M Φ := ⟨"int", true, rfl, by decide +kernel, k⟩
theorem isi_int_bool {i : Int} (k : Φ (.bl false) M) : isiG (.int i) "bool" M Φ := ⟨"int", false, rfl, by decide +kernel, k⟩
theorem isi_int_str {i : Int} (k : Φ (.bl false) M) : isiG (.int i) "str" M Φ := ⟨"int", false, rfl, by decide +kernel, k⟩
theorem isi_int_tuple {i : Int} (k : Φ (.bl false) M) : isiG (.int i) "tuple" M Φ := ⟨"int", false, rfl, by decide +kernel, k⟩
theorem isi_int_list {i : Int} (k : Φ (.bl false) M) : isiG (.int i) "list" M Φ := ⟨"int", false, rfl, by decide +kernel, k⟩
theorem isi_int_dict {i : Int} (k : Φ (.bl false) M) : isiG (.int i) "dict" M Φ := ⟨"int", false, rfl, by decide +kernel, k⟩
theorem isi_str_int {x : Str} (k : Φ (.bl false) M) : isiG (.str x) "int" M Φ := ⟨"str", false, rfl, by decide +kernel, k⟩
theorem isi_str_bool {x : Str} (k : Φ (.bl false) M) : isiG (.str x) "bool" M Φ := ⟨"str", false, rfl, by decide +kernel, k⟩
theorem isi_str_str {x : Str} (k : Φ (.bl true) M) : isiG (.str x) "str" M Φ := ⟨"str", true, rfl, by decide +kernel, k⟩
theorem isi_str_tuple {x : Str} (k : Φ (.bl false) M) : isiG (.str x) "tuple" M Φ := ⟨"str", false, rfl, by decide +kernel, k⟩
theorem isi_str_list {x : Str} (k : Φ (.bl false) M) : isiG (.str x) "list" M Φ := ⟨"str", false, rfl, by decide +kernel, k⟩
theorem isi_str_dict {x : Str} (k : Φ (.bl false) M) : isiG (.str x) "dict" M Φ := ⟨"str", false, rfl, by decide +kernel, k⟩
theorem isi_tup_int {xs : List D} (k : Φ (.bl false) M) : isiG (.tup xs) "int" M Φ := ⟨"tuple", false, rfl, by decide +kernel, k⟩
theorem isi_tup_bool {xs : List D} (k : Φ (.bl false) M) : isiG (.tup xs) "bool" M Φ := ⟨"tuple", false, rfl, by decide +kernel, k⟩
theorem isi_tup_str {xs : List D} (k : Φ (.bl false) M) : isiG (.tup xs) "str" M Φ := ⟨"tuple", false, rfl, by decide +kernel, k⟩
theorem isi_tup_tuple {xs : List D} (k : Φ (.bl true) M) : isiG (.tup xs) "tuple" M Φ := ⟨"tuple", true, rfl, by decide +kernel, k⟩
theorem isi_tup_list {xs : List D} (k : Φ (.bl false) M) : isiG (.tup xs) "list" M Φ := ⟨"tuple", false, rfl, by decide +kernel, k⟩
theorem isi_tup_dict {xs : List D} (k : Φ (.bl false) M) : isiG (.tup xs) "dict" M Φ := ⟨"tuple", false, rfl, by decide +kernel, k⟩
theorem isi_lst_int {xs : List D} (k : Φ (.bl false) M) : isiG (.lst xs) "int" M Φ := ⟨"list", false, rfl, by decide +kernel, k⟩
theorem isi_lst_bool {xs : List D} (k : Φ (.bl false) M) : isiG (.lst xs) "bool" M Φ := ⟨"list", false, rfl, by decide +kernel, k⟩
theorem isi_lst_str {xs : List D} (k : Φ (.bl false) M) : isiG (.lst xs) "str" M Φ := ⟨"list", false, rfl, by decide +kernel, k⟩
theorem isi_lst_tuple {xs : List D} (k : Φ (.bl false) M) : isiG (.lst xs) "tuple" M Φ := ⟨"list", false, rfl, by decide +kernel, k⟩
theorem isi_lst_list {xs : List D} (k : Φ (.bl true) M) : isiG (.lst xs) "list" M Φ := ⟨"list", true, rfl, by decide +kernel, k⟩
theorem isi_lst_dict {xs : List D} (k : Φ (.bl false) M) : isiG (.lst xs) "dict" M Φ := ⟨"list", false, rfl, by decide +kernel, k⟩
theorem isi_dic_int {kvs : List (Key × D)} (k : Φ (.bl false) M) : isiG (.dic kvs) "int" M Φ := ⟨"dict", false, rfl, by decide +kernel, k⟩
theorem isi_dic_bool {kvs : List (Key × D)} (k : Φ (.bl false) M) : isiG (.dic kvs) "bool" M Φ := ⟨"dict", false, rfl, by decide +kernel, k⟩
theorem isi_dic_str {kvs : List (Key × D)} (k : Φ (.bl false) M) : isiG (.dic kvs) "str" M Φ := ⟨"dict", false, rfl, by decide +kernel, k⟩
theorem isi_dic_tuple {kvs : List (Key × D)} (k : Φ (.bl false) M) : isiG (.dic kvs) "tuple" M Φ := ⟨"dict", false, rfl, by decide +kernel, k⟩
theorem isi_dic_list {kvs : List (Key × D)} (k : Φ (.bl false) M) : isiG (.dic kvs) "list" M Φ := ⟨"dict", false, rfl, by decide +kernel, k⟩
theorem isi_dic_dict {kvs : List (Key × D)} (k : Φ (.bl true) M) : isiG (.dic kvs) "dict" M Φ := ⟨"dict", true, rfl, by decide +kernel, k⟩
/-! ### methods -/
theorem i_bm {g : D → List D → Mem → Cont → Prop} (k : de Γ M fun d M1 => (lsR M1 d).isSome = true ∧ aa Γ M1 fun ds M2 => g d ds M2 Φ) : dBM g de aa Γ M Φ := k
theorem i_bm0 {g : D → List D → Mem → Cont → Prop} (k : de Γ M fun d M1 => (lsR M1 d).isSome = true ∧ g d [] M1 Φ) : dBM0 g de Γ M Φ := k
theorem i_some {p : Addr} {xs : List D} {A : Prop} (h : M p = some (.lst xs)) (k : A) : (lsR M (.ptr p)).isSome = true ∧ A := ⟨by rw [lsR_p h]; rfl, k⟩
theorem i_append {p : Addr} {xs : List D} {x : D} (h : M p = some (.lst xs)) (hl : xs.length < sizeLine) (k : Φ .non (M.set p (.lst (xs ++ [x])))) : fAppend (.ptr p) [x] M Φ := ⟨p, xs, x, rfl, rfl, h, hl, k⟩
theorem i_pop {p : Addr} {xs : List D} {x : D} (h : M p = some (.lst xs)) (hl : xs[xs.length - 1]? = some x) (k : Φ x (M.set p (.lst xs.dropLast))) : fPop (.ptr p) [] M Φ := ⟨p, xs, x, rfl, rfl, h, hl, k⟩
theorem ixN_of {n j : Nat} (hj : j < n) : ixN n (j : Int) = some j := by
  unfold ixN
  rw [if_pos (by omega), if_pos (by omega)]
  simp
theorem i_popAt {p : Addr} {xs : List D} {x : D} {j : Nat} (h : M p = some (.lst xs)) (hj : j < xs.length) (hb : j < 2 ^ 63) (hx : xs[j]? = some x) (k : Φ x (M.set p (.lst (xs.eraseIdx j)))) : fPopAt (.ptr p) [.int (j : Int)] M Φ := by
  have := ixN_seq (ixN_of hj)
  exact ⟨p, xs, _, j, x, rfl, rfl, h, by omega, by omega, this.1, hx, k⟩
theorem i_extend {p : Addr} {xs zs : List D} (h : M p = some (.lst xs)) (hz : lsR M e = some zs) (hl : xs.length + zs.length ≤ sizeLine) (k : Φ .non (M.set p (.lst (xs ++ zs)))) : fExtend (.ptr p) [e] M Φ := ⟨p, xs, e, zs, rfl, rfl, h, hz, hl, k⟩
theorem i_m1 {g : Str → D → Mem → Cont → Prop} (k : da Γ M fun d M1 => match d with
  | .str a => db Γ M1 fun e M2 => g a e M2 Φ
  | _ => False) : dM1 g da db Γ M Φ := k
theorem i_split {a b : Str} (h1 : (b.length == 0) = false) (h2 : a.length + 2 ≤ sizeLine) (k : Φ (.lst ((Txt.split a b).map .str)) M) : fSplit a (.str b) M Φ := ⟨h1, h2, k⟩
theorem i_join {a : Str} {ys : List Str} (h1 : sqD M e = some (ys.map .str)) (h2 : (ys.map (·.length)).sum + ys.length * a.length ≤ 16777216) (k : Φ (.str (Txt.join a ys)) M) : fJoin a e M Φ := ⟨ys, h1, h2, k⟩
/-! ### loops -/
theorem i_for {di : DI} {dg : DG} (k : di Γ M fun xs M1 => forRun dg ds E xs Γ M1) : dsFor di dg ds E Γ M := k
theorem i_any (k : de Γ M fun d M1 => ∃ xs, itD d = some xs ∧ Θ xs M1) : diAny de Γ M Θ := k
theorem i_itl {xs : List D} {R : List D → Prop} (k : R xs) : ∃ ys, itD (.lst xs) = some ys ∧ R ys := ⟨xs, rfl, k⟩
theorem i_itt {xs : List D} {R : List D → Prop} (k : R xs) : ∃ ys, itD (.tup xs) = some ys ∧ R ys := ⟨xs, rfl, k⟩
theorem i_its {z : Str} {R : List D → Prop} (k : R (z.cps.toList.map fun c => .str ⟨#[c]⟩)) : ∃ ys, itD (.str z) = some ys ∧ R ys := ⟨_, rfl, k⟩
theorem i_itc {xs : List D} {R : List D → Prop} (k : R xs) : ∃ ys, itD (.scr xs) = some ys ∧ R ys := ⟨xs, rfl, k⟩
theorem i_rng1 (k : aa Γ M fun ds M1 => match ds with
  | [.int j] => -(2 ^ 62) ≤ j ∧ j < 2 ^ 62 ∧ Θ (rgD 0 j) M1
  | _ => False) : diRng1 aa Γ M Θ := k
theorem i_rng2 (k : aa Γ M fun ds M1 => match ds with
  | [.int i, .int j] => (-(2 ^ 62) ≤ i ∧ i < 2 ^ 62 ∧ -(2 ^ 62) ≤ j ∧ j < 2 ^ 62) ∧ Θ (rgD i j) M1
  | _ => False) : diRng2 aa Γ M Θ := k
/-- a loop by an invariant -/
theorem for_by {dg : DG} {xs : List D} (W : Nat → Gam → Mem → Prop) (h0 : W 0 Γ M) (hs : ∀ (i : Nat) (x : D) (Γ : Gam) (M : Mem) (F : Gam → Mem → Prop), xs[i]? = some x → W i Γ M → (∀ Γ' M', W (i + 1) Γ' M' → F Γ' M') → dg x Γ M fun Γ2 M2 => ds { nx := F, rt := E.rt, bk := E.nx, ct := F } Γ2 M2)
    (hd : ∀ Γ M, W xs.length Γ M → E.nx Γ M) : forRun dg ds E xs Γ M := by
  have key : ∀ (n i : Nat) (Γ : Gam) (M : Mem), i + n = xs.length → W i Γ M → forRun dg ds E (xs.drop i) Γ M := by
    intro n
    induction n with
    | zero =>
      intro i Γ M e w
      have e' : i = xs.length := by omega
      subst e'
      rw [List.drop_length]
      exact hd Γ M w
    | succ n ih =>
      intro i Γ M e w
      have hlt : i < xs.length := by omega
      rw [List.drop_eq_getElem_cons hlt]
      exact hs i xs[i] Γ M (forRun dg ds E (xs.drop (i + 1))) (by simp [hlt]) w fun Γ' M' w' => ih (i + 1) Γ' M' (by omega) w'
  have := key xs.length 0 Γ M (by omega) h0
  rw [List.drop_zero] at this
  exact this
theorem while_by {dt : DT} (W : Nat → Gam → Mem → Prop) {m : Nat} (h0 : W m Γ M) (hs : ∀ m Γ M, W m Γ M → dt Γ M fun b M1 =>
    if b = true then ds { nx := fun Γ' M' => ∃ m', m' < m ∧ W m' Γ' M', rt := E.rt, bk := E.nx, ct := fun Γ' M' => ∃ m', m' < m ∧ W m' Γ' M' } Γ M1 else E.nx Γ M1) : dsWhile dt ds E Γ M := ⟨W, ⟨m, h0⟩, hs⟩
/-! ### comprehensions -/
theorem i_lc {vs : List Nat} {di : DI} {dg : DG} (k : di Γ M fun xs M1 => ∀ p, M1 p = none → compRun p (wipeG Γ vs) dg dt de (fun acc M' => Φ (.lst acc) (M'.del p)) xs [] (M1.set p (.lst []))) : dLc vs di dg dt de Γ M Φ := k
theorem i_lcM {vs : List Nat} {di : DI} {dg : DG} (k : di Γ M fun xs M1 => ∀ p, M1 p = none → compRun p (wipeG Γ vs) dg dt de (fun acc M' => Φ (.ptr p) M') xs [] (M1.set p (.lst []))) : dLcM vs di dg dt de Γ M Φ := k
theorem i_yes (k : Ψ true M) : dtYes Γ M Ψ := k
/-- by an invariant over turn, what is made, store -/
theorem comp_by {dg : DG} {p : Addr} {Γw : Gam} {Φ : List D → Mem → Prop} {xs : List D} (W : Nat → List D → Mem → Prop) (h0 : W 0 [] M)
    (hs : ∀ (i : Nat) (x : D) (acc : List D) (M : Mem) (F : List D → Mem → Prop), xs[i]? = some x → W i acc M → (∀ acc' M', W (i + 1) acc' M' → F acc' M') → dg x Γw M fun Γ2 M2 => dt Γ2 M2 fun b M3 =>
      if b = true then de Γ2 M3 fun d M4 => M4 p = some (.lst acc) ∧ acc.length < sizeLine ∧ F (acc ++ [d]) (M4.set p (.lst (acc ++ [d]))) else F acc M3)
    (hd : ∀ acc M, W xs.length acc M → M p = some (.lst acc) ∧ Φ acc M) : compRun p Γw dg dt de Φ xs [] M := by
  have key : ∀ (n i : Nat) (acc : List D) (M : Mem), i + n = xs.length → W i acc M → compRun p Γw dg dt de Φ (xs.drop i) acc M := by
    intro n
    induction n with
    | zero =>
      intro i acc M e w
      have e' : i = xs.length := by omega
      subst e'
      rw [List.drop_length]
      exact hd acc M w
    | succ n ih =>
      intro i acc M e w
      have hlt : i < xs.length := by omega
      rw [List.drop_eq_getElem_cons hlt]
      exact hs i xs[i] acc M (fun acc' M' => compRun p Γw dg dt de Φ (xs.drop (i + 1)) acc' M') (by simp [hlt]) w fun acc' M' w' => ih (i + 1) acc' M' (by omega) w'
  have := key xs.length 0 [] M (by omega) h0
  rw [List.drop_zero] at this
  exact this
/-- pure: filter and map -/
theorem comp_map {dg : DG} {Γw : Gam} {Φ : List D → Mem → Prop} {xs : List D} (g : D → Option D) (hx : ∀ x ∈ xs, ∀ M' : Mem, Sub M M' → ∀ F : Option D → Mem → Prop, F (g x) M' → dg x Γw M' fun Γ2 M2 => dt Γ2 M2 fun b M3 => if b = true then de Γ2 M3 fun d M4 => F (some d) M4 else F none M3)
    (hl : xs.length ≤ sizeLine) {p : Addr} (hp : M p = none) (k : Φ (xs.filterMap g) (M.set p (.lst (xs.filterMap g)))) : compRun p Γw dg dt de Φ xs [] (M.set p (.lst [])) := by
  have key : ∀ (ys acc : List D), (∀ y ∈ ys, y ∈ xs) → acc.length + ys.length ≤ sizeLine → Φ (acc ++ ys.filterMap g) (M.set p (.lst (acc ++ ys.filterMap g))) → compRun p Γw dg dt de Φ ys acc (M.set p (.lst acc)) := by
    intro ys
    induction ys with
    | nil =>
      intro acc _ _ k
      rw [List.filterMap_nil, List.append_nil] at k
      exact ⟨Mem.set_same, k⟩
    | cons y ys ih =>
      intro acc hm hz k
      rw [List.length_cons] at hz
      refine hx y (hm y List.mem_cons_self) (M.set p (.lst acc)) (sub_set hp) (fun o M4 => match o with
        | some d => M4 p = some (.lst acc) ∧ acc.length < sizeLine ∧ compRun p Γw dg dt de Φ ys (acc ++ [d]) (M4.set p (.lst (acc ++ [d])))
        | none => compRun p Γw dg dt de Φ ys acc M4) ?_
      cases e : g y with
      | some d =>
        rw [List.filterMap_cons_some e] at k
        refine ⟨Mem.set_same, by omega, ?_⟩
        rw [Mem.set_set]
        exact ih (acc ++ [d]) (fun z hz => hm z (List.mem_cons_of_mem _ hz)) (by rw [List.length_append, List.length_singleton]; omega) (by rw [List.append_assoc]; exact k)
      | none =>
        rw [List.filterMap_cons_none e] at k
        exact ih acc (fun z hz => hm z (List.mem_cons_of_mem _ hz)) (by omega) k
  exact key xs [] (fun _ h => h) (by simpa using hl) (by simpa using k)
theorem del_set {p : Addr} {o : MO} (h : M p = none) : (M.set p o).del p = M := by
  funext a
  by_cases e : a = p
  · rw [e, Mem.del_same, h]
  · rw [Mem.del_ne e, Mem.set_ne e]
/-- .. the whole comprehension, frozen -/
theorem comp_lc {dg : DG} {Γw : Gam} {Ψ : List D → Mem → Prop} {xs : List D} (g : D → Option D) (hl : xs.length ≤ sizeLine) (hx : ∀ x ∈ xs, ∀ M' : Mem, Sub M M' → ∀ F : Option D → Mem → Prop, F (g x) M' → dg x Γw M' fun Γ2 M2 => dt Γ2 M2 fun b M3 => if b = true then de Γ2 M3 fun d M4 => F (some d) M4 else F none M3)
    (k : Ψ (xs.filterMap g) M) : ∀ p, M p = none → compRun p Γw dg dt de (fun acc M' => Ψ acc (M'.del p)) xs [] (M.set p (.lst [])) := fun p hp =>
  comp_map (Φ := fun acc M' => Ψ acc (M'.del p)) g hx hl hp (by show Ψ _ ((M.set p _).del p); rw [del_set hp]; exact k)
end
end DL

/-! DLx: an own exception of ValueError's line, whose __init__(self, at) says super().__init__(at) and self.at = at. -/
namespace DL
open PySem PySem.Spec PyProof.Rows L2

/-- what stands in the written part of such an __init__ -/
structure SupF (P : Program) (K : PySem.W.Frag) (mg : Str → Option Value) (C f : Addr) (fd : FuncData) (s1 s2 : Str) (fld : Str) : Prop where
  cls : OexC K C
  ex : ∃ (qual : Str) (params : Arguments) (body : List Stmt) (scope : Scope) (dV kV doc pm ct oc : Value) (an od : Option Addr) (osl : Array (Option Value)) (cda cc : Addr) (ccl cl : Value) (cdd cld : Option Addr) (vs : Array Value) (ccs csl : Array (Option Value)) (file : Str) (tf : Tok) (ar : Arg)
      (p0 p1 p2 p3 p4 p5 p6 p7 p8 p9 : Pos) (pl : Addr → Sem Bool),
    fd = PySem.W.ksFn "__init__" qual params body scope dV kV doc pm an (.ref cda) ct cc ∧
    body = [.Expr (.Call (.Attribute (.Call (.Name "super" p0) [] [] p1) "__init__" p2) [.Name s2 p3] [] p4) p5, .Assign [.Attribute (.Name s1 p6) fld p7] (.Name s2 p8) p9] ∧
    K.lookup f = some ⟨oc, od, .func fd, osl⟩ ∧ PySem.W.codeIn K (.ref cda) qual = true ∧
    (params.posonlyargs ++ params.args).head? = some ar ∧ ar.arg = s1 ∧
    K.lookup cda = some ⟨ccl, cdd, .fields vs, ccs⟩ ∧ vs[2]? = some (.str file tf) ∧ ((P.main.file : Str) == file) = true ∧
    K.lookup cc = some ⟨cl, cld, .cell (some (.ref C)), csl⟩ ∧
    scope.isCoroutine = false ∧ scope.isGenerator = false ∧ scope.kind = .function ∧ (∀ x ∈ scope.names, x.2 ≠ .cell) ∧ (∀ x ∈ scope.names, x.2 = .free → x.1 = "__class__") ∧
    scope.names.lookup ("super" : Str) = some .globalImplicit ∧ scope.names.lookup ("__class__" : Str) = some .free ∧ scope.names.lookup s1 = some .local ∧ scope.names.lookup s2 = some .local ∧
    ∀ L : Addr, eval (.Call (.Attribute (.Call (.Name "super" p0) [] [] p1) "__init__" p2) [.Name s2 p3] [] p4) (PySem.W.ksEnv qual scope L f (.ref cda) cc) = (do
      let ov ← attributeBase (.Call (.Name "super" p0) [] [] p1) "__init__" (PySem.W.ksEnv qual scope L f (.ref cda) cc) (eval (.Call (.Name "super" p0) [] [] p1) (PySem.W.ksEnv qual scope L f (.ref cda) cc))
      standAt p2.atName
      let (fm, first) ← holding [ov] (getMethod ov "__init__" (pl L))
      callWith p4 fm first (backTo p4 (starEach [.Name s2 p3] (PySem.W.ksEnv qual scope L f (.ref cda) cc))) [])
  ne : s1 ≠ s2
  d1 : (s1 == ("__debug__" : Str)) = false
  d2 : (s2 == ("__debug__" : Str)) = false
  sub : PySem.W.mroIn K C (.ref C) = some true
  sup : mg "super" = none
  top : (P.main.scope.names.lookup ("super" : Str)).isSome = false
  sin : PySem.W.ks_superIn K C C "__init__" = some (some (.builtin "ValueError.__init__"))
  sVE : PySem.W.subIn K (.ref C) (.type "ValueError") = some true
  par : PySem.W.nsIn K cStatics "thirdparty.any" = some none
  fnd : PySem.W.findIn K (.ref C) fld = some none

def spSup (C : Addr) (fld : Str) : Sp := fun vs H Q _ => ∃ a v, vs = [.ref a, v] ∧ H a = some (exo a C none) ∧ ∀ dx, H dx = none → dx ≠ a → Q .non (upd (upd H dx (exd dx [(fld, v)])) a (exo a C (some dx)))

/-- the context of its body -/
def supCx (P : Program) (w : World) (K : PySem.W.Frag) (mg : Str → Option Value) (base : Heap) (N : List Str) (qual : Str) (scope : Scope) (f cda cc : Addr) (A : Around) (outer : List Env) (s : Shared) (H : Hp) : Cx where
  prog := P
  w := w
  K := K
  mg := mg
  base := base
  A := A.deeper (PySem.W.ksEnv qual scope s.heap.objs.size f (.ref cda) cc)
  N := N
  s_0 := s
  H_0 := H
  env := PySem.W.ksEnv qual scope s.heap.objs.size f (.ref cda) cc
  outer := outer
  stack := PySem.W.ksEnv qual scope s.heap.objs.size f (.ref cda) cc :: outer
  ex := []
  calm := true
  fn := fun _ => false
  pn := []
  xe := fun _ _ => False

section
variable {P : Program} {w : World} {K : PySem.W.Frag} {mg : Str → Option Value} {base : Heap} {C f : Addr} {fd : FuncData} {s1 s2 fld : Str}
theorem sup_start {qual : Str} {scope : Scope} {cda cc : Addr} {A : Around} {outer : List Env} {s : Shared} {H : Hp} {h₁ : Heap} {tk : Nat} {m : Str → Option Value} {oc : Obj} {v : Option Value} (hk : scope.kind = .function) (hfr : ∀ x ∈ scope.names, x.2 = .free → x.1 = "__class__") (hce : ∀ x ∈ scope.names, x.2 ≠ .cell)
    (hcc : K.lookup cc = some oc) (hoc : oc.data = .cell v) (hd : A.handled = none) (e0 : Env0 P w K mg base A outer s H) (hns : h₁.Ns s.heap.objs.size m) (kp : ∀ b o, s.heap.get? b = some o → h₁.get? b = some o) :
    Inv (supCx P w K mg base [] qual scope f cda cc A outer s H) [] [] H { s with heap := h₁, toks := tk } := by
  have noA : ∀ b : Addr, b ∉ (supCx P w K mg base [] qual scope f cda cc A outer s H).ex := fun b z => absurd (show b ∈ ([] : List Addr) from z) (by simp)
  have cl : ∀ {x c}, ([("__class__", cc)] : List (Str × Addr)).lookup x = some c → x = "__class__" ∧ c = cc := fun {x c} e => by
    have := PySem.mem_of_lookup e
    rcases List.mem_singleton.mp this with z
    exact ⟨congrArg Prod.fst z, congrArg Prod.snd z⟩
  have cB : base.get? cc = some oc := e0.mod.kin _ _ hcc
  have c0 := e0.bs _ _ cB
  refine ⟨⟨e0.mod, hk, rfl, rfl, Nat.le_refl _, fun y z c h1 h2 => (cl h1).1.trans (cl h2).1.symm, fun y hy => ?_, fun y c z _ => ?_, fun _ => hd, Around.frames_deeper e0.frames, .inr ⟨rfl, rfl⟩, fun b z => absurd z (noA b), e0.bs, e0.bsz, fun b _ _ => noA b, fun b z => absurd z (noA b), e0.funs, e0.frf⟩,
    rfl, e0.bare, Un.kept kp, ⟨m, hns, fun i y v h1 h2 h3 => ?_⟩, fun y c h => ?_, e0.hok.fresh (Nat.le_refl _), fun y c h => ?_, fun p hp => absurd (show p ∈ ([] : List (Addr × Obj)) ++ [] from hp) (by simp), e0.hok.kept kp, rfl⟩
  · have hy : scope.names.lookup y = some .cell ∨ scope.names.lookup y = some .free := hy
    rcases hy with hy | hy
    · exact absurd rfl (hce _ (PySem.mem_of_lookup hy))
    · have := hfr _ (PySem.mem_of_lookup hy) rfl
      dsimp only at this
      subst this
      exact ⟨cc, rfl⟩
  · have z : false = true := z
    cases z
  · simp at h2
  · obtain ⟨rfl, rfl⟩ := cl h
    exact ⟨v, oc, kp _ _ c0.1, hoc⟩
  · obtain ⟨rfl, rfl⟩ := cl h
    exact c0.2
/-- self.__init__ of the exception's line, bound, called -/
theorem sup_call {A : Around} {X : Cx} {pins : List (Addr × Obj)} {σ : L2.St} {H : Hp} {s : Shared} {u e : Addr} {rest : List Value} {Q : Value → Shared → Prop} {E : Value → Shared → Prop} (T : OexC X.K C) (I : Inv X pins σ H s) (he : H e = some (exo e C none)) (hu : s.heap.get? u = some (PySem.W.kxs_mw "ValueError.__init__" e)) (hl : rest.length ≤ sizeLine)
    (h : ∀ h', (∀ b o, b ≠ e → s.heap.get? b = some o → h'.get? b = some o) → Inv X pins σ H { s with heap := h' } → Q .none { s with heap := h' }) : wpAny (model X.prog X.w) A (call (.ref u) rest) Q E s := by
  obtain ⟨nm, q, N, bs, bm, sn, sub, ab, col, dd, k0, k1, k2, k3, k5, hC, hbm⟩ := T.cls
  obtain ⟨t1, ho⟩ := exo_at I.hok he
  have eu : upd H e (exo e C none) = H := by
    funext b
    by_cases hb : b = e
    · rw [hb, upd_same, he]
    · rw [upd_ne hb]
  have hC' := I.kIn _ _ hC
  have fin : ∀ h', (∀ b o, b ≠ e → s.heap.get? b = some o → h'.get? b = some o) → h'.get? e = some (PySem.W.excRec (.ref C) s.heap.objs.size none .none .none (.bool false)) → Q .none { s with heap := h' } := fun h' k hx => by
    have J := I.write (t' := s.toks) (x := e) (e := e) (o := exo e C none) (by rw [he]; exact True.intro) (.inl rfl) k ⟨_, hx⟩ (exo_ok hx)
    rw [eu] at J
    exact h h' k J
  obtain ⟨hh, g, d, tk, os⟩ := s
  refine wpAny_call (codeAny_of_tree ?_)
  show wpAny _ A.in1 (callAny (.ref u) ⟨rest, []⟩) _ _ _
  simp only [callAny]
  refine wpAny_bind (wpAny_load hu ?_)
  simp only [PySem.W.kxs_mw, show (Value.type "method-wrapper" == Value.type "method" || Value.type "method-wrapper" == Value.type "builtin_function_or_method" || Value.type "method-wrapper" == Value.type "method-wrapper") = true by decide, if_true]
  refine PySem.W.KFB.if_so (by decide) ?_
  refine wpAny_bind (PySem.W.check_bound_init F.excBase_ValueError.toExcCallFacts hC' ho rfl ?_)
  refine wpAny_bind (wpAny_pure (wpAny_pure ?_))
  refine ⟨plainId_quiet F.excBase_ValueError.init.plain _, codeAny_builtin F.excBase_ValueError.initEntry ?_⟩
  exact PySem.W.exc_init_tree (cls := .ref C) (t0 := t1) (dv := none) (c2 := .none) (c3 := .none) (b4 := .bool false) ho hl fun h' k e' _ => fin h' k e'
theorem sup_ok {CX : CXT} {k : Nat} (S : SupF P K mg C f fd s1 s2 fld) : FnOk P w K mg base CX (k + 1) f fd [s1, s2] (spSup C fld) := by
  refine ⟨fun vs H Q E h => by obtain ⟨a, v, rfl, _⟩ := h; rfl, fun A outer s H args us vs Q E hr e0 hb r h => ?_⟩
  obtain ⟨a, v, rfl, ha, hq⟩ := h
  obtain ⟨qual, params, body, scope, dV, kV, doc, pm, ct, oc, an, od, osl, cda, cc, ccl, cl, cdd, cld, vs, ccs, csl, file, tf, ar, p0, p1, p2, p3, p4, p5, p6, p7, p8, p9, pl, rfl, rfl, lk, hcd, hhd, har, lc, hvs, hfile, lcc, hco, hgen, hkind, hce, hfr, hks, hkc, hk1, hk2, hev⟩ := S.ex
  obtain ⟨ua, uv, rfl, ra, rv⟩ : ∃ ua uv, us = [ua, uv] ∧ L2.RelV (.ref a) ua ∧ L2.RelV v uv := by
    cases r with
    | cons x y => cases y with
      | cons y z => cases z; exact ⟨_, _, rfl, x, y⟩
  obtain rfl : ua = Value.ref a := ra
  have KX : K.In s.heap := e0.mod.kin.keeps fun b o e => (e0.bs b o e).1
  have lim : s.heap.NoLimit := e0.mod.nolimit.keeps fun b o e => (e0.bs b o e).1
  refine PySem.ks_codeAny_call_defAt hr.depth (KX _ _ lk) rfl lim (PySem.W.codeRec_of KX hcd) rfl hb hce (fun x hx => ?_) (fun h₁ hns kp => ?_) hco hgen hkind
  · rcases List.mem_cons.mp hx with rfl | hx
    · exact hk1
    · rcases List.mem_cons.mp hx with rfl | hx
      · exact hk2
      · cases hx
  have I1 := sup_start (K := K) (qual := qual) (f := f) (cda := cda) (tk := s.toks + ([s1, s2].zip [Value.ref a, uv]).length) hkind hfr hce lcc rfl hr.hd e0 hns kp
  obtain ⟨t1, ho1⟩ := exo_at I1.hok ha
  obtain ⟨nm, q, N, bs, bm, sn, sub, ab, col, dd, k0, k1, k2, k3, k5, hC, hbm⟩ := S.cls.cls
  have hC1 := I1.kIn _ _ hC
  have hcl : PySem.W.clsIn K C = some { name := nm, bases := bs, mro := .ref C :: bm, ns := N, qualname := q, hasDict := true, slotNames := sn, subclasses := sub, abstract := ab, collection := col, hasDel := false } := by unfold PySem.W.clsIn; rw [hC] <;> rfl
  have n1 : ∀ {h2 : Heap}, (∀ b o, h₁.get? b = some o → h2.get? b = some o) → h2.Ns s.heap.objs.size fun x => ([s1, s2].zip [Value.ref a, uv]).reverse.lookup x := fun {h2} k => by
    obtain ⟨o, es, ep, e, r⟩ := hns
    exact ⟨o, es, ep, k _ _ e, r⟩
  have l1 : ([s1, s2].zip [Value.ref a, uv]).reverse.lookup s1 = some (.ref a) := by
    show List.lookup s1 [(s2, uv), (s1, Value.ref a)] = _
    rw [List.lookup_cons, show (s1 == s2) = false from beq_eq_false_iff_ne.mpr S.ne]
    simp
  have l2 : ([s1, s2].zip [Value.ref a, uv]).reverse.lookup s2 = some uv := by
    show List.lookup s2 [(s2, uv), (s1, Value.ref a)] = _
    simp
  refine PySem.ks_wpAt_execs_cons (PySem.ks_wpAt_Expr_any (PySem.ks_wpAt_MethodCall (pl := pl s.heap.objs.size) ?_ (hev _)) (hi := by show (scope.kind == .module && _) = false; rw [hkind]; rfl))
  obtain ⟨mb, hb1, hb2⟩ := I1.mod.blt
  obtain ⟨oD, hD1, hD2⟩ : ∃ oD : Obj, h₁.get? C = some oD ∧ oD.data = .cls { name := nm, bases := bs, mro := .ref C :: bm, ns := N, qualname := q, hasDict := true, slotNames := sn, subclasses := sub, abstract := ab, collection := col, hasDel := false } := ⟨_, hC1, rfl⟩
  refine PySem.ks_wpAt_super_base (env := PySem.W.ksEnv qual scope s.heap.objs.size f (.ref cda) cc) hks hkc (by decide) rfl (kp _ _ (KX _ _ lk)) rfl hhd rfl (I1.kIn _ _ lc) rfl hvs hfile S.top ?_
  refine PySem.W.ks_loadName_global hkind hks (Calls.loadGlobal_builtin (I1.mod.glob.keeps I1.bk) S.sup (hb1.keeps I1.bk) ((hb2 _ (by decide +kernel)).trans Boot.«super») ⟨rfl, ?_⟩)
  refine wpAny_loadName_free hkind hkc rfl ⟨_, I1.kIn _ _ lcc, rfl⟩ ?_
  rw [har]
  refine wpAny_loadName_local hkind hk1 hns l1 ?_
  refine PySem.ks_wpAny_isType_cls hD1 hD2 ⟨rfl, ?_⟩
  refine PySem.ks_wpAny_call_super hD1 hD2 ho1 rfl (fun c e => by cases e) (PySem.W.looks_mroIn I1.kIn S.sub) (fun h2 e2 k2 => ?_)
  have I2 : Inv _ [] [] H { s with heap := h2, toks := s.toks + ([s1, s2].zip [Value.ref a, uv]).length } := I1.kept (t' := s.toks + ([s1, s2].zip [Value.ref a, uv]).length) k2
  have LI : PySem.W.InstAt h2 a { cls := .ref C, dict := none, data := .fields #[.ref t1, .none, .none, .none, .bool false, .none] } C none := ⟨k2 _ _ ho1, rfl, rfl, trivial⟩
  have hm := S.sin
  unfold PySem.W.ks_superIn at hm
  rw [hcl, Option.bind_some] at hm
  have hI : PySem.W.Looks (model P w) h2 (isInstance (.ref a) (.type "ValueError")) true := LI.type.andThen (PySem.W.looks_subIn I2.kIn S.sVE)
  refine PySem.W.kxs_getMethod PySem.W.kxs_ValueError e2 (PySem.W.looks_opaque I2.kIn S.par) (l₀ := .ref C :: bm) (fun A Q E s k q => wpAny_bind ((PySem.W.looks_clsIn I2.kIn hcl) A _ E s k (wpAny_pure q))) rfl I2.kIn hm hI (PySem.W.ks_ne I2.kIn LI hcl) (by decide) ?_
  have k3 : ∀ b o, h2.get? b = some o → (h2.push (PySem.W.kxs_mw "ValueError.__init__" a)).get? b = some o := fun b o e => Heap.get?_push_of_some _ e
  have I3 : Inv _ [] [] H { s with heap := h2.push (PySem.W.kxs_mw "ValueError.__init__" a), toks := s.toks + ([s1, s2].zip [Value.ref a, uv]).length + 1 } := I1.kept (t' := s.toks + ([s1, s2].zip [Value.ref a, uv]).length + 1) fun b o e => k3 b o (k2 b o e)
  have hmw : (h2.push (PySem.W.kxs_mw "ValueError.__init__" a)).get? h2.objs.size = some (PySem.W.kxs_mw "ValueError.__init__" a) := Heap.get?_push_at rfl rfl
  have n3 := n1 (h2 := h2.push (PySem.W.kxs_mw "ValueError.__init__" a)) fun b o e => k3 b o (k2 b o e)
  show wpAny _ _ (callWith p4 (.ref h2.objs.size) [] (backTo p4 (starEach [.Name s2 p3] _)) []) _ _ _
  refine PySem.W.kxs_callWith (i := "ValueError.__init__") (x := a) rfl (Calls.evalArgs_plain ?_)
  show wpAny _ _ (spliced ((false, eval (.Name s2 p3) _) :: backTo p4 (starEach [] _))) _ _ _
  refine Calls.spliced_cons (wpAny_Name (wpAny_loadName_local hkind hk2 n3 l2 ?_) S.d2)
  refine Calls.spliced_nil ⟨hmw, ?_⟩
  refine sup_call S.cls I3 ha hmw (by rw [sizeLine_eq]; show (1 : Nat) ≤ _; decide) fun h4 k4 I4 => ?_
  have nL : s.heap.objs.size ≠ a := fun z => by
    have := I1.free
    rw [show (supCx P w K mg base [] qual scope f cda cc A outer s H).env.locals = s.heap.objs.size from rfl, z, ha] at this
    cases this
  have n4 : h4.Ns s.heap.objs.size fun x => ([s1, s2].zip [Value.ref a, uv]).reverse.lookup x := by
    obtain ⟨o, es, ep, e, r⟩ := n3
    exact ⟨o, es, ep, k4 _ _ nL e, r⟩
  refine PySem.ks_wpAt_execs_cons (wpAt_of_wpAny ?_)
  refine plainObj_wpAny_Assign_Attribute (wpAny_Name (wpAny_loadName_local hkind hk2 n4 l2 (wpAny_Name (wpAny_loadName_local hkind hk1 n4 l1 ?_) S.d1)) S.d2) (by rfl)
  refine ost_new S.cls I4 ha S.fnd rv fun dx s' nd ne J => ?_
  refine wpAt_of_wpAny (wpAny_execs_nil ?_)
  exact ⟨.non, _, J.os, J.bare, J.base, J.hok, rfl, hq dx nd ne⟩
end
end DL

/-! DLi: exceptions over data: a caught one is held as a value behind its suite; raise; calls that raise. -/
namespace DL
open PySem PySem.Spec PyProof.Rows L2

/-! ### an object that is known stands still from now on (a step of the proof) -/
def pinO (a : Addr) (oe : Obj) : HO := .frz oe (.ext fun h => h.get? a = some oe)
section
variable {X : Cx} {pins : List (Addr × Obj)} {σ : Sg} {H : Hp} {s : Shared} {a : Addr} {oe : Obj}
theorem inv_pin (I : Inv X pins σ H s) (e : s.heap.get? a = some oe) (n : H a = none) (n0 : X.s_0.heap.get? a = none) (nL : a ≠ X.env.locals) (nc : ∀ v, oe.data ≠ .cell v) (np : ∀ p ∈ X.pn ++ pins, p.1 ≠ a) : Inv X pins σ (upd H a (pinO a oe)) s := by
  have ne0 : ∀ b o, X.s_0.heap.get? b = some o → b ≠ a := fun b o q z => by rw [z, n0] at q; cases q
  have neH : ∀ b o, H b = some o → b ≠ a := fun b o q z => by rw [z, n] at q; cases q
  have keepH : ∀ b o, H b = some o → upd H a (pinO a oe) b = some o := fun b o q => by rw [upd_ne (neH b o q)]; exact q
  refine ⟨I.ok, I.os, I.bare, ⟨I.base.keep, I.base.slot, fun b o q h x => ?_, I.base.there, fun b xs q => keepH _ _ (I.base.tups b xs q), fun b o u q => keepH _ _ (I.base.frzs b o u q), fun b ps q => ?_⟩, I.loc, I.cell, ?_, fun x c q => ?_, fun p hp => ?_, fun b o q => ?_, I.len⟩
  · rw [upd_ne (ne0 b o q)]; exact I.base.free b o q h x
  · obtain ⟨m, z⟩ := I.base.tbls b ps q
    exact ⟨m, keepH _ _ z⟩
  · rw [upd_ne nL.symm]; exact I.free
  · have h := I.freeC x c q
    rw [upd_ne (fun z => ?_)]
    · exact h
    · obtain ⟨v, o, ho, hd⟩ := I.cell x c q
      rw [z, e] at ho
      cases ho
      exact nc v hd
  · obtain ⟨h1, h2, h3⟩ := I.pin p hp
    exact ⟨h1, by rw [upd_ne (np p hp)]; exact h2, h3⟩
  · by_cases hb : b = a
    · subst hb
      rw [upd_same] at q
      cases q
      exact ⟨e, e, ⟨_, e⟩, fun h1 h2 z k => k _ z⟩
    · rw [upd_ne hb] at q
      exact (I.hok b o q).stay (fun _ _ _ z => z) (fun c z => keepH _ _ z) fun c xs z => keepH _ _ z
theorem inv_frzX {p : Addr} {fs : List (Str × V)} (I : Inv X pins σ H s) (h : H p = some (.xd fs)) : ∃ ob, Inv X pins σ (upd H p (.frz ob (.xd fs))) s := by
  have ok := I.hok p _ h
  obtain ⟨ob, e⟩ : ∃ ob, s.heap.get? p = some ob := by
    obtain ⟨mA, ⟨o, es, ep, e, r⟩, _⟩ := ok
    exact ⟨o, e⟩
  have neT : ∀ b w, H b = some w → (∀ fs, w ≠ .xd fs) → b ≠ p := fun b w q1 nc z => by rw [z, h] at q1; cases q1; exact nc fs rfl
  have neN : ∀ b, H b = none → b ≠ p := fun b e z => by rw [z, h] at e; cases e
  refine ⟨ob, I.ok, I.os, I.bare, ⟨I.base.keep, I.base.slot, fun b o' e n hx => ?_, I.base.there, fun b xs e => ?_, fun b o' u e => ?_, fun b ps e => ?_⟩, I.loc, I.cell, ?_, fun x c e => ?_, fun q hq => ?_, fun b u e => ?_, I.len⟩
  · have z := I.base.free b o' e n hx
    rw [upd_ne (neN b z)]; exact z
  · have q := I.base.tups b xs e; rw [upd_ne (neT b _ q fun fs z => by cases z)]; exact q
  · have q := I.base.frzs b o' u e; rw [upd_ne (neT b _ q fun fs z => by cases z)]; exact q
  · obtain ⟨more, q⟩ := I.base.tbls b ps e; exact ⟨more, by rw [upd_ne (neT b _ q fun fs z => by cases z)]; exact q⟩
  · rw [upd_ne (neN _ I.free)]; exact I.free
  · have z := I.freeC x c e
    rw [upd_ne (neN c z)]; exact z
  · obtain ⟨e, n, r⟩ := I.pin q hq
    exact ⟨e, by rw [upd_ne (neN _ n)]; exact n, r⟩
  · by_cases hb : b = p
    · subst hb; rw [upd_same] at e; cases e
      exact ⟨‹_›, ok.stay (fun _ _ _ q => q) (fun c q => by rw [upd_ne (neT c _ q fun fs z => by cases z)]; exact q) fun c xs q => by rw [upd_ne (neT c _ q fun fs z => by cases z)]; exact q⟩
    · rw [upd_ne hb] at e
      exact (I.hok b u e).stay (fun _ _ _ q => q) (fun c q => by rw [upd_ne (neT c _ q fun fs z => by cases z)]; exact q) fun c xs q => by rw [upd_ne (neT c _ q fun fs z => by cases z)]; exact q
end
/-- a dict of fields stands still from here on, if that is asked -/
def fzX (D : Ends) : Ends := { D with nx := fun σ H => D.nx σ H ∨ ∃ dd fs, H dd = some (.xd fs) ∧ ∀ od, D.nx σ (upd H dd (.frz od (.xd fs))) }
theorem ps_fzX {X : Cx} {st : Stmt} {t : TS} (h : PS X st t) : PS X st (fun D => t (fzX D)) := by
  refine ⟨fun pins s σ H D I q => thn (h.run pins s σ H (fzX D) I q) fun f s' z => ?_⟩
  cases f with
  | next =>
    obtain ⟨σ', H', I', q | ⟨dd, fs, e, q⟩⟩ := z
    · exact ⟨σ', H', I', q⟩
    · obtain ⟨od, J⟩ := inv_frzX I' e
      exact ⟨σ', _, J, q od⟩
  | brk => exact z
  | cont => exact z
  | ret u => exact z

/-! ### try: body, except x as n: suite; every exception is caught, and held behind the suite -/
/-- the ends of the suite -/
def pinEnds (i : Nat) (a : Addr) (oe : Obj) (D : Ends) : Ends := { nx := fun σ H => D.nx (σ.set i none) (upd H a (pinO a oe)), rt := D.rt, bk := fun _ _ => False, ct := fun _ _ => False }
def wPin (K : PySem.W.Frag) (c : Value) (i : Nat) (ts : Addr → TS) (D : Ends) : WX := fun cls d σ H =>
  PySem.W.exmOne K cls c = some true ∧ ∀ a oe, H a = none → Zc cls d oe → (∃ vs, oe.data = .fields vs) → ts a (pinEnds i a oe D) (σ.set i (some (.ref a))) H
section
variable {X : Cx} {x n : Str} {c : Value} {i : Nat} {body suite : List Stmt} {b₀ : Stmt} {np pos pos' : Pos} {tb : WX → TS} {ts : Addr → TS}
theorem ps_try_pin (hs : X.stack = X.env :: X.outer) (hf : X.env.frame = some X.env.locals) (hN : X.N.Nodup) (hi : X.N[i]? = some n) (hln : X.env.kindOf n = some .local) (hc : Names X x c) (hex : X.ex = [])
    (hb : ∀ (W : WX) (pn : List (Addr × Obj)) (xe : Value → Shared → Prop), Takes (X.tr pn xe) W → PassesOwn (model X.prog X.w) X.A X.env xe → PSs (X.tr pn xe) body (tb W))
    (hsu : ∀ (a : Addr) (oe : Obj) (pn : List (Addr × Obj)), (∃ vs, oe.data = .fields vs) → PSs (X.suite a ((a, oe) :: pn)) (b₀ :: suite) (ts a)) :
    PS X (.Try body [.ExceptHandler (some (.Name x np)) (some n) (b₀ :: suite) pos'] [] [] pos) (fun D σ H => tb (wPin X.K c i ts D) D σ H) := by
  refine ⟨fun pins s σ H D I h => ?_⟩
  have ok := I.ok
  have hfr : X.A.frames = some (X.env :: X.outer) := by rw [ok.frames, hs]
  have hloc : Loc X.env.scope n := .inl hln
  refine wpAny_Try_except ?_
  refine wpAny_mono ((hb (wPin X.K c i ts D) (X.pn ++ pins) (fun e s₁ => wpAny (model X.prog X.w) X.A (noteFrame e X.env) (fun _ s₂ => wpAny (model X.prog X.w) X.A (setFlight e none) (fun _ s₃ =>
    wpAny (model X.prog X.w) X.A (handleBy e X.env [.ExceptHandler (some (.Name x np)) (some n) (b₀ :: suite) pos']) (SP X pins D) X.xe s₃) X.xe s₂) X.xe s₁) (fun u s' xx => ?_) PassesOwn.looking).run [] s σ H D (I.toTry _) h) (fun f s1 hsp => ?_) (fun e s1 he => he)
  · obtain ⟨a, B, sI, pins', σ', H', cls, d, rfl, J', nb, up, sky, na, os, ag, hb1, hyes⟩ := xx
    have J : Inv X pins σ' H' sI := J'.ofTry ok
    have sky' : Sky B (X.env :: X.outer) a (Zc cls d) X.env.locals s'.heap := by rw [← hs]; exact sky
    show wpAny (model X.prog X.w) X.A (noteFrame (.ref a) X.env) _ _ _
    refine Sky.land Zc.steady hfr hf sky' fun h3 fl3 up3 => ?_
    obtain ⟨oe3, vs3, he3, hz3, hd3⟩ := fl3.there
    have J3 : Inv X pins σ' H' { s' with heap := h3 } := J.landed nb fl3.1 (up.trans up3) os ag
    have notFr : ∀ {h : Heap} {o : Obj} {vs : Array Value}, h.FunFrames B (X.env :: X.outer) → h.get? a = some o → o.data = .fields vs → a ∉ frs (X.env :: X.outer) := fun {h o vs} ff e dd hm => by
      obtain ⟨_, o', e', hnf⟩ := ff.mem hm
      rw [e] at e'; cases e'
      exact hnf _ dd
    have nfr := notFr fl3.2.2.1 he3 hd3
    have nL : a ≠ X.env.locals := fun z => nfr (List.mem_filterMap.mpr ⟨X.env, List.mem_cons_self, by rw [hf, z]⟩)
    have nF : a ∉ X.fs := fun hm => by
      obtain ⟨e, he, q⟩ := List.mem_filterMap.mp hm
      exact nfr (List.mem_filterMap.mpr ⟨e, List.mem_cons_of_mem _ he, q⟩)
    have aI : sI.heap.get? a = none := by
      cases q : sI.heap.get? a with
      | none => rfl
      | some o =>
        have z := nb a o q (by rw [hs]; exact nfr)
        rw [fl3.2.1] at z
        cases z
    have a0 : X.s_0.heap.get? a = none := by
      cases q : X.s_0.heap.get? a with
      | none => rfl
      | some o =>
        obtain ⟨o', z⟩ := J.base.there a o q (by rw [hex]; exact fun z => nomatch z)
        rw [aI] at z
        cases z
    have ap : ∀ p ∈ X.pn ++ pins, p.1 ≠ a := fun p hp z => by
      have := (J.pin p hp).1
      rw [z, aI] at this
      cases this
    have S3 := J3.suite he3 hd3 na nL nF
    refine wpAny_handleBy_cons (codeAny_handlers_test ?_) (by intro q; cases q)
    have LT : PySem.W.Looks (model X.prog X.w) h3 (typeOf (.ref a)) cls := fun A Q E s k q => wpAny_typeOf_ref (k _ _ he3) (by rw [hz3.1]; exact q)
    have LM := PySem.W.exm_one (M := model X.prog X.w) (J3.kIn) LT hb1
    have test : ∀ {Q : Value → Shared → Prop} {E : Value → Shared → Prop}, Q c { s' with heap := h3 } → wpAny (model X.prog X.w) (X.A.mark (some (.ref a))) (eval (.Name x np) X.env) Q E { s' with heap := h3 } := fun {Q E} q => by
      obtain ⟨hg, hdbg, hm | ⟨hm, hv, hnn⟩⟩ := hc
      · exact ld_glob (X := X.suite a ((a, oe3) :: (X.pn ++ pins))) S3 hg hm q hdbg
      · exact ld_blt (X := X.suite a ((a, oe3) :: (X.pn ++ pins))) S3 hg hm hv q hnn hdbg
    refine test (LM.here ?_)
    refine codeAny_handlers_suite_as ?_
    refine HandSPX.lands_againZ fl3 fun h4 fl4 up4 => ?_
    have J4 : Inv X pins σ' H' { s' with heap := h4 } := J.landed nb fl4.1 ((up.trans up3).trans up4) os ag
    obtain ⟨oe4, vs4, he4, hz4, hd4⟩ := fl4.there
    have S4 := J4.suite he4 hd4 na nL nF
    refine store_ok (X := X.suite a ((a, oe4) :: (X.pn ++ pins))) (v := .ref a) S4 hN hi hloc rfl (fun s5 S5 => ?_) (.inr hln)
    refine wpAny_mono ((hsu a oe4 (X.pn ++ pins) ⟨_, hd4⟩).run [] s5 _ H' (pinEnds i a oe4 D) S5 (hyes a oe4 na hz4 ⟨_, hd4⟩)) (fun f s6 hsp => ?_) (fun _ _ z => False.elim z)
    cases f with
    | next =>
      obtain ⟨σ6, H6, S6, q6⟩ := hsp
      obtain ⟨p1, p2, p3, p4, p5⟩ := S6.pin (a, oe4) (List.mem_append_left _ List.mem_cons_self)
      have J6 := inv_pin (S6.unsuite ok) p1 p2 a0 nL p5 ap
      exact gone_ok J6 hN hi hln fun s7 J7 => ⟨_, _, J7, q6⟩
    | brk =>
      obtain ⟨σ6, H6, S6, q6⟩ := hsp
      exact q6.elim
    | cont =>
      obtain ⟨σ6, H6, S6, q6⟩ := hsp
      exact q6.elim
    | ret u =>
      obtain ⟨v6, σ6, H6, S6, r6, q6⟩ := hsp
      exact gone_ok (S6.unsuite ok) hN hi hln fun s7 J7 => ⟨_, _, _, J7, r6, q6⟩
  · cases f with
    | next =>
      obtain ⟨σ', H', J', q⟩ := hsp
      exact wpAny_execs_nil ⟨σ', H', J'.ofTry ok, q⟩
    | brk =>
      obtain ⟨σ', H', J', q⟩ := hsp
      exact ⟨σ', H', J'.ofTry ok, q⟩
    | cont =>
      obtain ⟨σ', H', J', q⟩ := hsp
      exact ⟨σ', H', J'.ofTry ok, q⟩
    | ret u =>
      obtain ⟨v, σ', H', J', r, q⟩ := hsp
      exact ⟨v, σ', H', J'.ofTry ok, r, q⟩
end
end DL

/-! DLj: exceptions over data: calls that raise, raise, a lambda whose exception is caught and handed on. -/
namespace DL
open PySem PySem.Spec PyProof.Rows L2

abbrev XCont := Addr → List (Str × D) → Mem → Prop
/-- the exception in the air: its class, its fields -/
def XcRep (K : PySem.W.Frag) (H : Hp) (cls : Value) (d : Option Addr) (C : Addr) (fs : List (Str × D)) : Prop := cls = .ref C ∧ ((d = none ∧ fs = []) ∨ ∃ dd vs, d = some dd ∧ H dd = some (.xd vs) ∧ RepF K H vs fs)
def GoesX (K : PySem.W.Frag) (T : List (Addr × Str)) (H : Hp) (Ξ : XCont) (E : XK) : Prop := ∀ C fs M' cls d H', Ξ C fs M' → Kp T H H' → MOk K H' M' → XcRep K H' cls d C fs → E cls d H'
/-- what E asks, from H on -/
def XiE (K : PySem.W.Frag) (T : List (Addr × Str)) (H : Hp) (E : XK) : XCont := fun C fs M' => ∀ cls d H', Kp T H H' → MOk K H' M' → XcRep K H' cls d C fs → E cls d H'
theorem xiE_goes {K : PySem.W.Frag} {T : List (Addr × Str)} {H H1 : Hp} {E : XK} (k : Kp T H H1) : GoesX K T H1 (XiE K T H E) E := fun _ _ _ cls d H' φ k' m r => φ cls d H' (k.trans k') m r
theorem GoesX.from {K : PySem.W.Frag} {T : List (Addr × Str)} {H H1 : Hp} {E : XK} {Ξ : XCont} (g : GoesX K T H Ξ E) (k : Kp T H H1) : GoesX K T H1 Ξ E := fun C fs M' cls d H' φ k' m r => g C fs M' cls d H' φ (k.trans k') m r
abbrev FSX := List D → Mem → Cont → XCont → Prop
def FSpX (K : PySem.W.Frag) (T : List (Addr × Str)) (n : Nat) (fs : FSX) : Sp := fun vs H Q E => ∃ ds M Φ Ξ, vs.length = n ∧ Reps K H vs ds ∧ MOk K H M ∧ LamX.Tabs T H ∧ fs ds M Φ Ξ ∧ Goes K T H Φ Q ∧ GoesX K T H Ξ E
/-- the def that the module's x names keeps fs; it may raise -/
structure HasX (P : Program) (w : World) (K : PySem.W.Frag) (mg : Str → Option Value) (base : Heap) (T : List (Addr × Str)) (x : Str) (k n : Nat) (fs : FSX) : Prop where
  len : ∀ ds M Φ Ξ, fs ds M Φ Ξ → ds.length = n
  ex : ∃ (f : Addr) (fd : FuncData) (ps : List Str), ps.length = n ∧ FnOk P w K mg base (L2.CX P w) k f fd ps (FSpX K T n fs) ∧ mg x = some (.ref f) ∧ PySem.W.keepIn K (.ref f) = true ∧ L2.Binds K fd ps []
theorem HasX.mono {P : Program} {w : World} {K : PySem.W.Frag} {mg : Str → Option Value} {base : Heap} {T : List (Addr × Str)} {x : Str} {j k n : Nat} {fs : FSX} (h : HasX P w K mg base T x j n fs) (l : j ≤ k) : HasX P w K mg base T x k n fs := by
  obtain ⟨len, f, fd, ps, a, b, c⟩ := h
  exact ⟨len, f, fd, ps, a, b.mono l, c⟩
def dCallX (fs : FSX) (Ξ : XCont) (da : DA) : DE := fun Γ M Φ => da Γ M fun ds M1 => fs ds M1 Φ Ξ
def noX : XCont := fun _ _ _ => False
theorem passL {X : Cx} : Passes (L2.CX X.prog X.w) X E0 := fun _ _ _ _ _ _ _ h => by
  obtain ⟨_, _, _, _, _, _, _, _, _, _, _, _, z⟩ := h
  exact z.elim
section
variable {X : Cx} {T : List (Addr × Str)} {x : Str} {k n : Nat} {fs : FSX} {p pos : Pos} {e : Expr} {es : List Expr} {da : DA} {E : XK}
theorem kp_base {pins : List (Addr × Obj)} {σ : Sg} {H : Hp} {s : Shared} (I : Inv X pins σ H s) (t : LamX.Tabs T H) : Kp T X.H_0 H := ⟨I.base.tups, I.base.frzs, fun _ => t⟩
theorem xe_callX {Ξ : XCont} (h : HasX X.prog X.w X.K X.mg X.base T x k n fs) (tk : Takes X (fun cls d _ H => E cls d H)) (hX : Ξ = XiE X.K T X.H_0 E) (hr : Room k X.A) (hg : Gl X x) (ha : XA X T (e :: es) da) (hdb : (x == ("__debug__" : Str)) = false := by decide)
    (he : starEach (e :: es) X.env = (false, eval e X.env) :: starEach es X.env := by rfl) (hpl : (backTo pos (starEach es X.env)).any (·.1) = false := by rfl) : XE X T (.Call (.Name x p) (e :: es) [] pos) (dCallX fs Ξ da) := by
  subst hX
  obtain ⟨len, f, fd, ps, hn, F, hm, hk, hb⟩ := h
  refine ⟨fun pins s σ H Q I q => (pe_call F hr hg hm hk hb .nil (passes_call tk fun _ _ _ _ z => z) ha hdb he hpl).run pins s σ H Q I ?_⟩
  obtain ⟨Γ, M, Φ, env, h, g⟩ := q
  refine ⟨Γ, M, _, env, h, fun vs H1 ds M1 φ1 k1 m1 r1 => ?_⟩
  show FSpX X.K T n fs (vs ++ []) H1 Q E
  rw [List.append_nil]
  exact ⟨ds, M1, Φ, _, by rw [r1.length]; exact len _ _ _ _ φ1, r1, m1, k1.tab env.tab, φ1, g.from k1, xiE_goes ((kp_base I env.tab).trans k1)⟩
/-- a call that raises nothing here -/
theorem xe_callN (h : HasX X.prog X.w X.K X.mg X.base T x k n fs) (hr : Room k X.A) (hg : Gl X x) (ha : XA X T (e :: es) da) (hdb : (x == ("__debug__" : Str)) = false := by decide)
    (he : starEach (e :: es) X.env = (false, eval e X.env) :: starEach es X.env := by rfl) (hpl : (backTo pos (starEach es X.env)).any (·.1) = false := by rfl) : XE X T (.Call (.Name x p) (e :: es) [] pos) (dCallX fs noX da) := by
  obtain ⟨len, f, fd, ps, hn, F, hm, hk, hb⟩ := h
  refine pe_weak (pe_call F hr hg hm hk hb .nil passL ha hdb he hpl) fun σ H Q q => ?_
  obtain ⟨Γ, M, Φ, env, h, g⟩ := q
  refine ⟨Γ, M, _, env, h, fun vs H1 ds M1 φ1 k1 m1 r1 => ?_⟩
  show FSpX X.K T n fs (vs ++ []) H1 Q E0
  rw [List.append_nil]
  exact ⟨ds, M1, Φ, _, by rw [r1.length]; exact len _ _ _ _ φ1, r1, m1, k1.tab env.tab, φ1, g.from k1, fun _ _ _ _ _ _ z => z.elim⟩
theorem xe_callNKw {kn : Str} {kp : Pos} {de : DE} (h : HasX X.prog X.w X.K X.mg X.base T x k 1 fs) (hkb : ∀ (f : Addr) (fd : FuncData) (ps : List Str), X.mg x = some (.ref f) → FnOk X.prog X.w X.K X.mg X.base (L2.CX X.prog X.w) k f fd ps (FSpX X.K T 1 fs) → ∀ (s : Shared) (w' : Value), X.K.In s.heap → BindsTo s fd ⟨[], [(kn, w')]⟩ (ps.zip [w']))
    (hr : Room k X.A) (hg : Gl X x) (ha : XE X T e de) (hall : (backToKw pos (keywordEach [⟨some kn, e, kp⟩] X.env)).all (·.1.isSome) = true := by rfl) (hks : (backToKw pos (keywordEach [⟨some kn, e, kp⟩] X.env)).filterMap (·.1) = [kn] := by rfl)
    (hdb : (x == ("__debug__" : Str)) = false := by decide) (hpl : ((backTo pos (starEach [] X.env)).any (·.1) || (backToKw pos (keywordEach [⟨some kn, e, kp⟩] X.env)).any (·.1.isNone)) = false := by rfl) :
    XE X T (.Call (.Name x p) [] [⟨some kn, e, kp⟩] pos) (dCallX fs noX (daCons de daNil)) := by
  obtain ⟨len, f, fd, ps, hn, F, hm, hk, hb⟩ := h
  refine ⟨fun pins s σ H Q I q => ?_⟩
  obtain ⟨Γ, M, Φ, env, h, g⟩ := q
  refine wpAny_Call_Name_kw (ld_glob I hg hm ?_ hdb)
  refine PySem.W.callWith_KW0 (h₀ := X.base) I.ok.mod.kin hk hall ?_ hpl
  refine thn ((pk_cons (nm := some kn) (kpos := kp) ha pk_nil).run pos pins s σ H (fun zs H1 => ∃ v d M1, zs = [v] ∧ Rep X.K H1 v d ∧ MOk X.K H1 M1 ∧ Kp T H H1 ∧ fs [d] M1 Φ noX) I ⟨Γ, M, _, env, h, fun v1 H1 d1 M1 φ1 k1 m1 r1 => ⟨v1, d1, M1, rfl, r1, m1, k1, φ1⟩⟩) fun ws s2 ⟨zs, H2, I2, rz, q2⟩ => ⟨I2.kIn, ?_⟩
  obtain ⟨v, d, M1, rfl, r1, m1, k1, φ1⟩ := q2
  obtain ⟨w', rfl, rw'⟩ := vals1 rz
  rw [hks]
  have hsp : FSpX X.K T 1 fs [v] H2 Q E0 := ⟨[d], M1, Φ, noX, rfl, .cons r1 .nil, m1, k1.tab env.tab, φ1, g.from k1, fun _ _ _ _ _ _ z => z.elim⟩
  refine wpAny_call (codeAny_mono (F.run X.A X.stack s2 H2 ⟨[], [(kn, w')]⟩ [w'] [v] Q E0 hr I2.env0 (hkb f fd ps hm F s2 w' I2.kIn) (.cons rw' .nil) hsp) fun r s' hq => ?_)
  cases r with
  | error e => exact passL pins σ H2 s2 e s' I2 hq
  | ok fl =>
    cases fl with
    | ret u => exact I2.after hq
    | next => exact False.elim hq
    | brk => exact False.elim hq
    | cont => exact False.elim hq
/-- raise C('m') -/
def dRaise0 (C : Addr) (Ξ : XCont) : DS := fun _ _ M => Ξ C [] M
theorem xs_raise0 {Ξ : XCont} {C : Addr} {mk : Expr} (hc : X.calm = true) (tk : Takes X (fun cls d _ H => E cls d H)) (hX : Ξ = XiE X.K T X.H_0 E) (hm : PMk X mk (fun _ H Q => Q (.ref C) none H)) : XS X T (.Raise (some mk) none pos) (dRaise0 C Ξ) := by
  subst hX
  refine ⟨fun pins s σ H D I q => (ps_raise hc tk hm).run pins s σ H D I ?_⟩
  obtain ⟨Γ, M, En, env, h, _⟩ := q
  exact h _ _ _ (kp_base I env.tab) env.mem ⟨rfl, .inl ⟨rfl, rfl⟩⟩
/-- what C(e) needs, C's own __init__ saying super().__init__(at); self.fld = at -/
structure ExcMk (P : Program) (w : World) (K : PySem.W.Frag) (mg : Str → Option Value) (base : Heap) (x : Str) (C : Addr) (fld : Str) : Prop where
  cls : OexC K C
  gx : mg x = some (.ref C)
  ex : ∃ (f : Addr) (fd : FuncData) (s1 s2 : Str), SupF P K mg C f fd s1 s2 fld ∧ PySem.W.findIn K (.ref C) "__init__" = some (some (.ref f)) ∧ PySem.W.typeIn K (.ref f) = some (.type "function") ∧ L2.Binds K fd [s1, s2] []
def dRaise1 (C : Addr) (fld : Str) (de : DE) (Ξ : XCont) : DS := fun _ Γ M => de Γ M fun d M1 => Ξ C [(fld, d)] M1
theorem xs_raise1 {Ξ : XCont} {C : Addr} {fld : Str} {de : DE} (S : ExcMk X.prog X.w X.K X.mg X.base x C fld) (hc : X.calm = true) (tk : Takes X (fun cls d _ H => E cls d H)) (hX : Ξ = XiE X.K T X.H_0 E) (hr : Room 2 X.A) (hg : Gl X x) (he : XE X T e de) (hdb : (x == ("__debug__" : Str)) = false := by decide)
    (hse : starEach [e] X.env = (false, eval e X.env) :: starEach [] X.env := by rfl) (hpl : (backTo pos (starEach [] X.env)).any (·.1) = false := by rfl) {pos' : Pos} : XS X T (.Raise (some (.Call (.Name x p) [e] [] pos)) none pos') (dRaise1 C fld de Ξ) := by
  subst hX
  obtain ⟨hcl, hm, f, fd, s1, s2, SF, iC, tI, hb⟩ := S
  refine ⟨fun pins s σ H D I q => (ps_raise hc tk (pmk_oex (CX := C8.CX0) hcl iC tI (sup_ok (k := 0) SF) hr hb .nil pass0 hg hm (pa_cons he pa_nil hse) hdb hse hpl)).run pins s σ H D I ?_⟩
  obtain ⟨Γ, M, En, env, h, _⟩ := q
  refine ⟨Γ, M, _, env, h, fun v H1 d M1 φ k m r => ⟨show 1 ≤ 1000 by decide, fun a na => ⟨a, v, rfl, upd_same, fun dx nd ne => ⟨rfl, dx, [(fld, v)], upd_same, ?_, ?_, ?_⟩⟩⟩⟩
  · rw [upd_ne ne, upd_same]
  · rw [upd_ne ne] at nd
    exact nd
  · rw [upd_ne ne] at nd
    have at_ : ∀ b, b ≠ dx → upd (del (upd (upd (upd H1 a (exo a C none)) dx (exd dx [(fld, v)])) a (exo a C (some dx))) a) dx (.xd [(fld, v)]) b = H1 b := fun b h1 => by
      rw [upd_ne h1]
      by_cases hb : b = a
      · rw [hb, del_same, na]
      · rw [del_ne hb, upd_ne hb, upd_ne h1, upd_ne hb]
    have ext : ∀ b o, H1 b = some o → upd (del (upd (upd (upd H1 a (exo a C none)) dx (exd dx [(fld, v)])) a (exo a C (some dx))) a) dx (.xd [(fld, v)]) b = some o := fun b o z => by
      rw [at_ b (fun y => by rw [y, nd] at z; cases z)]; exact z
    have k2 : Kp T H1 (upd (del (upd (upd (upd H1 a (exo a C none)) dx (exd dx [(fld, v)])) a (exo a C (some dx))) a) dx (.xd [(fld, v)])) := .ext ext
    exact φ _ _ _ (((kp_base I env.tab).trans k).trans k2) (m.ext ext) ⟨rfl, .inr ⟨dx, _, rfl, upd_same, .cons (r.mono k2) .nil⟩⟩
end
/-- a def that may raise, by its body -/
theorem okDX {P : Program} {w : World} {K : PySem.W.Frag} {mg : Str → Option Value} {base : Heap} {T : List (Addr × Str)} {x qual : Str} {st : Stmt} {f : Addr} {fd : FuncData} {N ps : List Str} {k : Nat} {fs : FSX} (F : Fun K x qual st f fd) (S : FnScope N ps (defScope st)) (hm : mg x = some (.ref f)) (hb : L2.Binds K fd ps [])
    (len : ∀ ds M Φ Ξ, fs ds M Φ Ξ → ds.length = ps.length) (mono : ∀ ds M Φ Ξ Ξ', fs ds M Φ Ξ → (∀ C fs M, Ξ C fs M → Ξ' C fs M) → fs ds M Φ Ξ')
    (body : ∀ (cdv : Value) (A : Around) (outer : List Env) (s : Shared) (H : Hp) (E : XK) (Ξ : XCont), Room k (A.deeper (envOfC qual (defScope st) s.heap.objs.size f cdv)) →
      Takes (cxOf (L2.CX P w) P w K mg base N qual (defScope st) f cdv A outer s H E) (fun cls d _ H => E cls d H) → Ξ = XiE K T H E →
      ∃ dsb : DS, XSs (cxOf (L2.CX P w) P w K mg base N qual (defScope st) f cdv A outer s H E) T (defBody st) dsb ∧ ∀ ds M Φ, fs ds M Φ Ξ → dsb { nx := fun _ M' => drp Φ .non M', rt := drp Φ } (startG N ds) M) :
    HasX P w K mg base T x (k + 1) ps.length fs := by
  refine ⟨len, f, fd, ps, rfl, F.okX S (fun vs H Q E h => ?_) (fun cdv A outer s H vs Q E hr h => ?_), hm, F.kp, hb⟩
  · obtain ⟨ds, M, Φ, Ξ, h, _⟩ := h
    exact h
  · obtain ⟨ds, M, Φ, Ξ, hl, r, m, t, h, g, gx⟩ := h
    obtain ⟨dsb, hx, hd⟩ := body cdv A outer s H E _ hr (takes_of rfl rfl rfl rfl) rfl
    refine ⟨_, hx, startG N ds, M, _, start_env r m t, hd ds M Φ (mono _ _ _ _ _ h fun C fs M z cls d H' k m r => gx C fs M cls d H' z k m r), fun σ' H' Γ' M' φ k' e' => ?_, fun _ _ _ _ φ => φ.elim, fun _ _ _ _ φ => φ.elim, g.drp⟩
    exact g.drp _ _ _ _ φ k' e'.mem .non
end DL

/-! DLk: found = None; try: action() / except W as error: found = error; return found -- of a lambda. Exceptions as data: isinstance, fields. -/
namespace DL
open PySem PySem.Spec PyProof.Rows L2

/-- what the catcher makes of the lambda -/
def TCaught (K : PySem.W.Frag) (cW : Value) : (XK → Hp → VK → Prop) → Hp → VK → Prop := fun tl H Q =>
  tl (fun cls d H' => PySem.W.exmOne K cls cW = some true ∧ ∀ a oe, H' a = none → Zc cls d oe → (∃ vs, oe.data = .fields vs) →
    (Q (.ref a) (upd H' a (pinO a oe)) ∨ ∃ dd fs, (upd H' a (pinO a oe)) dd = some (.xd fs) ∧ ∀ od, Q (.ref a) (upd (upd H' a (pinO a oe)) dd (.frz od (.xd fs))))) H (fun _ H' => Q .non H')
theorem takes_len {X : Cx} {W : WX} (t : Takes X W) : Takes X (fun cls d σ H => σ.length = X.N.length → W cls d σ H) := fun u s' ⟨a, B, sI, pins, σ, H, cls, d, e, I, nb, up, sky, na, os, ag, w⟩ =>
  t u s' ⟨a, B, sI, pins, σ, H, cls, d, e, I, nb, up, sky, na, os, ag, w I.len⟩
theorem pe_imp {X : Cx} {e : Expr} {t : TE} (h : PE X e t) : PE X e (fun σ H Q => ∃ Qn : VK, t σ H Qn ∧ ∀ v H', Qn v H' → Q v H') := ⟨fun pins s σ H Q I ⟨Qn, q, m⟩ => thn (h.run pins s σ H Qn I q) fun u s1 ⟨v, H', I', r, z⟩ => ⟨v, H', I', r, m _ _ z⟩⟩
theorem caught_gives {X : Cx} {x a fnd err we q : Str} {sg : Scope} {g : Addr} {cdg cW : Value} {j : Nat} {p1 p2 p3 p4 p5 p6 p7 p8 p9 pa pb pc pd pe : Pos} {Ng : List Str} (hN : Ng = [a, fnd, err]) (hnd : Ng.Nodup) (hlf : sg.names.lookup fnd = some .local) (hle : sg.names.lookup err = some .local)
    (hge : sg.names.lookup we = some .globalImplicit) (hme : X.mg we = some cW) (hde : (we == ("__debug__" : Str)) = false)
    (df : (fnd == ("__debug__" : Str)) = false ∧ (fnd == ("__classdict__" : Str)) = false) (dr : (err == ("__debug__" : Str)) = false ∧ (err == ("__classdict__" : Str)) = false) :
    LamX.GivesTo X Ng x sg g cdg [.Assign [.Name fnd pa] (.Constant .none j pb) pc, .Try [.Expr (.Call (.Name a p1) [] [] p2) p3] [.ExceptHandler (some (.Name we p4)) (some err) [.Assign [.Name fnd p5] (.Name err p6) p9] p7] [] [] p8, .Return (some (.Name fnd pd)) pe] a q (TCaught X.K cW) := by
  intro f c' s H Q tl act hc h
  subst hN
  have hgl : Gl (cxOf C8.CX0 X.prog X.w X.K X.mg X.base [a, fnd, err] x sg g cdg X.A X.stack s H C8.E0).nox we := hge
  refine ⟨_, pss_cons (ps_set (X := (cxOf C8.CX0 X.prog X.w X.K X.mg X.base [a, fnd, err] x sg g cdg X.A X.stack s H C8.E0).nox) (i := 1) hnd rfl (.inl hlf) pe_non) (pss_cons (ps_fzX (ps_try_pin (X := (cxOf C8.CX0 X.prog X.w X.K X.mg X.base [a, fnd, err] x sg g cdg X.A X.stack s H C8.E0).nox) (c := cW) (i := 2)
      (tb := fun W D σ H => ∃ Ech : XK, (∀ cls d σ' H', Ech cls d H' → σ'.length = 3 → W cls d σ' H') ∧ σ[0]? = some (some (.ref f)) ∧ H c' = some (LamX.CodeO c' q) ∧ ∃ Qn : VK, (∀ v H', Qn v H' → D.nx σ H') ∧ tl Ech H Qn)
      (ts := fun a D σ H => σ[2]? = some (some (.ref a)) ∧ D.nx (σ.set 1 (some (.ref a))) H)
      rfl rfl hnd rfl hle ⟨hgl, hde, .inl hme⟩ rfl (fun W pn xe tk _ => ?_) (fun a oe pn _ => pss_one (ps_weak (ps_set (i := 1) hnd rfl (.inl hlf) (pe_var (i := 2) rfl (.inl hle) dr.1 dr.2)) fun D σ H z => ?_)))) (pss_one (ps_ret (pe_var (i := 1) rfl (.inl hlf) df.1 df.2)))), ?_⟩
  · refine ⟨fun pins s' σ H' D I h' => ?_⟩
    obtain ⟨Ech, hW, h1, h2, Qn, hQ, h3⟩ := h'
    have hp := act _ pn xe Ech p1 p2 (takes_len tk) fun cls d σ' H' z l => hW cls d σ' H' z l
    exact (pss_one (ps_expr (pos := p3) (pe_imp hp))).run pins s' σ H' D I ⟨Qn, ⟨h1, h2, h3⟩, hQ⟩
  · exact ⟨_, z.1, z.2⟩
  · refine ⟨_, fun cls d σ' H' z l => ?_, rfl, hc, _, fun v H' z => ?_, h⟩
    · refine ⟨z.1, fun a oe na zc hf => ⟨by rw [List.getElem?_set_self (by omega)], ?_⟩⟩
      have e1 : (((σ'.set 2 (some (V.ref a))).set 1 (some (V.ref a))).set 2 none)[1]? = some (some (V.ref a)) := by
        rw [List.getElem?_set_ne (by decide), List.getElem?_set_self (by rw [List.length_set]; omega)]
      rcases z.2 a oe na zc hf with q | ⟨dd, fs, e, q⟩
      · exact .inl ⟨_, e1, q⟩
      · exact .inr ⟨dd, fs, e, fun od => ⟨_, e1, q od⟩⟩
    · exact .inl ⟨.non, rfl, z⟩

/-! ### x(lambda: body), over data -/
/-- a lambda's body: what it does, what it raises -/
def liftX (K : PySem.W.Frag) (T : List (Addr × Str)) (de : XCont → DE) (E : XK) : TE := fun σ H Q => ∃ Γ M Φ Ξ, EnvOk K T Γ M σ H ∧ de Ξ Γ M Φ ∧ Goes K T H Φ Q ∧ GoesX K T H Ξ E
def dCaught (ok : Addr → Prop) (de : XCont → DE) : DE := fun Γ M Φ => de (fun C fs M' => ok C ∧ Φ (.exc C fs) M') Γ M (fun _ M' => Φ .non M')
theorem MOk.ne {K : PySem.W.Frag} {H : Hp} {M : Mem} (m : MOk K H M) {p : Addr} {o : HO} (h : H p = some o) (c : ¬ Chg o) : M p = none := by
  cases q : M p with
  | none => rfl
  | some u =>
    obtain ⟨o', h1, h2⟩ := m p u q
    rw [h] at h1
    cases h1
    exact absurd h2.chg c
theorem xd_kp {T : List (Addr × Str)} {H : Hp} {dd : Addr} {od : Obj} {fs : List (Str × V)} (h : H dd = some (.xd fs)) : Kp T H (upd H dd (.frz od (.xd fs))) := by
  have ne : ∀ b w, H b = some w → (∀ fs, w ≠ .xd fs) → b ≠ dd := fun b w e nc z => by subst z; rw [h] at e; cases e; exact nc fs rfl
  refine ⟨fun b xs e => ?_, fun b o u e => ?_, fun t q hq => ?_⟩
  · rw [upd_ne (ne b _ e fun fs z => by cases z)]; exact e
  · rw [upd_ne (ne b _ e fun fs z => by cases z)]; exact e
  · obtain ⟨ps, h1, h2, h3⟩ := t q hq
    refine ⟨ps, by rw [upd_ne (ne _ _ h1 fun fs z => by cases z)]; exact h1, h2, fun pos cv hc => ?_⟩
    obtain ⟨c0, e1, e2⟩ := h3 pos cv hc
    exact ⟨c0, e1, by rw [upd_ne (ne _ _ e2 fun fs z => by unfold LamX.CodeO at z; cases z)]; exact e2⟩
theorem MOk.kp {K : PySem.W.Frag} {T : List (Addr × Str)} {H H' : Hp} {M : Mem} (m : MOk K H M) (k : Kp T H H') (h : ∀ b o, H b = some o → Chg o → H' b = some o) : MOk K H' M := fun a u q => by
  obtain ⟨o, h1, h2⟩ := m a u q
  exact ⟨o, h _ _ h1 h2.chg, h2.mono k⟩
/-- the making of a lambda: only tables change -/
theorem extN_kp {T : List (Addr × Str)} {H H' : Hp} (e : LamX.ExtN H H') (t : LamX.Tabs T H') : Kp T H H' := ⟨fun b xs h => e b _ h (fun ps z => by cases z), fun b o u h => e b _ h (fun ps z => by cases z), fun _ => t⟩
theorem xl_callX {X : Cx} {T : List (Addr × Str)} {x : Str} {k n : Nat} {fs : FSX} {p pos : Pos} {e : Expr} {es : List Expr} {da : DA} {E : XK} (h : HasX X.prog X.w X.K X.mg X.base T x k n fs) (tk : Takes X (fun cls d _ H => E cls d H)) (hr : Room k X.A) (hg : Gl X x) (ha : XA X T (e :: es) da) (hdb : (x == ("__debug__" : Str)) = false := by decide)
    (he : starEach (e :: es) X.env = (false, eval e X.env) :: starEach es X.env := by rfl) (hpl : (backTo pos (starEach es X.env)).any (·.1) = false := by rfl) : PE X (.Call (.Name x p) (e :: es) [] pos) (liftX X.K T (fun Ξ => dCallX fs Ξ da) E) := by
  obtain ⟨len, f, fd, ps, hn, F, hm, hk, hb⟩ := h
  refine pe_weak (pe_call F hr hg hm hk hb .nil (passes_call tk fun _ _ _ _ z => z) ha hdb he hpl) fun σ H Q q => ?_
  obtain ⟨Γ, M, Φ, Ξ, env, h, g, gx⟩ := q
  refine ⟨Γ, M, _, env, h, fun vs H1 ds M1 φ1 k1 m1 r1 => ?_⟩
  show FSpX X.K T n fs (vs ++ []) H1 Q E
  rw [List.append_nil]
  exact ⟨ds, M1, Φ, _, by rw [r1.length]; exact len _ _ _ _ φ1, r1, m1, k1.tab env.tab, φ1, g.from k1, gx.from k1⟩
section
variable {X : Cx} {T : List (Addr × Str)}
theorem xe_caught {x a fnd err we : Str} {g c P : Addr} {k j : Nat} {pg : Arguments} {sg : Scope} {dV kV doc pm cdv ct oc cW : Value} {an od : Option Addr} {osl : Array (Option Value)} {Ng : List Str} {ok : Addr → Prop} {de : XCont → DE}
    {p1 p2 p3 p4 p5 p6 p7 p8 p9 pa pb pc pd pe : Pos}
    {params : Arguments} {body : Expr} {scope : Scope} {p lpos pos : Pos} (hg : Gl X x) (hm : X.mg x = some (.ref g)) (hk : PySem.W.keepIn X.K (.ref g) = true)
    (lk : X.K.lookup g = some ⟨oc, od, .func (PySem.W.fnOf x x pg [.Assign [.Name fnd pa] (.Constant .none j pb) pc, .Try [.Expr (.Call (.Name a p1) [] [] p2) p3] [.ExceptHandler (some (.Name we p4)) (some err) [.Assign [.Name fnd p5] (.Name err p6) p9] p7] [] [] p8, .Return (some (.Name fnd pd)) pe] sg dV kV doc pm an cdv ct), osl⟩)
    (hcg : PySem.W.codeIn X.K cdv x = true) (hb : L2.Binds X.K (PySem.W.fnOf x x pg [.Assign [.Name fnd pa] (.Constant .none j pb) pc, .Try [.Expr (.Call (.Name a p1) [] [] p2) p3] [.ExceptHandler (some (.Name we p4)) (some err) [.Assign [.Name fnd p5] (.Name err p6) p9] p7] [] [] p8, .Return (some (.Name fnd pd)) pe] sg dV kV doc pm an cdv ct) [a] []) (Sg : FnScope Ng [a] sg)
    (hN : Ng = [a, fnd, err]) (hnd : Ng.Nodup) (hva : Vis sg a) (hlf : sg.names.lookup fnd = some .local) (hle : sg.names.lookup err = some .local)
    (hge : sg.names.lookup we = some .globalImplicit) (hme : X.mg we = some cW) (hde : (we == ("__debug__" : Str)) = false)
    (df : (fnd == ("__debug__" : Str)) = false ∧ (fnd == ("__classdict__" : Str)) = false) (dr : (err == ("__debug__" : Str)) = false ∧ (err == ("__classdict__" : Str)) = false)
    (hok : ∀ C, ok C → PySem.W.exmOne X.K (.ref C) cW = some true)
    (TB : LamX.TabB X.base X.mg c P) (hcode : X.env.code = .ref c) (hmT : (P, X.env.qual ++ "<lambda>") ∈ T) (hu : ∀ p ∈ T, p.1 = P → p.2 = X.env.qual ++ "<lambda>") (hr : Room (k + 2) X.A) (L : LamX.LamS X.env.scope scope) (hdef : defaultsOf params X.env = ([], []))
    (hbind : ∀ (q : Str) (cl : List (Str × Addr)) (pm cv ctv : Value), bindArgs (PySem.W.kla_fn "<lambda>" q params body scope cl pm cv ctv) ⟨[], []⟩ = pure [])
    (hbody : ∀ (A : Around) (outer : List Env) (s : Shared) (H : Hp) (E : XK) (f c' : Addr), Room k (A.deeper (LamX.lamEnv X scope s.heap.objs.size f c')) → Takes (LamX.lamCx X A outer s H E scope f c') (fun cls d _ H => E cls d H) → PE (LamX.lamCx X A outer s H E scope f c') body (liftX X.K T de E))
    (hdb : (x == ("__debug__" : Str)) = false := by decide) (hd : (a == ("__debug__" : Str)) = false := by decide) (hcd : (a == ("__classdict__" : Str)) = false := by decide) :
    XE X T (.Call (.Name x p) [.Lambda params body scope lpos] [] pos) (dCaught ok de) := by
  refine pe_weak (LamX.pe_lamcall (T := T) (a := a) (Ng := Ng) hg hm hk lk hcg hb Sg (by rw [hN]; rfl) hva (caught_gives (cW := cW) hN hnd hlf hle hge hme hde df dr) TB hcode hmT hu hr L hdef hbind (fun A outer s H E f c' hr' => hbody A outer s H E f c' hr' (takes_of rfl rfl rfl rfl)) hdb hd hcd) fun σ H Q q => ?_
  obtain ⟨Γ, M, Φ, env, h, g⟩ := q
  refine ⟨env.tab, fun H1 eN t1 => ?_⟩
  have k1 : Kp T H H1 := extN_kp eN t1
  have m1 : MOk X.K H1 M := env.mem.kp k1 fun b o h c => eN b o h fun ps z => by subst z; exact c
  refine ⟨Γ, M, _, _, env.go k1 m1, h, fun v H' d M' φ k m r => g .non H' .non M' φ (k1.trans k) m .non, fun C fs M' cls d H' φ k m r => ?_⟩
  obtain ⟨hC, φ⟩ := φ
  obtain ⟨rfl, r⟩ := r
  refine ⟨hok C hC, fun a oe na zc hf => ?_⟩
  have k2 : Kp T H' (upd H' a (pinO a oe)) := .new na
  rcases r with ⟨rfl, rfl⟩ | ⟨dd, vs, rfl, hd, rf⟩
  · exact .inl (g _ _ _ _ φ ((k1.trans k).trans k2) (m.new na) (.exc (fs := []) ⟨oe, none, _, upd_same, zc, hf, .inl ⟨rfl, rfl⟩⟩ .nil))
  · have nad : dd ≠ a := fun z => by rw [z, na] at hd; cases hd
    have hd2 : (upd H' a (pinO a oe)) dd = some (.xd vs) := by rw [upd_ne nad]; exact hd
    refine .inr ⟨dd, vs, hd2, fun od => ?_⟩
    have k3 : Kp T (upd H' a (pinO a oe)) (upd (upd H' a (pinO a oe)) dd (.frz od (.xd vs))) := xd_kp hd2
    refine g _ _ _ _ φ (((k1.trans k).trans k2).trans k3) ((m.new na).kp k3 fun b o h c => ?_) (.exc ⟨oe, some dd, _, k3.frz _ _ _ upd_same, zc, hf, .inr ⟨dd, od, rfl, upd_same⟩⟩ (rf.mono (k2.trans k3)))
    rw [upd_ne fun z => ?_]
    · exact h
    · subst z
      rw [hd2] at h
      cases h
      exact c
end
end DL

/-! DLl: exceptions as data: isinstance, fields. -/
namespace DL
open PySem PySem.Spec PyProof.Rows L2
/-- what must be known of an own class, so that its exceptions may be held as data -/
structure ExcD (K : PySem.W.Frag) (C : Addr) : Prop where
  isi : ExcC K C
  fld : XfC K C
section
variable {X : Cx} {T : List (Addr × Str)} {pins : List (Addr × Obj)} {σ : Sg} {H : Hp} {s : Shared}
theorem exc_inst {a C : Addr} {fs : List (Str × V)} (I : Inv X pins σ H s) (h : ExcAt H a C fs) : ∃ oe od, PySem.W.InstAt s.heap a oe C od ∧ ((od = none ∧ fs = []) ∨ ∃ dd o mA, od = some o ∧ s.heap.Ns1 dd mA ∧ s.heap.get? dd = some o ∧ ∀ f, RelO (fs.lookup f) (mA f)) := by
  obtain ⟨oe, d, φ, h1, h2, ⟨vs, h3⟩, h4⟩ := h
  have e1 : s.heap.get? a = some oe := (I.hok a _ h1).1
  have nc : PySem.W.notCls oe = true := by unfold PySem.W.notCls; rw [h3] <;> rfl
  rcases h4 with ⟨rfl, rfl⟩ | ⟨dd, od, rfl, h4⟩
  · exact ⟨oe, none, ⟨e1, h2.1, nc, by rw [h2.2]; trivial⟩, .inl ⟨rfl, rfl⟩⟩
  · have q := I.hok dd _ h4
    obtain ⟨e2, mA, hn, hr⟩ := q
    exact ⟨oe, some od, ⟨e1, h2.1, nc, by rw [h2.2]; exact e2⟩, .inr ⟨dd, od, mA, rfl, hn, e2, hr⟩⟩
def rIsX (K : PySem.W.Frag) : List V → Hp → VK → Prop := fun xs H Q => ∃ (a C : Addr) (fs : List (Str × V)) (c : V) (cv : Value) (b : Bool), xs = [.ref a, c] ∧ ExcAt H a C fs ∧ ExcC K C ∧ (∀ u, RelV c u → u = cv) ∧ PySem.W.kitOne K (.ref C) cv = some b ∧ Q (.bl b) H
theorem call_isX : CallR X (.builtin "isinstance") (rIsX X.K) := by
  intro pins s σ H xs us Q I r h
  obtain ⟨a, C, fs, c, cv, b, rfl, ha, F, hcv, e, q⟩ := h
  obtain ⟨oe, od, J, _⟩ := exc_inst I ha
  cases r with
  | cons rx rr =>
    cases rr with
    | cons rt rr =>
      cases rr
      cases rx
      have ec := hcv _ rt
      subst ec
      obtain ⟨cd, hcd, _⟩ := PySem.W.any_some F.hd
      exact PySem.W.kia_one (PySem.W.kitx_exc (by rw [hcd]; rfl) F.hg F.hk F.hs F.ha F.hn F.ht F.hm) I.kIn J e (fun z => nomatch z) fun tk => ⟨.bl b, H, I.kept (t' := tk) fun _ _ z => z, rfl, q⟩
def fIsX (K : PySem.W.Frag) : List D → Mem → Cont → Prop := fun ds M Φ => match ds with
  | [.exc C _, .ptr A] => ExcC K C ∧ ∃ b, PySem.W.kitOne K (.ref C) (.ref A) = some b ∧ Φ (.bl b) M
  | [.exc C _, .ty n] => ExcC K C ∧ ∃ b, PySem.W.kitOne K (.ref C) (.type n) = some b ∧ Φ (.bl b) M
  | _ => False
theorem d_isX : CRD X.K T (rIsX X.K) (fIsX X.K) := by
  intro xs ds H M Φ Q r m q g
  unfold fIsX at q
  split at q
  · obtain ⟨F, b, h1, φ⟩ := q
    obtain ⟨v, u, rfl, rv, ru⟩ := reps2 r
    cases ru
    cases rv with
    | exc h2 h3 => exact ⟨_, _, _, _, _, b, rfl, h2, F, fun _ z => z, h1, g.now m φ (.bl _)⟩
  · obtain ⟨F, b, h1, φ⟩ := q
    obtain ⟨v, u, rfl, rv, ru⟩ := reps2 r
    cases ru
    cases rv with
    | exc h2 h3 => exact ⟨_, _, _, _, _, b, rfl, h2, F, fun _ z => z, h1, g.now m φ (.bl _)⟩
  · exact q.elim
theorem repF_lookup {K : PySem.W.Frag} {n : Str} {d : D} : ∀ {fs : List (Str × V)} {ds : List (Str × D)}, RepF K H fs ds → ds.lookup n = some d → ∃ v, fs.lookup n = some v ∧ Rep K H v d
  | _, _, .nil, e => by simp at e
  | _, _, .cons (k := k) r t, e => by
    rw [List.lookup_cons] at e ⊢
    cases h : n == k with
    | true => rw [h] at e; cases e; exact ⟨_, rfl, r⟩
    | false => rw [h] at e; exact repF_lookup t e
def dAttr (K : PySem.W.Frag) (n : Str) (de : DE) : DE := fun Γ M Φ => de Γ M fun d M1 => match d with
  | .exc C fs => XfC K C ∧ PySem.W.findIn K (.ref C) n = some none ∧ ∃ e, fs.lookup n = some e ∧ Φ e M1
  | _ => False
theorem xe_attr {e : Expr} {n : Str} {de : DE} {pos : Pos} (he : XE X T e de) (hb : attributeBase e n X.env (eval e X.env) = eval e X.env := by rfl) : XE X T (.Attribute e n pos) (dAttr X.K n de) := by
  refine ⟨fun pins s σ H Q I q => ?_⟩
  obtain ⟨Γ, M, Φ, env, h, g⟩ := q
  refine attr_of hb (thn (he.run pins s σ H (fun v H1 => ∃ a C fs v', v = .ref a ∧ ExcAt H1 a C fs ∧ XfC X.K C ∧ PySem.W.findIn X.K (.ref C) n = some none ∧ fs.lookup n = some v' ∧ Q v' H1) I ⟨Γ, M, _, env, h, fun v H1 d M1 φ k m r => ?_⟩) fun u s1 hh => ?_)
  · split at φ
    · cases r with
      | exc h2 h3 =>
        obtain ⟨F, hn, d', hl, φ⟩ := φ
        obtain ⟨v', h4, h5⟩ := repF_lookup h3 hl
        exact ⟨_, _, _, v', rfl, h2, F, hn, h4, g _ _ _ _ φ k m h5⟩
    · exact φ.elim
  · obtain ⟨v, H1, I1, rv, a, C, fs, v', rfl, ha, F, hn, hl, q⟩ := hh
    obtain rfl : u = Value.ref a := rv
    obtain ⟨oe, od, J, h4⟩ := exc_inst I1 ha
    rcases h4 with ⟨rfl, rfl⟩ | ⟨dd, o, mA, rfl, hns, ho, hr⟩
    · cases hl
    · obtain ⟨o2, ho2, hl2⟩ := lookIn_ns hns
      rw [ho] at ho2
      cases ho2
      obtain ⟨w, hw, rw'⟩ := RelO.some_of (v := v') (o := mA n) (by rw [← hl]; exact hr n)
      exact HandSPX.exc_get I1.kIn J F.ga F.gg F.exC (PySem.W.findObj_own F.hdC hn rfl (by rw [hl2, hw])) (handed_of rw') ⟨v', H1, I1.tok _, rw', q⟩
end
end DL

/-! DLm: zip, {}, defs that make lambdas, the law's own def. -/
namespace DL
open PySem PySem.Spec PyProof.Rows L2
def zipD (xs ys : List D) : List D := List.zipWith (fun a b => D.tup [a, b]) xs ys
theorem zipD_at {xs ys : List D} {i : Nat} {e : D} (h : (zipD xs ys)[i]? = some e) : ∃ a b, xs[i]? = some a ∧ ys[i]? = some b ∧ e = .tup [a, b] := by
  unfold zipD at h
  rw [List.getElem?_zipWith] at h
  cases h1 : xs[i]? with
  | none => rw [h1] at h; simp at h
  | some a =>
    cases h2 : ys[i]? with
    | none => rw [h1, h2] at h; simp at h
    | some b => rw [h1, h2] at h; simp at h; exact ⟨a, b, rfl, rfl, h.symm⟩
def diZip (da : DA) : DI := fun Γ M Φ => da Γ M fun ds M1 => match ds with
  | [.lst xs, .lst ys] => Φ (zipD xs ys) M1
  | [.tup xs, .tup ys] => Φ (zipD xs ys) M1
  | _ => False
section
variable {X : Cx} {T : List (Addr × Str)} {pos : Pos}
theorem xi_zip {e e2 : Expr} {da : DA} {p tpos : Pos} {elts : List Expr} {kk : Nat} (hg : Gl X "zip") (hm : X.mg "zip" = none) (ha : XA X T [e, e2] da)
    (hs : starEach [e, e2] X.env = (false, eval e X.env) :: starEach [e2] X.env := by rfl) (hpl : (backTo pos (starEach [e2] X.env)).any (·.1) = false := by rfl) :
    XI X T (.Tuple elts kk tpos) (.Call (.Name "zip" p) [e, e2] [] pos) (diZip da) := pi_weak (RZ.pi_zipA hg hm ha hs hpl) fun σ H R q => by
  obtain ⟨Γ, M, Φ, env, h, k⟩ := q
  refine ⟨Γ, M, _, env, h, fun vs H1 ds M1 φ1 k1 m1 r1 => ?_⟩
  have fin : ∀ {i : Nat} {vx vy : List V} {xs ys : List D} {d : D} {H2 : Hp}, Reps X.K H1 vx xs → Reps X.K H1 vy ys → Kp T H1 H2 → (zipD xs ys)[i]? = some d → ∃ x y, vx[i]? = some x ∧ vy[i]? = some y ∧ ∀ T0, H2 T0 = none → Rep X.K (upd H2 T0 (.tup [x, y])) (.ref T0) d := fun {i vx vy xs ys d H2} rx ry k2 hd => by
    obtain ⟨a, b, h1, h2, rfl⟩ := zipD_at hd
    obtain ⟨x, hx, qx⟩ := rx.get h1
    obtain ⟨y, hy, qy⟩ := ry.get h2
    refine ⟨x, y, hx, hy, fun T0 hT => ?_⟩
    have kn : Kp T H2 (upd H2 T0 (.tup [x, y])) := .new hT
    exact .tup upd_same (.cons ((qx.mono k2).mono kn) (.cons ((qy.mono k2).mono kn) .nil))
  have len : ∀ {vx vy : List V} {xs ys : List D}, Reps X.K H1 vx xs → Reps X.K H1 vy ys → vx.length ≤ (zipD xs ys).length ∨ vy.length ≤ (zipD xs ys).length := fun {vx vy xs ys} rx ry => by
    unfold zipD
    rw [List.length_zipWith, rx.length, ry.length]
    omega
  split at φ1
  · rename_i xs ys
    obtain ⟨v, u, rfl, rv, ru⟩ := reps2 r1
    cases rv with
    | @lst a vx _ hf hr =>
      cases ru with
      | @lst b vy _ hf2 hr2 =>
        refine ⟨a, b, vx, vy, rfl, .inl ⟨.inl (.inr hf), .inl (.inr hf2), k _ _ _ _ φ1 k1 m1 fun H2 k2 => ?_⟩⟩
        have s1 := sq_still (K := X.K) (T := T) (.inr hf) H2 k2
        have s2 := sq_still (K := X.K) (T := T) (.inr hf2) H2 k2
        refine ⟨fun i d hd => ?_, ⟨vx, vy, s1, s2, len hr hr2⟩⟩
        obtain ⟨x, y, hx, hy, q⟩ := fin hr hr2 k2 hd
        refine ⟨⟨vx, vy, x, y, s1, s2, hx, hy⟩, fun z H3 w => ?_⟩
        obtain ⟨T0, x', y', rfl, hT, rfl, w1, w2⟩ := w
        have e1 := w1 vx s1; rw [hx] at e1; cases e1
        have e2 := w2 vy s2; rw [hy] at e2; cases e2
        exact ⟨fun a u q => by rw [upd_ne (ne_of_none q hT)]; exact q, q T0 hT⟩
  · rename_i xs ys
    obtain ⟨v, u, rfl, rv, ru⟩ := reps2 r1
    cases rv with
    | @tup a vx _ hf hr =>
      cases ru with
      | @tup b vy _ hf2 hr2 =>
        refine ⟨a, b, vx, vy, rfl, .inr ⟨.of hf, .of hf2, k _ _ _ _ φ1 k1 m1 fun H2 k2 => ?_⟩⟩
        have s1 : SqT X.K H2 a vx := .of (k2.tup _ _ hf)
        have s2 : SqT X.K H2 b vy := .of (k2.tup _ _ hf2)
        refine ⟨fun i d hd => ?_, ⟨vx, vy, s1, s2, len hr hr2⟩⟩
        obtain ⟨x, y, hx, hy, q⟩ := fin hr hr2 k2 hd
        refine ⟨⟨vx, vy, x, y, s1, s2, hx, hy⟩, fun z H3 w => ?_⟩
        obtain ⟨T0, x', y', rfl, hT, rfl, w1, w2⟩ := w
        have e1 := w1 vx s1; rw [hx] at e1; cases e1
        have e2 := w2 vy s2; rw [hy] at e2; cases e2
        exact ⟨fun a u q => by rw [upd_ne (ne_of_none q hT)]; exact q, q T0 hT⟩
  · exact φ1.elim
/-- {} that stays -/
theorem xe_dict0 : XE X T (.Dict [] [] pos) (dC (.dic [])) := pe_weak (pe_fz pe_dnewK) fun σ H Q q => by
  obtain ⟨Γ, M, Φ, env, h, g⟩ := q
  refine fun p np => .inl ⟨p, _, rfl, upd_same, True.intro, fun ob => ?_⟩
  rw [upd_upd]
  have kk : Kp T H (upd H p (.frz ob (.dK []))) := .new np
  exact g _ _ _ _ h kk (env.mem.new np) (.dic ⟨ob, upd_same⟩ .nil)
end
/-! ### a def that makes lambdas: its code object is known -/
theorem okDL {P : Program} {w : World} {K : PySem.W.Frag} {mg : Str → Option Value} {base : Heap} {T : List (Addr × Str)} {x qual : Str} {st : Stmt} {f c : Addr} {kV doc pm ct oc : Value} {an od : Option Addr} {osl : Array (Option Value)} {N ps : List Str} {k : Nat} {fs : FS}
    (lk : K.lookup f = some ⟨oc, od, .func (PySem.W.fnOf x qual (defArgs st) (defBody st) (defScope st) .none kV doc pm an (.ref c) ct), osl⟩) (hcd : PySem.W.codeIn K (.ref c) qual = true) (hkp : PySem.W.keepIn K (.ref f) = true) (S : FnScope N ps (defScope st)) (hm : mg x = some (.ref f))
    (hb : L2.Binds K (PySem.W.fnOf x qual (defArgs st) (defBody st) (defScope st) .none kV doc pm an (.ref c) ct) ps [])
    (len : ∀ ds M Φ, fs ds M Φ → ds.length = ps.length)
    (body : ∀ (A : Around) (outer : List Env) (s : Shared) (H : Hp) (E : XK), Room k (A.deeper (envOfC qual (defScope st) s.heap.objs.size f (.ref c))) →
      ∃ dsb, XSs (cxOf CX0 P w K mg base N qual (defScope st) f (.ref c) A outer s H E).nox T (defBody st) dsb ∧ ∀ ds M Φ, fs ds M Φ → dsb { nx := fun _ M' => drp Φ .non M', rt := drp Φ } (startG N ds) M) :
    Has P w K mg base T x (k + 1) ps.length fs := by
  refine ⟨len, f, _, ps, rfl, fn_of lk hcd S (fun vs H Q E h => ?_) (fun A outer s H vs Q E hr h => ?_), hm, hkp, hb⟩
  · obtain ⟨ds, M, Φ, h, _⟩ := h
    exact h
  · obtain ⟨ds, M, Φ, hl, r, m, t, h, g⟩ := h
    obtain ⟨dsb, hx, hd⟩ := body A outer s H E hr
    refine ⟨_, hx.nox, startG N ds, M, _, start_env r m t, hd ds M Φ h, fun σ' H' Γ' M' φ k' e' => ?_, fun _ _ _ _ φ => φ.elim, fun _ _ _ _ φ => φ.elim, g.drp⟩
    exact g.drp _ _ _ _ φ k' e'.mem .non
end DL

/-! DLn: what is known of the own classes, of the catcher, of defs that make lambdas. -/
namespace DL
open PySem PySem.Spec PyProof.Rows L2
/-- an own exception class without own __init__ -/
structure ExcS (K : PySem.W.Frag) (mg : Str → Option Value) (x : Str) (C : Addr) : Prop where
  q : PySem.W.excIn K C [.type "ValueError", .type "Exception", .type "BaseException", .type "object"] "ValueError.__new__" = true
  gx : mg x = some (.ref C)
  kC : PySem.W.keepIn K (.ref C) = true
  sB : PySem.W.subIn K (.ref C) (.type "BaseException") = some true
  tT : PySem.W.typeIn K (.ref C) = some (.type "type")
theorem ExcS.mk_ {X : Cx} {x m : Str} {C : Addr} {j : Nat} {p p2 pos : Pos} (S : ExcS X.K X.mg x C) (hg : Gl X x) (hdb : (x == ("__debug__" : Str)) = false := by decide) : PMk X (.Call (.Name x p) [.Constant (.str m) j p2] [] pos) (fun _ H Q => Q (.ref C) none H) :=
  pmk_own F.excBase_ValueError S.q S.gx S.kC (raises_own S.sB S.tT) hg hdb
/-- a def that makes lambdas -/
structure LamK (base : Heap) (mg : Str → Option Value) (T : List (Addr × Str)) (c P : Addr) (q : Str) : Prop where
  tb : LamX.TabB base mg c P
  mem : (P, q ++ "<lambda>") ∈ T
  un : ∀ p ∈ T, p.1 = P → p.2 = q ++ "<lambda>"
/-- the catcher -/
structure CaughtK (K : PySem.W.Frag) (mg : Str → Option Value) (st : Stmt) (g : Addr) (cW : Value) (ok : Addr → Prop) : Prop where
  gx : mg "_law_caught" = some (.ref g)
  kp : PySem.W.keepIn K (.ref g) = true
  ex : ∃ (oc : Value) (od : Option Addr) (kV doc pm : Value) (an : Option Addr) (cdv ct : Value) (osl : Array (Option Value)),
    K.lookup g = some ⟨oc, od, .func (PySem.W.fnOf "_law_caught" "_law_caught" (defArgs st) (defBody st) (defScope st) .none kV doc pm an cdv ct), osl⟩ ∧ PySem.W.codeIn K cdv "_law_caught" = true ∧
    L2.Binds K (PySem.W.fnOf "_law_caught" "_law_caught" (defArgs st) (defBody st) (defScope st) .none kV doc pm an cdv ct) ["action"] []
  we : mg "WebError" = some cW
  hok : ∀ C, ok C → PySem.W.exmOne K (.ref C) cW = some true
/-- how the catcher is written -/
def CaughtS (st : Stmt) : Prop := ∃ (j : Nat) (p1 p2 p3 p4 p5 p6 p7 p8 p9 pa pb pc pd pe : Pos),
  defBody st = [.Assign [.Name "found" pa] (.Constant .none j pb) pc, .Try [.Expr (.Call (.Name "action" p1) [] [] p2) p3] [.ExceptHandler (some (.Name "WebError" p4)) (some "error") [.Assign [.Name "found" p5] (.Name "error" p6) p9] p7] [] [] p8, .Return (some (.Name "found" pd)) pe]
theorem xe_lam {X : Cx} {T : List (Addr × Str)} {st : Stmt} {g c P : Addr} {cW : Value} {ok : Addr → Prop} {k : Nat} {de : XCont → DE} {params : Arguments} {body : Expr} {scope : Scope} {p lpos pos : Pos} (C : CaughtK X.K X.mg st g cW ok) (S : CaughtS st) (L : LamK X.base X.mg T c P X.env.qual) (hg : Gl X "_law_caught")
    (Sg : FnScope ["action", "found", "error"] ["action"] (defScope st)) (hva : Vis (defScope st) "action") (hlf : (defScope st).names.lookup ("found" : Str) = some .local) (hle : (defScope st).names.lookup ("error" : Str) = some .local) (hge : (defScope st).names.lookup ("WebError" : Str) = some .globalImplicit)
    (hcode : X.env.code = .ref c) (hr : Room (k + 2) X.A) (hL : LamX.LamS X.env.scope scope) (hdef : defaultsOf params X.env = ([], []))
    (hbind : ∀ (q : Str) (cl : List (Str × Addr)) (pm cv ctv : Value), bindArgs (PySem.W.kla_fn "<lambda>" q params body scope cl pm cv ctv) ⟨[], []⟩ = pure [])
    (hbody : ∀ (A : Around) (outer : List Env) (s : Shared) (H : Hp) (E : XK) (f c' : Addr), Room k (A.deeper (LamX.lamEnv X scope s.heap.objs.size f c')) → Takes (LamX.lamCx X A outer s H E scope f c') (fun cls d _ H => E cls d H) → PE (LamX.lamCx X A outer s H E scope f c') body (liftX X.K T de E)) :
    XE X T (.Call (.Name "_law_caught" p) [.Lambda params body scope lpos] [] pos) (dCaught ok de) := by
  obtain ⟨oc, od, kV, doc, pm, an, cdv, ct, osl, lk, hcd, hb⟩ := C.ex
  obtain ⟨j, p1, p2, p3, p4, p5, p6, p7, p8, p9, pa, pb, pc, pd, pe, hs⟩ := S
  rw [hs] at lk hb
  exact xe_caught (cW := cW) hg C.gx C.kp lk hcd hb Sg rfl (by decide +kernel) hva hlf hle hge C.we (by decide) (by decide) (by decide) C.hok L.tb hcode L.mem L.un hr hL hdef hbind hbody
end DL

/-! DLt: more steps. -/
namespace DL
open PySem PySem.Spec PyProof.Rows L2
theorem szl {n : Nat} (h : n ≤ 16777216) : n ≤ sizeLine := by rw [sizeLine_eq]; exact h
theorem szlt {n : Nat} (h : n < 16777216) : n < sizeLine := by rw [sizeLine_eq]; exact h
def varG (i : Nat) : DE := dVar i
section
variable {Γ : Gam} {M : Mem} {Φ : Cont} {i : Nat} {d : D}
theorem i_varG (k : varG i Γ M Φ) : dVar i Γ M Φ := k
theorem i_varK (h : Γ[i]? = some (some d)) (k : Φ d M) : varG i Γ M Φ := i_var h k
end
section
variable {M : Mem} {Φ : Cont} {a b c : D} {xs : List D}
theorem i_ixt0 (k : Φ a M) : fIx (.tup (a :: xs)) (.int 0) M Φ := ⟨a, by
  unfold atI ixN
  rw [if_pos (by omega), if_pos (by simp only [List.length_cons]; omega)]
  rfl, k⟩
theorem i_ixt1 (k : Φ b M) : fIx (.tup (a :: b :: xs)) (.int 1) M Φ := ⟨b, by
  unfold atI ixN
  rw [if_pos (by omega), if_pos (by simp only [List.length_cons]; omega)]
  rfl, k⟩
theorem i_ixt2 (k : Φ c M) : fIx (.tup (a :: b :: c :: xs)) (.int 2) M Φ := ⟨c, by
  unfold atI ixN
  rw [if_pos (by omega), if_pos (by simp only [List.length_cons]; omega)]
  rfl, k⟩
theorem i_ixl0 (k : Φ a M) : fIx (.lst (a :: xs)) (.int 0) M Φ := ⟨_, a, rfl, by
  unfold atI ixN
  rw [if_pos (by omega), if_pos (by simp only [List.length_cons]; omega)]
  rfl, k⟩
theorem i_ixl1 (k : Φ b M) : fIx (.lst (a :: b :: xs)) (.int 1) M Φ := ⟨_, b, rfl, by
  unfold atI ixN
  rw [if_pos (by omega), if_pos (by simp only [List.length_cons]; omega)]
  rfl, k⟩
end
section
variable {Γ Γw : Gam} {M : Mem} {Φ : Cont} {xs : List D} {dg : DG} {dt : DT} {de : DE} {di : DI} {vs : List Nat}
/-- a comprehension at its items -/
def lcG (Γw : Gam) (dg : DG) (dt : DT) (de : DE) (Φ : Cont) (xs : List D) (M1 : Mem) : Prop := ∀ p, M1 p = none → compRun p Γw dg dt de (fun acc M' => Φ (.lst acc) (M'.del p)) xs [] (M1.set p (.lst []))
def lcGM (Γw : Gam) (dg : DG) (dt : DT) (de : DE) (Φ : Cont) (xs : List D) (M1 : Mem) : Prop := ∀ p, M1 p = none → compRun p Γw dg dt de (fun acc M' => Φ (.ptr p) M') xs [] (M1.set p (.lst []))
theorem i_lcN (k : di Γ M fun xs M1 => lcG (wipeG Γ vs) dg dt de Φ xs M1) : dLc vs di dg dt de Γ M Φ := k
theorem i_lcNM (k : di Γ M fun xs M1 => lcGM (wipeG Γ vs) dg dt de Φ xs M1) : dLcM vs di dg dt de Γ M Φ := k
theorem lc_by (g : D → Option D) (hl : xs.length ≤ sizeLine) (hx : ∀ x ∈ xs, ∀ M' : Mem, Sub M M' → ∀ F : Option D → Mem → Prop, F (g x) M' → dg x Γw M' fun Γ2 M2 => dt Γ2 M2 fun b M3 => if b = true then de Γ2 M3 fun d M4 => F (some d) M4 else F none M3)
    (k : Φ (.lst (xs.filterMap g)) M) : lcG Γw dg dt de Φ xs M := comp_lc (Ψ := fun acc M' => Φ (.lst acc) M') g hl hx k
theorem lcM_by (g : D → Option D) (hl : xs.length ≤ sizeLine) (hx : ∀ x ∈ xs, ∀ M' : Mem, Sub M M' → ∀ F : Option D → Mem → Prop, F (g x) M' → dg x Γw M' fun Γ2 M2 => dt Γ2 M2 fun b M3 => if b = true then de Γ2 M3 fun d M4 => F (some d) M4 else F none M3)
    (k : ∀ p, M p = none → Φ (.ptr p) (M.set p (.lst (xs.filterMap g)))) : lcGM Γw dg dt de Φ xs M := fun p hp => comp_map (Φ := fun acc M' => Φ (.ptr p) M') g hx hl hp (k p hp)
/-- with effects: by an invariant; p is the list in the making -/
theorem lcI_by (W : Nat → List D → Mem → Prop) (h0 : W 0 [] M) (hl : xs.length ≤ sizeLine)
    (hs : ∀ (i : Nat) (x : D) (acc : List D) (M : Mem), xs[i]? = some x → W i acc M → ∀ p, M p = none → ∀ F : Option D → Mem → Prop, (∀ o M1, W (i + 1) (match o with | some d => acc ++ [d] | none => acc) M1 → M1 p = none → F o (M1.set p (.lst acc))) →
      dg x Γw (M.set p (.lst acc)) fun Γ2 M2 => dt Γ2 M2 fun b M3 => if b = true then de Γ2 M3 fun d M4 => F (some d) M4 else F none M3)
    (k : ∀ acc M1, W xs.length acc M1 → Φ (.lst acc) M1) : lcG Γw dg dt de Φ xs M := by
  intro p hp
  have key : ∀ (n i : Nat) (acc : List D) (M1 : Mem), i + n = xs.length → acc.length ≤ i → W i acc M1 → M1 p = none → compRun p Γw dg dt de (fun acc M' => Φ (.lst acc) (M'.del p)) (xs.drop i) acc (M1.set p (.lst acc)) := by
    intro n
    induction n with
    | zero =>
      intro i acc M1 e hz w np
      have e' : i = xs.length := by omega
      subst e'
      rw [List.drop_length]
      refine ⟨Mem.set_same, ?_⟩
      show Φ _ ((M1.set p _).del p)
      rw [del_set np]
      exact k acc M1 w
    | succ n ih =>
      intro i acc M1 e hz w np
      have hlt : i < xs.length := by omega
      rw [List.drop_eq_getElem_cons hlt]
      refine hs i xs[i] acc M1 (by simp [hlt]) w p np (fun o M4 => match o with
        | some d => M4 p = some (.lst acc) ∧ acc.length < sizeLine ∧ compRun p Γw dg dt de (fun acc M' => Φ (.lst acc) (M'.del p)) (xs.drop (i + 1)) (acc ++ [d]) (M4.set p (.lst (acc ++ [d])))
        | none => compRun p Γw dg dt de (fun acc M' => Φ (.lst acc) (M'.del p)) (xs.drop (i + 1)) acc M4) ?_
      intro o M2 w2 np2
      cases o with
      | some d =>
        refine ⟨Mem.set_same, by omega, ?_⟩
        rw [Mem.set_set]
        exact ih (i + 1) (acc ++ [d]) M2 (by omega) (by rw [List.length_append, List.length_singleton]; omega) w2 np2
      | none => exact ih (i + 1) acc M2 (by omega) (by omega) w2 np2
  exact key xs.length 0 [] M (by omega) (Nat.le_refl _) h0 hp
end
end DL

/-! DLu: the steps found by their heads (printed by mkstp.py). -/
namespace DL
open PySem PySem.Spec PyProof.Rows L2
class Stp (G : Prop) (K : outParam Prop) : Prop where
  go : K → G
section
variable {Γ Γw : Gam} {M : Mem} {Φ : Cont} {Ψ : Bool → Mem → Prop} {Θ : List D → Mem → Prop} {E : DEnds} {a b c d e : D} {i : Nat} {de da db dc : DE} {dt du : DT} {ds dr d1 d2 : DS} {aa : DA} {f f' : D → D → Mem → Cont → Prop} {fs : FS} {xs : List D} {dg : DG} {di : DI} {vs : List Nat}
instance st_i_c  : Stp (dC d Γ M Φ) (Φ d M) := ⟨i_c⟩
instance st_i_bin  : Stp (dBin f da db Γ M Φ) (da Γ M fun d M1 => db Γ M1 fun e M2 => f d e M2 Φ) := ⟨i_bin⟩
instance st_i_anil  : Stp (daNil Γ M Θ) (Θ [] M) := ⟨i_anil⟩
instance st_i_acons  : Stp (daCons de aa Γ M Θ) (de Γ M fun d M1 => aa Γ M1 fun ds M2 => Θ (d :: ds) M2) := ⟨i_acons⟩
instance st_i_cb {g : List D → Mem → Cont → Prop} : Stp (dCB g aa Γ M Φ) (aa Γ M fun ds M1 => g ds M1 Φ) := ⟨i_cb⟩
instance st_i_call  : Stp (dCall fs aa Γ M Φ) (aa Γ M fun ds M1 => fs ds M1 Φ) := ⟨i_call⟩
instance st_i_tup  : Stp (dTup aa Γ M Φ) (aa Γ M fun ds M1 => ds.length ≤ sizeLine ∧ Φ (.tup ds) M1) := ⟨i_tup⟩
instance st_i_lst  : Stp (dLst aa Γ M Φ) (aa Γ M fun ds M1 => ds.length ≤ sizeLine ∧ Φ (.lst ds) M1) := ⟨i_lst⟩
instance st_i_lstM  : Stp (dLstM aa Γ M Φ) (aa Γ M fun ds M1 => ds.length ≤ sizeLine ∧ ∀ p, M1 p = none → Φ (.ptr p) (M1.set p (.lst ds))) := ⟨i_lstM⟩
instance st_i_B  : Stp (dB de Γ M Ψ) (de Γ M fun d M1 => match d with
  | .bl b => Ψ b M1
  | _ => False) := ⟨i_B⟩
instance st_i_Bb {b : Bool} : Stp ((match (D.bl b) with
  | .bl b => Ψ b M
  | _ => False)) (Ψ b M) := ⟨i_Bb⟩
instance st_i_notT  : Stp (dNotT dt Γ M Ψ) (dt Γ M fun b M1 => Ψ (!b) M1) := ⟨i_notT⟩
instance st_i_andT  : Stp (dAndT dt du Γ M Ψ) (dt Γ M fun b M1 => if b = true then du Γ M1 Ψ else Ψ false M1) := ⟨i_andT⟩
instance st_i_orT  : Stp (dOrT dt du Γ M Ψ) (dt Γ M fun b M1 => if b = true then Ψ true M1 else du Γ M1 Ψ) := ⟨i_orT⟩
instance st_i_andV  : Stp (dAndV da db Γ M Φ) (da Γ M fun d M1 => match d with
  | .bl b => if b = true then db Γ M1 Φ else Φ (.bl false) M1
  | _ => False) := ⟨i_andV⟩
instance st_i_orV  : Stp (dOrV da db Γ M Φ) (da Γ M fun d M1 => match d with
  | .bl b => if b = true then Φ (.bl true) M1 else db Γ M1 Φ
  | _ => False) := ⟨i_orV⟩
instance st_i_notV  : Stp (dNotV da Γ M Φ) (da Γ M fun d M1 => match d with
  | .bl b => Φ (.bl (!b)) M1
  | _ => False) := ⟨i_notV⟩
instance st_i_if  : Stp (dIf dt da db Γ M Φ) (dt Γ M fun b M1 => if b = true then da Γ M1 Φ else db Γ M1 Φ) := ⟨i_if⟩
instance st_i_ifT {dv : DT} : Stp (dIfT dt du dv Γ M Ψ) (dt Γ M fun b M1 => if b = true then du Γ M1 Ψ else dv Γ M1 Ψ) := ⟨i_ifT⟩
instance st_i_chain  : Stp (dChain f f' da db dc Γ M Φ) (da Γ M fun x M1 => db Γ M1 fun y M2 => f x y M2 fun z M3 => match z with
  | .bl b => if b = true then dc Γ M3 fun w M4 => f' y w M4 Φ else Φ (.bl false) M3
  | _ => False) := ⟨i_chain⟩
instance st_i_itT {A B : Prop} : Stp (if true = true then A else B) (A) := ⟨i_itT⟩
instance st_i_itF {A B : Prop} : Stp (if false = true then A else B) (B) := ⟨i_itF⟩
instance st_i_itnT {A B : Prop} : Stp (if (!true) = true then A else B) (B) := ⟨i_itnT⟩
instance st_i_itnF {A B : Prop} : Stp (if (!false) = true then A else B) (A) := ⟨i_itnF⟩
instance st_i_seq  : Stp (dsSeq ds dr E Γ M) (ds { E with nx := fun Γ' M' => dr E Γ' M' } Γ M) := ⟨i_seq⟩
instance st_i_nil  : Stp (dsNil E Γ M) (E.nx Γ M) := ⟨i_nil⟩
instance st_i_expr  : Stp (dsExpr de E Γ M) (de Γ M fun _ M1 => E.nx Γ M1) := ⟨i_expr⟩
instance st_i_ret  : Stp (dsRet de E Γ M) (de Γ M E.rt) := ⟨i_ret⟩
instance st_i_ifs  : Stp (dsIf dt d1 d2 E Γ M) (dt Γ M fun b M1 => if b = true then d1 E Γ M1 else d2 E Γ M1) := ⟨i_ifs⟩
instance st_i_set  : Stp (dsSet i de E Γ M) (de Γ M fun d M1 => E.nx (Γ.set i (some d)) M1) := ⟨i_set⟩
instance st_i_par {j : Nat} : Stp (dsPar i j aa E Γ M) (aa Γ M fun ds M1 => match ds with
  | [a, b] => E.nx ((Γ.set i (some a)).set j (some b)) M1
  | _ => False) := ⟨i_par⟩
instance st_i_asgP {j : Nat} : Stp (dsAsgP i j de E Γ M) (de Γ M fun d M1 => match d with
  | .tup [a, b] => E.nx ((Γ.set i (some a)).set j (some b)) M1
  | _ => False) := ⟨i_asgP⟩
instance st_i_gName {Φ : Gam → Mem → Prop} : Stp (dgName i d Γ M Φ) (Φ (Γ.set i (some d)) M) := ⟨i_gName⟩
instance st_i_gPair {Φ : Gam → Mem → Prop} {j : Nat} {a b : D} : Stp (dgPair i j (.tup [a, b]) Γ M Φ) (Φ ((Γ.set i (some a)).set j (some b)) M) := ⟨i_gPair⟩
instance st_i_add {x y : Int} : Stp (fAdd (.int x) (.int y) M Φ) (Φ (.int (x + y)) M) := ⟨i_add⟩
instance st_i_sub {x y : Int} : Stp (fSub (.int x) (.int y) M Φ) (Φ (.int (x - y)) M) := ⟨i_sub⟩
instance st_i_neg  : Stp (dNeg da Γ M Φ) (da Γ M fun d M1 => match d with
  | .int i => Φ (.int (-i)) M1
  | _ => False) := ⟨i_neg⟩
instance st_i_cmp {p : Int → Int → Bool} {x y : Int} : Stp (fCmp p (.int x) (.int y) M Φ) (Φ (.bl (p x y)) M) := ⟨i_cmp⟩
instance st_i_eqi {x y : Int} : Stp (fEq (.int x) (.int y) M Φ) (Φ (.bl (decide (x = y))) M) := ⟨i_eqi⟩
instance st_i_eqs {x y : Str} : Stp (fEq (.str x) (.str y) M Φ) (Φ (.bl (decide (x = y))) M) := ⟨i_eqs⟩
instance st_i_eqb {x y : Bool} : Stp (fEq (.bl x) (.bl y) M Φ) (Φ (.bl (decide (x = y))) M) := ⟨i_eqb⟩
instance st_i_nei {x y : Int} : Stp (fNe (.int x) (.int y) M Φ) (Φ (.bl (!decide (x = y))) M) := ⟨i_nei⟩
instance st_i_nes {x y : Str} : Stp (fNe (.str x) (.str y) M Φ) (Φ (.bl (!decide (x = y))) M) := ⟨i_nes⟩
instance st_i_neb {x y : Bool} : Stp (fNe (.bl x) (.bl y) M Φ) (Φ (.bl (!decide (x = y))) M) := ⟨i_neb⟩
instance st_i_isN {x : D} : Stp (fIs x .non M Φ) (Φ (.bl (isNonD x)) M) := ⟨i_isN⟩
instance st_i_isB {x y : Bool} : Stp (fIs (.bl x) (.bl y) M Φ) (Φ (.bl (decide (x = y))) M) := ⟨i_isB⟩
instance st_i_isNotN {x : D} : Stp (fIsNot x .non M Φ) (Φ (.bl (!isNonD x)) M) := ⟨i_isNotN⟩
instance st_i_isNotB {x y : Bool} : Stp (fIsNot (.bl x) (.bl y) M Φ) (Φ (.bl (!decide (x = y))) M) := ⟨i_isNotB⟩
instance st_i_ins {c : Nat} {z : Str} : Stp (fIn (.str ⟨#[c]⟩) (.str z) M Φ) (Φ (.bl (decide (c ∈ z.cps.toList))) M) := ⟨i_ins⟩
instance st_i_notIns {c : Nat} {z : Str} : Stp (fNotIn (.str ⟨#[c]⟩) (.str z) M Φ) (Φ (.bl (!decide (c ∈ z.cps.toList))) M) := ⟨i_notIns⟩
instance st_i_neLF {ns : List Int} : Stp (fNe (.lst (ns.map .int)) (.lst []) M Φ) (Φ (.bl (!ns.isEmpty)) M) := ⟨i_neLF⟩
instance st_i_dput {dd di dv : DE} : Stp (dDPut dd di dv E Γ M) (dv Γ M fun v M1 => dd Γ M1 fun d M2 => di Γ M2 fun i M3 => ∃ p kvs key, d = .ptr p ∧ M3 p = some (.dK kvs) ∧ keyD i = some key ∧ kvs.length < sizeLine ∧ E.nx Γ (M3.set p (.dK (putD kvs key v)))) := ⟨i_dput⟩
instance st_i_sl {dl dh : DO} : Stp (dSl de dl dh Γ M Φ) (de Γ M fun d M1 => dl Γ M1 fun lo M2 => dh Γ M2 fun hi M3 => fSl d lo hi M3 Φ) := ⟨i_sl⟩
instance st_i_slM {dl dh : DO} : Stp (dSlM de dl dh Γ M Φ) (de Γ M fun d M1 => dl Γ M1 fun lo M2 => dh Γ M2 fun hi M3 => ∃ xs, lsD M3 d = some xs ∧ ∀ p, M3 p = none → Φ (.ptr p) (M3.set p (.lst (cutD xs lo hi)))) := ⟨i_slM⟩
instance st_i_oNo {Φ : Option Int → Mem → Prop} : Stp (doNo Γ M Φ) (Φ none M) := ⟨i_oNo⟩
instance st_i_oAt {Φ : Option Int → Mem → Prop} : Stp (doAt de Γ M Φ) (de Γ M fun d M1 => match d with
  | .int i => Φ (some i) M1
  | _ => False) := ⟨i_oAt⟩
instance st_i_slt {xs : List D} {lo hi : Option Int} : Stp (fSl (.tup xs) lo hi M Φ) (Φ (.tup (cutD xs lo hi)) M) := ⟨i_slt⟩
instance st_i_sll {xs : List D} {lo hi : Option Int} : Stp (fSl (.lst xs) lo hi M Φ) (Φ (.lst (cutD xs lo hi)) M) := ⟨i_sll⟩
instance st_i_rev  : Stp (dRev de Γ M Φ) (de Γ M fun d M1 => ∃ xs, lsD M1 d = some xs ∧ Φ (.lst xs.reverse) M1) := ⟨i_rev⟩
instance st_i_abs {x : Int} : Stp (fAbs [.int x] M Φ) (Φ (.int (x.natAbs : Int)) M) := ⟨i_abs⟩
instance st_i_max {x y : Int} : Stp (fMax2 [.int x, .int y] M Φ) (Φ (.int (max x y)) M) := ⟨i_max⟩
instance st_i_min {x y : Int} : Stp (fMin2 [.int x, .int y] M Φ) (Φ (.int (min x y)) M) := ⟨i_min⟩
instance st_i_int {x : Int} : Stp (fInt [.int x] M Φ) (Φ (.int x) M) := ⟨i_int⟩
instance st_i_lent {xs : List D} : Stp (fLen [.tup xs] M Φ) (Φ (.int (xs.length : Int)) M) := ⟨i_lent⟩
instance st_i_lenl {xs : List D} : Stp (fLen [.lst xs] M Φ) (Φ (.int (xs.length : Int)) M) := ⟨i_lenl⟩
instance st_i_lenc {xs : List D} : Stp (fLen [.scr xs] M Φ) (Φ (.int (xs.length : Int)) M) := ⟨i_lenc⟩
instance st_i_tupt {xs : List D} : Stp (fTuple [.tup xs] M Φ) (Φ (.tup xs) M) := ⟨i_tupt⟩
instance st_i_tupl {xs : List D} : Stp (fTuple [.lst xs] M Φ) (Φ (.tup xs) M) := ⟨i_tupl⟩
instance st_i_listl {xs : List D} : Stp (fListA [.lst xs] M Φ) (Φ (.lst xs) M) := ⟨i_listl⟩
instance st_i_listt {xs : List D} : Stp (fListA [.tup xs] M Φ) (Φ (.lst xs) M) := ⟨i_listt⟩
instance st_isi_non_int  : Stp (fIsi [.non, .ty "int"] M Φ) (Φ (.bl false) M) := ⟨isi_non_int⟩
instance st_isi_non_bool  : Stp (fIsi [.non, .ty "bool"] M Φ) (Φ (.bl false) M) := ⟨isi_non_bool⟩
instance st_isi_non_str  : Stp (fIsi [.non, .ty "str"] M Φ) (Φ (.bl false) M) := ⟨isi_non_str⟩
instance st_isi_non_tuple  : Stp (fIsi [.non, .ty "tuple"] M Φ) (Φ (.bl false) M) := ⟨isi_non_tuple⟩
instance st_isi_non_list  : Stp (fIsi [.non, .ty "list"] M Φ) (Φ (.bl false) M) := ⟨isi_non_list⟩
instance st_isi_non_dict  : Stp (fIsi [.non, .ty "dict"] M Φ) (Φ (.bl false) M) := ⟨isi_non_dict⟩
instance st_isi_bl_int {b : Bool} : Stp (fIsi [.bl b, .ty "int"] M Φ) (Φ (.bl true) M) := ⟨isi_bl_int⟩
instance st_isi_bl_bool {b : Bool} : Stp (fIsi [.bl b, .ty "bool"] M Φ) (Φ (.bl true) M) := ⟨isi_bl_bool⟩
instance st_isi_bl_str {b : Bool} : Stp (fIsi [.bl b, .ty "str"] M Φ) (Φ (.bl false) M) := ⟨isi_bl_str⟩
instance st_isi_bl_tuple {b : Bool} : Stp (fIsi [.bl b, .ty "tuple"] M Φ) (Φ (.bl false) M) := ⟨isi_bl_tuple⟩
instance st_isi_bl_list {b : Bool} : Stp (fIsi [.bl b, .ty "list"] M Φ) (Φ (.bl false) M) := ⟨isi_bl_list⟩
instance st_isi_bl_dict {b : Bool} : Stp (fIsi [.bl b, .ty "dict"] M Φ) (Φ (.bl false) M) := ⟨isi_bl_dict⟩
instance st_isi_int_int {i : Int} : Stp (fIsi [.int i, .ty "int"] M Φ) (Φ (.bl true) M) := ⟨isi_int_int⟩
instance st_isi_int_bool {i : Int} : Stp (fIsi [.int i, .ty "bool"] M Φ) (Φ (.bl false) M) := ⟨isi_int_bool⟩
instance st_isi_int_str {i : Int} : Stp (fIsi [.int i, .ty "str"] M Φ) (Φ (.bl false) M) := ⟨isi_int_str⟩
instance st_isi_int_tuple {i : Int} : Stp (fIsi [.int i, .ty "tuple"] M Φ) (Φ (.bl false) M) := ⟨isi_int_tuple⟩
instance st_isi_int_list {i : Int} : Stp (fIsi [.int i, .ty "list"] M Φ) (Φ (.bl false) M) := ⟨isi_int_list⟩
instance st_isi_int_dict {i : Int} : Stp (fIsi [.int i, .ty "dict"] M Φ) (Φ (.bl false) M) := ⟨isi_int_dict⟩
instance st_isi_str_int {x : Str} : Stp (fIsi [.str x, .ty "int"] M Φ) (Φ (.bl false) M) := ⟨isi_str_int⟩
instance st_isi_str_bool {x : Str} : Stp (fIsi [.str x, .ty "bool"] M Φ) (Φ (.bl false) M) := ⟨isi_str_bool⟩
instance st_isi_str_str {x : Str} : Stp (fIsi [.str x, .ty "str"] M Φ) (Φ (.bl true) M) := ⟨isi_str_str⟩
instance st_isi_str_tuple {x : Str} : Stp (fIsi [.str x, .ty "tuple"] M Φ) (Φ (.bl false) M) := ⟨isi_str_tuple⟩
instance st_isi_str_list {x : Str} : Stp (fIsi [.str x, .ty "list"] M Φ) (Φ (.bl false) M) := ⟨isi_str_list⟩
instance st_isi_str_dict {x : Str} : Stp (fIsi [.str x, .ty "dict"] M Φ) (Φ (.bl false) M) := ⟨isi_str_dict⟩
instance st_isi_tup_int {xs : List D} : Stp (fIsi [.tup xs, .ty "int"] M Φ) (Φ (.bl false) M) := ⟨isi_tup_int⟩
instance st_isi_tup_bool {xs : List D} : Stp (fIsi [.tup xs, .ty "bool"] M Φ) (Φ (.bl false) M) := ⟨isi_tup_bool⟩
instance st_isi_tup_str {xs : List D} : Stp (fIsi [.tup xs, .ty "str"] M Φ) (Φ (.bl false) M) := ⟨isi_tup_str⟩
instance st_isi_tup_tuple {xs : List D} : Stp (fIsi [.tup xs, .ty "tuple"] M Φ) (Φ (.bl true) M) := ⟨isi_tup_tuple⟩
instance st_isi_tup_list {xs : List D} : Stp (fIsi [.tup xs, .ty "list"] M Φ) (Φ (.bl false) M) := ⟨isi_tup_list⟩
instance st_isi_tup_dict {xs : List D} : Stp (fIsi [.tup xs, .ty "dict"] M Φ) (Φ (.bl false) M) := ⟨isi_tup_dict⟩
instance st_isi_lst_int {xs : List D} : Stp (fIsi [.lst xs, .ty "int"] M Φ) (Φ (.bl false) M) := ⟨isi_lst_int⟩
instance st_isi_lst_bool {xs : List D} : Stp (fIsi [.lst xs, .ty "bool"] M Φ) (Φ (.bl false) M) := ⟨isi_lst_bool⟩
instance st_isi_lst_str {xs : List D} : Stp (fIsi [.lst xs, .ty "str"] M Φ) (Φ (.bl false) M) := ⟨isi_lst_str⟩
instance st_isi_lst_tuple {xs : List D} : Stp (fIsi [.lst xs, .ty "tuple"] M Φ) (Φ (.bl false) M) := ⟨isi_lst_tuple⟩
instance st_isi_lst_list {xs : List D} : Stp (fIsi [.lst xs, .ty "list"] M Φ) (Φ (.bl true) M) := ⟨isi_lst_list⟩
instance st_isi_lst_dict {xs : List D} : Stp (fIsi [.lst xs, .ty "dict"] M Φ) (Φ (.bl false) M) := ⟨isi_lst_dict⟩
instance st_isi_dic_int {kvs : List (Key × D)} : Stp (fIsi [.dic kvs, .ty "int"] M Φ) (Φ (.bl false) M) := ⟨isi_dic_int⟩
instance st_isi_dic_bool {kvs : List (Key × D)} : Stp (fIsi [.dic kvs, .ty "bool"] M Φ) (Φ (.bl false) M) := ⟨isi_dic_bool⟩
instance st_isi_dic_str {kvs : List (Key × D)} : Stp (fIsi [.dic kvs, .ty "str"] M Φ) (Φ (.bl false) M) := ⟨isi_dic_str⟩
instance st_isi_dic_tuple {kvs : List (Key × D)} : Stp (fIsi [.dic kvs, .ty "tuple"] M Φ) (Φ (.bl false) M) := ⟨isi_dic_tuple⟩
instance st_isi_dic_list {kvs : List (Key × D)} : Stp (fIsi [.dic kvs, .ty "list"] M Φ) (Φ (.bl false) M) := ⟨isi_dic_list⟩
instance st_isi_dic_dict {kvs : List (Key × D)} : Stp (fIsi [.dic kvs, .ty "dict"] M Φ) (Φ (.bl true) M) := ⟨isi_dic_dict⟩
instance st_i_bm {g : D → List D → Mem → Cont → Prop} : Stp (dBM g de aa Γ M Φ) (de Γ M fun d M1 => (lsR M1 d).isSome = true ∧ aa Γ M1 fun ds M2 => g d ds M2 Φ) := ⟨i_bm⟩
instance st_i_bm0 {g : D → List D → Mem → Cont → Prop} : Stp (dBM0 g de Γ M Φ) (de Γ M fun d M1 => (lsR M1 d).isSome = true ∧ g d [] M1 Φ) := ⟨i_bm0⟩
instance st_i_m1 {g : Str → D → Mem → Cont → Prop} : Stp (dM1 g da db Γ M Φ) (da Γ M fun d M1 => match d with
  | .str a => db Γ M1 fun e M2 => g a e M2 Φ
  | _ => False) := ⟨i_m1⟩
instance st_i_for {di : DI} {dg : DG} : Stp (dsFor di dg ds E Γ M) (di Γ M fun xs M1 => forRun dg ds E xs Γ M1) := ⟨i_for⟩
instance st_i_any  : Stp (diAny de Γ M Θ) (de Γ M fun d M1 => ∃ xs, itD d = some xs ∧ Θ xs M1) := ⟨i_any⟩
instance st_i_itl {xs : List D} {R : List D → Prop} : Stp (∃ ys, itD (.lst xs) = some ys ∧ R ys) (R xs) := ⟨i_itl⟩
instance st_i_itt {xs : List D} {R : List D → Prop} : Stp (∃ ys, itD (.tup xs) = some ys ∧ R ys) (R xs) := ⟨i_itt⟩
instance st_i_its {z : Str} {R : List D → Prop} : Stp (∃ ys, itD (.str z) = some ys ∧ R ys) (R (z.cps.toList.map fun c => .str ⟨#[c]⟩)) := ⟨i_its⟩
instance st_i_itc {xs : List D} {R : List D → Prop} : Stp (∃ ys, itD (.scr xs) = some ys ∧ R ys) (R xs) := ⟨i_itc⟩
instance st_i_rng1  : Stp (diRng1 aa Γ M Θ) (aa Γ M fun ds M1 => match ds with
  | [.int j] => -(2 ^ 62) ≤ j ∧ j < 2 ^ 62 ∧ Θ (rgD 0 j) M1
  | _ => False) := ⟨i_rng1⟩
instance st_i_rng2  : Stp (diRng2 aa Γ M Θ) (aa Γ M fun ds M1 => match ds with
  | [.int i, .int j] => (-(2 ^ 62) ≤ i ∧ i < 2 ^ 62 ∧ -(2 ^ 62) ≤ j ∧ j < 2 ^ 62) ∧ Θ (rgD i j) M1
  | _ => False) := ⟨i_rng2⟩
instance st_i_yes  : Stp (dtYes Γ M Ψ) (Ψ true M) := ⟨i_yes⟩
instance st_i_ixt0  : Stp (fIx (.tup (a :: xs)) (.int 0) M Φ) (Φ a M) := ⟨i_ixt0⟩
instance st_i_ixt1  : Stp (fIx (.tup (a :: b :: xs)) (.int 1) M Φ) (Φ b M) := ⟨i_ixt1⟩
instance st_i_ixt2  : Stp (fIx (.tup (a :: b :: c :: xs)) (.int 2) M Φ) (Φ c M) := ⟨i_ixt2⟩
instance st_i_ixl0  : Stp (fIx (.lst (a :: xs)) (.int 0) M Φ) (Φ a M) := ⟨i_ixl0⟩
instance st_i_ixl1  : Stp (fIx (.lst (a :: b :: xs)) (.int 1) M Φ) (Φ b M) := ⟨i_ixl1⟩
instance st_i_lcN  : Stp (dLc vs di dg dt de Γ M Φ) (di Γ M fun xs M1 => lcG (wipeG Γ vs) dg dt de Φ xs M1) := ⟨i_lcN⟩
instance st_i_lcNM  : Stp (dLcM vs di dg dt de Γ M Φ) (di Γ M fun xs M1 => lcGM (wipeG Γ vs) dg dt de Φ xs M1) := ⟨i_lcNM⟩
instance st_enum : Stp (diEnum aa Γ M Θ) (aa Γ M fun ds M1 => match ds with
  | [.lst xs] => Θ (enD 0 xs) M1
  | _ => False) := ⟨fun k => k⟩
instance st_zip : Stp (diZip aa Γ M Θ) (aa Γ M fun ds M1 => match ds with
  | [.lst xs, .lst ys] => Θ (zipD xs ys) M1
  | [.tup xs, .tup ys] => Θ (zipD xs ys) M1
  | _ => False) := ⟨fun k => k⟩
instance st_callX {fx : FSX} {Ξ : XCont} : Stp (dCallX fx Ξ aa Γ M Φ) (aa Γ M fun ds M1 => fx ds M1 Φ Ξ) := ⟨fun k => k⟩
instance st_caught {ok : Addr → Prop} {dx : XCont → DE} : Stp (dCaught ok dx Γ M Φ) (dx (fun C fs M' => ok C ∧ Φ (.exc C fs) M') Γ M (fun _ M' => Φ .non M')) := ⟨fun k => k⟩
instance st_raise0 {C : Addr} {Ξ : XCont} : Stp (dRaise0 C Ξ E Γ M) (Ξ C [] M) := ⟨fun k => k⟩
instance st_raise1 {C : Addr} {Ξ : XCont} {fld : Str} : Stp (dRaise1 C fld de Ξ E Γ M) (de Γ M fun d M1 => Ξ C [(fld, d)] M1) := ⟨fun k => k⟩
/-! steps with a side condition: their heads first -/
def mulG (x y : Int) (M : Mem) (Φ : Cont) : Prop := fMul (.int x) (.int y) M Φ
theorem g_mul {x y : Int} (k : mulG x y M Φ) : fMul (.int x) (.int y) M Φ := k
theorem k_mulL {x y : Int} (h1 : -(2 ^ 64) < x) (h2 : x < 2 ^ 64) (k : Φ (.int (x * y)) M) : mulG x y M Φ := i_mulL h1 h2 k
theorem k_mulR {x y : Int} (h1 : -(2 ^ 64) < y) (h2 : y < 2 ^ 64) (k : Φ (.int (x * y)) M) : mulG x y M Φ := i_mulR h1 h2 k
def modG (x y : Int) (M : Mem) (Φ : Cont) : Prop := fMod (.int x) (.int y) M Φ
theorem g_mod {x y : Int} (k : modG x y M Φ) : fMod (.int x) (.int y) M Φ := k
theorem k_mod {x y : Int} (h : 0 < y) (k : Φ (.int (x % y)) M) : modG x y M Φ := i_mod h k
def fdivG (x y : Int) (M : Mem) (Φ : Cont) : Prop := fFdiv (.int x) (.int y) M Φ
theorem g_fdiv {x y : Int} (k : fdivG x y M Φ) : fFdiv (.int x) (.int y) M Φ := k
theorem k_fdiv {x y : Int} (h1 : 0 < y) (h2 : y < 4294967296) (k : Φ (.int (x / y)) M) : fdivG x y M Φ := i_fdivc h1 h2 k
def dgetG (p : Addr) (e : D) (M : Mem) (Φ : Cont) : Prop := fDGet (.ptr p) e M Φ
theorem g_dget {p : Addr} (k : dgetG p e M Φ) : fDGet (.ptr p) e M Φ := k
theorem k_dget {p : Addr} {kvs : List (Key × D)} {key : Key} {x : D} (h1 : M p = some (.dK kvs)) (h2 : keyD e = some key) (h3 : valD kvs key = some x) (k : Φ x M) : dgetG p e M Φ := i_dget h1 h2 h3 k
def lenG (p : Addr) (M : Mem) (Φ : Cont) : Prop := fLen [.ptr p] M Φ
theorem g_len {p : Addr} (k : lenG p M Φ) : fLen [.ptr p] M Φ := k
theorem k_len {p : Addr} (h : M p = some (.lst xs)) (k : Φ (.int (xs.length : Int)) M) : lenG p M Φ := i_lenp h k
def tupG (p : Addr) (M : Mem) (Φ : Cont) : Prop := fTuple [.ptr p] M Φ
theorem g_tup {p : Addr} (k : tupG p M Φ) : fTuple [.ptr p] M Φ := k
theorem k_tup {p : Addr} (h : M p = some (.lst xs)) (k : Φ (.tup xs) M) : tupG p M Φ := i_tupp h k
def listG (p : Addr) (M : Mem) (Φ : Cont) : Prop := fListA [.ptr p] M Φ
theorem g_list {p : Addr} (k : listG p M Φ) : fListA [.ptr p] M Φ := k
theorem k_list {p : Addr} (h : M p = some (.lst xs)) (k : Φ (.lst xs) M) : listG p M Φ := i_listp h k
def szlG (xs : List D) (A : Prop) : Prop := xs.length ≤ sizeLine ∧ A
theorem g_szl {A : Prop} (k : szlG xs A) : xs.length ≤ sizeLine ∧ A := k
theorem k_szl {A : Prop} (h : xs.length ≤ 1000) (k : A) : szlG xs A := ⟨Nat.le_trans h (by rw [sizeLine_eq]; decide), k⟩
def someG (M : Mem) (p : Addr) (A : Prop) : Prop := (lsR M (.ptr p)).isSome = true ∧ A
theorem g_some {p : Addr} {A : Prop} (k : someG M p A) : (lsR M (.ptr p)).isSome = true ∧ A := k
theorem k_some {p : Addr} {A : Prop} (h : M p = some (.lst xs)) (k : A) : someG M p A := i_some h k
end
end DL

/-! DLv: calls with keywords only. -/
namespace DL
open PySem PySem.Spec PyProof.Rows L2
/-- the def that the module's x names keeps fs, called by the names kns -/
structure HasK (P : Program) (w : World) (K : PySem.W.Frag) (mg : Str → Option Value) (base : Heap) (T : List (Addr × Str)) (x : Str) (k n : Nat) (fs : FS) (kns : List Str) : Prop where
  len : ∀ ds M Φ, fs ds M Φ → ds.length = n
  ex : ∃ (f : Addr) (fd : FuncData) (ps : List Str), ps.length = n ∧ FnOk P w K mg base CX0 k f fd ps (FSp K T n fs) ∧ mg x = some (.ref f) ∧ PySem.W.keepIn K (.ref f) = true ∧ ∀ (s : Shared) (us : List Value), us.length = n → K.In s.heap → BindsTo s fd ⟨[], kns.zip us⟩ (ps.zip us)
structure HasXK (P : Program) (w : World) (K : PySem.W.Frag) (mg : Str → Option Value) (base : Heap) (T : List (Addr × Str)) (x : Str) (k n : Nat) (fs : FSX) (kns : List Str) : Prop where
  len : ∀ ds M Φ Ξ, fs ds M Φ Ξ → ds.length = n
  ex : ∃ (f : Addr) (fd : FuncData) (ps : List Str), ps.length = n ∧ FnOk P w K mg base (L2.CX P w) k f fd ps (FSpX K T n fs) ∧ mg x = some (.ref f) ∧ PySem.W.keepIn K (.ref f) = true ∧ ∀ (s : Shared) (us : List Value), us.length = n → K.In s.heap → BindsTo s fd ⟨[], kns.zip us⟩ (ps.zip us)
def KwOf (P : Program) (w : World) (K : PySem.W.Frag) (mg : Str → Option Value) (base : Heap) (T : List (Addr × Str)) (x : Str) (k n : Nat) (fs : FS) (fd : FuncData) (ps : List Str) : Prop :=
  ∀ kns : List Str, (∀ (s : Shared) (us : List Value), us.length = n → K.In s.heap → BindsTo s fd ⟨[], kns.zip us⟩ (ps.zip us)) → HasK P w K mg base T x k n fs kns
def KwOfX (P : Program) (w : World) (K : PySem.W.Frag) (mg : Str → Option Value) (base : Heap) (T : List (Addr × Str)) (x : Str) (k n : Nat) (fs : FSX) (fd : FuncData) (ps : List Str) : Prop :=
  ∀ kns : List Str, (∀ (s : Shared) (us : List Value), us.length = n → K.In s.heap → BindsTo s fd ⟨[], kns.zip us⟩ (ps.zip us)) → HasXK P w K mg base T x k n fs kns
theorem bindsK {K : PySem.W.Frag} {x qual : Str} {st : Stmt} {f : Addr} {fd : FuncData} {ps kns : List Str} {n : Nat} (F : Fun K x qual st f fd)
    (h : ∀ (kV doc pm : Value) (an : Option Addr) (cdv ct : Value) (us : List Value), us.length = n → bindArgs (PySem.W.fnOf x qual (defArgs st) (defBody st) (defScope st) .none kV doc pm an cdv ct) ⟨[], kns.zip us⟩ = pure (ps.zip us)) :
    ∀ (s : Shared) (us : List Value), us.length = n → K.In s.heap → BindsTo s fd ⟨[], kns.zip us⟩ (ps.zip us) := by
  obtain ⟨oc, od, kV, doc, pm, an, cdv, ct, osl, rfl, lk, hcd⟩ := F.ex
  exact fun s us hl _ => .of_eq (h kV doc pm an cdv ct us hl)
theorem okDK {P : Program} {w : World} {K : PySem.W.Frag} {mg : Str → Option Value} {base : Heap} {T : List (Addr × Str)} {x qual : Str} {st : Stmt} {f : Addr} {fd : FuncData} {N ps : List Str} {k : Nat} {fs : FS} (F : Fun K x qual st f fd) (S : FnScope N ps (defScope st)) (hm : mg x = some (.ref f)) (hb : L2.Binds K fd ps [])
    (len : ∀ ds M Φ, fs ds M Φ → ds.length = ps.length)
    (body : ∀ (cdv : Value) (A : Around) (outer : List Env) (s : Shared) (H : Hp) (E : XK), Room k (A.deeper (envOfC qual (defScope st) s.heap.objs.size f cdv)) →
      ∃ dsb, XSs (cxOf CX0 P w K mg base N qual (defScope st) f cdv A outer s H E).nox T (defBody st) dsb ∧ ∀ ds M Φ, fs ds M Φ → dsb { nx := fun _ M' => drp Φ .non M', rt := drp Φ } (startG N ds) M) :
    Has P w K mg base T x (k + 1) ps.length fs ∧ KwOf P w K mg base T x (k + 1) ps.length fs fd ps := by
  have F' : FnOk P w K mg base CX0 (k + 1) f fd ps (FSp K T ps.length fs) := by
    refine F.ok S (fun vs H Q E h => ?_) (fun cdv A outer s H vs Q E hr h => ?_)
    · obtain ⟨ds, M, Φ, h, _⟩ := h
      exact h
    · obtain ⟨ds, M, Φ, hl, r, m, t, h, g⟩ := h
      obtain ⟨dsb, hx, hd⟩ := body cdv A outer s H E hr
      refine ⟨_, hx, startG N ds, M, _, start_env r m t, hd ds M Φ h, fun σ' H' Γ' M' φ k' e' => ?_, fun _ _ _ _ φ => φ.elim, fun _ _ _ _ φ => φ.elim, g.drp⟩
      exact g.drp _ _ _ _ φ k' e'.mem .non
  exact ⟨⟨len, f, fd, ps, rfl, F', hm, F.kp, hb⟩, fun kns h => ⟨len, f, fd, ps, rfl, F', hm, F.kp, h⟩⟩
theorem okDXK {P : Program} {w : World} {K : PySem.W.Frag} {mg : Str → Option Value} {base : Heap} {T : List (Addr × Str)} {x qual : Str} {st : Stmt} {f : Addr} {fd : FuncData} {N ps : List Str} {k : Nat} {fs : FSX} (F : Fun K x qual st f fd) (S : FnScope N ps (defScope st)) (hm : mg x = some (.ref f)) (hb : L2.Binds K fd ps [])
    (len : ∀ ds M Φ Ξ, fs ds M Φ Ξ → ds.length = ps.length) (mono : ∀ ds M Φ Ξ Ξ', fs ds M Φ Ξ → (∀ C fs M, Ξ C fs M → Ξ' C fs M) → fs ds M Φ Ξ')
    (body : ∀ (cdv : Value) (A : Around) (outer : List Env) (s : Shared) (H : Hp) (E : XK) (Ξ : XCont), Room k (A.deeper (envOfC qual (defScope st) s.heap.objs.size f cdv)) →
      Takes (cxOf (L2.CX P w) P w K mg base N qual (defScope st) f cdv A outer s H E) (fun cls d _ H => E cls d H) → Ξ = XiE K T H E →
      ∃ dsb : DS, XSs (cxOf (L2.CX P w) P w K mg base N qual (defScope st) f cdv A outer s H E) T (defBody st) dsb ∧ ∀ ds M Φ, fs ds M Φ Ξ → dsb { nx := fun _ M' => drp Φ .non M', rt := drp Φ } (startG N ds) M) :
    HasX P w K mg base T x (k + 1) ps.length fs ∧ KwOfX P w K mg base T x (k + 1) ps.length fs fd ps := by
  have F' : FnOk P w K mg base (L2.CX P w) (k + 1) f fd ps (FSpX K T ps.length fs) := by
    refine F.okX S (fun vs H Q E h => ?_) (fun cdv A outer s H vs Q E hr h => ?_)
    · obtain ⟨ds, M, Φ, Ξ, h, _⟩ := h
      exact h
    · obtain ⟨ds, M, Φ, Ξ, hl, r, m, t, h, g, gx⟩ := h
      obtain ⟨dsb, hx, hd⟩ := body cdv A outer s H E _ hr (takes_of rfl rfl rfl rfl) rfl
      refine ⟨_, hx, startG N ds, M, _, start_env r m t, hd ds M Φ (mono _ _ _ _ _ h fun C fs M z cls d H' k m r => gx C fs M cls d H' z k m r), fun σ' H' Γ' M' φ k' e' => ?_, fun _ _ _ _ φ => φ.elim, fun _ _ _ _ φ => φ.elim, g.drp⟩
      exact g.drp _ _ _ _ φ k' e'.mem .non
  exact ⟨⟨len, f, fd, ps, rfl, F', hm, F.kp, hb⟩, fun kns h => ⟨len, f, fd, ps, rfl, F', hm, F.kp, h⟩⟩
abbrev XKw (X : Cx) (T : List (Addr × Str)) (kws : List Keyword) (da : DA) : Prop := PK X kws (liftA X.K T da)
section
variable {X : Cx} {T : List (Addr × Str)} {x : Str} {k n : Nat} {p pos kp : Pos} {nm : Option Str} {e : Expr} {kws : List Keyword} {de : DE} {da : DA} {kns : List Str}
theorem pk_weak {t t' : TA} (h : PK X kws t) (w : ∀ σ H Q, t' σ H Q → t σ H Q) : PK X kws t' := ⟨fun pos pins s σ H Q I q => h.run pos pins s σ H Q I (w _ _ _ q)⟩
theorem xk_nil : XKw X T [] daNil := pk_weak pk_nil fun σ H Q q => by
  obtain ⟨Γ, M, Φ, e, q, g⟩ := q
  exact g [] H [] M q .refl e.mem .nil
theorem xk_cons (he : XE X T e de) (hr : XKw X T kws da) : XKw X T (⟨nm, e, kp⟩ :: kws) (daCons de da) := pk_weak (pk_cons he hr) fun σ H Q q => by
  obtain ⟨Γ, M, Φ, env, h, k⟩ := q
  refine ⟨Γ, M, _, env, h, fun v1 H1 d1 M1 φ1 k1 m1 r1 => ⟨Γ, M1, _, env.go k1 m1, φ1, fun v2 H2 d2 M2 φ2 k2 m2 r2 => ?_⟩⟩
  exact k _ _ _ _ φ2 (k1.trans k2) m2 (.cons (r1.mono k2) r2)
theorem vals_len : ∀ {vs : List V} {us : List Value}, Vals vs us → vs.length = us.length
  | _, _, .nil => rfl
  | _, _, .cons _ t => by rw [List.length_cons, List.length_cons, vals_len t]
theorem xe_callK {fs : FS} (h : HasK X.prog X.w X.K X.mg X.base T x k n fs kns)
    (hr : Room k X.A) (hg : Gl X x) (ha : XKw X T kws da) (hall : (backToKw pos (keywordEach kws X.env)).all (·.1.isSome) = true := by rfl) (hks : (backToKw pos (keywordEach kws X.env)).filterMap (·.1) = kns := by rfl)
    (hdb : (x == ("__debug__" : Str)) = false := by decide) (hpl : ((backTo pos (starEach [] X.env)).any (·.1) || (backToKw pos (keywordEach kws X.env)).any (·.1.isNone)) = false := by rfl) :
    XE X T (.Call (.Name x p) [] kws pos) (dCall fs da) := by
  obtain ⟨len, f, fd, ps, hn, F, hm, hk, hb⟩ := h
  refine ⟨fun pins s σ H Q I q => ?_⟩
  obtain ⟨Γ, M, Φ, env, h, g⟩ := q
  refine wpAny_Call_Name_kw (ld_glob I hg hm ?_ hdb)
  refine PySem.W.callWith_KW0 (h₀ := X.base) I.ok.mod.kin hk hall ?_ hpl
  refine thn (ha.run pos pins s σ H (fun zs H1 => ∃ ds M1, Reps X.K H1 zs ds ∧ MOk X.K H1 M1 ∧ Kp T H H1 ∧ fs ds M1 Φ) I ⟨Γ, M, _, env, h, fun vs H1 ds M1 φ1 k1 m1 r1 => ⟨ds, M1, r1, m1, k1, φ1⟩⟩) fun ws s2 ⟨zs, H2, I2, rz, q2⟩ => ⟨I2.kIn, ?_⟩
  obtain ⟨ds, M1, r1, m1, k1, φ1⟩ := q2
  have l1 : zs.length = n := by rw [r1.length]; exact len _ _ _ φ1
  have l2 : ws.length = n := by rw [← vals_len rz]; exact l1
  rw [hks]
  have hsp : FSp X.K T n fs zs H2 Q E0 := ⟨ds, M1, Φ, l1, r1, m1, k1.tab env.tab, φ1, g.from k1⟩
  refine wpAny_call (codeAny_mono (F.run X.A X.stack s2 H2 ⟨[], kns.zip ws⟩ ws zs Q E0 hr I2.env0 (hb s2 ws l2 I2.kIn) rz hsp) fun r s' hq => ?_)
  cases r with
  | error e => exact (show False from hq).elim
  | ok fl =>
    cases fl with
    | ret u => exact I2.after hq
    | next => exact False.elim hq
    | brk => exact False.elim hq
    | cont => exact False.elim hq
theorem xe_callNK {fs : FSX} (h : HasXK X.prog X.w X.K X.mg X.base T x k n fs kns)
    (hr : Room k X.A) (hg : Gl X x) (ha : XKw X T kws da) (hall : (backToKw pos (keywordEach kws X.env)).all (·.1.isSome) = true := by rfl) (hks : (backToKw pos (keywordEach kws X.env)).filterMap (·.1) = kns := by rfl)
    (hdb : (x == ("__debug__" : Str)) = false := by decide) (hpl : ((backTo pos (starEach [] X.env)).any (·.1) || (backToKw pos (keywordEach kws X.env)).any (·.1.isNone)) = false := by rfl) :
    XE X T (.Call (.Name x p) [] kws pos) (dCallX fs noX da) := by
  obtain ⟨len, f, fd, ps, hn, F, hm, hk, hb⟩ := h
  refine ⟨fun pins s σ H Q I q => ?_⟩
  obtain ⟨Γ, M, Φ, env, h, g⟩ := q
  refine wpAny_Call_Name_kw (ld_glob I hg hm ?_ hdb)
  refine PySem.W.callWith_KW0 (h₀ := X.base) I.ok.mod.kin hk hall ?_ hpl
  refine thn (ha.run pos pins s σ H (fun zs H1 => ∃ ds M1, Reps X.K H1 zs ds ∧ MOk X.K H1 M1 ∧ Kp T H H1 ∧ fs ds M1 Φ noX) I ⟨Γ, M, _, env, h, fun vs H1 ds M1 φ1 k1 m1 r1 => ⟨ds, M1, r1, m1, k1, φ1⟩⟩) fun ws s2 ⟨zs, H2, I2, rz, q2⟩ => ⟨I2.kIn, ?_⟩
  obtain ⟨ds, M1, r1, m1, k1, φ1⟩ := q2
  have l1 : zs.length = n := by rw [r1.length]; exact len _ _ _ _ φ1
  have l2 : ws.length = n := by rw [← vals_len rz]; exact l1
  rw [hks]
  have hsp : FSpX X.K T n fs zs H2 Q E0 := ⟨ds, M1, Φ, noX, l1, r1, m1, k1.tab env.tab, φ1, g.from k1, fun _ _ _ _ _ _ z => z.elim⟩
  refine wpAny_call (codeAny_mono (F.run X.A X.stack s2 H2 ⟨[], kns.zip ws⟩ ws zs Q E0 hr I2.env0 (hb s2 ws l2 I2.kIn) rz hsp) fun r s' hq => ?_)
  cases r with
  | error e => exact passL pins σ H2 s2 e s' I2 hq
  | ok fl =>
    cases fl with
    | ret u => exact I2.after hq
    | next => exact False.elim hq
    | brk => exact False.elim hq
    | cont => exact False.elim hq
end
end DL

/-! DLz: the end of a row: what the written part says of classes and tables, read by tests. -/
namespace DL
open PySem PySem.Spec PyProof.Rows L2
section
variable {K : PySem.W.Frag} {mg : Str → Option Value} {h : Heap} {C f : Addr}
theorem b2 {a b : Bool} (h : (a && b) = true) : a = true ∧ b = true := Bool.and_eq_true_iff.mp h
def oexB (K : PySem.W.Frag) (C : Addr) : Bool := (match K.lookup C with
  | some ⟨.type t, _, .cls cd, sl⟩ => t == "type" && (match cd.mro, sl.toList with
    | .ref C' :: bm, [_, _, _, _, some (.builtin n), _] => C' == C && (n == "ValueError.__new__" && (cd.hasDict && (!cd.hasDel && PySem.HandSPX.refsVE bm)))
    | _, _ => false)
  | _ => false) && (decide (PySem.W.findIn K (.ref C) "__setattr__" = some (some (.builtin "object.__setattr__"))) && (decide (PySem.W.subIn K (.ref C) (.type "BaseException") = some true) && (decide (PySem.W.typeIn K (.ref C) = some (.type "type")) && PySem.W.keepIn K (.ref C))))
theorem oexB_ok (h : oexB K C = true) : OexC K C := by
  obtain ⟨h1, h⟩ := b2 h
  obtain ⟨h2, h⟩ := b2 h
  obtain ⟨h3, h⟩ := b2 h
  obtain ⟨h4, h5⟩ := b2 h
  refine ⟨?_, of_decide_eq_true h2, of_decide_eq_true h3, of_decide_eq_true h4, h5⟩
  split at h1
  · rename_i t dd cd sl ho
    obtain ⟨ht, h1⟩ := b2 h1
    split at h1
    · rename_i C' bm k0 k1 k2 k3 n k5 hm hs
      obtain ⟨e1, h1⟩ := b2 h1
      obtain ⟨e2, h1⟩ := b2 h1
      obtain ⟨e3, h1⟩ := b2 h1
      obtain ⟨e4, e5⟩ := b2 h1
      have e1 := beq_iff_eq.mp e1
      have e2 := beq_iff_eq.mp e2
      have ht := beq_iff_eq.mp ht
      subst e1 e2 ht
      obtain ⟨nm, bs, mro, ns, qn, hd, sn, sub, ab, col, del⟩ := cd
      dsimp only at hm e3 e4
      have e4 : del = false := by simpa using e4
      subst hm e3 e4
      have hsl : sl = #[k0, k1, k2, k3, some (.builtin "ValueError.__new__"), k5] := by
        obtain ⟨l⟩ := sl
        simp only at hs
        rw [hs]
      subst hsl
      exact ⟨nm, qn, ns, bs, bm, sn, sub, ab, col, dd, k0, k1, k2, k3, k5, ho, e5⟩
    · cases h1
  · cases h1
def excSB (K : PySem.W.Frag) (C : Addr) : Bool := PySem.W.excIn K C [.type "ValueError", .type "Exception", .type "BaseException", .type "object"] "ValueError.__new__" && (PySem.W.keepIn K (.ref C) && (decide (PySem.W.subIn K (.ref C) (.type "BaseException") = some true) && decide (PySem.W.typeIn K (.ref C) = some (.type "type"))))
theorem excSB_ok {x : Str} (h : excSB K C = true) (g : mg x = some (.ref C)) : ExcS K mg x C := by
  obtain ⟨h1, h⟩ := b2 h
  obtain ⟨h2, h⟩ := b2 h
  obtain ⟨h3, h4⟩ := b2 h
  exact ⟨h1, g, h2, of_decide_eq_true h3, of_decide_eq_true h4⟩
def excCB (K : PySem.W.Frag) (D : Addr) : Bool := decide (PySem.W.findIn K (.ref D) "__getattribute__" = some (some (.builtin "BaseException.__getattribute__"))) && (decide (PySem.W.findIn K (.ref D) "__getattr__" = some none) &&
  (decide (PySem.W.subIn K (.ref D) (.type "BaseException") = some true) && (PySem.W.hasDictIn K D && (decide (PySem.W.findIn K (.ref D) "__class__" = some (some (.builtin "object.__class__"))) &&
  (decide (PySem.W.specialIn K (.builtin "object.__class__") "__get__" = some (some (.builtin "getset_descriptor.__get__"))) && (decide (PySem.W.takesIn K (.builtin "object.__class__") = some true) && decide (PySem.W.mroIn K D (.type "object") = some true)))))))
theorem excCB_ok (h : excCB K C = true) : ExcD K C := by
  obtain ⟨h1, h⟩ := b2 h
  obtain ⟨h2, h⟩ := b2 h
  obtain ⟨h3, h⟩ := b2 h
  obtain ⟨h4, h⟩ := b2 h
  obtain ⟨h5, h⟩ := b2 h
  obtain ⟨h6, h⟩ := b2 h
  obtain ⟨h7, h8⟩ := b2 h
  exact ⟨⟨of_decide_eq_true h1, of_decide_eq_true h2, of_decide_eq_true h3, h4, of_decide_eq_true h5, of_decide_eq_true h6, of_decide_eq_true h7, of_decide_eq_true h8⟩, ⟨of_decide_eq_true h1, of_decide_eq_true h2, of_decide_eq_true h3, h4⟩⟩
/-! ### an own __init__ -/
abbrev SupV : Type := Option (Str × Str × Arguments × FuncBody × Scope × Addr × Addr)
def supObs (K : PySem.W.Frag) (f : Addr) : SupV := match K.lookup f with
  | some ⟨_, _, .func fd, _⟩ => some (fd.name, fd.qualname, fd.params, fd.body, fd.scope, fd.globals, fd.builtins)
  | _ => none
def supB (K : PySem.W.Frag) (f C : Addr) (file q : Str) : Bool := match K.lookup f with
  | some ⟨_, _, .func fd, _⟩ => (match fd.code, fd.closure, fd.defaults with
    | .ref cda, [(x, cc)], .none => x == "__class__" && (PySem.W.codeIn K (.ref cda) q && ((match K.lookup cda with
      | some ⟨_, _, .fields vs, _⟩ => (match (vs[2]? : Option Value) with
        | some (.str fl _) => file == fl
        | _ => false)
      | _ => false) && (match K.lookup cc with
      | some ⟨_, _, .cell (some (.ref C')), _⟩ => C' == C
      | _ => false)))
    | _, _, _ => false)
  | _ => false
/-- how such an __init__ is written -/
def SupS (sI : Stmt) (q s1 s2 fld : Str) : Prop := ∃ (p0 p1 p2 p3 p4 p5 p6 p7 p8 p9 : Pos) (pl : Addr → Addr → Addr → Addr → Sem Bool), defBody sI = [.Expr (.Call (.Attribute (.Call (.Name "super" p0) [] [] p1) "__init__" p2) [.Name s2 p3] [] p4) p5, .Assign [.Attribute (.Name s1 p6) fld p7] (.Name s2 p8) p9] ∧
  ∀ f cda cc L : Addr, eval (.Call (.Attribute (.Call (.Name "super" p0) [] [] p1) "__init__" p2) [.Name s2 p3] [] p4) (PySem.W.ksEnv q (defScope sI) L f (.ref cda) cc) = (do
      let ov ← attributeBase (.Call (.Name "super" p0) [] [] p1) "__init__" (PySem.W.ksEnv q (defScope sI) L f (.ref cda) cc) (eval (.Call (.Name "super" p0) [] [] p1) (PySem.W.ksEnv q (defScope sI) L f (.ref cda) cc))
      standAt p2.atName
      let (fm, first) ← holding [ov] (getMethod ov "__init__" (pl f cda cc L))
      callWith p4 fm first (backTo p4 (starEach [.Name s2 p3] (PySem.W.ksEnv q (defScope sI) L f (.ref cda) cc))) [])
/-- its scope -/
structure SupC (sI : Stmt) (s1 s2 : Str) : Prop where
  hd : ∃ ar : Arg, ((defArgs sI).posonlyargs ++ (defArgs sI).args).head? = some ar ∧ ar.arg = s1
  co : (defScope sI).isCoroutine = false
  ge : (defScope sI).isGenerator = false
  ki : (defScope sI).kind = .function
  ce : ∀ x ∈ (defScope sI).names, x.2 ≠ .cell
  fr : ∀ x ∈ (defScope sI).names, x.2 = .free → x.1 = "__class__"
  su : (defScope sI).names.lookup ("super" : Str) = some .globalImplicit
  kc : (defScope sI).names.lookup ("__class__" : Str) = some .free
  k1 : (defScope sI).names.lookup s1 = some .local
  k2 : (defScope sI).names.lookup s2 = some .local
  ne : s1 ≠ s2
  d1 : (s1 == ("__debug__" : Str)) = false
  d2 : (s2 == ("__debug__" : Str)) = false
  bi : ∀ (q : Str) (cc : Addr) (kV doc pm cd ct : Value) (an : Option Addr) (us : List Value), us.length = 2 → bindArgs (PySem.W.ksFn "__init__" q (defArgs sI) (defBody sI) (defScope sI) .none kV doc pm an cd ct cc) ⟨us, []⟩ = pure ([s1, s2].zip us)
def excMkB (P : Program) (K : PySem.W.Frag) (C : Addr) (q fld : Str) : Bool := oexB K C && (supB K (He.ma K C "__init__") C P.main.file q && (decide (PySem.W.mroIn K C (.ref C) = some true) && ((P.main.scope.names.lookup ("super" : Str)).isSome == false &&
  (decide (PySem.W.ks_superIn K C C "__init__" = some (some (.builtin "ValueError.__init__"))) && (decide (PySem.W.subIn K (.ref C) (.type "ValueError") = some true) && (decide (PySem.W.nsIn K cStatics "thirdparty.any" = some none) && (decide (PySem.W.findIn K (.ref C) fld = some none) &&
  (decide (PySem.W.findIn K (.ref C) "__init__" = some (some (.ref (He.ma K C "__init__")))) && decide (PySem.W.typeIn K (.ref (He.ma K C "__init__")) = some (.type "function"))))))))))
theorem sup_ex {P : Program} {sI : Stmt} {q s1 s2 fld : Str} (S : SupS sI q s1 s2 fld) (Z : SupC sI s1 s2) (ho : supObs K f = (some (("__init__" : Str), q, defArgs sI, FuncBody.stmts (defBody sI), defScope sI, mainGlobals, builtinsNs) : SupV)) (hb : supB K f C P.main.file q = true) (hC : OexC K C)
    (m1 : PySem.W.mroIn K C (.ref C) = some true) (m2 : mg "super" = none) (m3 : (P.main.scope.names.lookup ("super" : Str)).isSome = false) (m4 : PySem.W.ks_superIn K C C "__init__" = some (some (.builtin "ValueError.__init__"))) (m5 : PySem.W.subIn K (.ref C) (.type "ValueError") = some true)
    (m6 : PySem.W.nsIn K cStatics "thirdparty.any" = some none) (m7 : PySem.W.findIn K (.ref C) fld = some none) : ∃ fd, SupF P K mg C f fd s1 s2 fld ∧ L2.Binds K fd [s1, s2] [] := by
  unfold supObs at ho
  unfold supB at hb
  cases hk : K.lookup f with
  | none => rw [hk] at ho; cases ho
  | some o =>
    obtain ⟨oc, od, dt, osl⟩ := o
    rw [hk] at ho hb
    cases dt with
    | func fd =>
      obtain ⟨n1, n2, n3, n4, n5, n6, n7, n8, n9, n10, n11, n12, n13, n14, n15⟩ := fd
      have e2 : (some (n1, n2, n3, n4, n5, n6, n15) : SupV) = (some (("__init__" : Str), q, defArgs sI, FuncBody.stmts (defBody sI), defScope sI, mainGlobals, builtinsNs) : SupV) := ho
      simp only [Option.some.injEq, Prod.mk.injEq] at e2
      obtain ⟨h1, h2, h3, h4, h5, h6, h7⟩ := e2
      subst h1 h2 h3 h4 h5 h6 h7
      dsimp only at hb
      split at hb
      · rename_i cda x cc
        obtain ⟨g1, hb⟩ := b2 hb
        obtain ⟨g2, hb⟩ := b2 hb
        obtain ⟨g3, g4⟩ := b2 hb
        have g1 := beq_iff_eq.mp g1
        subst g1
        cases hd : K.lookup cda with
        | none => rw [hd] at g3; cases g3
        | some od2 =>
          obtain ⟨ccl, cdd, dt2, ccs⟩ := od2
          rw [hd] at g3
          cases dt2 with
          | fields vs =>
            dsimp only at g3
            split at g3
            · rename_i fl tf hv
              cases hc : K.lookup cc with
              | none => rw [hc] at g4; cases g4
              | some oc3 =>
                obtain ⟨cl, cld, dt3, csl⟩ := oc3
                rw [hc] at g4
                split at g4
                · rename_i C' heq
                  cases heq
                  have g4 := beq_iff_eq.mp g4
                  subst g4
                  obtain ⟨p0, p1, p2, p3, p4, p5, p6, p7, p8, p9, pl, hbody, hev⟩ := S
                  obtain ⟨ar, ha1, ha2⟩ := Z.hd
                  refine ⟨_, ⟨hC, ⟨_, defArgs sI, defBody sI, defScope sI, .none, n9, n10, n11, n14, oc, n12, od, osl, cda, cc, ccl, cl, cdd, cld, vs, ccs, csl, fl, tf, ar, p0, p1, p2, p3, p4, p5, p6, p7, p8, p9, pl f cda cc, rfl, hbody, ?_, g2, ha1, ha2, hd, hv, g3, hc, Z.co, Z.ge, Z.ki, Z.ce, Z.fr, Z.su, Z.kc, Z.k1, Z.k2, fun L => hev f cda cc L⟩, Z.ne, Z.d1, Z.d2, m1, m2, m3, m4, m5, m6, m7⟩, ?_⟩
                  · exact hk
                  · exact .all fun us hl => Z.bi _ _ _ _ _ _ _ _ us hl
                · cases g4
            · cases g3
          | _ => cases g3
      · cases hb
    | _ => cases ho
theorem excMk_ok {P : Program} {w : World} {base : Heap} {x : Str} {sI : Stmt} {q s1 s2 fld : Str} (hb : excMkB P K C q fld = true) (S : SupS sI q s1 s2 fld) (Z : SupC sI s1 s2) (ho : supObs K (He.ma K C "__init__") = (some (("__init__" : Str), q, defArgs sI, FuncBody.stmts (defBody sI), defScope sI, mainGlobals, builtinsNs) : SupV))
    (g : mg x = some (.ref C)) (m2 : mg "super" = none) : ExcMk P w K mg base x C fld ∧ PySem.W.findIn K (.ref C) fld = some none := by
  obtain ⟨h1, hb⟩ := b2 hb
  obtain ⟨h2, hb⟩ := b2 hb
  obtain ⟨h3, hb⟩ := b2 hb
  obtain ⟨h4, hb⟩ := b2 hb
  obtain ⟨h5, hb⟩ := b2 hb
  obtain ⟨h6, hb⟩ := b2 hb
  obtain ⟨h7, hb⟩ := b2 hb
  obtain ⟨h8, hb⟩ := b2 hb
  obtain ⟨h9, h10⟩ := b2 hb
  obtain ⟨fd, SF, B⟩ := sup_ex S Z ho h2 (oexB_ok h1) (of_decide_eq_true h3) m2 (beq_iff_eq.mp h4) (of_decide_eq_true h5) (of_decide_eq_true h6) (of_decide_eq_true h7) (of_decide_eq_true h8)
  exact ⟨⟨oexB_ok h1, g, _, fd, s1, s2, SF, of_decide_eq_true h9, of_decide_eq_true h10, B⟩, of_decide_eq_true h8⟩
/-! ### tables of makers of lambdas -/
def tc (K : PySem.W.Frag) (x : Str) : Addr := ((PySem.W.tabIn K x).getD (0, 0)).1
def tP (K : PySem.W.Frag) (x : Str) : Addr := ((PySem.W.tabIn K x).getD (0, 0)).2
def tabB (K : PySem.W.Frag) (ts : List Addr) (x : Str) : Bool := match PySem.W.tabIn K x with
  | some (c, P) => PySem.W.codeHdIn K c P && ((K.lookup P).isNone && ts.contains P)
  | none => false
theorem tabB_ok {ts : List Addr} {x : Str} (X : K.In h) (hT : ∀ P ∈ ts, h.get? P = some (PySem.W.tabObj #[])) (b : tabB K ts x = true) :
    h.get? (tP K x) = some { cls := .none, data := .fields #[] } ∧ K.lookup (tP K x) = none ∧ PySem.W.CodeHd h (tc K x) (tP K x) := by
  unfold tabB at b
  unfold tP tc
  split at b
  · rename_i c P e
    obtain ⟨h1, b⟩ := b2 b
    obtain ⟨h2, h3⟩ := b2 b
    rw [e]
    exact ⟨hT P (by simpa using h3), by simpa using h2, PySem.W.codeHd_of_K X h1⟩
  · cases b
theorem tabB_code {ts : List Addr} {x : Str} {f : Addr} {oc : Value} {od : Option Addr} {fd : FuncData} {osl : Array (Option Value)} (b : tabB K ts x = true) (hg : PySem.W.nsIn K mainGlobals x = some (some (.ref f))) (l : K.lookup f = some ⟨oc, od, .func fd, osl⟩) : fd.code = .ref (tc K x) := by
  unfold tabB at b
  unfold tc
  split at b
  · rename_i c P e
    rw [e]
    unfold PySem.W.tabIn at e
    rw [hg] at e
    dsimp only at e
    rw [l] at e
    dsimp only at e
    split at e
    · rename_i c' hc
      split at e
      · split at e
        · cases e; exact hc
        · cases e
      · cases e
    · cases e
  · cases b
theorem tabs0 {H : Hp} : ∀ {T : List (Addr × Str)}, (∀ p ∈ T, H p.1 = some (.tbl #[])) → LamX.Tabs T H := fun {T} h p hp => .nil (h p hp)
end
end DL

/-! DLw: the law's own def: the script, whatever it is, is frozen at the start. -/
namespace DL
open PySem PySem.Spec PyProof.Rows L2
def LawSp (K : PySem.W.Frag) (T : List (Addr × Str)) (n : Nat) : Sp := fun vs H Q _ => ∃ (a : Addr) (ns : List Int), vs = [.ref a] ∧ ns.length ≤ n ∧ (∀ z ∈ ns, Builtin.Int.intBits z ≤ 1048576) ∧ SqL K H a (ns.map V.int) ∧ LamX.Tabs T H ∧ ∀ H', Q (.bl true) H'
theorem pss_pre {X : Cx} {st : List Stmt} {t : TS} (h : PSs X st t) : PSs X st (fun Dn σ H => t Dn σ H ∨ ∃ p o, H p = some o ∧ Chg o ∧ ∀ ob, t Dn σ (upd H p (.frz ob o))) := ⟨fun pins s σ H D I q => by
  rcases q with q | ⟨p, o, h1, h2, q⟩
  · exact h.run pins s σ H D I q
  · obtain ⟨ob, I2⟩ := inv_frzO I h1 h2
    exact h.run pins s σ _ D I2 (q ob)⟩
theorem reps_ints {K : PySem.W.Frag} {H : Hp} : ∀ ns : List Int, Reps K H (ns.map V.int) (ns.map D.int)
  | [] => .nil
  | n :: ns => .cons (.int n) (reps_ints ns)
/-- the reading at the start -/
theorem law_read {K : PySem.W.Frag} {T : List (Addr × Str)} {N : List Str} {n : Nat} {fs : FS} {dsb : DS} {vs : List V} {H : Hp} {Q : VK} {E : XK}
    (hfs : ∀ (ns : List Int) (M : Mem) (Φ : Cont), ns.length ≤ n → (∀ z ∈ ns, Builtin.Int.intBits z ≤ 1048576) → Φ (.bl true) M → fs [.scr (ns.map .int)] M Φ)
    (hd : ∀ ds M Φ, fs ds M Φ → dsb { nx := fun _ M' => drp Φ .non M', rt := drp Φ } (startG N ds) M) (h : LawSp K T n vs H Q E) :
    liftS K T dsb { nx := fun _ H' => Q .non H', rt := Q } (start N vs) H ∨ ∃ p o, H p = some o ∧ Chg o ∧ ∀ ob, liftS K T dsb { nx := fun _ H' => Q .non H', rt := Q } (start N vs) (upd H p (.frz ob o)) := by
  obtain ⟨a, ns, rfl, hl, hbits, hs, ht, hq⟩ := h
  have fin : ∀ H1 : Hp, FzL K H1 a (ns.map V.int) → LamX.Tabs T H1 → liftS K T dsb { nx := fun _ H' => Q .non H', rt := Q } (start N [.ref a]) H1 := fun H1 h1 t1 => by
    refine ⟨startG N [.scr (ns.map .int)], fun _ => none, _, start_env (.cons (.scr h1 (reps_ints ns)) .nil) (fun a m e => by cases e) t1, hd _ _ (fun d _ => d = .bl true) (hfs ns _ _ hl hbits rfl), ?_, fun _ _ _ _ φ => φ.elim, fun _ _ _ _ φ => φ.elim, ?_⟩
    · rintro σ' H' Γ' M' ⟨M, s, φ⟩ _ _
      cases φ
    · rintro v H' d M' ⟨M, s, rfl⟩ _ _ r
      cases r
      exact hq H'
  rcases hs with (hs | ⟨o, hs⟩) | hs
  · refine .inr ⟨a, _, hs, True.intro, fun ob => fin _ (.inl ⟨ob, upd_same⟩) ((Kp.mut (T := T) hs True.intro).tab ht)⟩
  · exact .inl (fin H (.inl ⟨o, hs⟩) ht)
  · exact .inl (fin H (.inr hs) ht)
theorem okLawL {P : Program} {w : World} {K : PySem.W.Frag} {mg : Str → Option Value} {base : Heap} {T : List (Addr × Str)} {x qual : Str} {st : Stmt} {f c : Addr} {kV doc pm ct oc : Value} {an od : Option Addr} {osl : Array (Option Value)} {N : List Str} {p : Str} {k n : Nat} {fs : FS}
    (lk : K.lookup f = some ⟨oc, od, .func (PySem.W.fnOf x qual (defArgs st) (defBody st) (defScope st) .none kV doc pm an (.ref c) ct), osl⟩) (hcd : PySem.W.codeIn K (.ref c) qual = true) (S : FnScope N [p] (defScope st))
    (hfs : ∀ (ns : List Int) (M : Mem) (Φ : Cont), ns.length ≤ n → (∀ z ∈ ns, Builtin.Int.intBits z ≤ 1048576) → Φ (.bl true) M → fs [.scr (ns.map .int)] M Φ)
    (body : ∀ (A : Around) (outer : List Env) (s : Shared) (H : Hp) (E : XK), Room k (A.deeper (envOfC qual (defScope st) s.heap.objs.size f (.ref c))) →
      ∃ dsb, XSs (cxOf CX0 P w K mg base N qual (defScope st) f (.ref c) A outer s H E).nox T (defBody st) dsb ∧ ∀ ds M Φ, fs ds M Φ → dsb { nx := fun _ M' => drp Φ .non M', rt := drp Φ } (startG N ds) M) :
    FnOk P w K mg base CX0 (k + 1) f (PySem.W.fnOf x qual (defArgs st) (defBody st) (defScope st) .none kV doc pm an (.ref c) ct) [p] (LawSp K T n) := by
  refine fn_of lk hcd S (fun vs H Q E h => ?_) (fun A outer s H vs Q E hr h => ?_)
  · obtain ⟨a, ns, rfl, _⟩ := h
    rfl
  · obtain ⟨dsb, hx, hd⟩ := body A outer s H E hr
    exact ⟨_, pss_pre hx.nox, law_read hfs hd h⟩
theorem okLaw {P : Program} {w : World} {K : PySem.W.Frag} {mg : Str → Option Value} {base : Heap} {T : List (Addr × Str)} {x qual : Str} {st : Stmt} {f : Addr} {fd : FuncData} {N : List Str} {p : Str} {k n : Nat} {fs : FS} (F : Fun K x qual st f fd) (S : FnScope N [p] (defScope st))
    (hfs : ∀ (ns : List Int) (M : Mem) (Φ : Cont), ns.length ≤ n → (∀ z ∈ ns, Builtin.Int.intBits z ≤ 1048576) → Φ (.bl true) M → fs [.scr (ns.map .int)] M Φ)
    (body : ∀ (cdv : Value) (A : Around) (outer : List Env) (s : Shared) (H : Hp) (E : XK), Room k (A.deeper (envOfC qual (defScope st) s.heap.objs.size f cdv)) →
      ∃ dsb, XSs (cxOf CX0 P w K mg base N qual (defScope st) f cdv A outer s H E).nox T (defBody st) dsb ∧ ∀ ds M Φ, fs ds M Φ → dsb { nx := fun _ M' => drp Φ .non M', rt := drp Φ } (startG N ds) M) :
    FnOk P w K mg base CX0 (k + 1) f fd [p] (LawSp K T n) := by
  refine F.ok S (fun vs H Q E h => ?_) (fun cdv A outer s H vs Q E hr h => ?_)
  · obtain ⟨a, ns, rfl, _⟩ := h
    rfl
  · obtain ⟨dsb, hx, hd⟩ := body cdv A outer s H E hr
    exact ⟨_, pss_pre hx, law_read hfs hd h⟩
end DL

/-! Sp1: the draws of the laws: what stands in the store, the promises. -/
namespace DL
open PySem PySem.Spec PyProof.Rows L2
/-- the draws' dict at d, its list of great ones at l; at most n turns so far -/
def DrM (gs cs : List Int) (r t : Int) (l : Addr) : List (Key × D) := [(.inr "great", .ptr l), (.inr "cells", .lst (cs.map .int)), (.inr "rest", .int r), (.inr "turn", .int t)]
structure Dr (M : Mem) (d l : Addr) (n : Nat) : Prop where
  ne : l ≠ d
  ex : ∃ (gs cs : List Int) (r t : Int), M d = some (.dK (DrM gs cs r t l)) ∧ M l = some (.lst (gs.map .int)) ∧ (∀ g ∈ gs, 0 ≤ g) ∧ 0 ≤ r ∧ 0 ≤ t ∧ t ≤ n
/-- all but the draws stays -/
def Ev (M M' : Mem) (d l : Addr) : Prop := ∀ a, a ≠ d → a ≠ l → M' a = M a
theorem Ev.refl {M : Mem} {d l : Addr} : Ev M M d l := fun _ _ _ => rfl
theorem Ev.trans {M M1 M2 : Mem} {d l : Addr} (a : Ev M M1 d l) (b : Ev M1 M2 d l) : Ev M M2 d l := fun c h1 h2 => (b c h1 h2).trans (a c h1 h2)
theorem Dr.mono {M : Mem} {d l : Addr} {n m : Nat} (h : Dr M d l n) (le : n ≤ m) : Dr M d l m := by
  obtain ⟨ne, gs, cs, r, t, h1, h2, h3, h4, h5, h6⟩ := h
  exact ⟨ne, gs, cs, r, t, h1, h2, h3, h4, h5, by omega⟩
section
variable {κ : Type} [DecidableEq κ] {k k' : κ} {d e : D} {kvs : List (κ × D)}
theorem valD_hit : valD ((k, d) :: kvs) k = some d := by simp [valD]
theorem valD_skip (h : k' ≠ k) : valD ((k', d) :: kvs) k = valD kvs k := by simp [valD, List.find?_cons, h]
theorem putD_skip (h : k' ≠ k) : putD ((k', d) :: kvs) k e = (k', d) :: putD kvs k e := by
  unfold putD
  rw [List.any_cons, decide_eq_false h, Bool.false_or]
  split
  · rw [List.map_cons, if_neg h]
  · rfl
theorem putD_hit (h : ∀ p ∈ kvs, p.1 ≠ k) : putD ((k, d) :: kvs) k e = (k, e) :: kvs := by
  unfold putD
  rw [List.any_cons, decide_eq_true rfl, Bool.true_or, if_pos rfl, List.map_cons, if_pos rfl]
  congr 1
  exact (List.map_congr_left fun p hp => show (if p.1 = k then (p.1, e) else p) = id p from if_neg (h p hp)).trans (List.map_id _)
end
theorem ne_gc : (Sum.inr "great" : Key) ≠ (Sum.inr "cells" : Key) := by decide +kernel
theorem ne_gr : (Sum.inr "great" : Key) ≠ (Sum.inr "rest" : Key) := by decide +kernel
theorem ne_gt : (Sum.inr "great" : Key) ≠ (Sum.inr "turn" : Key) := by decide +kernel
theorem ne_cr : (Sum.inr "cells" : Key) ≠ (Sum.inr "rest" : Key) := by decide +kernel
theorem ne_ct : (Sum.inr "cells" : Key) ≠ (Sum.inr "turn" : Key) := by decide +kernel
theorem ne_rt : (Sum.inr "rest" : Key) ≠ (Sum.inr "turn" : Key) := by decide +kernel
section
variable {gs cs : List Int} {r t x : Int} {l : Addr}
theorem dr_great : valD (DrM gs cs r t l) (.inr "great") = some (.ptr l) := valD_hit
theorem dr_cells : valD (DrM gs cs r t l) (.inr "cells") = some (.lst (cs.map .int)) := by unfold DrM; rw [valD_skip ne_gc, valD_hit]
theorem dr_rest : valD (DrM gs cs r t l) (.inr "rest") = some (.int r) := by unfold DrM; rw [valD_skip ne_gr, valD_skip ne_cr, valD_hit]
theorem dr_turn : valD (DrM gs cs r t l) (.inr "turn") = some (.int t) := by unfold DrM; rw [valD_skip ne_gt, valD_skip ne_ct, valD_skip ne_rt, valD_hit]
theorem dr_put_rest : putD (DrM gs cs r t l) (.inr "rest") (.int x) = DrM gs cs x t l := by
  unfold DrM
  rw [putD_skip ne_gr, putD_skip ne_cr, putD_hit]
  intro p hp
  rcases List.mem_singleton.mp hp with rfl
  exact ne_rt.symm
theorem dr_put_turn : putD (DrM gs cs r t l) (.inr "turn") (.int x) = DrM gs cs r x l := by
  unfold DrM
  rw [putD_skip ne_gt, putD_skip ne_ct, putD_skip ne_rt, putD_hit]
  intro p hp
  cases hp
theorem dr_len : (DrM gs cs r t l).length < sizeLine := by rw [sizeLine_eq]; show 4 < _; decide
end
def fs__law_blended : FS := fun ds M Φ => ∃ d l cs gs r t, ds = [.ptr d] ∧ M d = some (.dK (DrM gs cs r t l)) ∧ 0 ≤ t ∧ t ≤ 1000000000 ∧ ∀ x : Int, 0 ≤ x → Φ (.int x) (M.set d (.dK (DrM gs cs r (t + 1) l)))
theorem len__law_blended : ∀ ds M Φ, fs__law_blended ds M Φ → ds.length = 1 := by rintro ds M Φ ⟨d, l, cs, gs, r, t, rfl, _⟩; rfl
def fs__law_draw : FS := fun ds M Φ => ∃ d l n room, ds = [.ptr d, .int room] ∧ Dr M d l n ∧ n ≤ 1000000000 ∧ 0 < room ∧ room.natAbs.log2 < 9000 ∧ ∀ (x : Int) (M' : Mem), 0 ≤ x → x < room → Dr M' d l (n + 1) → Ev M M' d l → Φ (.int x) M'
theorem len__law_draw : ∀ ds M Φ, fs__law_draw ds M Φ → ds.length = 2 := by rintro ds M Φ ⟨d, l, n, room, rfl, _⟩; rfl
end DL

/-! Sp2: webs and their texts: plain data, the promises. -/
namespace DL
open PySem PySem.Spec PyProof.Rows L2 TL
def pairD (t : Int × Int) : D := .tup [.int t.1, .int t.2]
def webD (n : Int) (ts : List (Int × Int)) : D := .tup [.str "web", .int n, .tup (ts.map pairD)]
structure GoodW (n : Int) (ts : List (Int × Int)) : Prop where
  lo : 1 ≤ n
  hi : n ≤ 8
  len : ts.length ≤ 12
  ok : ∀ t ∈ ts, 0 ≤ t.1 ∧ t.1 ≤ t.2 ∧ t.2 < n
mutual
def puD : D → Bool
  | .non => true
  | .bl _ => true
  | .int _ => true
  | .str x => decide (x.length ≤ 1000000)
  | .tup xs => puAll xs && decide (xs.length ≤ 1000000)
  | .lst xs => puAll xs && decide (xs.length ≤ 1000000)
  | .dic _ => true
  | _ => false
def puAll : List D → Bool
  | [] => true
  | x :: xs => puD x && puAll xs
end
theorem puAll_mem : ∀ {xs : List D} {x : D}, puAll xs = true → x ∈ xs → puD x = true
  | y :: ys, x, h, hx => by
    rw [puAll, Bool.and_eq_true] at h
    rcases List.mem_cons.mp hx with rfl | hx
    · exact h.1
    · exact puAll_mem h.2 hx
def tyS : D → String
  | .non => "NoneType"
  | .bl _ => "bool"
  | .int _ => "int"
  | .str _ => "str"
  | .tup _ => "tuple"
  | .lst _ => "list"
  | .dic _ => "dict"
  | _ => ""
theorem tyD_pu {M : Mem} {d : D} (h : puD d = true) : tyD M d = some (tyS d) := by
  cases d <;> first | rfl | cases h
def isWholeD : D → Bool
  | .int _ => true
  | _ => false
def isBelowD : D → Int → Bool
  | .int i, b => decide (0 ≤ i) && decide (i < b)
  | _, _ => false
def isPairD (n : Int) : D → Bool
  | .tup [a, b] => isBelowD a n && isBelowD b n && (match a, b with
    | .int i, .int j => decide (i ≤ j)
    | _, _ => false)
  | _ => false
def isW3 : D → D → D → Bool
  | .str s, .int n, .tup ts => decide (s = "web") && (decide (1 ≤ n) && decide (n ≤ 8)) && decide ((ts.length : Int) ≤ 12) && ts.all (isPairD n)
  | _, _, _ => false
def isWebD : D → Bool
  | .tup [a, b, c] => isW3 a b c
  | _ => false
def fs_is_whole : FS := fun ds M Φ => ∃ d, ds = [d] ∧ puD d = true ∧ Φ (.bl (isWholeD d)) M
theorem len_is_whole : ∀ ds M Φ, fs_is_whole ds M Φ → ds.length = 1 := by rintro ds M Φ ⟨d, rfl, _⟩; rfl
def fs_is_below : FS := fun ds M Φ => ∃ d b, ds = [d, .int b] ∧ puD d = true ∧ Φ (.bl (isBelowD d b)) M
theorem len_is_below : ∀ ds M Φ, fs_is_below ds M Φ → ds.length = 2 := by rintro ds M Φ ⟨d, b, rfl, _⟩; rfl
def fs_is_pair : FS := fun ds M Φ => ∃ n d, ds = [.int n, d] ∧ puD d = true ∧ Φ (.bl (isPairD n d)) M
theorem len_is_pair : ∀ ds M Φ, fs_is_pair ds M Φ → ds.length = 2 := by rintro ds M Φ ⟨n, d, rfl, _⟩; rfl
def fs_is_web : FS := fun ds M Φ => ∃ d, ds = [d] ∧ puD d = true ∧ Φ (.bl (isWebD d)) M
theorem len_is_web : ∀ ds M Φ, fs_is_web ds M Φ → ds.length = 1 := by rintro ds M Φ ⟨d, rfl, _⟩; rfl
def fs_need_web (c : Addr) : FSX := fun ds M Φ Ξ => ∃ d, ds = [d] ∧ puD d = true ∧ (isWebD d = true → Φ .non M) ∧ (isWebD d = false → Ξ c [] M)
theorem len_need_web {c : Addr} : ∀ ds M Φ Ξ, fs_need_web c ds M Φ Ξ → ds.length = 1 := by rintro ds M Φ Ξ ⟨d, rfl, _⟩; rfl
theorem mono_need_web {c : Addr} : ∀ ds M Φ Ξ Ξ', fs_need_web c ds M Φ Ξ → (∀ C fs M, Ξ C fs M → Ξ' C fs M) → fs_need_web c ds M Φ Ξ' := by rintro ds M Φ Ξ Ξ' ⟨d, rfl, h1, h2, h3⟩ k; exact ⟨d, rfl, h1, h2, fun e => k _ _ _ (h3 e)⟩
def fs_need_text (c : Addr) : FSX := fun ds M Φ Ξ => ∃ d, ds = [d] ∧ puD d = true ∧ ((∃ z, d = .str z) → Φ .non M) ∧ ((∀ z, d ≠ .str z) → Ξ c [("at", .int (-1))] M)
theorem len_need_text {c : Addr} : ∀ ds M Φ Ξ, fs_need_text c ds M Φ Ξ → ds.length = 1 := by rintro ds M Φ Ξ ⟨d, rfl, _⟩; rfl
theorem mono_need_text {c : Addr} : ∀ ds M Φ Ξ Ξ', fs_need_text c ds M Φ Ξ → (∀ C fs M, Ξ C fs M → Ξ' C fs M) → fs_need_text c ds M Φ Ξ' := by rintro ds M Φ Ξ Ξ' ⟨d, rfl, h1, h2, h3⟩ k; exact ⟨d, rfl, h1, h2, fun e => k _ _ _ (h3 e)⟩
end DL

/-! Tx: the plain law of texts: numbers, pieces, words. -/
namespace DL
open PySem PySem.Spec PyProof.Rows L2 TL
def digB (c : Nat) : Bool := decide (48 ≤ c) && decide (c ≤ 57)
def numOf : List Nat → Option Nat
  | [a] => if digB a = true then some (a - 48) else none
  | [a, b] => if (digB a && digB b) = true then (if a = 48 then none else some ((a - 48) * 10 + (b - 48))) else none
  | _ => none
theorem digB_iff {c : Nat} : digB c = true ↔ 48 ≤ c ∧ c ≤ 57 := by unfold digB; rw [Bool.and_eq_true, decide_eq_true_eq, decide_eq_true_eq]
theorem dig_in (c : Nat) : decide (c ∈ (Str.ofString "0123456789").cps.toList) = digB c := by
  have e : (Str.ofString "0123456789").cps.toList = [48, 49, 50, 51, 52, 53, 54, 55, 56, 57] := by decide +kernel
  rw [e, Bool.eq_iff_iff, decide_eq_true_eq, digB_iff]
  simp only [List.mem_cons, List.not_mem_nil, or_false]
  omega
theorem numL2 : ∀ i < 10, ∀ j < 10, i ≠ 0 → numL (i * 10 + j) = [48 + i, 48 + j] := by decide +kernel
theorem numL2z : ∀ j < 10, numL (0 * 10 + j) ≠ [48, 48 + j] := by decide +kernel
theorem num_key {l : List Nat} (h1 : 1 ≤ l.length) (h2 : l.length ≤ 2) (hd : l.all digB = true) : numOf l = if numL (NumText.digitsVal l) = l then some (NumText.digitsVal l) else none := by
  match l, h1, h2 with
  | [a], _, _ =>
    simp only [List.all_cons, List.all_nil, Bool.and_true] at hd
    have ha := digB_iff.mp hd
    have e : NumText.digitsVal [a] = a - 48 := by simp [NumText.digitsVal]
    rw [e, numL_lt (by omega), numOf, if_pos hd, if_pos (by congr 1; omega)]
  | [a, b], _, _ =>
    simp only [List.all_cons, List.all_nil, Bool.and_true] at hd
    have hab := Bool.and_eq_true_iff.mp hd
    have ha := digB_iff.mp hab.1
    have hb := digB_iff.mp hab.2
    have e : NumText.digitsVal [a, b] = (a - 48) * 10 + (b - 48) := by simp [NumText.digitsVal]
    rw [e, numOf, if_pos hd]
    by_cases z : a = 48
    · rw [if_pos z, if_neg]
      subst z
      have := numL2z (b - 48) (by omega)
      rw [show 48 + (b - 48) = b by omega] at this
      exact this
    · rw [if_neg z, numL2 (a - 48) (by omega) (b - 48) (by omega) (by omega), if_pos]
      rw [show 48 + (a - 48) = a by omega, show 48 + (b - 48) = b by omega]
theorem numOf_num {l : List Nat} {n : Nat} (h : numOf l = some n) : numL n = l ∧ n < 100 := by
  have sh : l.length = 1 ∨ l.length = 2 := by
    match l, h with
    | [], h => cases h
    | [_], _ => exact .inl rfl
    | [_, _], _ => exact .inr rfl
    | _ :: _ :: _ :: _, h => cases h
  have hd : l.all digB = true := by
    match l, h with
    | [], h => cases h
    | [a], h =>
      rw [numOf] at h
      by_cases c : digB a = true
      · simp [c]
      · rw [if_neg c] at h; cases h
    | [a, b], h =>
      rw [numOf] at h
      by_cases c : (digB a && digB b) = true
      · simpa using c
      · rw [if_neg c] at h; cases h
    | _ :: _ :: _ :: _, h => cases h
  have k := num_key (by omega) (by omega) hd
  rw [k] at h
  by_cases c : numL (NumText.digitsVal l) = l
  · rw [if_pos c] at h
    cases h
    refine ⟨c, ?_⟩
    have b : ∀ x ∈ l, x - 48 ≤ 9 := fun x hx => by have := digB_iff.mp (List.all_eq_true.mp hd x hx); omega
    match l, sh with
    | [a], _ => simp [NumText.digitsVal]; have := b a (by simp); omega
    | [a, c], _ => simp [NumText.digitsVal]; have := b a (by simp); have := b c (by simp); omega
    | [], sh => simp at sh
    | _ :: _ :: _ :: _, sh => simp at sh
  · rw [if_neg c] at h; cases h
theorem num_numOf : ∀ n < 100, numOf (numL n) = some n := by decide +kernel
def optI : Option Nat → D
  | some n => .int n
  | none => .non
def optT : Option (List Nat) → D
  | some l => .tup (l.map fun (n : Nat) => D.int n)
  | none => .non
def optAll : List (Option Nat) → Option (List Nat)
  | [] => some []
  | none :: _ => none
  | some n :: r => (optAll r).map (n :: ·)
theorem optAll_none : ∀ {os : List (Option Nat)}, optAll os = none ↔ ∃ o ∈ os, o = none
  | [] => by simp [optAll]
  | none :: r => by simp [optAll]
  | some n :: r => by simp [optAll, optAll_none (os := r)]
theorem optAll_some : ∀ {os : List (Option Nat)} {l : List Nat}, optAll os = some l → os = l.map some
  | [], l, h => by cases h; rfl
  | none :: r, l, h => by cases h
  | some n :: r, l, h => by
    rw [optAll] at h
    cases e : optAll r with
    | none => rw [e] at h; cases h
    | some m => rw [e] at h; cases h; rw [List.map_cons, ← optAll_some e]
def inner (l : List Nat) : List Nat := (l.drop 1).dropLast
def numsOf (l : List Nat) : Option (List Nat) :=
  if l.length < 2 ∨ l.head? ≠ some 40 ∨ l.getLast? ≠ some 41 then none else if l.length = 2 then some [] else optAll ((spl [44] 0 [] (inner l)).map numOf)
def tieOf (n : Int) (p : List Nat) : Option (Int × Int) := match numsOf p with
  | some [a, b] => if a ≤ b ∧ (b : Int) < n then some ((a : Int), (b : Int)) else none
  | _ => none
def takeT (n : Int) : Nat → List (List Nat) → List (Int × Int)
  | 0, _ => []
  | _ + 1, [] => []
  | k + 1, p :: ps => match tieOf n p with
    | some t => t :: takeT n k ps
    | none => []
def webL : List Nat := [119, 101, 98]
def readN (n : Int) (ps : List (List Nat)) : Sum Nat (Int × List (Int × Int)) :=
  if 1 ≤ n ∧ n ≤ 8 then (if (takeT n 12 ps).length = ps.length then .inr (n, takeT n 12 ps) else .inl ((takeT n 12 ps).length + 2)) else .inl 1
def readW : List (List Nat) → Sum Nat (Int × List (Int × Int))
  | [] => .inl 0
  | w :: r => if w ≠ webL then .inl 0 else match r with
    | [] => .inl 1
    | v :: ps => match numOf v with
      | none => .inl 1
      | some n => readN n ps
def words (l : List Nat) : List (List Nat) := spl [32] 0 [] l
theorem pair_tie (n : Int) (p : List Nat) : isPairD n (optT (numsOf p)) = (tieOf n p).isSome := by
  unfold tieOf
  cases e : numsOf p with
  | none => rfl
  | some l =>
    match l with
    | [] => rfl
    | [_] => rfl
    | [a, b] =>
      show (((decide (0 ≤ (a : Int)) && decide ((a : Int) < n)) && (decide (0 ≤ (b : Int)) && decide ((b : Int) < n))) && decide ((a : Int) ≤ b)) = (if a ≤ b ∧ (b : Int) < n then some ((a : Int), (b : Int)) else none).isSome
      by_cases h : a ≤ b ∧ (b : Int) < n
      · rw [if_pos h]
        simp only [Option.isSome_some, Bool.and_eq_true, decide_eq_true_eq]
        omega
      · rw [if_neg h]
        simp only [Option.isSome_none, Bool.and_eq_false_iff, decide_eq_false_iff_not]
        omega
    | _ :: _ :: _ :: _ => rfl
theorem tie_data {n : Int} {p : List Nat} {t : Int × Int} (h : tieOf n p = some t) : optT (numsOf p) = pairD t ∧ 0 ≤ t.1 ∧ t.1 ≤ t.2 ∧ t.2 < n := by
  unfold tieOf at h
  split at h
  · rename_i a b e
    split at h
    · rename_i c
      cases h
      rw [e]
      exact ⟨rfl, by omega, by omega, c.2⟩
    · cases h
  · cases h
theorem takeT_ok {n : Int} : ∀ {k : Nat} {ps : List (List Nat)}, (takeT n k ps).length ≤ k ∧ (takeT n k ps).length ≤ ps.length ∧ ∀ t ∈ takeT n k ps, 0 ≤ t.1 ∧ t.1 ≤ t.2 ∧ t.2 < n
  | 0, _ => ⟨Nat.le_refl _, Nat.zero_le _, fun t h => by cases h⟩
  | k + 1, [] => ⟨Nat.zero_le _, Nat.zero_le _, fun t h => by cases h⟩
  | k + 1, p :: ps => by
    rw [takeT]
    cases e : tieOf n p with
    | none => exact ⟨Nat.zero_le _, Nat.zero_le _, fun t h => by cases h⟩
    | some t =>
      obtain ⟨h1, h2, h3⟩ := takeT_ok (n := n) (k := k) (ps := ps)
      refine ⟨by simp; omega, by simp; omega, fun t' h => ?_⟩
      rcases List.mem_cons.mp h with rfl | h
      · exact (tie_data e).2
      · exact h3 t' h
end DL
namespace DL
open PySem PySem.Spec PyProof.Rows L2 TL
theorem spl1_hit {s : Nat} {acc r : List Nat} : spl [s] 0 acc (s :: r) = acc :: spl [s] 0 [] r := spl_hit (by simp [pre])
theorem spl1_miss {s c : Nat} {acc r : List Nat} (h : c ≠ s) : spl [s] 0 acc (c :: r) = spl [s] 0 (acc ++ [c]) r := spl_miss (by simp [pre, h])
theorem spl_ne {s : Nat} : ∀ (l acc : List Nat), spl [s] 0 acc l ≠ []
  | [], acc => by rw [spl_nil]; simp
  | c :: r, acc => by
    by_cases h : c = s
    · subst h; rw [spl1_hit]; simp
    · rw [spl1_miss h]; exact spl_ne r _
theorem joinL_cons {S p : List Nat} {ps : List (List Nat)} (h : ps ≠ []) : joinL S (p :: ps) = p ++ (S ++ joinL S ps) := by
  cases ps with
  | nil => exact absurd rfl h
  | cons q r => rfl
theorem joinL_spl {s : Nat} : ∀ (l acc : List Nat), joinL [s] (spl [s] 0 acc l) = acc ++ l
  | [], acc => by rw [spl_nil, List.append_nil]; rfl
  | c :: r, acc => by
    by_cases h : c = s
    · subst h
      rw [spl1_hit, joinL_cons (spl_ne _ _), joinL_spl r []]
      rfl
    · rw [spl1_miss h, joinL_spl r]
      simp
theorem spl_free {s : Nat} : ∀ (l acc : List Nat), s ∉ acc → ∀ p ∈ spl [s] 0 acc l, s ∉ p
  | [], acc, ha => by rw [spl_nil]; intro p hp; rw [List.mem_singleton.mp hp]; exact ha
  | c :: r, acc, ha => by
    by_cases h : c = s
    · subst h
      rw [spl1_hit]
      intro p hp
      rcases List.mem_cons.mp hp with rfl | hp
      · exact ha
      · exact spl_free r [] (by simp) p hp
    · rw [spl1_miss h]
      exact spl_free r _ (by simp [ha, Ne.symm h])
theorem spl_len {s : Nat} : ∀ (l acc : List Nat), (spl [s] 0 acc l).length ≤ l.length + 1 ∧ ∀ p ∈ spl [s] 0 acc l, p.length ≤ acc.length + l.length
  | [], acc => by rw [spl_nil]; exact ⟨by simp, fun p hp => by rw [List.mem_singleton.mp hp]; simp⟩
  | c :: r, acc => by
    by_cases h : c = s
    · subst h
      rw [spl1_hit]
      obtain ⟨h1, h2⟩ := spl_len (s := c) r []
      refine ⟨by simp; omega, fun p hp => ?_⟩
      rcases List.mem_cons.mp hp with rfl | hp
      · simp
      · have := h2 p hp; simp at this; simp; omega
    · rw [spl1_miss h]
      obtain ⟨h1, h2⟩ := spl_len (s := s) r (acc ++ [c])
      refine ⟨by simp; omega, fun p hp => ?_⟩
      have := h2 p hp; simp at this; simp; omega
def pieceL (is : List Nat) : List Nat := 40 :: (joinL [44] (is.map numL) ++ [41])
def webTextL (n : Int) (ts : List (Int × Int)) : List Nat := joinL [32] (webL :: numL n.toNat :: ts.map fun t => pieceL [t.1.toNat, t.2.toNat])
theorem inner_piece (l : List Nat) : inner (40 :: (l ++ [41])) = l := by unfold inner; simp
theorem nums_piece {is : List Nat} (h0 : is ≠ []) (h : ∀ i ∈ is, i < 100) : numsOf (pieceL is) = some is := by
  have hs : spl [44] 0 [] (joinL [44] (is.map numL)) = is.map numL := spl_join (by simpa using h0) fun p hp => by
    obtain ⟨i, _, rfl⟩ := List.mem_map.mp hp
    exact numL_free (.inl (by omega))
  have hl : (joinL [44] (is.map numL)).length ≠ 0 := by
    cases is with
    | nil => exact absurd rfl h0
    | cons i r =>
      intro z
      have z' := List.length_eq_zero_iff.mp z
      cases r with
      | nil => exact numL_ne i z'
      | cons j r => rw [List.map_cons, joinL_cons (by simp)] at z'; simp at z'
  unfold numsOf
  rw [if_neg, if_neg]
  · show optAll ((spl [44] 0 [] (inner (40 :: (joinL [44] (is.map numL) ++ [41])))).map numOf) = _
    rw [inner_piece, hs, List.map_map]
    clear hs hl h0
    induction is with
    | nil => rfl
    | cons i r ih =>
      rw [List.map_cons, Function.comp, num_numOf i (h i (by simp)), optAll, ih fun j hj => h j (List.mem_cons_of_mem _ hj)]
      rfl
  · unfold pieceL; simp; simpa using hl
  · unfold pieceL
    rw [← List.cons_append, List.getLast?_concat]
    simp
theorem tie_piece {n : Int} {t : Int × Int} (h : 0 ≤ t.1 ∧ t.1 ≤ t.2 ∧ t.2 < n) (hn : n ≤ 8) : tieOf n (pieceL [t.1.toNat, t.2.toNat]) = some t := by
  unfold tieOf
  rw [nums_piece (by simp) (by intro i hi; simp at hi; omega)]
  show (if t.1.toNat ≤ t.2.toNat ∧ (t.2.toNat : Int) < n then _ else _) = _
  rw [if_pos (by omega)]
  obtain ⟨a, b⟩ := t
  simp only at h ⊢
  rw [Int.toNat_of_nonneg (by omega), Int.toNat_of_nonneg (by omega)]
theorem piece_tie {n : Int} {p : List Nat} {t : Int × Int} (h : tieOf n p = some t) : pieceL [t.1.toNat, t.2.toNat] = p := by
  unfold tieOf at h
  split at h
  · rename_i a b e
    split at h
    · cases h
      unfold numsOf at e
      split at e
      · cases e
      · rename_i c
        simp only [not_or, Nat.not_lt, ne_eq, Classical.not_not] at c
        split at e
        · cases e
        · have os := optAll_some e
          have hp : p = 40 :: (inner p ++ [41]) := by
            obtain ⟨c1, c2, c3⟩ := c
            cases p with
            | nil => simp at c1
            | cons x r =>
              simp at c2
              subst c2
              unfold inner
              have r0 : r ≠ [] := by intro z; subst z; simp at c1
              have : r.getLast r0 = 41 := by
                rw [List.getLast?_cons, List.getLast?_eq_some_getLast r0] at c3
                simpa using c3
              have h2 := List.dropLast_concat_getLast r0
              rw [this] at h2
              simp [h2]
          have hm : spl [44] 0 [] (inner p) = [numL a, numL b] := by
            match hx : spl [44] 0 [] (inner p), os with
            | [x, y], os =>
              simp at os
              rw [(numOf_num os.1).1, (numOf_num os.2).1]
            | [], os => simp at os
            | [_], os => simp at os
            | _ :: _ :: _ :: _, os => simp at os
          have hj := joinL_spl (s := 44) (inner p) []
          rw [hm, List.nil_append] at hj
          unfold pieceL
          simp only [Int.toNat_natCast]
          rw [List.map_cons, List.map_cons, List.map_nil, hj, ← hp]
    · cases h
  · cases h
end DL

/-! Sp3: the promises about texts. -/
namespace DL
open PySem PySem.Spec PyProof.Rows L2 TL
def strL (l : List Nat) : D := .str ⟨l.toArray⟩
def oneC (x : D) : Nat := match x with
  | .str z => z.cps.toList.headD 0
  | _ => 0
theorem atI_zero {α : Type} {c : α} {r : List α} : atI (c :: r) 0 = some c := by
  unfold atI ixN
  rw [if_pos (by omega), if_pos (by simp only [List.length_cons]; omega)]
  rfl
theorem atI_last {α : Type} {l : List α} {c : α} (h : l.getLast? = some c) : atI l (-1) = some c := by
  have hl : l ≠ [] := fun z => by rw [z] at h; cases h
  have h0 : 0 < l.length := List.length_pos_iff.mpr hl
  have e : ixN l.length (-1) = some (l.length - 1) := by
    unfold ixN
    first
      | (rw [if_neg (by omega), if_pos (by omega)]; congr 1; omega)
      | (simp; omega)
  unfold atI
  rw [e]
  show l[l.length - 1]? = some c
  rw [← List.getLast?_eq_getElem?]
  exact h
theorem tl_cut_inner {z : Str} (h : 2 ≤ z.length) : tl (cutS z (some 1) (some (-1))) = inner (tl z) := by
  have hl : z.length = (tl z).length := len_tl z
  have e1 : HT.sIx z.length 0 (some 1) = 1 := by unfold HT.sIx; simp; omega
  have e2 : HT.sIx z.length z.length (some (-1)) = z.length - 1 := by unfold HT.sIx; simp; omega
  unfold cutS
  rw [e1, e2]
  show ((tl z).drop 1).take _ = _
  unfold inner
  rw [List.dropLast_eq_take, List.length_drop, ← hl]
theorem tl_cut_head {z : Str} (h : 1 ≤ z.length) : tl (cutS z none (some 1)) = (tl z).take 1 := by
  have e2 : HT.sIx z.length z.length (some 1) = 1 := by unfold HT.sIx; simp; omega
  unfold cutS
  rw [HT.sIx_none, e2]
  rfl
theorem tl_cut_last {z : Str} (h : 1 ≤ z.length) : tl (cutS z (some (-1)) none) = (tl z).drop (z.length - 1) := by
  have hl : z.length = (tl z).length := len_tl z
  have e1 : HT.sIx z.length 0 (some (-1)) = z.length - 1 := by unfold HT.sIx; simp; omega
  unfold cutS
  rw [HT.sIx_none, e1]
  show ((tl z).drop _).take _ = _
  rw [List.take_of_length_le (by rw [List.length_drop]; omega)]
theorem last_drop {l : List Nat} {c : Nat} (h : l.getLast? = some c) : l.drop (l.length - 1) = [c] := by
  obtain ⟨ys, rfl⟩ := List.getLast?_eq_some_iff.mp h
  simp
theorem split_words {z y : Str} {s : Nat} (ey : tl y = [s]) (hk : y.cps.all (· < 256) = true) : Txt.split z y = (spl [s] 0 [] (tl z)).map fun l => (⟨l.toArray⟩ : Str) := by
  refine map_tl_inj ?_
  rw [split_spl z y (by rw [ey]; simp) (kind_ok hk), ey, List.map_map]
  show _ = List.map id _
  rw [List.map_id]
theorem puAll_ints : ∀ l : List Nat, puAll (l.map fun (n : Nat) => D.int n) = true
  | [] => rfl
  | n :: l => by rw [List.map_cons, puAll, puAll_ints l]; rfl
theorem pu_nums {p : List Nat} (h : p.length ≤ 1000000) : puD (optT (numsOf p)) = true := by
  cases e : numsOf p with
  | none => rfl
  | some l =>
    have hl : l.length ≤ 1000000 := by
      unfold numsOf at e
      split at e
      · cases e
      · rename_i c
        split at e
        · cases e; simp
        · have os := congrArg List.length (optAll_some e)
          rw [List.length_map, List.length_map] at os
          have h1 := (spl_len (s := 44) (inner p) []).1
          have h2 : (inner p).length = p.length - 2 := by unfold inner; rw [List.length_dropLast, List.length_drop]; omega
          omega
    show (puAll (l.map fun (n : Nat) => D.int n) && decide ((l.map fun (n : Nat) => D.int n).length ≤ 1000000)) = true
    rw [puAll_ints, Bool.true_and, decide_eq_true_eq, List.length_map]
    exact hl
theorem readW_ne {w : List Nat} {r : List (List Nat)} (h : w ≠ webL) : readW (w :: r) = .inl 0 := by simp [readW, h]
theorem readW_1 : readW [webL] = .inl 1 := by simp [readW]
theorem readW_none {v : List Nat} {ps : List (List Nat)} (h : numOf v = none) : readW (webL :: v :: ps) = .inl 1 := by simp [readW, h]
theorem readW_some {v : List Nat} {ps : List (List Nat)} {n : Nat} (h : numOf v = some n) : readW (webL :: v :: ps) = readN n ps := by simp [readW, h]
theorem cut2 {a b : D} {xs : List D} : cutD (a :: b :: xs) (some 2) none = xs := by
  have e : HT.sIx (a :: b :: xs).length 0 (some 2) = 2 := by unfold HT.sIx; simp
  unfold cutD
  rw [HT.sIx_none, e]
  show xs.take _ = xs
  exact List.take_of_length_le (by simp)
theorem pair_of {n : Int} {d : D} (h : isPairD n d = true) : ∃ t : Int × Int, d = pairD t ∧ 0 ≤ t.1 ∧ t.1 ≤ t.2 ∧ t.2 < n := by
  unfold isPairD at h
  split at h
  · rename_i a b
    simp only [Bool.and_eq_true] at h
    obtain ⟨⟨h1, h2⟩, h3⟩ := h
    split at h3
    · rename_i i j
      simp only [isBelowD, Bool.and_eq_true, decide_eq_true_eq] at h1 h2 h3
      exact ⟨(i, j), rfl, h1.1, h3, h2.2⟩
    · cases h3
  · cases h
theorem pairs_of {n : Int} : ∀ {ds : List D}, ds.all (isPairD n) = true → ∃ ts : List (Int × Int), ds = ts.map pairD ∧ ∀ t ∈ ts, 0 ≤ t.1 ∧ t.1 ≤ t.2 ∧ t.2 < n
  | [], _ => ⟨[], rfl, fun t h => by cases h⟩
  | d :: ds, h => by
    rw [List.all_cons, Bool.and_eq_true] at h
    obtain ⟨t, rfl, ht⟩ := pair_of h.1
    obtain ⟨ts, rfl, hts⟩ := pairs_of h.2
    exact ⟨t :: ts, rfl, fun q hq => by
      rcases List.mem_cons.mp hq with rfl | hq
      · exact ht
      · exact hts q hq⟩
theorem isWeb_good {d : D} (h : isWebD d = true) : ∃ n ts, d = webD n ts ∧ GoodW n ts := by
  unfold isWebD at h
  split at h
  · rename_i a b c
    unfold isW3 at h
    split at h
    · rename_i s n ts
      simp only [Bool.and_eq_true, decide_eq_true_eq] at h
      obtain ⟨⟨⟨rfl, h1, h2⟩, h3⟩, h4⟩ := h
      obtain ⟨qs, rfl, hq⟩ := pairs_of h4
      rw [List.length_map] at h3
      exact ⟨n, qs, rfl, h1, h2, by omega, hq⟩
    · cases h
  · cases h
theorem pair_is {n : Int} {t : Int × Int} (h : 0 ≤ t.1 ∧ t.1 ≤ t.2 ∧ t.2 < n) : isPairD n (pairD t) = true := by
  show ((decide (0 ≤ t.1) && decide (t.1 < n)) && (decide (0 ≤ t.2) && decide (t.2 < n)) && decide (t.1 ≤ t.2)) = true
  simp only [Bool.and_eq_true, decide_eq_true_eq]
  omega
theorem good_is {n : Int} {ts : List (Int × Int)} (g : GoodW n ts) : isWebD (webD n ts) = true := by
  show (decide ((Str.ofString "web") = Str.ofString "web") && (decide (1 ≤ n) && decide (n ≤ 8)) && decide (((ts.map pairD).length : Int) ≤ 12) && (ts.map pairD).all (isPairD n)) = true
  have h4 : (ts.map pairD).all (isPairD n) = true := by
    rw [List.all_map, List.all_eq_true]
    exact fun t ht => pair_is (g.ok t ht)
  rw [h4, decide_eq_true rfl, decide_eq_true g.lo, decide_eq_true g.hi, decide_eq_true (by rw [List.length_map]; have := g.len; omega)]
  rfl
theorem puAll_pairs : ∀ ts : List (Int × Int), puAll (ts.map pairD) = true
  | [] => rfl
  | t :: ts => by rw [List.map_cons, puAll, puAll_pairs ts]; rfl
theorem good_pu {n : Int} {ts : List (Int × Int)} (g : GoodW n ts) : puD (webD n ts) = true := by
  have h1 : decide ((Str.ofString "web").length ≤ 1000000) = true := by decide +kernel
  have h2 : decide ((ts.map pairD).length ≤ 1000000) = true := by rw [decide_eq_true_eq, List.length_map]; have := g.len; omega
  show ((decide ((Str.ofString "web").length ≤ 1000000) && (true && ((puAll (ts.map pairD) && decide ((ts.map pairD).length ≤ 1000000)) && true))) && decide ((3 : Nat) ≤ 1000000)) = true
  rw [h1, h2, puAll_pairs]
  rfl
theorem i_ones {M : Mem} {Φ : Cont} {xs : List D} {p : D → Bool} (k : Φ (.bl (xs.any p)) M) : fNe (.lst (xs.filterMap fun x => if p x = true then some (.int 1) else none)) (.lst []) M Φ := by
  have e : (xs.filterMap fun x => if p x = true then some (D.int 1) else none) = ((xs.filter p).map fun _ => (1 : Int)).map D.int := by
    clear k
    induction xs with
    | nil => rfl
    | cons x r ih =>
      by_cases h : p x = true
      · rw [List.filterMap_cons_some (by rw [if_pos h]), List.filter_cons_of_pos h, List.map_cons, List.map_cons, ih]
      · rw [List.filterMap_cons_none (by rw [if_neg h]), List.filter_cons_of_neg h]
        exact ih
  rw [e]
  refine i_neLF ?_
  have : (!((xs.filter p).map fun _ => (1 : Int)).isEmpty) = xs.any p := by
    rw [List.isEmpty_map]
    cases h : xs.any p with
    | true =>
      obtain ⟨x, hx, hp⟩ := List.any_eq_true.mp h
      cases q : xs.filter p with
      | nil => exact absurd (List.mem_filter.mpr ⟨hx, hp⟩) (by rw [q]; simp)
      | cons _ _ => rfl
    | false =>
      have : xs.filter p = [] := List.filter_eq_nil_iff.mpr fun x hx hp => by rw [List.any_eq_false] at h; exact h x hx hp
      rw [this]; rfl
  rw [this]
  exact k
def fs_number_from : FS := fun ds M Φ => ∃ w : Str, ds = [.str w] ∧ w.length ≤ 1000000 ∧ Φ (optI (numOf (tl w))) M
theorem len_number_from : ∀ ds M Φ, fs_number_from ds M Φ → ds.length = 1 := by rintro ds M Φ ⟨d, rfl, _⟩; rfl
def fs__law_number_of : FS := fs_number_from
theorem len__law_number_of : ∀ ds M Φ, fs__law_number_of ds M Φ → ds.length = 1 := len_number_from
def fs_numbers_from : FS := fun ds M Φ => ∃ w : Str, ds = [.str w] ∧ w.length ≤ 1000000 ∧ Φ (optT (numsOf (tl w))) M
theorem len_numbers_from : ∀ ds M Φ, fs_numbers_from ds M Φ → ds.length = 1 := by rintro ds M Φ ⟨d, rfl, _⟩; rfl
def fs__law_numbers_of : FS := fs_numbers_from
theorem len__law_numbers_of : ∀ ds M Φ, fs__law_numbers_of ds M Φ → ds.length = 1 := len_numbers_from
def fs_piece_of_numbers : FS := fun ds M Φ => ∃ t : Int × Int, ds = [pairD t] ∧ 0 ≤ t.1 ∧ t.1 < 100 ∧ 0 ≤ t.2 ∧ t.2 < 100 ∧ Φ (strL (pieceL [t.1.toNat, t.2.toNat])) M
theorem len_piece_of_numbers : ∀ ds M Φ, fs_piece_of_numbers ds M Φ → ds.length = 1 := by rintro ds M Φ ⟨d, rfl, _⟩; rfl
def fs__law_piece_text : FS := fs_piece_of_numbers
theorem len__law_piece_text : ∀ ds M Φ, fs__law_piece_text ds M Φ → ds.length = 1 := len_piece_of_numbers
def fs_web_line : FS := fun ds M Φ => ∃ n ts, ds = [webD n ts] ∧ GoodW n ts ∧ Φ (strL (webTextL n ts)) M
theorem len_web_line : ∀ ds M Φ, fs_web_line ds M Φ → ds.length = 1 := by rintro ds M Φ ⟨n, ts, rfl, _⟩; rfl
def fs__law_web_text : FS := fs_web_line
theorem len__law_web_text : ∀ ds M Φ, fs__law_web_text ds M Φ → ds.length = 1 := len_web_line
def fs_web_text (c : Addr) : FSX := fun ds M Φ Ξ => ∃ d, ds = [d] ∧ puD d = true ∧ (∀ n ts, d = webD n ts → GoodW n ts → Φ (strL (webTextL n ts)) M) ∧ (isWebD d = false → Ξ c [] M)
theorem len_web_text {c : Addr} : ∀ ds M Φ Ξ, fs_web_text c ds M Φ Ξ → ds.length = 1 := by rintro ds M Φ Ξ ⟨d, rfl, _⟩; rfl
theorem mono_web_text {c : Addr} : ∀ ds M Φ Ξ Ξ', fs_web_text c ds M Φ Ξ → (∀ C fs M, Ξ C fs M → Ξ' C fs M) → fs_web_text c ds M Φ Ξ' := by rintro ds M Φ Ξ Ξ' ⟨d, rfl, h1, h2, h3⟩ k; exact ⟨d, rfl, h1, h2, fun e => k _ _ _ (h3 e)⟩
def fs_ties_told : FS := fun ds M Φ => ∃ (n : Int) (ps : List Str), ds = [.int n, .lst (ps.map .str)] ∧ ps.length ≤ 1000000 ∧ (∀ p ∈ ps, p.length ≤ 1000000) ∧ Φ (.tup ((takeT n 12 (ps.map tl)).map pairD)) M
theorem len_ties_told : ∀ ds M Φ, fs_ties_told ds M Φ → ds.length = 2 := by rintro ds M Φ ⟨n, ps, rfl, _⟩; rfl
def toldR (r : Sum Nat (Int × List (Int × Int))) (c : Addr) (M : Mem) (Φ : Cont) (Ξ : XCont) : Prop := match r with
  | .inl at_ => Ξ c [("at", .int (at_ : Nat))] M
  | .inr w => Φ (webD w.1 w.2) M
theorem toldR_mono {r : Sum Nat (Int × List (Int × Int))} {c : Addr} {M : Mem} {Φ : Cont} {Ξ Ξ' : XCont} (h : toldR r c M Φ Ξ) (k : ∀ C fs M, Ξ C fs M → Ξ' C fs M) : toldR r c M Φ Ξ' := by
  cases r with
  | inl a => exact k _ _ _ h
  | inr w => exact h
def fs_web_told (c : Addr) : FSX := fun ds M Φ Ξ => ∃ ws : List Str, ds = [.lst (ws.map .str)] ∧ ws ≠ [] ∧ ws.length ≤ 1000000 ∧ (∀ p ∈ ws, p.length ≤ 1000000) ∧ toldR (readW (ws.map tl)) c M Φ Ξ
theorem len_web_told {c : Addr} : ∀ ds M Φ Ξ, fs_web_told c ds M Φ Ξ → ds.length = 1 := by rintro ds M Φ Ξ ⟨ws, rfl, _⟩; rfl
theorem mono_web_told {c : Addr} : ∀ ds M Φ Ξ Ξ', fs_web_told c ds M Φ Ξ → (∀ C fs M, Ξ C fs M → Ξ' C fs M) → fs_web_told c ds M Φ Ξ' := by rintro ds M Φ Ξ Ξ' ⟨d, rfl, h1, h2, h3, h4⟩ k; exact ⟨d, rfl, h1, h2, h3, toldR_mono h4 k⟩
def fs_read_web (c : Addr) : FSX := fun ds M Φ Ξ => ∃ d, ds = [d] ∧ puD d = true ∧ (∀ z, d = .str z → z.length ≤ 900000 ∧ toldR (readW (words (tl z))) c M Φ Ξ) ∧ ((∀ z, d ≠ .str z) → Ξ c [("at", .int (-1))] M)
theorem len_read_web {c : Addr} : ∀ ds M Φ Ξ, fs_read_web c ds M Φ Ξ → ds.length = 1 := by rintro ds M Φ Ξ ⟨ws, rfl, _⟩; rfl
theorem mono_read_web {c : Addr} : ∀ ds M Φ Ξ Ξ', fs_read_web c ds M Φ Ξ → (∀ C fs M, Ξ C fs M → Ξ' C fs M) → fs_read_web c ds M Φ Ξ' := by rintro ds M Φ Ξ Ξ' ⟨d, rfl, h1, h2, h3⟩ k; exact ⟨d, rfl, h1, fun z e => ⟨(h2 z e).1, toldR_mono (h2 z e).2 k⟩, fun e => k _ _ _ (h3 e)⟩
def fs__law_is_web : FS := fs_is_web
theorem len__law_is_web : ∀ ds M Φ, fs__law_is_web ds M Φ → ds.length = 1 := len_is_web
def webOfR (r : Sum Nat (Int × List (Int × Int))) (M : Mem) (Φ : Cont) : Prop := match r with
  | .inl at_ => Φ (.tup [.non, .int (at_ : Nat)]) M
  | .inr w => Φ (.tup [webD w.1 w.2, .non]) M
def fs__law_web_of : FS := fun ds M Φ => ∃ z : Str, ds = [.str z] ∧ z.length ≤ 900000 ∧ webOfR (readW (words (tl z))) M Φ
theorem len__law_web_of : ∀ ds M Φ, fs__law_web_of ds M Φ → ds.length = 1 := by rintro ds M Φ ⟨z, rfl, _⟩; rfl
theorem enD_get {xs : List D} {i : Nat} {x : D} (h : (enD 0 xs)[i]? = some x) : ∃ d, xs[i]? = some d ∧ x = .tup [.int (i : Int), d] := by
  obtain ⟨d, h1, h2⟩ := enD_at 0 i xs x h
  exact ⟨d, h1, by rw [h2, Nat.zero_add]⟩
end DL

/-! Sp4: the promises of the drawing defs. -/
namespace DL
open PySem PySem.Spec PyProof.Rows L2 TL
/-- any part of it may be compared with [] -/
def ShD (xs : List D) : Prop := ∀ zs : List D, (∀ z ∈ zs, z ∈ xs) → ∃ ys, D.pyAll zs = some ys ∧ SeqAt.shaped (.list ys) = true
theorem pyAll_empty : ∀ {zs : List D} {ys : List PyData}, D.pyAll zs = some ys → ys.isEmpty = zs.isEmpty
  | [], ys, h => by cases h; rfl
  | z :: zs, ys, h => by
    rw [D.pyAll] at h
    cases e1 : z.py with
    | none => rw [e1] at h; cases h
    | some a =>
      cases e2 : D.pyAll zs with
      | none => rw [e1, e2] at h; cases h
      | some b => rw [e1, e2] at h; cases h; rfl
theorem i_neP {M : Mem} {Φ : Cont} {p : Addr} {zs : List D} (h : M p = some (.lst zs)) (hs : ∃ ys, D.pyAll zs = some ys ∧ SeqAt.shaped (.list ys) = true) (k : Φ (.bl (!zs.isEmpty)) M) : fNe (.ptr p) (.lst []) M Φ := by
  obtain ⟨ys, h1, h2⟩ := hs
  refine fNe_py (x := .list ys) (y := .list []) (by rw [pyM_p h, h1]; rfl) rfl h2 (by decide +kernel) ?_
  rw [eqv_nil, pyAll_empty h1]
  exact k
theorem sub_del {M : Mem} {p : Addr} : Sub (M.del p) M := fun a m h => by
  by_cases e : a = p
  · rw [e, Mem.del_same] at h; cases h
  · rw [Mem.del_ne e] at h; exact h
theorem perm_erase {α : Type} : ∀ {xs : List α} {i : Nat} (h : i < xs.length), (xs[i] :: xs.eraseIdx i).Perm xs
  | x :: xs, 0, _ => by simp
  | x :: xs, i + 1, h => by
    have ih := perm_erase (xs := xs) (i := i) (by simpa using h)
    simp only [List.getElem_cons_succ, List.eraseIdx_cons_succ]
    exact (List.Perm.swap x _ _).trans (ih.cons x)
def unP : D → Int × Int
  | .tup [.int a, .int b] => (a, b)
  | _ => (0, 0)
theorem unP_pair (t : Int × Int) : unP (pairD t) = t := rfl
theorem pairs_back {ts : List (Int × Int)} {zs : List D} (h : ∀ z ∈ zs, z ∈ ts.map pairD) : zs = (zs.map unP).map pairD := by
  rw [List.map_map]
  conv => lhs; rw [← List.map_id zs]
  refine List.map_congr_left fun z hz => ?_
  obtain ⟨t, _, rfl⟩ := List.mem_map.mp (h z hz)
  rfl
theorem py_pairs : ∀ ts : List (Int × Int), D.pyAll (ts.map pairD) = some (ts.map fun t => .tuple [.int t.1, .int t.2])
  | [] => rfl
  | t :: ts => by
    rw [List.map_cons, D.pyAll, py_pairs ts]
    rfl
theorem lay_pairs : ∀ ts : List (Int × Int), PyData.canLayAll0 (ts.map fun t => PyData.tuple [.int t.1, .int t.2]) = true
  | [] => rfl
  | t :: ts => by
    rw [List.map_cons, PyData.canLayAll0, lay_pairs ts]
    rfl
theorem depth_pairs : ∀ ts : List (Int × Int), PyData.depthAll (ts.map fun t => PyData.tuple [.int t.1, .int t.2]) ≤ 1
  | [] => Nat.zero_le _
  | t :: ts => by
    rw [List.map_cons, PyData.depthAll]
    have := depth_pairs ts
    have h1 : PyData.depth (.tuple [.int t.1, .int t.2]) ≤ 1 := by simp [PyData.depth, PyData.depthAll]
    omega
theorem shD_pairs (ts : List (Int × Int)) : ShD (ts.map pairD) := fun zs h => by
  rw [pairs_back h]
  refine ⟨_, py_pairs _, ?_⟩
  generalize zs.map unP = ts
  unfold SeqAt.shaped
  have := depth_pairs ts
  simp only [PyData.canLay0, lay_pairs, PyData.depth]
  simp
  omega
theorem perm_pairs {ts : List (Int × Int)} {ys : List D} (h : ys.Perm (ts.map pairD)) : ∃ qs : List (Int × Int), ys = qs.map pairD ∧ qs.Perm ts := by
  refine ⟨ys.map unP, pairs_back fun z hz => h.subset hz, ?_⟩
  have := h.map unP
  rw [List.map_map] at this
  rwa [show (ts.map (unP ∘ pairD)) = ts from by rw [show (unP ∘ pairD) = id from rfl, List.map_id]] at this
instance st_pairs0 {Γ : Gam} {M : Mem} {R : List (D × D) → Mem → Prop} : Stp (dPairs [] Γ M R) (R [] M) := ⟨fun k => k⟩
instance st_pairs1 {Γ : Gam} {M : Mem} {R : List (D × D) → Mem → Prop} {k v : DE} {r : List (DE × DE)} : Stp (dPairs ((k, v) :: r) Γ M R) (k Γ M fun a M1 => v Γ M1 fun b M2 => dPairs r Γ M2 fun ps M3 => R ((a, b) :: ps) M3) := ⟨fun k => k⟩
def greats (ns : List Int) : List Int := ns.filterMap fun i => if (1000000000000000000 : Int) ≤ (i.natAbs : Int) then some ((i.natAbs : Int) - 1000000000000000000) else none
def fs__law_begun : FS := fun ds M Φ => ∃ ns : List Int, ds = [.scr (ns.map .int)] ∧ ns.length ≤ 1000000 ∧ ∀ (d l : Addr) (M' : Mem), M d = none → M l = none → Dr M' d l 0 → Ev M M' d l → Φ (.ptr d) M'
theorem len__law_begun : ∀ ds M Φ, fs__law_begun ds M Φ → ds.length = 1 := by rintro ds M Φ ⟨ns, rfl, _⟩; rfl
def fs__law_pick : FS := fun ds M Φ => ∃ (d l : Addr) (n : Nat) (xs : List D), ds = [.ptr d, .lst xs] ∧ Dr M d l n ∧ n ≤ 1000000000 ∧ xs ≠ [] ∧ xs.length ≤ 1000000 ∧ ∀ x ∈ xs, ∀ M', Dr M' d l (n + 1) → Ev M M' d l → Φ x M'
theorem len__law_pick : ∀ ds M Φ, fs__law_pick ds M Φ → ds.length = 2 := by rintro ds M Φ ⟨d, l, n, xs, rfl, _⟩; rfl
def fs__law_shuffled : FS := fun ds M Φ => ∃ (d l : Addr) (n : Nat) (xs : List D), ds = [.ptr d, .lst xs] ∧ Dr M d l n ∧ n + xs.length ≤ 1000000000 ∧ xs.length ≤ 1000000 ∧ ShD xs ∧ ∀ (ys : List D) (M' : Mem), ys.length = xs.length → (∀ y ∈ ys, y ∈ xs) → ys.Perm xs → Dr M' d l (n + xs.length) → Ev M M' d l → Φ (.lst ys) M'
theorem len__law_shuffled : ∀ ds M Φ, fs__law_shuffled ds M Φ → ds.length = 2 := by rintro ds M Φ ⟨d, l, n, xs, rfl, _⟩; rfl
def nrm (t : Int × Int) : Int × Int := (min t.1 t.2, max t.1 t.2)
def fs__law_made : FS := fun ds M Φ => ∃ (n : Int) (ts : List (Int × Int)), ds = [.int n, .lst (ts.map pairD)] ∧ ts.length ≤ 1000000 ∧ Φ (webD n (ts.map nrm)) M
theorem len__law_made : ∀ ds M Φ, fs__law_made ds M Φ → ds.length = 2 := by rintro ds M Φ ⟨n, ts, rfl, _⟩; rfl
def fs__law_shuffled_web : FS := fun ds M Φ => ∃ (d l : Addr) (n : Nat) (k : Int) (ts : List (Int × Int)), ds = [.ptr d, .int k, .lst (ts.map pairD)] ∧ Dr M d l n ∧ n + ts.length ≤ 1000000000 ∧ ts.length ≤ 1000000 ∧ ∀ (qs : List (Int × Int)) (M' : Mem), qs.Perm ts → Dr M' d l (n + ts.length) → Ev M M' d l → Φ (webD k (qs.map nrm)) M'
theorem len__law_shuffled_web : ∀ ds M Φ, fs__law_shuffled_web ds M Φ → ds.length = 3 := by rintro ds M Φ ⟨d, l, n, k, ts, rfl, _⟩; rfl
def fs__law_is_truth : FS := fun ds M Φ => ∃ b, ds = [.bl b, .bl b] ∧ Φ (.bl true) M
theorem len__law_is_truth : ∀ ds M Φ, fs__law_is_truth ds M Φ → ds.length = 2 := by rintro ds M Φ ⟨b, rfl, _⟩; rfl
theorem Dr.ne_new {M : Mem} {d l p : Addr} {n : Nat} (h : Dr M d l n) (hp : M p = none) : p ≠ d ∧ p ≠ l := by
  obtain ⟨ne, gs, cs, r, t, h1, h2, _⟩ := h
  exact ⟨(fun z => by rw [z, h1] at hp; cases hp), (fun z => by rw [z, h2] at hp; cases hp)⟩
theorem Dr.set {M : Mem} {d l p : Addr} {n : Nat} {o : MO} (h : Dr M d l n) (h1 : p ≠ d) (h2 : p ≠ l) : Dr (M.set p o) d l n := by
  obtain ⟨ne, gs, cs, r, t, a, b, c⟩ := h
  exact ⟨ne, gs, cs, r, t, by rw [Mem.set_ne h1.symm]; exact a, by rw [Mem.set_ne h2.symm]; exact b, c⟩
theorem Dr.del {M : Mem} {d l p : Addr} {n : Nat} (h : Dr M d l n) (h1 : p ≠ d) (h2 : p ≠ l) : Dr (M.del p) d l n := by
  obtain ⟨ne, gs, cs, r, t, a, b, c⟩ := h
  exact ⟨ne, gs, cs, r, t, by rw [Mem.del_ne h1.symm]; exact a, by rw [Mem.del_ne h2.symm]; exact b, c⟩
def fs__law_odd : FS := fun ds M Φ => ∃ (d l : Addr) (n : Nat), ds = [.ptr d] ∧ Dr M d l n ∧ n ≤ 1000000000 ∧ ∀ (x : D) (M' : Mem), puD x = true → isWebD x = false → Dr M' d l (n + 1) → Ev M M' d l → Φ x M'
theorem len__law_odd : ∀ ds M Φ, fs__law_odd ds M Φ → ds.length = 1 := by rintro ds M Φ ⟨d, l, n, rfl, _⟩; rfl
def fs__law_one_letter : FS := fun ds M Φ => ∃ (d l : Addr) (n : Nat) (z : Str), ds = [.ptr d, .str z] ∧ Dr M d l n ∧ n + 3 ≤ 1000000000 ∧ z.length ≤ 100000 ∧ ∀ (y : Str) (M' : Mem), y.length ≤ z.length + 1 → Dr M' d l (n + 3) → Ev M M' d l → Φ (.str y) M'
theorem len__law_one_letter : ∀ ds M Φ, fs__law_one_letter ds M Φ → ds.length = 2 := by rintro ds M Φ ⟨d, l, n, z, rfl, _⟩; rfl
end DL

/-! Sp5: the promises of the judges of the law. -/
namespace DL
open PySem PySem.Spec PyProof.Rows L2 TL
structure IsK (K : PySem.W.Frag) (bt bw we : Addr) : Prop where
  dt : ExcC K bt
  dw : ExcC K bw
  tt : PySem.W.kitOne K (.ref bt) (.ref bt) = some true
  tw : PySem.W.kitOne K (.ref bt) (.ref bw) = some false
  te : PySem.W.kitOne K (.ref bt) (.ref we) = some true
  tv : PySem.W.kitOne K (.ref bt) (.type "ValueError") = some true
  wt : PySem.W.kitOne K (.ref bw) (.ref bt) = some false
  ww : PySem.W.kitOne K (.ref bw) (.ref bw) = some true
  we_ : PySem.W.kitOne K (.ref bw) (.ref we) = some true
  wv : PySem.W.kitOne K (.ref bw) (.type "ValueError") = some true
def fs__law_is_kind (bt bw : Addr) : FS := fun ds M Φ => ∃ (C : Addr) (fs : List (Str × D)) (word : Str), ds = [.exc C fs, .str word] ∧ ((C = bt ∧ word = "BadText") ∨ (C = bw ∧ word = "BadWeb")) ∧ Φ (.bl true) M
theorem len__law_is_kind {bt bw : Addr} : ∀ ds M Φ, fs__law_is_kind bt bw ds M Φ → ds.length = 2 := by rintro ds M Φ ⟨C, fs, w, rfl, _⟩; rfl
theorem i_isx {K : PySem.W.Frag} {M : Mem} {Φ : Cont} {C A : Addr} {fs : List (Str × D)} {b : Bool} (h1 : ExcC K C) (h2 : PySem.W.kitOne K (.ref C) (.ref A) = some b) (k : Φ (.bl b) M) : fIsX K [.exc C fs, .ptr A] M Φ := ⟨h1, b, h2, k⟩
theorem i_isxT {K : PySem.W.Frag} {M : Mem} {Φ : Cont} {C : Addr} {n : String} {fs : List (Str × D)} {b : Bool} (h1 : ExcC K C) (h2 : PySem.W.kitOne K (.ref C) (.type n) = some b) (k : Φ (.bl b) M) : fIsX K [.exc C fs, .ty n] M Φ := ⟨h1, b, h2, k⟩
/-- plain data without dicts, at most n deep -/
def saD : Nat → D → Bool
  | _, .non => true
  | _, .bl _ => true
  | _, .int _ => true
  | _, .str x => PyData.strOk x
  | n + 1, .tup xs => xs.all (saD n)
  | n + 1, .lst xs => xs.all (saD n)
  | _, _ => false
mutual
def szD : D → Nat
  | .tup xs => 1 + szA xs
  | .lst xs => 1 + szA xs
  | _ => 1
def szA : List D → Nat
  | [] => 0
  | x :: xs => szD x + szA xs
end
theorem szD_pos (d : D) : 1 ≤ szD d := by cases d <;> simp [szD]
theorem szA_len : ∀ xs : List D, xs.length ≤ szA xs
  | [] => Nat.zero_le _
  | x :: xs => by rw [szA, List.length_cons]; have := szA_len xs; have := szD_pos x; omega
theorem szA_app : ∀ xs ys : List D, szA (xs ++ ys) = szA xs + szA ys
  | [], ys => by rw [List.nil_append, szA, Nat.zero_add]
  | x :: xs, ys => by rw [List.cons_append, szA, szA, szA_app]; omega
theorem saD_up : ∀ {n : Nat} {d : D}, saD n d = true → saD (n + 1) d = true
  | 0, d, h => by cases d <;> first | (cases h; done) | exact h
  | n + 1, d, h => by
    cases d <;> first | (cases h; done) | exact h | skip
    all_goals
      rename_i xs
      show xs.all (saD (n + 1)) = true
      exact List.all_eq_true.mpr fun x hx => saD_up (List.all_eq_true.mp (show xs.all (saD n) = true from h) x hx)
def PyOk (n : Nat) (d : D) : Prop := ∃ y, d.py = some y ∧ y.canLay0 = true ∧ y.depth ≤ n
theorem pyAll_ok {n : Nat} : ∀ {xs : List D}, (∀ x ∈ xs, PyOk n x) → ∃ ys, D.pyAll xs = some ys ∧ PyData.canLayAll0 ys = true ∧ PyData.depthAll ys ≤ n
  | [], _ => ⟨[], rfl, rfl, Nat.zero_le _⟩
  | x :: xs, h => by
    obtain ⟨y, h1, h2, h3⟩ := h x (by simp)
    obtain ⟨ys, h4, h5, h6⟩ := pyAll_ok (xs := xs) fun z hz => h z (List.mem_cons_of_mem _ hz)
    refine ⟨y :: ys, by rw [D.pyAll, h1, h4]; rfl, by rw [PyData.canLayAll0, h2, h5]; rfl, by rw [PyData.depthAll]; omega⟩
theorem sa_py : ∀ {n : Nat} {d : D}, saD n d = true → PyOk n d
  | 0, d, h => by
    cases d <;> first | (cases h; done) | exact ⟨_, rfl, h, by simp [PyData.depth]⟩
  | n + 1, d, h => by
    cases d <;> first | (cases h; done) | exact ⟨_, rfl, h, by simp [PyData.depth]⟩ | skip
    all_goals
      rename_i xs
      obtain ⟨ys, h1, h2, h3⟩ := pyAll_ok fun x hx => sa_py (List.all_eq_true.mp (show xs.all (saD n) = true from h) x hx)
      refine ⟨_, by rw [D.py, h1]; rfl, by simp [PyData.canLay0, h2], by simp [PyData.depth]; omega⟩
theorem sh_pairs {n : Nat} (hn : n ≤ 40) {ws : List D} (h : ∀ w ∈ ws, saD n w = true) : ∃ ys, D.pyAll (ws.map fun x => D.tup [x, x]) = some ys ∧ SeqAt.shaped (.list ys) = true := by
  obtain ⟨ys, h1, h2, h3⟩ := pyAll_ok (n := n + 1) (xs := ws.map fun x => D.tup [x, x]) fun x hx => by
    obtain ⟨w, hw, rfl⟩ := List.mem_map.mp hx
    obtain ⟨y, a, b, c⟩ := sa_py (h w hw)
    refine ⟨.tuple [y, y], ?_, ?_, ?_⟩
    · show (D.pyAll [w, w]).map PyData.tuple = _
      rw [D.pyAll, D.pyAll, a]; rfl
    · simp [PyData.canLay0, PyData.canLayAll0, b]
    · simp [PyData.depth, PyData.depthAll]; omega
  refine ⟨ys, h1, ?_⟩
  unfold SeqAt.shaped
  simp only [PyData.canLay0, h2, PyData.depth]
  simp
  omega
theorem zip_self : ∀ xs : List D, zipD xs xs = xs.map fun x => D.tup [x, x]
  | [] => rfl
  | x :: xs => by show D.tup [x, x] :: zipD xs xs = _; rw [zip_self]; rfl
def fs__law_same : FS := fun ds M Φ => ∃ d, ds = [d, d] ∧ saD 40 d = true ∧ szD d ≤ 1000000 ∧ Φ (.bl true) M
theorem len__law_same : ∀ ds M Φ, fs__law_same ds M Φ → ds.length = 2 := by rintro ds M Φ ⟨d, rfl, _⟩; rfl
section
variable {M : Mem} {Φ : Cont}
instance isn_bl {b : Bool} : Stp (fIs (.bl b) .non M Φ) (Φ (.bl false) M) := ⟨fun k => i_isN k⟩
instance isnn_bl {b : Bool} : Stp (fIsNot (.bl b) .non M Φ) (Φ (.bl true) M) := ⟨fun k => i_isNotN k⟩
instance isn_int {i : Int} : Stp (fIs (.int i) .non M Φ) (Φ (.bl false) M) := ⟨fun k => i_isN k⟩
instance isnn_int {i : Int} : Stp (fIsNot (.int i) .non M Φ) (Φ (.bl true) M) := ⟨fun k => i_isNotN k⟩
instance isn_str {x : Str} : Stp (fIs (.str x) .non M Φ) (Φ (.bl false) M) := ⟨fun k => i_isN k⟩
instance isnn_str {x : Str} : Stp (fIsNot (.str x) .non M Φ) (Φ (.bl true) M) := ⟨fun k => i_isNotN k⟩
instance isn_tup {xs : List D} : Stp (fIs (.tup xs) .non M Φ) (Φ (.bl false) M) := ⟨fun k => i_isN k⟩
instance isnn_tup {xs : List D} : Stp (fIsNot (.tup xs) .non M Φ) (Φ (.bl true) M) := ⟨fun k => i_isNotN k⟩
instance isn_lst {xs : List D} : Stp (fIs (.lst xs) .non M Φ) (Φ (.bl false) M) := ⟨fun k => i_isN k⟩
instance isnn_lst {xs : List D} : Stp (fIsNot (.lst xs) .non M Φ) (Φ (.bl true) M) := ⟨fun k => i_isNotN k⟩
instance isn_dic {xs : List (Key × D)} : Stp (fIs (.dic xs) .non M Φ) (Φ (.bl false) M) := ⟨fun k => i_isN k⟩
instance isnn_dic {xs : List (Key × D)} : Stp (fIsNot (.dic xs) .non M Φ) (Φ (.bl true) M) := ⟨fun k => i_isNotN k⟩
instance isn_non : Stp (fIs .non .non M Φ) (Φ (.bl true) M) := ⟨fun k => i_isN k⟩
instance isnn_non : Stp (fIsNot .non .non M Φ) (Φ (.bl false) M) := ⟨fun k => i_isNotN k⟩
instance is2_int {i : Int} : Stp (fIsi [.int i, .tup [.ty "int", .ty "str"]] M Φ) (Φ (.bl true) M) := ⟨fun k => i_isi2 (t := "int") (b := true) (b' := false) rfl (by decide +kernel) (by decide +kernel) k⟩
instance is2_str {x : Str} : Stp (fIsi [.str x, .tup [.ty "int", .ty "str"]] M Φ) (Φ (.bl true) M) := ⟨fun k => i_isi2 (t := "str") (b := false) (b' := true) rfl (by decide +kernel) (by decide +kernel) k⟩
instance is2_tup {xs : List D} : Stp (fIsi [.tup xs, .tup [.ty "int", .ty "str"]] M Φ) (Φ (.bl false) M) := ⟨fun k => i_isi2 (t := "tuple") (b := false) (b' := false) rfl (by decide +kernel) (by decide +kernel) k⟩
instance is2_lst {xs : List D} : Stp (fIsi [.lst xs, .tup [.ty "int", .ty "str"]] M Φ) (Φ (.bl false) M) := ⟨fun k => i_isi2 (t := "list") (b := false) (b' := false) rfl (by decide +kernel) (by decide +kernel) k⟩
end
end DL

/-! Sp6: the promises of _law_reads, the law. -/
namespace DL
open PySem PySem.Spec PyProof.Rows L2 TL
def fs__law_reads : FS := fun ds M Φ => ∃ z : Str, ds = [.str z] ∧ z.length ≤ 400000 ∧ Φ (.bl true) M
theorem len__law_reads : ∀ ds M Φ, fs__law_reads ds M Φ → ds.length = 1 := by rintro ds M Φ ⟨z, rfl, _⟩; rfl
theorem takeT_all {n : Int} : ∀ {k : Nat} {ps : List (List Nat)}, (takeT n k ps).length = ps.length → ps = (takeT n k ps).map fun t => pieceL [t.1.toNat, t.2.toNat]
  | 0, ps, h => by
    cases ps with
    | nil => rfl
    | cons p ps => simp [takeT] at h
  | k + 1, [], _ => rfl
  | k + 1, p :: ps, h => by
    rw [takeT] at h ⊢
    cases e : tieOf n p with
    | none => rw [e] at h; simp at h
    | some t =>
      rw [e] at h
      simp only [List.length_cons, Nat.add_right_cancel_iff] at h
      show p :: ps = pieceL [t.1.toNat, t.2.toNat] :: (takeT n k ps).map _
      rw [piece_tie e, ← takeT_all h]
theorem readW_inr {ws : List (List Nat)} {n : Int} {ts : List (Int × Int)} (h : readW ws = .inr (n, ts)) : ∃ (v : List Nat) (ps : List (List Nat)), ws = webL :: v :: ps ∧ numL n.toNat = v ∧ GoodW n ts ∧ takeT n 12 ps = ts ∧ ts.length = ps.length := by
  match ws, h with
  | [], h => cases h
  | [w], h =>
    by_cases hw : w = webL
    · subst hw; rw [readW_1] at h; cases h
    · rw [readW_ne hw] at h; cases h
  | w :: v :: ps, h =>
    by_cases hw : w = webL
    · subst hw
      cases hv : numOf v with
      | none => rw [readW_none hv] at h; cases h
      | some m =>
        rw [readW_some hv] at h
        unfold readN at h
        split at h
        · rename_i hm
          split at h
          · rename_i hl
            cases h
            have tk := takeT_ok (n := (m : Int)) (k := 12) (ps := ps)
            exact ⟨v, ps, rfl, (numOf_num hv).1, ⟨hm.1, hm.2, tk.1, tk.2.2⟩, rfl, hl⟩
          · cases h
        · cases h
    · rw [readW_ne hw] at h; cases h
theorem readW_text {l : List Nat} {n : Int} {ts : List (Int × Int)} (h : readW (words l) = .inr (n, ts)) : GoodW n ts ∧ webTextL n ts = l := by
  obtain ⟨v, ps, h1, h2, h3, h4, h5⟩ := readW_inr h
  refine ⟨h3, ?_⟩
  have hj := joinL_spl (s := 32) l []
  unfold words at h1
  rw [h1, List.nil_append] at hj
  unfold webTextL
  rw [h2]
  subst h4
  rw [← takeT_all h5]
  exact hj
theorem words_text {n : Int} {ts : List (Int × Int)} (g : GoodW n ts) : readW (words (webTextL n ts)) = .inr (n, ts) := by
  have hn : 0 ≤ n := by have := g.lo; omega
  have hp : ∀ l : List (Int × Int), (∀ t ∈ l, 0 ≤ t.1 ∧ t.1 ≤ t.2 ∧ t.2 < n) → ∀ k, l.length ≤ k → takeT n k (l.map fun t => pieceL [t.1.toNat, t.2.toNat]) = l := by
    intro l
    induction l with
    | nil => intro _ k _; cases k <;> rfl
    | cons t l ih =>
      intro h k hk
      cases k with
      | zero => simp at hk
      | succ k =>
        rw [List.map_cons, takeT, tie_piece (h t (by simp)) g.hi]
        show t :: takeT n k _ = _
        rw [ih (fun q hq => h q (by simp [hq])) k (by simpa using hk)]
  have hw : words (webTextL n ts) = webL :: numL n.toNat :: ts.map fun t => pieceL [t.1.toNat, t.2.toNat] := by
    unfold words webTextL
    refine spl_join (by simp) fun p hp => ?_
    rcases List.mem_cons.mp hp with rfl | hp
    · decide
    rcases List.mem_cons.mp hp with rfl | hp
    · exact numL_free (.inl (by omega))
    obtain ⟨t, _, rfl⟩ := List.mem_map.mp hp
    unfold pieceL
    show 32 ∉ 40 :: ((numL t.1.toNat ++ ([44] ++ numL t.2.toNat)) ++ [41])
    simp only [List.mem_cons, List.mem_append, List.not_mem_nil, or_false, not_or]
    exact ⟨by decide, ⟨numL_free (.inl (by omega)), by decide, numL_free (.inl (by omega))⟩, by decide⟩
  rw [hw, readW_some (n := n.toNat) (num_numOf _ (by have := g.hi; omega)), Int.toNat_of_nonneg hn]
  unfold readN
  rw [if_pos ⟨g.lo, g.hi⟩, hp ts g.ok 12 g.len, if_pos (by rw [List.length_map])]
theorem takeT_take {n : Int} : ∀ {k : Nat} {ps : List (List Nat)}, takeT n k (ps.take (takeT n k ps).length) = takeT n k ps
  | 0, ps => rfl
  | k + 1, [] => rfl
  | k + 1, p :: ps => by
    cases e : tieOf n p with
    | none => simp [takeT, e]
    | some t =>
      have h1 : takeT n (k + 1) (p :: ps) = t :: takeT n k ps := by simp [takeT, e]
      rw [h1, List.length_cons, List.take_succ_cons]
      show takeT n (k + 1) (p :: ps.take (takeT n k ps).length) = _
      simp only [takeT, e]
      rw [takeT_take]
theorem readW_cut {ws : List (List Nat)} {a : Nat} (h : readW ws = .inl a) (h2 : 2 ≤ a) : ∃ n ts, readW (ws.take a) = .inr (n, ts) ∧ GoodW n ts := by
  match ws, h with
  | [], h => cases h; omega
  | [w], h =>
    by_cases hw : w = webL
    · subst hw; rw [readW_1] at h; cases h; omega
    · rw [readW_ne hw] at h; cases h; omega
  | w :: v :: ps, h =>
    by_cases hw : w = webL
    · subst hw
      cases hv : numOf v with
      | none => rw [readW_none hv] at h; cases h; omega
      | some m =>
        rw [readW_some hv] at h
        unfold readN at h
        split at h
        · rename_i hm
          split at h
          · cases h
          · cases h
            have tk := takeT_ok (n := (m : Int)) (k := 12) (ps := ps)
            refine ⟨m, takeT m 12 ps, ?_, hm.1, hm.2, tk.1, tk.2.2⟩
            rw [List.take_succ_cons, List.take_succ_cons, readW_some hv]
            unfold readN
            rw [if_pos hm, takeT_take, if_pos (by rw [List.length_take]; omega)]
        · cases h; omega
    · rw [readW_ne hw] at h; cases h; omega
theorem webD_sa {n : Int} {ts : List (Int × Int)} (g : GoodW n ts) : saD 40 (webD n ts) = true ∧ szD (webD n ts) ≤ 1000000 := by
  have h1 : ∀ l : List (Int × Int), (l.map pairD).all (saD 38) = true := fun l => by
    rw [List.all_map, List.all_eq_true]
    intro t _
    rfl
  have h2 : ∀ l : List (Int × Int), szA (l.map pairD) = 3 * l.length := fun l => by
    induction l with
    | nil => rfl
    | cons t l ih =>
      rw [List.map_cons, szA, ih, List.length_cons]
      have : szD (pairD t) = 3 := rfl
      omega
  constructor
  · show (PyData.strOk "web" && (true && ((ts.map pairD).all (saD 38) && true))) = true
    rw [h1]
    decide +kernel
  · show 1 + (1 + (1 + ((1 + szA (ts.map pairD)) + 0))) ≤ _
    rw [h2]
    have := g.len
    omega
instance st_attr {K : PySem.W.Frag} {n : Str} {de : DE} {Γ : Gam} {M : Mem} {Φ : Cont} : Stp (dAttr K n de Γ M Φ) (de Γ M fun d M1 => match d with
  | .exc C fs => XfC K C ∧ PySem.W.findIn K (.ref C) n = some none ∧ ∃ e, fs.lookup n = some e ∧ Φ e M1
  | _ => False) := ⟨fun k => k⟩
theorem webD_inj {n m : Int} {ts us : List (Int × Int)} (h : webD n ts = webD m us) : n = m ∧ ts = us := by
  unfold webD at h
  injection h with h
  injection h with _ h
  injection h with h1 h
  injection h with h2 _
  injection h1 with h1
  injection h2 with h2
  refine ⟨h1, ?_⟩
  have := congrArg (List.map unP) h2
  rwa [List.map_map, List.map_map, show (unP ∘ pairD) = id from rfl, List.map_id, List.map_id] at this
theorem cutTake {xs : List D} {k : Nat} : cutD xs none (some (k : Int)) = xs.take k := by
  unfold cutD
  simp only [HT.sIx_none, HT.sIx_nat, List.drop_zero, Nat.sub_zero]
  rw [← List.take_take, List.take_length]
theorem sum_spl {s : Nat} : ∀ (l acc : List Nat), ((spl [s] 0 acc l).map List.length).sum ≤ acc.length + l.length
  | [], acc => by rw [spl_nil]; simp
  | c :: r, acc => by
    by_cases h : c = s
    · subst h
      rw [spl1_hit, List.map_cons, List.sum_cons]
      have := sum_spl (s := c) r []
      simp only [List.length_nil, List.length_cons] at *
      omega
    · rw [spl1_miss h]
      have := sum_spl (s := s) r (acc ++ [c])
      simp only [List.length_append, List.length_singleton, List.length_cons, List.length_nil] at *
      omega
theorem sum_take : ∀ (l : List Nat) (k : Nat), (l.take k).sum ≤ l.sum
  | [], k => by simp
  | x :: l, 0 => by simp
  | x :: l, k + 1 => by rw [List.take_succ_cons, List.sum_cons, List.sum_cons]; have := sum_take l k; omega
theorem joinL_len : ∀ ps : List (List Nat), (joinL [32] ps).length ≤ (ps.map List.length).sum + ps.length
  | [] => Nat.zero_le _
  | [p] => by show p.length ≤ _; simp
  | p :: q :: r => by
    show (p ++ ([32] ++ joinL [32] (q :: r))).length ≤ _
    have := joinL_len (q :: r)
    simp only [List.length_append, List.length_singleton, List.map_cons, List.sum_cons, List.length_cons, List.length_nil] at *
    omega
end DL

/-! Sp7: the drawn webs. -/
namespace DL
open PySem PySem.Spec PyProof.Rows L2 TL
def fs__law_web : FS := fun ds M Φ => ∃ (d l : Addr) (n : Nat), ds = [.ptr d, .int 8, .int 12] ∧ Dr M d l n ∧ n + 100 ≤ 1000000000 ∧ ∀ (kk : Int) (ts : List (Int × Int)) (M' : Mem), GoodW kk ts → Dr M' d l (n + 100) → Ev M M' d l → Φ (webD kk ts) M'
theorem len__law_web : ∀ ds M Φ, fs__law_web ds M Φ → ds.length = 3 := by rintro ds M Φ ⟨d, l, n, rfl, _⟩; rfl
/-- places of a web of n -/
def InR (n : Int) (t : Int × Int) : Prop := 0 ≤ t.1 ∧ t.1 < n ∧ 0 ≤ t.2 ∧ t.2 < n
theorem good_nrm {n : Int} {ts qs : List (Int × Int)} (h1 : 1 ≤ n) (h8 : n ≤ 8) (hl : ts.length ≤ 12) (hr : ∀ t ∈ ts, InR n t) (hp : qs.Perm ts) : GoodW n (qs.map nrm) := by
  refine ⟨h1, h8, by rw [List.length_map, hp.length_eq]; exact hl, fun t ht => ?_⟩
  obtain ⟨q, hq, rfl⟩ := List.mem_map.mp ht
  obtain ⟨a, b, c, d⟩ := hr q (hp.subset hq)
  unfold nrm
  dsimp only
  omega
/-- the ties of a ring, a pair for each place -/
def ringD (n : Int) : List (Int × Int) := (List.range n.toNat).map fun (i : Nat) => ((i : Int), ((i : Int) + 1) % n)
theorem Ev.skip {M M' : Mem} {d l p : Addr} {o : MO} (h : Ev M M' d l) (hp : M p = none) : Ev M ((M'.set p o).del p) d l := fun a h1 h2 => by
  by_cases e : a = p
  · rw [e, Mem.del_same, hp]
  · rw [Mem.del_ne e, Mem.set_ne e]; exact h a h1 h2
theorem del_put {M : Mem} {p : Addr} {o : MO} (h : M p = some o) : (M.del p).set p o = M := by
  funext a
  by_cases e : a = p
  · rw [e, Mem.set_same, h]
  · rw [Mem.set_ne e, Mem.del_ne e]
/-- the draws go on beside a list that is being made -/
theorem beside {M M2 : Mem} {d l p : Addr} {n : Nat} {o : MO} (hd : Dr M d l n) (hp : M p = none) (ev : Ev (M.set p o) M2 d l) : M2 p = some o ∧ Ev M (M2.del p) d l := by
  obtain ⟨h1, h2⟩ := hd.ne_new hp
  refine ⟨by rw [ev p h1 h2, Mem.set_same], fun a a1 a2 => ?_⟩
  by_cases e : a = p
  · rw [e, Mem.del_same, hp]
  · rw [Mem.del_ne e, ev a a1 a2, Mem.set_ne e]
theorem Dr.sub {M M' : Mem} {d l : Addr} {n : Nat} (h : Dr M d l n) (s : Sub M M') : Dr M' d l n := by
  obtain ⟨ne, gs, cs, r, t, h1, h2, h3⟩ := h
  exact ⟨ne, gs, cs, r, t, s _ _ h1, s _ _ h2, h3⟩
theorem Sub.none_ {M M' : Mem} (s : Sub M M') {p : Addr} (h : M' p = none) : M p = none := by
  cases q : M p with
  | none => rfl
  | some m => rw [s _ _ q] at h; cases h
/-- the store at the end, without what was made on the way -/
theorem clean {M M' : Mem} {d l : Addr} {n : Nat} (hd : Dr M' d l n) (s : ∀ a, a ≠ d → a ≠ l → ∀ m, M a = some m → M' a = some m) : ∃ M2, Sub M2 M' ∧ Dr M2 d l n ∧ Ev M M2 d l := by
  refine ⟨fun a => if a = d ∨ a = l then M' a else M a, fun a m h => ?_, ?_, fun a h1 h2 => if_neg (by simp [h1, h2])⟩
  · dsimp only at h
    split at h
    · exact h
    · rename_i q
      simp only [not_or] at q
      exact s a q.1 q.2 m h
  · obtain ⟨ne, gs, cs, r, t, h1, h2, h3⟩ := hd
    exact ⟨ne, gs, cs, r, t, (if_pos (Or.inl rfl)).trans h1, (if_pos (Or.inr rfl)).trans h2, h3⟩
def rgI (lo hi : Int) : List Int := (List.range (hi - lo).toNat).map fun i => lo + (i : Nat)
theorem rgD_I (lo hi : Int) : rgD lo hi = (rgI lo hi).map .int := by unfold rgD rgI; rw [List.map_map]; rfl
theorem rgD_len {lo hi : Int} : (rgD lo hi).length = (hi - lo).toNat := by unfold rgD; rw [List.length_map, List.length_range]
theorem rgI_len {lo hi : Int} : (rgI lo hi).length = (hi - lo).toNat := by unfold rgI; rw [List.length_map, List.length_range]
theorem rgI_mem {lo hi x : Int} (h : x ∈ rgI lo hi) : lo ≤ x ∧ x < hi := by
  unfold rgI at h
  obtain ⟨i, hi', rfl⟩ := List.mem_map.mp h
  have := List.mem_range.mp hi'
  omega
theorem rgD_mem {lo hi : Int} {x : D} (h : x ∈ rgD lo hi) : ∃ i : Int, lo ≤ i ∧ i < hi ∧ x = .int i := by
  rw [rgD_I] at h
  obtain ⟨i, h1, rfl⟩ := List.mem_map.mp h
  exact ⟨i, (rgI_mem h1).1, (rgI_mem h1).2, rfl⟩
theorem rgD_get {lo hi : Int} {i : Nat} {x : D} (h : (rgD lo hi)[i]? = some x) : lo + (i : Int) < hi ∧ x = .int (lo + (i : Int)) := by
  have h1 := (List.getElem?_eq_some_iff.mp h).1
  rw [rgD_len] at h1
  refine ⟨by omega, ?_⟩
  unfold rgD at h
  rw [List.getElem?_map, List.getElem?_range h1] at h
  exact (Option.some.inj h).symm
theorem i_share {p : Prop} [Decidable p] {A B : Prop} (c : Prop) (h2 : c → B) (h1 : p → (c → B) → A) (h3 : ¬ p → c) : if decide p = true then A else B := by
  by_cases h : p
  · rw [decide_eq_true h]; exact i_itT (h1 h h2)
  · rw [decide_eq_false h]; exact i_itF (h2 (h3 h))
theorem i_share1 {p : Prop} [Decidable p] {A B : Prop} (c : Prop) (h1 : p → c) (hA : c → A) (hB : ¬ p → (c → A) → B) : if decide p = true then A else B := by
  by_cases h : p
  · rw [decide_eq_true h]; exact i_itT (hA (h1 h))
  · rw [decide_eq_false h]; exact i_itF (hB h hA)
theorem rep_pairs {k : Nat} {t : Int × Int} {ts : List (Int × Int)} : (List.replicate k [pairD t]).flatten ++ ts.map pairD = (List.replicate k t ++ ts).map pairD := by
  rw [List.flatten_replicate_singleton, List.map_append, List.map_replicate]
theorem log_small {x : Int} (h0 : 0 ≤ x) (h : x < 1000000000) : x.natAbs.log2 < 9000 := by
  by_cases e : x = 0
  · subst e; decide
  · have : x.natAbs.log2 < 64 := by rw [Nat.log2_lt (by omega)]; omega
    omega
/-- the draws' turn in a store with one list more, which is then dropped -/
theorem drop_beside {M M' : Mem} {d l p : Addr} {n : Nat} (hd : Dr M' d l n) (hp : M p = none) (hpd : p ≠ d ∧ p ≠ l) (s : ∀ a, a ≠ d → a ≠ l → a ≠ p → M' a = M a) : Dr (M'.del p) d l n ∧ Ev M (M'.del p) d l := by
  refine ⟨hd.del hpd.1 hpd.2, fun a h1 h2 => ?_⟩
  by_cases e : a = p
  · rw [e, Mem.del_same, hp]
  · rw [Mem.del_ne e]; exact s a h1 h2 e
end DL

/-! Sp8: bent texts, the law. -/
namespace DL
open PySem PySem.Spec PyProof.Rows L2 TL
def mS : List Str → Nat
  | [] => 0
  | y :: ys => y.length + 1 + mS ys
theorem mS_eq : ∀ ys : List Str, mS ys = (ys.map (·.length)).sum + ys.length
  | [] => rfl
  | y :: ys => by rw [mS, mS_eq ys, List.map_cons, List.sum_cons, List.length_cons]; omega
theorem mS_app : ∀ xs ys : List Str, mS (xs ++ ys) = mS xs + mS ys
  | [], ys => by rw [List.nil_append, mS, Nat.zero_add]
  | x :: xs, ys => by rw [List.cons_append, mS, mS, mS_app]; omega
theorem mS_len (ys : List Str) : ys.length ≤ mS ys := by rw [mS_eq]; omega
theorem mS_mem : ∀ {ys : List Str} {y : Str}, y ∈ ys → y.length + 1 ≤ mS ys
  | x :: xs, y, h => by
    rw [mS]
    rcases List.mem_cons.mp h with rfl | h
    · omega
    · have := mS_mem h; omega
theorem mS_sub : ∀ {xs ys : List Str}, xs.Sublist ys → mS xs ≤ mS ys
  | _, _, .slnil => Nat.le_refl _
  | _, _, .cons a h => by rw [mS]; have := mS_sub h; omega
  | _, _, .cons₂ a h => by rw [mS, mS]; have := mS_sub h; omega
theorem mS_rev : ∀ ys : List Str, mS ys.reverse = mS ys
  | [] => rfl
  | y :: ys => by rw [List.reverse_cons, mS_app, mS_rev ys, mS, mS, mS]; omega
/-- a list of texts, not too long -/
def WsD (B : Nat) (x : D) : Prop := ∃ ys : List Str, x = .lst (ys.map .str) ∧ mS ys ≤ B
theorem WsD.mono {A B : Nat} {x : D} (h : WsD A x) (le : A ≤ B) : WsD B x := by
  obtain ⟨ys, h1, h2⟩ := h
  exact ⟨ys, h1, by omega⟩
section
variable {M : Mem} {Φ : Cont}
theorem i_addW {x y : D} {A B : Nat} (hx : WsD A x) (hy : WsD B y) (hs : A + B ≤ 16777216) (k : ∀ z, WsD (A + B) z → Φ z M) : fAdd x y M Φ := by
  obtain ⟨xs, rfl, h1⟩ := hx
  obtain ⟨ys, rfl, h2⟩ := hy
  have l1 := mS_len xs
  have l2 := mS_len ys
  refine i_addl (szl (by rw [List.length_map, List.length_map]; omega)) (k _ ⟨xs ++ ys, by rw [List.map_append], by rw [mS_app]; omega⟩)
theorem w_cut {ws : List Str} {lo hi : Option Int} : WsD (mS ws) (.lst (cutD (ws.map .str) lo hi)) := by
  refine ⟨(ws.drop (HT.sIx ws.length 0 lo)).take (HT.sIx ws.length ws.length hi - HT.sIx ws.length 0 lo), ?_, mS_sub ((List.take_sublist _ _).trans (List.drop_sublist _ _))⟩
  unfold cutD
  rw [List.length_map, List.map_take, List.map_drop]
theorem w_one {s : Str} : WsD (s.length + 1) (.lst [.str s]) := ⟨[s], rfl, Nat.le_refl _⟩
theorem w_ws {ws : List Str} : WsD (mS ws) (.lst (ws.map .str)) := ⟨ws, rfl, Nat.le_refl _⟩
theorem w_rev {ws : List Str} : WsD (mS ws) (.lst (ws.map .str).reverse) := ⟨ws.reverse, by rw [List.map_reverse], by rw [mS_rev]; exact Nat.le_refl _⟩
theorem split_m (z : Str) : Txt.split z (Str.ofString " ") ≠ [] ∧ mS (Txt.split z (Str.ofString " ")) ≤ 2 * z.length + 1 := by
  rw [split_words (z := z) (y := Str.ofString " ") (s := 32) (by decide +kernel) (by decide +kernel)]
  refine ⟨fun h => spl_ne (s := 32) (tl z) [] (List.map_eq_nil_iff.mp h), ?_⟩
  rw [mS_eq, List.map_map, List.length_map]
  have h1 := (spl_len (s := 32) (tl z) []).1
  have h2 := sum_spl (s := 32) (tl z) []
  have h3 : (spl [32] 0 [] (tl z)).map ((fun y : Str => y.length) ∘ fun l => (⟨l.toArray⟩ : Str)) = (spl [32] 0 [] (tl z)).map List.length := by
    refine List.map_congr_left fun l _ => ?_
    show (⟨l.toArray⟩ : Str).length = _
    rw [len_tl]
  rw [h3]
  have := len_tl z
  simp only [List.length_nil, Nat.zero_add] at h2
  omega
theorem join_m (ys : List Str) : (Txt.join (Str.ofString " ") ys).length ≤ mS ys := by
  rw [len_tl, join_eq, tl_join, show tl (Str.ofString " ") = [32] by decide +kernel]
  have := joinL_len (ys.map tl)
  rw [mS_eq]
  rw [List.length_map, List.map_map, show ys.map (List.length ∘ tl) = ys.map (·.length) from List.map_congr_left fun y _ => (len_tl y).symm] at this
  exact this
def isS5 : D → Bool
  | .str s => decide (s.length ≤ 5000)
  | _ => false
theorem strs_le {xs : List D} (h : xs.all isS5 = true) {i : Nat} {x : D} (hx : xs[i]? = some x) : ∃ s : Str, x = .str s ∧ s.length ≤ 5000 := by
  have := List.all_eq_true.mp h x (List.mem_of_getElem? hx)
  cases x <;> first | cases this | skip
  exact ⟨_, rfl, by simpa [isS5] using this⟩
end
def fs__law_pieces_bent : FS := fun ds M Φ => ∃ (d l : Addr) (n : Nat) (z : Str), ds = [.ptr d, .str z] ∧ Dr M d l n ∧ n + 3 ≤ 1000000000 ∧ z.length ≤ 100000 ∧ ∀ (y : Str) (M' : Mem), y.length ≤ 6 * z.length + 6000 → Dr M' d l (n + 3) → Ev M M' d l → Φ (.str y) M'
theorem len__law_pieces_bent : ∀ ds M Φ, fs__law_pieces_bent ds M Φ → ds.length = 2 := by rintro ds M Φ ⟨d, l, n, z, rfl, _⟩; rfl
def fs_law : FS := fun ds M Φ => ∃ ns : List Int, ds = [.scr (ns.map .int)] ∧ ns.length ≤ 63 ∧ Φ (.bl true) M
theorem hfs_law : ∀ (ns : List Int) (M : Mem) (Φ : Cont), ns.length ≤ 63 → (∀ z ∈ ns, Builtin.Int.intBits z ≤ 1048576) → Φ (.bl true) M → fs_law [.scr (ns.map .int)] M Φ := fun ns M Φ h _ k => ⟨ns, rfl, h, k⟩
theorem len_law : ∀ ds M Φ, fs_law ds M Φ → ds.length = 1 := by rintro ds M Φ ⟨ns, rfl, _⟩; rfl
/-! the texts of webs: their signs, their length -/
theorem joinL_mem {S : List Nat} {c : Nat} : ∀ {ps : List (List Nat)}, c ∈ joinL S ps → c ∈ S ∨ ∃ p ∈ ps, c ∈ p
  | [], h => by cases h
  | [p], h => .inr ⟨p, by simp, h⟩
  | p :: q :: r, h => by
    rw [joinL_cons (by simp)] at h
    rcases List.mem_append.mp h with h | h
    · exact .inr ⟨p, by simp, h⟩
    · rcases List.mem_append.mp h with h | h
      · exact .inl h
      · rcases joinL_mem h with h | ⟨u, hu, h⟩
        · exact .inl h
        · exact .inr ⟨u, List.mem_cons_of_mem _ hu, h⟩
theorem num_small : ∀ n < 100, (numL n).all (· < 200) = true ∧ (numL n).length ≤ 2 := by decide +kernel
theorem num_le {n c : Nat} (h : n < 100) (hc : c ∈ numL n) : c < 200 := by
  have := List.all_eq_true.mp (num_small n h).1 c hc
  simpa using this
theorem piece_small {a b c : Nat} (ha : a < 100) (hb : b < 100) (hc : c ∈ pieceL [a, b]) : c < 200 := by
  unfold pieceL at hc
  rcases List.mem_cons.mp hc with rfl | hc
  · omega
  rcases List.mem_append.mp hc with hc | hc
  · rcases joinL_mem hc with hc | ⟨p, hp, hc⟩
    · rcases List.mem_singleton.mp hc with rfl; omega
    · rcases List.mem_cons.mp hp with rfl | hp
      · exact num_le ha hc
      · rcases List.mem_singleton.mp hp with rfl
        exact num_le hb hc
  · rcases List.mem_singleton.mp hc with rfl; omega
theorem piece_len {a b : Nat} (ha : a < 100) (hb : b < 100) : (pieceL [a, b]).length ≤ 7 := by
  have h1 := (num_small a ha).2
  have h2 := (num_small b hb).2
  show (40 :: ((numL a ++ ([44] ++ numL b)) ++ [41])).length ≤ 7
  simp only [List.length_cons, List.length_append, List.length_nil]
  omega
theorem text_small {n : Int} {ts : List (Int × Int)} (g : GoodW n ts) : (∀ c ∈ webTextL n ts, c < 200) ∧ (webTextL n ts).length ≤ 200 := by
  have hn : n.toNat < 100 := by have := g.hi; omega
  have ht : ∀ t ∈ ts, t.1.toNat < 100 ∧ t.2.toNat < 100 := fun t h => by have := g.ok t h; have := g.hi; omega
  constructor
  · intro c hc
    unfold webTextL at hc
    rcases joinL_mem hc with hc | ⟨p, hp, hc⟩
    · rcases List.mem_singleton.mp hc with rfl; omega
    · rcases List.mem_cons.mp hp with rfl | hp
      · have : c = 119 ∨ c = 101 ∨ c = 98 := by simpa [webL] using hc
        omega
      rcases List.mem_cons.mp hp with rfl | hp
      · exact num_le hn hc
      obtain ⟨t, h, rfl⟩ := List.mem_map.mp hp
      exact piece_small (ht t h).1 (ht t h).2 hc
  · unfold webTextL
    have h1 := joinL_len (webL :: numL n.toNat :: ts.map fun t => pieceL [t.1.toNat, t.2.toNat])
    have h2 : ∀ qs : List (Int × Int), (∀ t ∈ qs, t.1.toNat < 100 ∧ t.2.toNat < 100) → ((qs.map fun t => pieceL [t.1.toNat, t.2.toNat]).map List.length).sum ≤ 7 * qs.length := by
      intro qs
      induction qs with
      | nil => intro _; exact Nat.zero_le _
      | cons t qs ih =>
        intro h
        have h3 := ih fun q hq => h q (List.mem_cons_of_mem _ hq)
        have h4 := h t (by simp)
        have h5 := piece_len h4.1 h4.2
        simp only [List.map_cons, List.sum_cons, List.length_cons] at *
        omega
    have h3 := h2 ts ht
    have h4 := (num_small n.toNat hn).2
    have h5 := g.len
    have h6 : webL.length = 3 := rfl
    simp only [List.map_cons, List.sum_cons, List.length_cons, List.length_map] at *
    omega
theorem text_ok {n : Int} {ts : List (Int × Int)} (g : GoodW n ts) : saD 40 (strL (webTextL n ts)) = true ∧ szD (strL (webTextL n ts)) ≤ 1000000 ∧ puD (strL (webTextL n ts)) = true ∧ (⟨(webTextL n ts).toArray⟩ : Str).length ≤ 200 := by
  obtain ⟨h1, h2⟩ := text_small g
  have h3 : (⟨(webTextL n ts).toArray⟩ : Str).length ≤ 200 := by rw [len_tl, tl_mk]; exact h2
  refine ⟨?_, by show 1 ≤ _; omega, ?_, h3⟩
  · show ((webTextL n ts).toArray.all (· < 0x110000)) = true
    rw [List.all_toArray, List.all_eq_true]
    intro c hc
    have := h1 c hc
    rw [decide_eq_true_eq]
    omega
  · show decide ((⟨(webTextL n ts).toArray⟩ : Str).length ≤ 1000000) = true
    rw [decide_eq_true_eq]; omega
theorem ne_webs {M : Mem} {Φ : Cont} {n : Int} {ts : List (Int × Int)} (g : GoodW n ts) (k : Φ (.bl false) M) : fNe (webD n ts) (webD n ts) M Φ := by
  obtain ⟨y, h1, h2, h3⟩ := sa_py (webD_sa g).1
  have hs : SeqAt.shaped y = true := by
    unfold SeqAt.shaped
    simp only [h2]
    simp
    omega
  refine fNe_py (x := y) (y := y) h1 h1 hs hs ?_
  rw [SeqAt.eqv_refl y h2]
  exact k
theorem Ev.sub {M M' : Mem} {d l : Addr} (h : Ev M M' d l) (nd : M d = none) (nl : M l = none) : Sub M M' := fun a m q => by
  rw [h a (fun z => by rw [z, nd] at q; cases q) (fun z => by rw [z, nl] at q; cases q)]; exact q
end DL

namespace DL
open PySem PySem.Spec PyProof.Rows L2 TL
def topS (i : Nat) : Stmt := PySem.Challenge.pw_ringsandcuts_k79_whole_texts_of_webs.main.body.getD i (.Pass ⟨0, 0, 0, 0⟩)
local macro_rules | `(tactic| walk_at "dl") => `(tactic| repeat (first
  | refine Stp.go ?_
  | (with_reducible refine i_varG ?_; refine i_varK rfl ?_)
  | with_reducible refine i_fz ?_
  | (with_reducible refine g_mul ?_; first | refine k_mulL (by omega) (by omega) ?_ | refine k_mulR (by omega) (by omega) ?_)
  | (with_reducible refine g_mod ?_; refine k_mod (by first | assumption | decide | omega) ?_)
  | (with_reducible refine g_fdiv ?_; refine k_fdiv (by omega) (by omega) ?_)
  | (with_reducible refine g_dget ?_; refine k_dget (by first | assumption | exact Mem.set_same) rfl (by first | exact dr_rest | exact dr_great | exact dr_cells | exact dr_turn) ?_)
  | (with_reducible refine g_len ?_; refine k_len (by first | assumption | exact Mem.set_same) ?_)
  | (with_reducible refine g_tup ?_; refine k_tup (by first | assumption | exact Mem.set_same) ?_)
  | (with_reducible refine g_list ?_; refine k_list (by first | assumption | exact Mem.set_same) ?_)
  | (with_reducible refine g_szl ?_; refine k_szl (by simp only [List.length_cons, List.length_nil]; omega) ?_)
  | (with_reducible refine g_some ?_; refine k_some (by first | assumption | exact Mem.set_same) ?_)))
structure Blt (mg : Str → Option Value) : Prop where
  b_abs : mg "abs" = none
  b_len : mg "len" = none
  b_all : mg "all" = none
  b_any : mg "any" = none
  b_isinstance : mg "isinstance" = none
  b_int : mg "int" = none
  b_str : mg "str" = none
  b_tuple : mg "tuple" = none
  b_list : mg "list" = none
  b_bool : mg "bool" = none
  b_dict : mg "dict" = none
  b_min : mg "min" = none
  b_max : mg "max" = none
  b_range : mg "range" = none
  b_enumerate : mg "enumerate" = none
  b_zip : mg "zip" = none
  b_sorted : mg "sorted" = none
  b_sum : mg "sum" = none
  b_reversed : mg "reversed" = none
  b_ValueError : mg "ValueError" = none
  c_MOST_PLACES : ∃ t, mg "MOST_PLACES" = some (.int 8 t)
  c_MOST_TIES : ∃ t, mg "MOST_TIES" = some (.int 12 t)
  c_DIGITS : ∃ t, mg "DIGITS" = some (.str "0123456789" t)

abbrev s_is_whole : Stmt := topS 7
abbrev nn_is_whole : List Str := ["value"]
theorem sc_is_whole : FnScope nn_is_whole ["value"] (defScope s_is_whole) := ⟨rfl, rfl, rfl, by decide +kernel, rfl, by decide +kernel, by decide +kernel⟩
theorem ok_is_whole {P : Program} {w : World} {K : PySem.W.Frag} {mg : Str → Option Value} {base : Heap} {T : List (Addr × Str)}  (B : Blt mg)  {f : Addr} {fd : FuncData} (F : Fun K "is_whole" "is_whole" s_is_whole f fd) (hm : mg "is_whole" = some (.ref f)) (hb : L2.Binds K fd ["value"] []) : Has P w K mg base T "is_whole" 1 1 fs_is_whole := by
  refine okD (k := 0) F sc_is_whole hm hb len_is_whole (fun cdv A outer s H E hr => ⟨_, (xss_one (xs_ret (xe_and (xe_callB call_isiA d_isi (by rfl) B.b_isinstance (by decide +kernel) (xa_cons (xv 0) (xa_cons (xe_ty (n := "int") (by rfl) B.b_int (by decide +kernel)) xa_nil))) (xe_one (xe_not (xe_callB call_isiA d_isi (by rfl) B.b_isinstance (by decide +kernel) (xa_cons (xv 0) (xa_cons (xe_ty (n := "bool") (by rfl) B.b_bool (by decide +kernel)) xa_nil)))))))), fun ds M Φ h => ?_⟩)
  obtain ⟨d, rfl, hp, k⟩ := h
  cases d <;> first | (cases hp; done) | skip
  all_goals walk_at "dl"
  all_goals exact i_drp0 k

abbrev s_is_below : Stmt := topS 8
abbrev nn_is_below : List Str := ["value", "bound"]
theorem sc_is_below : FnScope nn_is_below ["value", "bound"] (defScope s_is_below) := ⟨rfl, rfl, rfl, by decide +kernel, rfl, by decide +kernel, by decide +kernel⟩
theorem ok_is_below {P : Program} {w : World} {K : PySem.W.Frag} {mg : Str → Option Value} {base : Heap} {T : List (Addr × Str)}  (B : Blt mg) (G_is_whole : Has P w K mg base T "is_whole" 1 1 fs_is_whole) {f : Addr} {fd : FuncData} (F : Fun K "is_below" "is_below" s_is_below f fd) (hm : mg "is_below" = some (.ref f)) (hb : L2.Binds K fd ["value", "bound"] []) : Has P w K mg base T "is_below" 2 2 fs_is_below := by
  refine okD (k := 1) F sc_is_below hm hb len_is_below (fun cdv A outer s H E hr => ⟨_, (xss_one (xs_ret (xe_and (xe_call G_is_whole (hr.mono (by decide)) (by rfl) (xa_cons (xv 0) xa_nil)) (xe_one (xe_chain op_le d_cmp op_lt d_cmp xe_int (xv 0) (xv 1)))))), fun ds M Φ h => ?_⟩)
  obtain ⟨d, b, rfl, hp, k⟩ := h
  walk_at "dl"
  refine ⟨d, rfl, hp, ?_⟩
  cases d <;> first | (cases hp; done) | skip
  all_goals walk_at "dl"
  all_goals first | exact i_drp0 k | skip
  refine i_itD (fun e => ?_) fun e => ?_
  · walk_at "dl"
    rw [isBelowD, decide_eq_true e, Bool.true_and] at k
    exact i_drp0 k
  · rw [isBelowD, decide_eq_false e, Bool.false_and] at k
    exact i_drp0 k

abbrev s_is_pair : Stmt := topS 9
abbrev nn_is_pair : List Str := ["n", "value", "place"]
theorem sc_is_pair : FnScope nn_is_pair ["n", "value"] (defScope s_is_pair) := ⟨rfl, rfl, rfl, by decide +kernel, rfl, by decide +kernel, by decide +kernel⟩
theorem ok_is_pair {P : Program} {w : World} {K : PySem.W.Frag} {mg : Str → Option Value} {base : Heap} {T : List (Addr × Str)}  (B : Blt mg) (G_is_below : Has P w K mg base T "is_below" 2 2 fs_is_below) {f : Addr} {fd : FuncData} (F : Fun K "is_pair" "is_pair" s_is_pair f fd) (hm : mg "is_pair" = some (.ref f)) (hb : L2.Binds K fd ["n", "value"] []) : Has P w K mg base T "is_pair" 3 2 fs_is_pair := by
  refine okD (k := 2) F sc_is_pair hm hb len_is_pair (fun cdv A outer s H E hr => ⟨_, (xss_cons (xs_if (xt_w (xw_or (xt_not (xt_val (xe_callB call_isiA d_isi (by rfl) B.b_isinstance (by decide +kernel) (xa_cons (xv 1) (xa_cons (xe_ty (n := "tuple") (by rfl) B.b_tuple (by decide +kernel)) xa_nil))))) (xw_or (xt_ne hr.units (xe_callB call_len d_len (by rfl) B.b_len (by decide +kernel) (xa_cons (xv 1) xa_nil)) xe_int) (xw_or1 (xt_not (xt_val (xe_callB (cr_all rfl) d_all (by rfl) B.b_all (by decide +kernel) (xa_cons (xe_lc rfl sc_is_pair.nd (xi_any (xv 1)) (blkOk_by (own := [("place", 2)]) (N := nn_is_pair) (sc := defScope s_is_pair) (by decide +kernel)) (tg_name (by decide)) (fun _ _ _ _ _ => pg_name (i := 2) sc_is_pair.nd rfl (by first | exact Or.inl rfl | exact Or.inr rfl)) (fun _ _ _ _ _ => xts_nil) (fun _ _ _ _ _ => (xe_call G_is_below (hr.mono (by decide)) (by rfl) (xa_cons (xv 2) (xa_cons (xv 0) xa_nil))))) xa_nil))))))))
      (xss_one (xs_ret xe_bl))
      xss_nil)
      (xss_one (xs_ret (xe_le (xe_item (xv 1) xe_int) (xe_item (xv 1) xe_int))))), fun ds M Φ h => ?_⟩)
  obtain ⟨n, d, rfl, hp, k⟩ := h
  cases d <;> first | (cases hp; done) | skip
  all_goals walk_at "dl"
  all_goals first | exact i_drp0 k | skip
  rename_i xs
  refine i_itN (fun e => ?_) fun e => ?_
  · obtain ⟨a, b, rfl⟩ : ∃ a b, xs = [a, b] := by
      match xs, e with
      | [a, b], _ => exact ⟨a, b, rfl⟩
      | [], e => cases e
      | [_], e => cases e
      | _ :: _ :: _ :: _, e => simp at e; omega
    walk_at "dl"
    rw [puD, Bool.and_eq_true] at hp
    refine lc_by (fun x => some (.bl (isBelowD x n))) ?_ (fun x hx M' _ F hF => ?_) ?_
    · exact szl (show 2 ≤ _ by decide)
    · walk_at "dl"
      exact ⟨x, n, rfl, puAll_mem hp.1 hx, hF⟩
    · walk_at "dl"
      refine i_all (bs := [isBelowD a n, isBelowD b n]) rfl ?_
      walk_at "dl"
      refine i_itnB (fun e => ?_) fun e => ?_
      · simp only [List.all_cons, List.all_nil, Bool.and_true, id, Bool.and_eq_true] at e
        obtain ⟨e1, e2⟩ := e
        cases a <;> first | (simp [isBelowD] at e1; done) | skip
        cases b <;> first | (simp [isBelowD] at e2; done) | skip
        walk_at "dl"
        rw [isPairD, e1, e2, Bool.true_and, Bool.true_and] at k
        exact i_drp0 k
      · walk_at "dl"
        have e' : isPairD n (.tup [a, b]) = false := by
          simp only [List.all_cons, List.all_nil, Bool.and_true, id] at e
          show (isBelowD a n && isBelowD b n && _) = false
          rw [e, Bool.false_and]
        rw [e'] at k
        exact i_drp0 k
  · walk_at "dl"
    have : isPairD n (.tup xs) = false := by
      match xs, e with
      | [a, b], e => exact absurd rfl e
      | [], _ => rfl
      | [_], _ => rfl
      | _ :: _ :: _ :: _, _ => rfl
    rw [this] at k
    exact i_drp0 k

abbrev s_is_web : Stmt := topS 10
abbrev nn_is_web : List Str := ["value", "tie"]
theorem sc_is_web : FnScope nn_is_web ["value"] (defScope s_is_web) := ⟨rfl, rfl, rfl, by decide +kernel, rfl, by decide +kernel, by decide +kernel⟩
theorem ok_is_web {P : Program} {w : World} {K : PySem.W.Frag} {mg : Str → Option Value} {base : Heap} {T : List (Addr × Str)}  (B : Blt mg) (G_is_pair : Has P w K mg base T "is_pair" 3 2 fs_is_pair) (G_is_whole : Has P w K mg base T "is_whole" 1 1 fs_is_whole) {f : Addr} {fd : FuncData} (F : Fun K "is_web" "is_web" s_is_web f fd) (hm : mg "is_web" = some (.ref f)) (hb : L2.Binds K fd ["value"] []) : Has P w K mg base T "is_web" 4 1 fs_is_web := by
  refine okD (k := 3) F sc_is_web hm hb len_is_web (fun cdv A outer s H E hr => ⟨_, (xss_cons (xs_if (xt_w (xw_or (xt_not (xt_val (xe_callB call_isiA d_isi (by rfl) B.b_isinstance (by decide +kernel) (xa_cons (xv 0) (xa_cons (xe_ty (n := "tuple") (by rfl) B.b_tuple (by decide +kernel)) xa_nil))))) (xw_or (xt_ne hr.units (xe_callB call_len d_len (by rfl) B.b_len (by decide +kernel) (xa_cons (xv 0) xa_nil)) xe_int) (xw_or (xt_not (xt_val (xe_callB call_isiA d_isi (by rfl) B.b_isinstance (by decide +kernel) (xa_cons (xe_item (xv 0) xe_int) (xa_cons (xe_ty (n := "str") (by rfl) B.b_str (by decide +kernel)) xa_nil))))) (xw_or1 (xt_ne hr.units (xe_item (xv 0) xe_int) xe_str))))))
      (xss_one (xs_ret xe_bl))
      xss_nil)
      (xss_cons (xs_if (xt_w (xw_or (xt_not (xt_val (xe_call G_is_whole (hr.mono (by decide)) (by rfl) (xa_cons (xe_item (xv 0) xe_int) xa_nil)))) (xw_or (xt_not (xt_chain op_le d_cmp op_le d_cmp xe_int (xe_item (xv 0) xe_int) (xe_gint' (by rfl) B.c_MOST_PLACES))) (xw_or1 (xt_not (xt_val (xe_callB call_isiA d_isi (by rfl) B.b_isinstance (by decide +kernel) (xa_cons (xe_item (xv 0) xe_int) (xa_cons (xe_ty (n := "tuple") (by rfl) B.b_tuple (by decide +kernel)) xa_nil)))))))))
      (xss_one (xs_ret xe_bl))
      xss_nil)
      (xss_one (xs_ret (xe_and (xe_le (xe_callB call_len d_len (by rfl) B.b_len (by decide +kernel) (xa_cons (xe_item (xv 0) xe_int) xa_nil)) (xe_gint' (by rfl) B.c_MOST_TIES)) (xe_one (xe_callB (cr_all rfl) d_all (by rfl) B.b_all (by decide +kernel) (xa_cons (xe_lc rfl sc_is_web.nd (xi_any (xe_item (xv 0) xe_int)) (blkOk_by (own := [("tie", 1)]) (N := nn_is_web) (sc := defScope s_is_web) (by decide +kernel)) (tg_name (by decide)) (fun _ _ _ _ _ => pg_name (i := 1) sc_is_web.nd rfl (by first | exact Or.inl rfl | exact Or.inr rfl)) (fun _ _ _ _ _ => xts_nil) (fun _ _ _ _ _ => (xe_call G_is_pair (hr.mono (by decide)) (by rfl) (xa_cons (xe_item (xv 0) xe_int) (xa_cons (xv 1) xa_nil))))) xa_nil)))))))), fun ds M Φ h => ?_⟩)
  obtain ⟨d, rfl, hp, k⟩ := h
  cases d <;> first | (cases hp; done) | skip
  all_goals walk_at "dl"
  all_goals first | exact i_drp0 k | skip
  rename_i xs
  refine i_itN (fun e => ?_) fun e => ?_
  · obtain ⟨a, b, c, rfl⟩ : ∃ a b c, xs = [a, b, c] := by
      match xs, e with
      | [a, b, c], _ => exact ⟨a, b, c, rfl⟩
      | [], e => cases e
      | [_], e => cases e
      | [_, _], e => cases e
      | _ :: _ :: _ :: _ :: _, e => simp at e; omega
    rw [puD, Bool.and_eq_true, puAll, puAll, puAll, Bool.and_eq_true, Bool.and_eq_true, Bool.and_eq_true] at hp
    obtain ⟨⟨h1, h2, h3, hz⟩, hy⟩ := hp
    walk_at "dl"
    cases a <;> first | (cases h1; done) | skip
    all_goals walk_at "dl"
    all_goals first | exact i_drp0 k | skip
    rename_i x
    refine i_itN (fun ex => ?_) fun ex => ?_
    · walk_at "dl"
      refine ⟨b, rfl, h2, ?_⟩
      cases b <;> first | (cases h2; done) | skip
      all_goals walk_at "dl"
      all_goals first | exact i_drp0 k | skip
      rename_i n
      have sk : ∀ q : Prop, (¬ (1 ≤ n ∧ n ≤ 8) → isW3 (.str x) (.int n) c = false) := by
        intro _ hn
        cases c <;> try rfl
        rw [isW3, decide_eq_true ex, Bool.true_and]
        by_cases h8 : (1 : Int) ≤ n
        · rw [decide_eq_true h8, decide_eq_false (show ¬ n ≤ 8 from fun z => hn ⟨h8, z⟩)]; rfl
        · rw [decide_eq_false h8]; rfl
      refine i_itnT ?_
      walk_at "dl"
      refine i_itD (fun e1 => ?_) fun e1 => ?_
      · walk_at "dl"
        refine i_itN (fun e2 => ?_) fun e2 => ?_
        · cases c <;> first | (cases h3; done) | skip
          all_goals walk_at "dl"
          all_goals first | exact i_drp0 k | skip
          rename_i ts
          refine i_itD (fun e3 => ?_) fun e3 => ?_
          · walk_at "dl"
            rw [puD, Bool.and_eq_true] at h3
            refine lc_by (fun t => some (.bl (isPairD n t))) ?_ (fun t ht M' _ F hF => ?_) ?_
            · exact szl (by omega)
            · walk_at "dl"
              exact ⟨n, t, rfl, puAll_mem h3.1 ht, hF⟩
            · walk_at "dl"
              refine i_all (bs := ts.map (isPairD n)) ?_ ?_
              · show some _ = some _
                rw [List.map_map, List.filterMap_eq_map']
                rfl
              · rw [show isWebD (.tup [.str x, .int n, .tup ts]) = (ts.map (isPairD n)).all id from by
                  rw [isWebD, isW3, decide_eq_true ex, decide_eq_true e1, decide_eq_true e2, decide_eq_true e3, List.all_map]
                  rfl] at k
                exact i_drp0 k
          · rw [show isWebD (.tup [.str x, .int n, .tup ts]) = false from by
              rw [isWebD, isW3, decide_eq_true ex, decide_eq_true e1, decide_eq_true e2, decide_eq_false e3]
              rfl] at k
            exact i_drp0 k
        · walk_at "dl"
          rw [show isWebD (.tup [.str x, .int n, c]) = false from sk True fun z => e2 z.2] at k
          exact i_drp0 k
      · walk_at "dl"
        rw [show isWebD (.tup [.str x, .int n, c]) = false from sk True fun z => e1 z.1] at k
        exact i_drp0 k
    · walk_at "dl"
      have : isWebD (.tup [.str x, b, c]) = false := by
        rw [isWebD]
        cases b <;> try rfl
        cases c <;> try rfl
        rw [isW3, decide_eq_false ex]
        rfl
      rw [this] at k
      exact i_drp0 k
  · walk_at "dl"
    have : isWebD (.tup xs) = false := by
      match xs, e with
      | [a, b, c], e => exact absurd rfl e
      | [], _ => rfl
      | [_], _ => rfl
      | [_, _], _ => rfl
      | _ :: _ :: _ :: _ :: _, _ => rfl
    rw [this] at k
    exact i_drp0 k

abbrev s_need_web : Stmt := topS 11
abbrev nn_need_web : List Str := ["web"]
theorem sc_need_web : FnScope nn_need_web ["web"] (defScope s_need_web) := ⟨rfl, rfl, rfl, by decide +kernel, rfl, by decide +kernel, by decide +kernel⟩
theorem ok_need_web {P : Program} {w : World} {K : PySem.W.Frag} {mg : Str → Option Value} {base : Heap} {T : List (Addr × Str)} {cBadWeb : Addr} (B : Blt mg) (G_is_web : Has P w K mg base T "is_web" 4 1 fs_is_web) (X_BadWeb : ExcS K mg "BadWeb" cBadWeb) {f : Addr} {fd : FuncData} (F : Fun K "need_web" "need_web" s_need_web f fd) (hm : mg "need_web" = some (.ref f)) (hb : L2.Binds K fd ["web"] []) : HasX P w K mg base T "need_web" 5 1 (fs_need_web cBadWeb) := by
  refine okDX (k := 4) F sc_need_web hm hb len_need_web mono_need_web (fun cdv A outer s H E Ξ hr tk hX => ⟨_, (xss_one (xs_if (xt_not (xt_val (xe_call G_is_web (hr.mono (by decide)) (by rfl) (xa_cons (xv 0) xa_nil))))
      (xss_one (xs_raise0 rfl tk hX (X_BadWeb.mk_ (by rfl))))
      xss_nil)), fun ds M Φ h => ?_⟩)
  obtain ⟨d, rfl, hp, k1, k2⟩ := h
  walk_at "dl"
  refine ⟨d, rfl, hp, ?_⟩
  walk_at "dl"
  refine i_itnB (fun e => ?_) fun e => ?_
  · walk_at "dl"
    exact i_drp0 (k1 e)
  · walk_at "dl"
    exact k2 e

abbrev s_need_text : Stmt := topS 14
abbrev nn_need_text : List Str := ["text"]
theorem sc_need_text : FnScope nn_need_text ["text"] (defScope s_need_text) := ⟨rfl, rfl, rfl, by decide +kernel, rfl, by decide +kernel, by decide +kernel⟩
theorem ok_need_text {P : Program} {w : World} {K : PySem.W.Frag} {mg : Str → Option Value} {base : Heap} {T : List (Addr × Str)} {cBadText : Addr} (B : Blt mg)  (X_BadText : ExcMk P w K mg base "BadText" cBadText "at") {f : Addr} {fd : FuncData} (F : Fun K "need_text" "need_text" s_need_text f fd) (hm : mg "need_text" = some (.ref f)) (hb : L2.Binds K fd ["text"] []) : HasX P w K mg base T "need_text" 3 1 (fs_need_text cBadText) := by
  refine okDX (k := 2) F sc_need_text hm hb len_need_text mono_need_text (fun cdv A outer s H E Ξ hr tk hX => ⟨_, (xss_one (xs_if (xt_not (xt_val (xe_callB call_isiA d_isi (by rfl) B.b_isinstance (by decide +kernel) (xa_cons (xv 0) (xa_cons (xe_ty (n := "str") (by rfl) B.b_str (by decide +kernel)) xa_nil)))))
      (xss_one (xs_raise1 X_BadText rfl tk hX (hr.mono (by decide)) (by rfl) (xe_neg xe_int)))
      xss_nil)), fun ds M Φ h => ?_⟩)
  obtain ⟨d, rfl, hp, k1, k2⟩ := h
  cases d <;> first | (cases hp; done) | skip
  all_goals walk_at "dl"
  all_goals first | exact k2 (fun z e => by cases e) | exact i_drp0 (k1 ⟨_, rfl⟩)

abbrev s_piece_of_numbers : Stmt := topS 15
abbrev nn_piece_of_numbers : List Str := ["numbers", "number"]
theorem sc_piece_of_numbers : FnScope nn_piece_of_numbers ["numbers"] (defScope s_piece_of_numbers) := ⟨rfl, rfl, rfl, by decide +kernel, rfl, by decide +kernel, by decide +kernel⟩
theorem ok_piece_of_numbers {P : Program} {w : World} {K : PySem.W.Frag} {mg : Str → Option Value} {base : Heap} {T : List (Addr × Str)}  (B : Blt mg)  {f : Addr} {fd : FuncData} (F : Fun K "piece_of_numbers" "piece_of_numbers" s_piece_of_numbers f fd) (hm : mg "piece_of_numbers" = some (.ref f)) (hb : L2.Binds K fd ["numbers"] []) : Has P w K mg base T "piece_of_numbers" 1 1 fs_piece_of_numbers := by
  refine okD (k := 0) F sc_piece_of_numbers hm hb len_piece_of_numbers (fun cdv A outer s H E hr => ⟨_, (xss_one (xs_ret (xe_add (xe_add xe_str (xe_join xe_str (xe_lc rfl sc_piece_of_numbers.nd (xi_any (xv 0)) (blkOk_by (own := [("number", 1)]) (N := nn_piece_of_numbers) (sc := defScope s_piece_of_numbers) (by decide +kernel)) (tg_name (by decide)) (fun _ _ _ _ _ => pg_name (i := 1) sc_piece_of_numbers.nd rfl (by first | exact Or.inl rfl | exact Or.inr rfl)) (fun _ _ _ _ _ => xts_nil) (fun _ _ _ _ _ => (xe_callTy call_str_int d_str (by rfl) B.b_str (by decide +kernel) (xa_cons (xv 1) xa_nil)))))) xe_str))), fun ds M Φ h => ?_⟩)
  obtain ⟨t, rfl, h1, h2, h3, h4, k⟩ := h
  have lg : ∀ i : Int, 0 ≤ i → i < 100 → i.natAbs.log2 < 1920 := fun i a b => by
    by_cases z : i.natAbs = 0
    · rw [z]; decide
    · have : i.natAbs.log2 < 7 := by rw [Nat.log2_lt z]; omega
      omega
  have ts : ∀ i : Int, 0 ≤ i → tl (Str.ofString (toString i)) = numL i.toNat := fun i a => by
    obtain ⟨n, rfl⟩ := Int.eq_ofNat_of_zero_le a
    exact tl_num n
  have nl : ∀ i : Int, 0 ≤ i → i < 100 → (numL i.toNat).length ≤ 2 := fun i a b => numL_len (by decide) (by show i.toNat < 100; omega)
  unfold pairD
  walk_at "dl"
  refine lc_by (fun x => some (match x with
    | .int i => .str (Str.ofString (toString i))
    | _ => .non)) ?_ (fun x hx M' _ F hF => ?_) ?_
  · exact szl (show 2 ≤ _ by decide)
  · rcases List.mem_cons.mp hx with rfl | hx
    · walk_at "dl"
      refine i_str (lg _ h1 h2) hF
    · rcases List.mem_singleton.mp hx with rfl
      walk_at "dl"
      refine i_str (lg _ h3 h4) hF
  · walk_at "dl"
    have l1 : (Str.ofString (toString t.1)).length ≤ 2 := by rw [len_tl, ts _ h1]; exact nl _ h1 h2
    have l2 : (Str.ofString (toString t.2)).length ≤ 2 := by rw [len_tl, ts _ h3]; exact nl _ h3 h4
    refine i_join (ys := [Str.ofString (toString t.1), Str.ofString (toString t.2)]) rfl ?_ ?_
    · show (Str.ofString (toString t.1)).length + ((Str.ofString (toString t.2)).length + 0) + 2 * 1 ≤ _
      omega
    walk_at "dl"
    have ej : tl (Txt.join (Str.ofString ",") [Str.ofString (toString t.1), Str.ofString (toString t.2)]) = joinL [44] ([t.1.toNat, t.2.toNat].map numL) := by
      rw [join_eq, tl_join, show tl (Str.ofString ",") = [44] by decide +kernel]
      show joinL [44] [tl (Str.ofString (toString t.1)), tl (Str.ofString (toString t.2))] = _
      rw [ts _ h1, ts _ h3]
      rfl
    have lj : (joinL [44] ([t.1.toNat, t.2.toNat].map numL)).length ≤ 5 := by
      show (numL t.1.toNat ++ ([44] ++ numL t.2.toNat)).length ≤ 5
      simp only [List.length_append, List.length_singleton]
      have := nl _ h1 h2; have := nl _ h3 h4; omega
    have ll : (Txt.join (Str.ofString ",") [Str.ofString (toString t.1), Str.ofString (toString t.2)]).length ≤ 5 := by rw [len_tl, ej]; exact lj
    refine i_adds ?_ ?_
    · show 1 + _ ≤ _; exact szl (by omega)
    walk_at "dl"
    refine i_adds ?_ ?_
    · rw [len_tl, tl_append, List.length_append, ← len_tl (Txt.join _ _)]; show 1 + _ + 1 ≤ _; exact szl (by omega)
    refine i_drp0 ?_
    rw [show (Str.ofString "(" ++ Txt.join (Str.ofString ",") [Str.ofString (toString t.1), Str.ofString (toString t.2)] ++ Str.ofString ")" : Str) = ⟨(pieceL [t.1.toNat, t.2.toNat]).toArray⟩ from ext_tl (by
      rw [tl_append, tl_append, ej, show tl (Str.ofString "(") = [40] by decide +kernel, show tl (Str.ofString ")") = [41] by decide +kernel]
      show _ = pieceL _
      unfold pieceL
      simp)]
    exact k

abbrev s_number_from : Stmt := topS 16
abbrev nn_number_from : List Str := ["word", "found", "letter"]
theorem sc_number_from : FnScope nn_number_from ["word"] (defScope s_number_from) := ⟨rfl, rfl, rfl, by decide +kernel, rfl, by decide +kernel, by decide +kernel⟩
theorem ok_number_from {P : Program} {w : World} {K : PySem.W.Frag} {mg : Str → Option Value} {base : Heap} {T : List (Addr × Str)}  (B : Blt mg)  {f : Addr} {fd : FuncData} (F : Fun K "number_from" "number_from" s_number_from f fd) (hm : mg "number_from" = some (.ref f)) (hb : L2.Binds K fd ["word"] []) : Has P w K mg base T "number_from" 1 1 fs_number_from := by
  refine okD (k := 0) F sc_number_from hm hb len_number_from (fun cdv A outer s H E hr => ⟨_, (xss_cons (xs_if (xt_w (xw_or (xt_not (xt_chain op_le d_cmp op_le d_cmp xe_int (xe_callB call_len d_len (by rfl) B.b_len (by decide +kernel) (xa_cons (xv 0) xa_nil)) xe_int)) (xw_or1 (xt_not (xt_val (xe_callB (cr_all rfl) d_all (by rfl) B.b_all (by decide +kernel) (xa_cons (xe_lc rfl sc_number_from.nd (xi_any (xv 0)) (blkOk_by (own := [("letter", 2)]) (N := nn_number_from) (sc := defScope s_number_from) (by decide +kernel)) (tg_name (by decide)) (fun _ _ _ _ _ => pg_name (i := 2) sc_number_from.nd rfl (by first | exact Or.inl rfl | exact Or.inr rfl)) (fun _ _ _ _ _ => xts_nil) (fun _ _ _ _ _ => (xe_in (xv 2) (xe_gstr' (by rfl) B.c_DIGITS)))) xa_nil)))))))
      (xss_one (xs_ret xe_non))
      xss_nil)
      (xss_cons (xs_set (i := 1) sc_number_from.nd rfl (by first | exact Or.inl rfl | exact Or.inr rfl) (xe_callTy call_intA d_int (by rfl) B.b_int (by decide +kernel) (xa_cons (xv 0) xa_nil)))
      (xss_one (xs_ret (xe_if (xt_eq hr.units (xe_callTy call_str_int d_str (by rfl) B.b_str (by decide +kernel) (xa_cons (xv 1) xa_nil)) (xv 0)) (xv 1) xe_non))))), fun ds M Φ h => ?_⟩)
  obtain ⟨w, rfl, hw, k⟩ := h
  have hl : w.length = (tl w).length := len_tl w
  have bad : ¬ ((1 : Int) ≤ w.length ∧ (w.length : Int) ≤ 2) → numOf (tl w) = none := by
    intro h
    match e : tl w with
    | [] => rfl
    | [_] => rw [hl, e] at h; exact absurd ⟨by simp, by simp⟩ h
    | [_, _] => rw [hl, e] at h; exact absurd ⟨by simp, by simp⟩ h
    | _ :: _ :: _ :: _ => rfl
  walk_at "dl"
  refine i_lens (szl (by omega)) ?_
  walk_at "dl"
  refine i_itD (fun e1 => ?_) (fun e1 => ?_)
  · walk_at "dl"
    refine i_itN (fun e2 => ?_) fun e2 => ?_
    · walk_at "dl"
      refine lc_by (fun x => some (.bl (digB (oneC x)))) ?_ (fun x hx M' _ F hF => ?_) ?_
      · rw [List.length_map]; show (tl w).length ≤ _; exact szl (by omega)
      · obtain ⟨c, hc, rfl⟩ := List.mem_map.mp hx
        walk_at "dl"
        rw [dig_in]
        exact hF
      · walk_at "dl"
        refine i_all (bs := (tl w).map digB) ?_ ?_
        · show some _ = some _
          rw [List.map_map, List.filterMap_eq_map', List.map_map]
          rfl
        rw [List.all_map]
        refine i_itnB (fun e3 => ?_) fun e3 => ?_
        · walk_at "dl"
          have hd : (tl w).all digB = true := e3
          have ad : NumText.AllDigits w.cps.toList := fun c hc => digB_iff.mp (List.all_eq_true.mp hd c hc)
          refine ⟨_, intText_digits ad (fun z => by rw [hl, show tl w = [] from z] at e1; simp at e1) (by omega), by omega, ?_⟩
          walk_at "dl"
          have nk := num_key (l := tl w) (by omega) (by omega) hd
          have vb : NumText.digitsVal (tl w) < 100 := by
            have b : ∀ x ∈ tl w, x - 48 ≤ 9 := fun x hx => by have := digB_iff.mp (List.all_eq_true.mp hd x hx); omega
            match h : tl w with
            | [] => decide
            | [a] => rw [h] at b; simp [NumText.digitsVal]; have := b a (by simp); omega
            | [a, c] => rw [h] at b; simp [NumText.digitsVal]; have := b a (by simp); have := b c (by simp); omega
            | _ :: _ :: _ :: _ => rw [hl, h] at e2; simp at e2; omega
          refine i_str ?_ ?_
          · have : (NumText.digitsVal (tl w)).log2 < 7 := by
              by_cases z : NumText.digitsVal (tl w) = 0
              · rw [z]; decide
              · rw [Nat.log2_lt z]; omega
            show Nat.log2 (NumText.digitsVal (tl w)) < 1920
            omega
          walk_at "dl"
          have te : (Str.ofString (toString ((NumText.digitsVal (tl w) : Nat) : Int)) = w) ↔ numL (NumText.digitsVal (tl w)) = tl w := by
            constructor
            · intro z
              have := congrArg tl z
              rw [tl_num] at this
              exact this
            · intro z
              exact ext_tl (by rw [tl_num]; exact z)
          refine i_itD (fun e4 => ?_) fun e4 => ?_
          · walk_at "dl"
            rw [nk, if_pos (te.mp e4)] at k
            exact i_drp0 k
          · walk_at "dl"
            rw [nk, if_neg fun z => e4 (te.mpr z)] at k
            exact i_drp0 k
        · walk_at "dl"
          have : numOf (tl w) = none := by
            have e3' : (tl w).all digB = false := e3
            match h : tl w with
            | [] => rfl
            | [a] =>
              rw [h] at e3'
              simp only [List.all_cons, List.all_nil, Bool.and_true] at e3'
              rw [numOf, if_neg (by rw [e3']; exact Bool.false_ne_true)]
            | [a, b] =>
              rw [h] at e3'
              simp only [List.all_cons, List.all_nil, Bool.and_true] at e3'
              rw [numOf, if_neg (by rw [e3']; exact Bool.false_ne_true)]
            | _ :: _ :: _ :: _ => rfl
          rw [this] at k
          exact i_drp0 k
    · walk_at "dl"
      rw [bad fun z => e2 z.2] at k
      exact i_drp0 k
  · walk_at "dl"
    rw [bad fun z => e1 z.1] at k
    exact i_drp0 k

abbrev s_numbers_from : Stmt := topS 17
abbrev nn_numbers_from : List Str := ["piece", "found", "word"]
theorem sc_numbers_from : FnScope nn_numbers_from ["piece"] (defScope s_numbers_from) := ⟨rfl, rfl, rfl, by decide +kernel, rfl, by decide +kernel, by decide +kernel⟩
theorem ok_numbers_from {P : Program} {w : World} {K : PySem.W.Frag} {mg : Str → Option Value} {base : Heap} {T : List (Addr × Str)}  (B : Blt mg) (G_number_from : Has P w K mg base T "number_from" 1 1 fs_number_from) {f : Addr} {fd : FuncData} (F : Fun K "numbers_from" "numbers_from" s_numbers_from f fd) (hm : mg "numbers_from" = some (.ref f)) (hb : L2.Binds K fd ["piece"] []) : Has P w K mg base T "numbers_from" 2 1 fs_numbers_from := by
  refine okD (k := 1) F sc_numbers_from hm hb len_numbers_from (fun cdv A outer s H E hr => ⟨_, (xss_cons (xs_if (xt_w (xw_or (xt_lt (xe_callB call_len d_len (by rfl) B.b_len (by decide +kernel) (xa_cons (xv 0) xa_nil)) xe_int) (xw_or (xt_ne hr.units (xe_item (xv 0) xe_int) xe_str) (xw_or1 (xt_ne hr.units (xe_item (xv 0) (xe_neg xe_int)) xe_str)))))
      (xss_one (xs_ret xe_non))
      xss_nil)
      (xss_cons (xs_set (i := 1) sc_numbers_from.nd rfl (by first | exact Or.inl rfl | exact Or.inr rfl) (xe_if (xt_gt (xe_callB call_len d_len (by rfl) B.b_len (by decide +kernel) (xa_cons (xv 0) xa_nil)) xe_int) (xe_callTy call_tuple_of d_tuple (by rfl) B.b_tuple (by decide +kernel) (xa_cons (xe_lc rfl sc_numbers_from.nd (xi_any (xe_split (xe_slice (xv 0) (xo_at xe_int) (xo_at (xe_neg xe_int))) xe_str)) (blkOk_by (own := [("word", 2)]) (N := nn_numbers_from) (sc := defScope s_numbers_from) (by decide +kernel)) (tg_name (by decide)) (fun _ _ _ _ _ => pg_name (i := 2) sc_numbers_from.nd rfl (by first | exact Or.inl rfl | exact Or.inr rfl)) (fun _ _ _ _ _ => xts_nil) (fun _ _ _ _ _ => (xe_call G_number_from (hr.mono (by decide)) (by rfl) (xa_cons (xv 2) xa_nil)))) xa_nil)) (xe_tup xa_nil)))
      (xss_one (xs_ret (xe_if (xt_in xe_non (xv 1)) xe_non (xv 1)))))), fun ds M Φ h => ?_⟩)
  obtain ⟨w, rfl, hw, k⟩ := h
  have hl : w.length = (tl w).length := len_tl w
  have bad : (w.length < 2 ∨ (tl w).head? ≠ some 40 ∨ (tl w).getLast? ≠ some 41) → numsOf (tl w) = none := fun h => by
    unfold numsOf
    rw [if_pos (by rw [← hl]; exact h)]
  have ec : ∀ (x y : Nat), (⟨#[x]⟩ : Str) = ⟨#[y]⟩ ↔ x = y := fun x y => ⟨fun z => by have := congrArg tl z; simpa [tl] using this, fun z => by rw [z]⟩
  walk_at "dl"
  refine i_lens (szl (by omega)) ?_
  walk_at "dl"
  refine i_itD (fun e1 => ?_) (fun e1 => ?_)
  · walk_at "dl"
    rw [bad (.inl (by omega))] at k
    exact i_drp0 k
  · walk_at "dl"
    obtain ⟨c, r, hc⟩ : ∃ c r, tl w = c :: r := by
      cases h : tl w with
      | nil => rw [hl, h] at e1; simp at e1
      | cons c r => exact ⟨c, r, rfl⟩
    obtain ⟨c2, hc2⟩ : ∃ c2, (tl w).getLast? = some c2 := by
      rw [hc]
      exact ⟨_, List.getLast?_eq_some_getLast (by simp)⟩
    refine i_ixs (c := c) (szl (by omega)) (by show atI (tl w) 0 = some c; rw [hc]; exact atI_zero) ?_
    walk_at "dl"
    refine i_itN (fun e2 => ?_) fun e2 => ?_
    · have e2' : c = 40 := (ec c 40).mp e2
      walk_at "dl"
      refine i_ixs (c := c2) (szl (by omega)) (atI_last hc2) ?_
      walk_at "dl"
      refine i_itN (fun e3 => ?_) fun e3 => ?_
      · have e3' : c2 = 41 := (ec c2 41).mp e3
        subst e2'
        subst e3'
        have good : numsOf (tl w) = if (tl w).length = 2 then some [] else optAll ((spl [44] 0 [] (inner (tl w))).map numOf) := by
          unfold numsOf
          rw [if_neg (by rw [hc2, hc]; simp; rw [hl, hc] at e1; simp at e1; omega)]
        walk_at "dl"
        refine i_lens (szl (by omega)) ?_
        walk_at "dl"
        refine i_itD (fun e4 => ?_) fun e4 => ?_
        · walk_at "dl"
          refine i_sls (szl (by omega)) ?_
          walk_at "dl"
          have hci : tl (cutS w (some 1) (some (-1))) = inner (tl w) := tl_cut_inner (by omega)
          have hli : (inner (tl w)).length ≤ 1000000 := by unfold inner; rw [List.length_dropLast, List.length_drop]; omega
          have hlc : (cutS w (some 1) (some (-1))).length = (inner (tl w)).length := by rw [len_tl, hci]
          refine i_split rfl (szl (by omega)) ?_
          rw [split_words (s := 44) (by decide +kernel) (by decide +kernel), hci]
          walk_at "dl"
          obtain ⟨sl1, sl2⟩ := spl_len (s := 44) (inner (tl w)) []
          refine lc_by (fun x => some (match x with
            | .str z => optI (numOf (tl z))
            | _ => .non)) ?_ (fun x hx M' _ F hF => ?_) ?_
          · rw [List.length_map, List.length_map]; exact szl (by omega)
          · obtain ⟨z, hz, rfl⟩ := List.mem_map.mp hx
            obtain ⟨p, hp, rfl⟩ := List.mem_map.mp hz
            walk_at "dl"
            have := sl2 p hp
            exact ⟨_, rfl, by rw [len_tl, tl_mk]; simp at this; omega, hF⟩
          · walk_at "dl"
            have eo : ((List.map D.str (List.map (fun l => (⟨l.toArray⟩ : Str)) (spl [44] 0 [] (inner (tl w))))).filterMap fun x => some (match x with
                | .str z => optI (numOf (tl z))
                | _ => .non)) = ((spl [44] 0 [] (inner (tl w))).map numOf).map optI := by
              rw [List.filterMap_eq_map', List.map_map, List.map_map, List.map_map]
              rfl
            rw [eo]
            rw [good, if_neg (by omega)] at k
            generalize (spl [44] 0 [] (inner (tl w))).map numOf = os at *
            refine i_inq (xs := os.map optI) rfl rfl ?_ (fun x z h => by cases h) ?_
            · rw [List.all_map, List.all_eq_true]
              intro o _
              cases o <;> rfl
            have ea : ((os.map optI).any fun y => eqF y .non) = (optAll os).isNone := by
              rw [List.any_map, Bool.eq_iff_iff, List.any_eq_true, Option.isNone_iff_eq_none, optAll_none]
              refine exists_congr fun o => and_congr_right fun _ => ?_
              cases o <;> simp [optI, eqF, vOf, eqV]
            rw [ea]
            cases ho : optAll os with
            | none => walk_at "dl"; rw [ho] at k; exact i_drp0 k
            | some l =>
              walk_at "dl"
              rw [ho] at k
              rw [optAll_some ho, List.map_map]
              exact i_drp0 k
        · walk_at "dl"
          refine i_inq (xs := []) rfl rfl rfl (fun x z h => by cases h) ?_
          walk_at "dl"
          rw [good, if_pos (by omega)] at k
          exact i_drp0 k
      · walk_at "dl"
        rw [bad (.inr (.inr (by rw [hc2]; exact fun z => e3 ((ec c2 41).mpr (Option.some.inj z)))))] at k
        exact i_drp0 k
    · walk_at "dl"
      rw [bad (.inr (.inl (by rw [hc]; exact fun z => e2 ((ec c 40).mpr (Option.some.inj z)))))] at k
      exact i_drp0 k

abbrev s_web_line : Stmt := topS 18
abbrev nn_web_line : List Str := ["web", "tie"]
theorem sc_web_line : FnScope nn_web_line ["web"] (defScope s_web_line) := ⟨rfl, rfl, rfl, by decide +kernel, rfl, by decide +kernel, by decide +kernel⟩
theorem ok_web_line {P : Program} {w : World} {K : PySem.W.Frag} {mg : Str → Option Value} {base : Heap} {T : List (Addr × Str)}  (B : Blt mg) (G_piece_of_numbers : Has P w K mg base T "piece_of_numbers" 1 1 fs_piece_of_numbers) {f : Addr} {fd : FuncData} (F : Fun K "web_line" "web_line" s_web_line f fd) (hm : mg "web_line" = some (.ref f)) (hb : L2.Binds K fd ["web"] []) : Has P w K mg base T "web_line" 2 1 fs_web_line := by
  refine okD (k := 1) F sc_web_line hm hb len_web_line (fun cdv A outer s H E hr => ⟨_, (xss_one (xs_ret (xe_join xe_str (xe_add (xe_lst (xa_cons xe_str (xa_cons (xe_callTy call_str_int d_str (by rfl) B.b_str (by decide +kernel) (xa_cons (xe_item (xv 0) xe_int) xa_nil)) xa_nil))) (xe_lc rfl sc_web_line.nd (xi_any (xe_item (xv 0) xe_int)) (blkOk_by (own := [("tie", 1)]) (N := nn_web_line) (sc := defScope s_web_line) (by decide +kernel)) (tg_name (by decide)) (fun _ _ _ _ _ => pg_name (i := 1) sc_web_line.nd rfl (by first | exact Or.inl rfl | exact Or.inr rfl)) (fun _ _ _ _ _ => xts_nil) (fun _ _ _ _ _ => (xe_call G_piece_of_numbers (hr.mono (by decide)) (by rfl) (xa_cons (xv 1) xa_nil)))))))), fun ds M Φ h => ?_⟩)
  obtain ⟨n, ts, rfl, g, k⟩ := h
  unfold webD
  walk_at "dl"
  have hn : 0 ≤ n := by have := g.lo; omega
  refine i_str ?_ ?_
  · have : n.natAbs.log2 < 7 := by rw [Nat.log2_lt (by have := g.lo; omega)]; have := g.hi; omega
    omega
  walk_at "dl"
  refine lc_by (fun x => some (match x with
    | .tup [.int a, .int b] => strL (pieceL [a.toNat, b.toNat])
    | _ => .non)) ?_ (fun x hx M' _ F hF => ?_) ?_
  · rw [List.length_map]; exact szl (by have := g.len; omega)
  · obtain ⟨t, ht, rfl⟩ := List.mem_map.mp hx
    have := g.ok t ht
    have := g.hi
    walk_at "dl"
    exact ⟨t, rfl, by omega, by omega, by omega, by omega, hF⟩
  · walk_at "dl"
    have ts' : tl (Str.ofString (toString n)) = numL n.toNat := by
      obtain ⟨m, rfl⟩ := Int.eq_ofNat_of_zero_le hn
      exact tl_num m
    have hg := g.len
    rw [List.filterMap_eq_map', List.map_map]
    have e1 : (ts.map ((fun x => match x with
        | D.tup [D.int a, D.int b] => strL (pieceL [a.toNat, b.toNat])
        | _ => D.non) ∘ pairD)) = (ts.map fun t => (⟨(pieceL [t.1.toNat, t.2.toNat]).toArray⟩ : Str)).map D.str := by
      rw [List.map_map]; rfl
    rw [e1]
    refine i_addl (szl (by rw [List.length_map, List.length_map]; show 2 + _ ≤ _; omega)) ?_
    have nl : ∀ i : Nat, i < 100 → (numL i).length ≤ 2 := fun i a => numL_len (by decide) (by show i < 100; exact a)
    have pl : ∀ t ∈ ts, (pieceL [t.1.toNat, t.2.toNat]).length ≤ 7 := fun t ht => by
      have := g.ok t ht
      have := g.hi
      have a1 := nl t.1.toNat (by omega)
      have a2 := nl t.2.toNat (by omega)
      show (40 :: ((numL t.1.toNat ++ ([44] ++ numL t.2.toNat)) ++ [41])).length ≤ 7
      simp only [List.length_cons, List.length_append, List.length_nil]
      omega
    refine i_join (ys := Str.ofString "web" :: Str.ofString (toString n) :: ts.map fun t => (⟨(pieceL [t.1.toNat, t.2.toNat]).toArray⟩ : Str)) rfl ?_ ?_
    · have sm : ∀ l : List (Int × Int), (∀ t ∈ l, (pieceL [t.1.toNat, t.2.toNat]).length ≤ 7) → ((l.map fun t => (⟨(pieceL [t.1.toNat, t.2.toNat]).toArray⟩ : Str)).map (·.length)).sum ≤ 7 * l.length := by
        intro l
        induction l with
        | nil => intro _; exact Nat.le_refl _
        | cons t l ih =>
          intro h
          have h1 := h t (by simp)
          have h2 := ih fun q hq => h q (by simp [hq])
          simp only [List.map_cons, List.sum_cons, List.length_cons]
          have : (⟨(pieceL [t.1.toNat, t.2.toNat]).toArray⟩ : Str).length = (pieceL [t.1.toNat, t.2.toNat]).length := by rw [len_tl]
          omega
      have h7 := sm ts pl
      have hw : (Str.ofString "web").length = 3 := by decide +kernel
      have hsp : (Str.ofString " ").length = 1 := by decide +kernel
      have hnn : (Str.ofString (toString n)).length ≤ 2 := by rw [len_tl, ts']; exact nl _ (by have := g.hi; omega)
      rw [List.map_cons, List.map_cons, List.sum_cons, List.sum_cons, hw, hsp, List.length_cons, List.length_cons, List.length_map]
      omega
    refine i_drp0 ?_
    rw [show Txt.join (Str.ofString " ") (Str.ofString "web" :: Str.ofString (toString n) :: ts.map fun t => (⟨(pieceL [t.1.toNat, t.2.toNat]).toArray⟩ : Str)) = (⟨(webTextL n ts).toArray⟩ : Str) from ext_tl (by
      rw [join_eq, tl_join, List.map_cons, List.map_cons, ts', List.map_map, show tl (Str.ofString " ") = [32] by decide +kernel, show tl (Str.ofString "web") = webL by decide +kernel]
      rfl)]
    exact k

abbrev s_web_text : Stmt := topS 19
abbrev nn_web_text : List Str := ["web"]
theorem sc_web_text : FnScope nn_web_text ["web"] (defScope s_web_text) := ⟨rfl, rfl, rfl, by decide +kernel, rfl, by decide +kernel, by decide +kernel⟩
theorem ok_web_text {P : Program} {w : World} {K : PySem.W.Frag} {mg : Str → Option Value} {base : Heap} {T : List (Addr × Str)} {cBadWeb : Addr} (B : Blt mg) (G_need_web : HasX P w K mg base T "need_web" 5 1 (fs_need_web cBadWeb)) (G_web_line : Has P w K mg base T "web_line" 2 1 fs_web_line) {f : Addr} {fd : FuncData} (F : Fun K "web_text" "web_text" s_web_text f fd) (hm : mg "web_text" = some (.ref f)) (hb : L2.Binds K fd ["web"] []) : HasX P w K mg base T "web_text" 6 1 (fs_web_text cBadWeb) ∧ KwOfX P w K mg base T "web_text" 6 1 (fs_web_text cBadWeb) fd ["web"] := by
  refine okDXK (k := 5) F sc_web_text hm hb len_web_text mono_web_text (fun cdv A outer s H E Ξ hr tk hX => ⟨_, (xss_cons (xs_expr (xe_callX G_need_web tk hX (hr.mono (by decide)) (by rfl) (xa_cons (xv 0) xa_nil)))
      (xss_one (xs_ret (xe_call G_web_line (hr.mono (by decide)) (by rfl) (xa_cons (xv 0) xa_nil))))), fun ds M Φ h => ?_⟩)
  obtain ⟨d, rfl, hp, k1, k2⟩ := h
  walk_at "dl"
  refine ⟨d, rfl, hp, fun e => ?_, k2⟩
  walk_at "dl"
  obtain ⟨n, ts, rfl, g⟩ := isWeb_good e
  exact ⟨n, ts, rfl, g, i_drp0 (k1 n ts rfl g)⟩

abbrev s_ties_told : Stmt := topS 20
abbrev nn_ties_told : List Str := ["n", "parts_told", "found", "piece", "tie"]
theorem sc_ties_told : FnScope nn_ties_told ["n", "parts_told"] (defScope s_ties_told) := ⟨rfl, rfl, rfl, by decide +kernel, rfl, by decide +kernel, by decide +kernel⟩
theorem ok_ties_told {P : Program} {w : World} {K : PySem.W.Frag} {mg : Str → Option Value} {base : Heap} {T : List (Addr × Str)}  (B : Blt mg) (G_is_pair : Has P w K mg base T "is_pair" 3 2 fs_is_pair) (G_numbers_from : Has P w K mg base T "numbers_from" 2 1 fs_numbers_from) {f : Addr} {fd : FuncData} (F : Fun K "ties_told" "ties_told" s_ties_told f fd) (hm : mg "ties_told" = some (.ref f)) (hb : L2.Binds K fd ["n", "parts_told"] []) : Has P w K mg base T "ties_told" 4 2 fs_ties_told := by
  refine okD (k := 3) F sc_ties_told hm hb len_ties_told (fun cdv A outer s H E hr => ⟨_, (xss_cons (xs_set (i := 2) sc_ties_told.nd rfl (by first | exact Or.inl rfl | exact Or.inr rfl) (xe_lstM xa_nil))
      (xss_cons (xs_for (vs := [3]) PassesOwn.never rfl (xi_any (xv 1)) (pg_name (i := 3) sc_ties_told.nd rfl (by first | exact Or.inl rfl | exact Or.inr rfl)) (tg_name (by decide))
      (xss_cons (xs_set (i := 4) sc_ties_told.nd rfl (by first | exact Or.inl rfl | exact Or.inr rfl) (xe_call G_numbers_from (hr.mono (by decide)) (by rfl) (xa_cons (xv 3) xa_nil)))
      (xss_cons (xs_if (xt_w (xw_or (xt_eq hr.units (xe_callB call_len d_len (by rfl) B.b_len (by decide +kernel) (xa_cons (xv 2) xa_nil)) (xe_gint' (by rfl) B.c_MOST_TIES)) (xw_or1 (xt_not (xt_val (xe_call G_is_pair (hr.mono (by decide)) (by rfl) (xa_cons (xv 0) (xa_cons (xv 4) xa_nil))))))))
      (xss_one (xs_ret (xe_callTy call_tuple_of d_tuple (by rfl) B.b_tuple (by decide +kernel) (xa_cons (xv 2) xa_nil))))
      xss_nil)
      (xss_one (xs_expr (xe_append (xv 2) (xv 4)))))))
      (xss_one (xs_ret (xe_callTy call_tuple_of d_tuple (by rfl) B.b_tuple (by decide +kernel) (xa_cons (xv 2) xa_nil)))))), fun ds M Φ h => ?_⟩)
  obtain ⟨n, ps, rfl, hz, hp, k⟩ := h
  walk_at "dl"
  intro p np
  walk_at "dl"
  refine for_by (fun i Γ M' => ∃ y3 y4, Γ = [some (.int n), some (.lst (ps.map .str)), some (.ptr p), y3, y4] ∧ i ≤ 12 ∧ M' = M.set p (.lst (((ps.take i).map fun z => optT (numsOf (tl z))))) ∧ takeT n 12 (ps.map tl) = ((ps.take i).map fun z => (tieOf n (tl z)).getD (0, 0)) ++ takeT n (12 - i) ((ps.map tl).drop i) ∧ ∀ z ∈ ps.take i, (tieOf n (tl z)).isSome = true) ⟨_, _, rfl, by omega, rfl, by simp, by simp⟩ ?_ ?_
  · rintro i x Γ M' FF hx ⟨y3, y4, rfl, hi, rfl, e1, e2⟩ hF
    rw [List.getElem?_map] at hx
    obtain ⟨z, hz1, rfl⟩ : ∃ z, ps[i]? = some z ∧ x = .str z := by
      cases e : ps[i]? with
      | none => rw [e] at hx; cases hx
      | some z => rw [e] at hx; exact ⟨z, rfl, (Option.some.inj hx).symm⟩
    have hil : i < ps.length := (List.getElem?_eq_some_iff.mp hz1).1
    have hzm : z ∈ ps := List.mem_of_getElem? hz1
    have hd : (ps.map tl).drop i = tl z :: (ps.map tl).drop (i + 1) := by
      rw [List.drop_eq_getElem_cons (by simpa using hil)]
      congr 1
      rw [List.getElem_map, (List.getElem?_eq_some_iff.mp hz1).2]
    have ht : ps.take (i + 1) = ps.take i ++ [z] := by rw [List.take_succ, hz1]; rfl
    have fin : ∀ {A : List (Int × Int)}, takeT n (12 - i) ((ps.map tl).drop i) = A → A = [] → D.tup ((ps.take i).map fun z => optT (numsOf (tl z))) = .tup ((takeT n 12 (ps.map tl)).map pairD) := by
      rintro A h1 h2
      rw [e1, h1, h2, List.append_nil, List.map_map]
      congr 1
      refine List.map_congr_left fun q hq => ?_
      obtain ⟨t, ht⟩ := Option.isSome_iff_exists.mp (e2 q hq)
      show _ = pairD ((tieOf n (tl q)).getD (0, 0))
      rw [ht]
      exact (tie_data ht).1
    have ll : ((ps.take i).map fun z => optT (numsOf (tl z))).length = i := by rw [List.length_map, List.length_take]; omega
    walk_at "dl"
    refine ⟨z, rfl, hp z hzm, ?_⟩
    walk_at "dl"
    refine i_itD (fun e3 => ?_) fun e3 => ?_
    · walk_at "dl"
      rw [ll] at e3
      have h12 : i = 12 := by omega
      rw [fin (A := []) (by rw [h12]; rfl) rfl]
      exact i_drp k (sub_set np)
    · rw [ll] at e3
      walk_at "dl"
      refine ⟨n, _, rfl, ?_, ?_⟩
      · exact pu_nums (by have := hp z hzm; rw [len_tl] at this; exact this)
      rw [pair_tie]
      walk_at "dl"
      refine i_itnB (fun e4 => ?_) fun e4 => ?_
      · walk_at "dl"
        refine i_append Mem.set_same (szlt (by rw [ll]; omega)) ?_
        rw [Mem.set_set]
        refine hF _ _ ⟨_, _, rfl, by omega, ?_, ?_, ?_⟩
        · rw [ht, List.map_append]; rfl
        · rw [e1, ht, List.map_append, List.append_assoc]
          congr 1
          obtain ⟨t, ht⟩ := Option.isSome_iff_exists.mp e4
          rw [hd, show 12 - i = (12 - (i + 1)) + 1 by omega, takeT, ht]
          simp [ht]
        · intro q hq
          rw [ht] at hq
          rcases List.mem_append.mp hq with hq | hq
          · exact e2 q hq
          · rw [List.mem_singleton.mp hq]; exact e4
      · walk_at "dl"
        rw [fin (A := []) (by
          rw [hd, show 12 - i = (12 - (i + 1)) + 1 by omega, takeT, Option.not_isSome_iff_eq_none.mp (show ¬ (tieOf n (tl z)).isSome = true by rw [e4]; exact Bool.false_ne_true)]) rfl]
        exact i_drp k (sub_set np)
  · rintro Γ M' ⟨y3, y4, rfl, hi, rfl, e1, e2⟩
    rw [List.length_map] at e1 e2
    walk_at "dl"
    rw [List.length_map, show D.tup ((ps.take ps.length).map fun z => optT (numsOf (tl z))) = .tup ((takeT n 12 (ps.map tl)).map pairD) from by
      rw [e1, List.drop_of_length_le (by simp), show takeT n (12 - ps.length) [] = [] by cases (12 - ps.length) <;> rfl, List.append_nil, List.map_map]
      congr 1
      refine List.map_congr_left fun q hq => ?_
      obtain ⟨t, ht⟩ := Option.isSome_iff_exists.mp (e2 q hq)
      show _ = pairD ((tieOf n (tl q)).getD (0, 0))
      rw [ht]
      exact (tie_data ht).1]
    exact i_drp k (sub_set np)

abbrev s_web_told : Stmt := topS 21
abbrev nn_web_told : List Str := ["parts_told", "n", "ties"]
theorem sc_web_told : FnScope nn_web_told ["parts_told"] (defScope s_web_told) := ⟨rfl, rfl, rfl, by decide +kernel, rfl, by decide +kernel, by decide +kernel⟩
theorem ok_web_told {P : Program} {w : World} {K : PySem.W.Frag} {mg : Str → Option Value} {base : Heap} {T : List (Addr × Str)} {cBadText : Addr} (B : Blt mg) (G_number_from : Has P w K mg base T "number_from" 1 1 fs_number_from) (G_ties_told : Has P w K mg base T "ties_told" 4 2 fs_ties_told) (X_BadText : ExcMk P w K mg base "BadText" cBadText "at") {f : Addr} {fd : FuncData} (F : Fun K "web_told" "web_told" s_web_told f fd) (hm : mg "web_told" = some (.ref f)) (hb : L2.Binds K fd ["parts_told"] []) : HasX P w K mg base T "web_told" 5 1 (fs_web_told cBadText) := by
  refine okDX (k := 4) F sc_web_told hm hb len_web_told mono_web_told (fun cdv A outer s H E Ξ hr tk hX => ⟨_, (xss_cons (xs_if (xt_ne hr.units (xe_item (xv 0) xe_int) xe_str)
      (xss_one (xs_raise1 X_BadText rfl tk hX (hr.mono (by decide)) (by rfl) xe_int))
      xss_nil)
      (xss_cons (xs_set (i := 1) sc_web_told.nd rfl (by first | exact Or.inl rfl | exact Or.inr rfl) (xe_if (xt_gt (xe_callB call_len d_len (by rfl) B.b_len (by decide +kernel) (xa_cons (xv 0) xa_nil)) xe_int) (xe_call G_number_from (hr.mono (by decide)) (by rfl) (xa_cons (xe_item (xv 0) xe_int) xa_nil)) xe_non))
      (xss_cons (xs_if (xt_w (xw_or (xt_is (xv 1) xe_non) (xw_or1 (xt_not (xt_chain op_le d_cmp op_le d_cmp xe_int (xv 1) (xe_gint' (by rfl) B.c_MOST_PLACES))))))
      (xss_one (xs_raise1 X_BadText rfl tk hX (hr.mono (by decide)) (by rfl) xe_int))
      xss_nil)
      (xss_cons (xs_set (i := 2) sc_web_told.nd rfl (by first | exact Or.inl rfl | exact Or.inr rfl) (xe_call G_ties_told (hr.mono (by decide)) (by rfl) (xa_cons (xv 1) (xa_cons (xe_slice (xv 0) (xo_at xe_int) xo_no) xa_nil))))
      (xss_cons (xs_if (xt_lt (xe_add (xe_callB call_len d_len (by rfl) B.b_len (by decide +kernel) (xa_cons (xv 2) xa_nil)) xe_int) (xe_callB call_len d_len (by rfl) B.b_len (by decide +kernel) (xa_cons (xv 0) xa_nil)))
      (xss_one (xs_raise1 X_BadText rfl tk hX (hr.mono (by decide)) (by rfl) (xe_add (xe_callB call_len d_len (by rfl) B.b_len (by decide +kernel) (xa_cons (xv 2) xa_nil)) xe_int)))
      xss_nil)
      (xss_one (xs_ret (xe_tup (xa_cons xe_str (xa_cons (xv 1) (xa_cons (xv 2) xa_nil))))))))))), fun ds M Φ h => ?_⟩)
  obtain ⟨ws, rfl, hne, hz, hp, k⟩ := h
  obtain ⟨w, r, rfl⟩ : ∃ w r, ws = w :: r := by
    cases ws with
    | nil => exact absurd rfl hne
    | cons w r => exact ⟨w, r, rfl⟩
  have ew : w = Str.ofString "web" ↔ tl w = webL := by
    constructor
    · intro z; rw [z]; decide +kernel
    · intro z; exact ext_tl (by rw [z]; decide +kernel)
  rw [List.map_cons] at k
  simp only [List.map_cons]
  walk_at "dl"
  refine i_itN (fun e1 => ?_) fun e1 => ?_
  · have e1' := ew.mp e1
    rw [e1'] at k
    walk_at "dl"
    cases r with
    | nil =>
      simp only [List.map_nil]
      refine i_itDF (by simp) ?_
      walk_at "dl"
      rw [show readW (webL :: List.map tl []) = .inl 1 from readW_1] at k
      exact k
    | cons v ps =>
      rw [List.map_cons] at k
      simp only [List.map_cons]
      refine i_itDT (by simp; omega) ?_
      walk_at "dl"
      refine ⟨v, rfl, hp v (by simp), ?_⟩
      cases hv : numOf (tl v) with
      | none =>
        walk_at "dl"
        try with_reducible refine i_itT ?_
        walk_at "dl"
        rw [readW_none hv] at k
        exact k
      | some n =>
        rw [readW_some hv] at k
        dsimp only [optI]
        walk_at "dl"
        try with_reducible refine i_itF ?_
        walk_at "dl"
        unfold readN at k
        refine i_itD (fun e2 => ?_) fun e2 => ?_
        · walk_at "dl"
          refine i_itN (fun e3 => ?_) fun e3 => ?_
          · rw [if_pos ⟨e2, e3⟩] at k
            walk_at "dl"
            refine ⟨n, ps, by rw [cut2], by simp at hz; omega, fun p hq => hp p (by simp [hq]), ?_⟩
            walk_at "dl"
            simp only [List.length_cons, List.length_map]
            have hle := (takeT_ok (n := (n : Int)) (k := 12) (ps := ps.map tl)).2.1
            rw [List.length_map] at hle k
            refine i_itD (fun e4 => ?_) fun e4 => ?_
            · rw [if_neg (by omega)] at k
              walk_at "dl"
              simp only [List.length_map]
              exact k
            · rw [if_pos (by omega)] at k
              walk_at "dl"
              exact i_drp0 k
          · rw [if_neg fun z => e3 z.2] at k
            walk_at "dl"
            exact k
        · rw [if_neg fun z => e2 z.1] at k
          walk_at "dl"
          exact k
  · walk_at "dl"
    rw [readW_ne fun z => e1 (ew.mpr z)] at k
    exact k

abbrev s_read_web : Stmt := topS 22
abbrev nn_read_web : List Str := ["text"]
theorem sc_read_web : FnScope nn_read_web ["text"] (defScope s_read_web) := ⟨rfl, rfl, rfl, by decide +kernel, rfl, by decide +kernel, by decide +kernel⟩
theorem ok_read_web {P : Program} {w : World} {K : PySem.W.Frag} {mg : Str → Option Value} {base : Heap} {T : List (Addr × Str)} {cBadText : Addr} (B : Blt mg) (G_need_text : HasX P w K mg base T "need_text" 3 1 (fs_need_text cBadText)) (G_web_told : HasX P w K mg base T "web_told" 5 1 (fs_web_told cBadText)) {f : Addr} {fd : FuncData} (F : Fun K "read_web" "read_web" s_read_web f fd) (hm : mg "read_web" = some (.ref f)) (hb : L2.Binds K fd ["text"] []) : HasX P w K mg base T "read_web" 6 1 (fs_read_web cBadText) ∧ KwOfX P w K mg base T "read_web" 6 1 (fs_read_web cBadText) fd ["text"] := by
  refine okDXK (k := 5) F sc_read_web hm hb len_read_web mono_read_web (fun cdv A outer s H E Ξ hr tk hX => ⟨_, (xss_cons (xs_expr (xe_callX G_need_text tk hX (hr.mono (by decide)) (by rfl) (xa_cons (xv 0) xa_nil)))
      (xss_one (xs_ret (xe_callX G_web_told tk hX (hr.mono (by decide)) (by rfl) (xa_cons (xe_split (xv 0) xe_str) xa_nil))))), fun ds M Φ h => ?_⟩)
  obtain ⟨d, rfl, hp, k1, k2⟩ := h
  walk_at "dl"
  refine ⟨d, rfl, hp, ?_, ?_⟩
  · rintro ⟨z, rfl⟩
    obtain ⟨hz, k⟩ := k1 z rfl
    walk_at "dl"
    refine i_split rfl (szl (by omega)) ?_
    have es := split_words (z := z) (y := Str.ofString " ") (s := 32) (by decide +kernel) (by decide +kernel)
    walk_at "dl"
    have hl : z.length = (tl z).length := len_tl z
    obtain ⟨s1, s2⟩ := spl_len (s := 32) (tl z) []
    refine ⟨_, rfl, by rw [es]; simpa using spl_ne _ _, by rw [es, List.length_map]; omega, fun p hp => ?_, ?_⟩
    · rw [es] at hp
      obtain ⟨q, hq, rfl⟩ := List.mem_map.mp hp
      have := s2 q hq
      rw [len_tl, tl_mk]
      simp only [List.length_nil] at this
      omega
    · rw [es, List.map_map, show (tl ∘ fun l : List Nat => (⟨l.toArray⟩ : Str)) = id from rfl, List.map_id]
      unfold words at k
      cases h : readW (spl [32] 0 [] (tl z)) with
      | inl a => rw [h] at k; exact k
      | inr w => rw [h] at k; exact i_drp0 k
  · intro hz
    exact k2 hz

abbrev s__law_begun : Stmt := topS 24
abbrev nn__law_begun : List Str := ["script", "great", "cell"]
theorem sc__law_begun : FnScope nn__law_begun ["script"] (defScope s__law_begun) := ⟨rfl, rfl, rfl, by decide +kernel, rfl, by decide +kernel, by decide +kernel⟩
theorem ok__law_begun {P : Program} {w : World} {K : PySem.W.Frag} {mg : Str → Option Value} {base : Heap} {T : List (Addr × Str)}  (B : Blt mg)  {f : Addr} {fd : FuncData} (F : Fun K "_law_begun" "_law_begun" s__law_begun f fd) (hm : mg "_law_begun" = some (.ref f)) (hb : L2.Binds K fd ["script"] []) : Has P w K mg base T "_law_begun" 1 1 fs__law_begun := by
  refine okD (k := 0) F sc__law_begun hm hb len__law_begun (fun cdv A outer s H E hr => ⟨_, (xss_cons (xs_setLcM (i := 1) rfl sc__law_begun.nd rfl rfl (sw_true rfl rfl rfl (by decide +kernel)) (xi_any (xv 0)) (blkOk_by (own := [("cell", 2)]) (N := nn__law_begun) (sc := defScope s__law_begun) (by decide +kernel)) (tg_name (by decide)) (fun _ _ _ _ _ => pg_name (i := 2) sc__law_begun.nd rfl (by first | exact Or.inl rfl | exact Or.inr rfl)) (fun _ _ _ _ _ => (xts_one (xt_ge (xe_callB call_abs d_abs (by rfl) B.b_abs (by decide +kernel) (xa_cons (xv 2) xa_nil)) (xe_pow xe_int xe_int)))) (fun _ _ _ _ _ => (xe_sub (xe_callB call_abs d_abs (by rfl) B.b_abs (by decide +kernel) (xa_cons (xv 2) xa_nil)) (xe_pow xe_int xe_int))))
      (xss_one (xs_ret (xe_dictM (xps_cons xe_str (xv 1) (xps_cons xe_str (xe_lc rfl sc__law_begun.nd (xi_any (xv 0)) (blkOk_by (own := [("cell", 2)]) (N := nn__law_begun) (sc := defScope s__law_begun) (by decide +kernel)) (tg_name (by decide)) (fun _ _ _ _ _ => pg_name (i := 2) sc__law_begun.nd rfl (by first | exact Or.inl rfl | exact Or.inr rfl)) (fun _ _ _ _ _ => xts_nil) (fun _ _ _ _ _ => (xe_callB call_abs d_abs (by rfl) B.b_abs (by decide +kernel) (xa_cons (xv 2) xa_nil)))) (xps_cons xe_str xe_int (xps_cons xe_str xe_int xps_nil)))))))), fun ds M Φ h => ?_⟩)
  obtain ⟨ns, rfl, hl, k⟩ := h
  have p18 : ((10 : Int) ^ Int.toNat 18) = 1000000000000000000 := by decide +kernel
  walk_at "dl"
  refine lcM_by (fun x => match x with
    | .int i => if (1000000000000000000 : Int) ≤ (i.natAbs : Int) then some (.int ((i.natAbs : Int) - 1000000000000000000)) else none
    | _ => none) ?_ (fun x hx M' _ F hF => ?_) fun l nl => ?_
  · rw [List.length_map]; exact szl (by omega)
  · obtain ⟨i, hi, rfl⟩ := List.mem_map.mp hx
    walk_at "dl"
    refine i_pow ⟨by decide, by decide, by decide⟩ ?_
    rw [p18]
    walk_at "dl"
    have hF' : F (if (1000000000000000000 : Int) ≤ (i.natAbs : Int) then some (.int ((i.natAbs : Int) - 1000000000000000000)) else none) M' := hF
    refine i_itD (fun e => ?_) fun e => ?_
    · walk_at "dl"
      refine i_pow ⟨by decide, by decide, by decide⟩ ?_
      rw [p18]
      walk_at "dl"
      rw [if_pos e] at hF'
      exact hF'
    · rw [if_neg e] at hF'
      exact hF'
  · have eg : (ns.map D.int).filterMap (fun x => match x with
        | .int i => if (1000000000000000000 : Int) ≤ (i.natAbs : Int) then some (D.int ((i.natAbs : Int) - 1000000000000000000)) else none
        | _ => none) = (greats ns).map D.int := by
      clear hl k
      unfold greats
      induction ns with
      | nil => rfl
      | cons n ns ih =>
        rw [List.map_cons]
        by_cases h : (1000000000000000000 : Int) ≤ (n.natAbs : Int)
        · rw [List.filterMap_cons_some (by dsimp only; rw [if_pos h]), List.filterMap_cons_some (by rw [if_pos h]), List.map_cons, ih]
        · rw [List.filterMap_cons_none (by dsimp only; rw [if_neg h]), List.filterMap_cons_none (by rw [if_neg h]), ih]
    rw [eg]
    walk_at "dl"
    intro d nd
    have nld : d ≠ l := fun z => by rw [z, Mem.set_same] at nd; cases nd
    have ndM : M d = none := by rw [Mem.set_ne nld] at nd; exact nd
    walk_at "dl"
    refine lc_by (fun x => some (match x with
      | .int i => .int (i.natAbs : Int)
      | _ => .non)) ?_ (fun x hx M' _ F hF => ?_) ?_
    · rw [List.length_map]; exact szl (by omega)
    · obtain ⟨i, hi, rfl⟩ := List.mem_map.mp hx
      walk_at "dl"
      exact hF
    · walk_at "dl"
      have ec : (ns.map D.int).filterMap (fun x => some (match x with
          | .int i => D.int (i.natAbs : Int)
          | _ => .non)) = (ns.map fun i => (i.natAbs : Int)).map D.int := by
        rw [List.filterMap_eq_map', List.map_map, List.map_map]; rfl
      rw [ec]
      refine ⟨Mem.set_same, DrM (greats ns) (ns.map fun i => (i.natAbs : Int)) 0 0 l, rfl, show 4 ≤ 15 by decide, ?_⟩
      rw [Mem.set_set]
      refine i_drp0 (k d l _ ndM nl ⟨nld.symm, greats ns, ns.map fun i => (i.natAbs : Int), 0, 0, ?_, ?_, ?_, by omega, by omega, by omega⟩ fun a h1 h2 => by rw [Mem.set_ne h1, Mem.set_ne h2])
      · rw [Mem.set_same]
        congr 2
      · rw [Mem.set_ne nld.symm, Mem.set_same]
      · intro g hg
        obtain ⟨i, _, hi⟩ := List.mem_filterMap.mp hg
        split at hi
        · cases hi; omega
        · cases hi

abbrev s__law_blended : Stmt := topS 25
abbrev nn__law_blended : List Str := ["state", "turn", "found", "prime", "blend", "cell"]
theorem sc__law_blended : FnScope nn__law_blended ["state"] (defScope s__law_blended) := ⟨rfl, rfl, rfl, by decide +kernel, rfl, by decide +kernel, by decide +kernel⟩
theorem ok__law_blended {P : Program} {w : World} {K : PySem.W.Frag} {mg : Str → Option Value} {base : Heap} {T : List (Addr × Str)}  (B : Blt mg)  {f : Addr} {fd : FuncData} (F : Fun K "_law_blended" "_law_blended" s__law_blended f fd) (hm : mg "_law_blended" = some (.ref f)) (hb : L2.Binds K fd ["state"] []) : Has P w K mg base T "_law_blended" 1 1 fs__law_blended := by
  refine okD (k := 0) F sc__law_blended hm hb len__law_blended (fun cdv A outer s H E hr => ⟨_, (xss_cons (xs_par (i := 1) (j := 2) rfl sc__law_blended.nd rfl rfl (by decide) rfl rfl (xa_cons (xe_add (xe_dget (hu_of hr) (xv 0) xe_str) xe_int) (xa_cons xe_int xa_nil)) (by rfl))
      (xss_cons (xs_dput (hu_of hr) (xv 0) xe_str (xv 1))
      (xss_cons (xs_for (vs := [3]) PassesOwn.never rfl (xi_any (xe_lst (xa_cons xe_int (xa_cons xe_int (xa_cons xe_int xa_nil))))) (pg_name (i := 3) sc__law_blended.nd rfl (by first | exact Or.inl rfl | exact Or.inr rfl)) (tg_name (by decide))
      (xss_cons (xs_set (i := 4) sc__law_blended.nd rfl (by first | exact Or.inl rfl | exact Or.inr rfl) (xe_add (xe_mul xe_int (xv 1)) (xe_fdiv (xv 3) xe_int)))
      (xss_cons (xs_for (vs := [5]) PassesOwn.never rfl (xi_any (xe_dget (hu_of hr) (xv 0) xe_str)) (pg_name (i := 5) sc__law_blended.nd rfl (by first | exact Or.inl rfl | exact Or.inr rfl)) (tg_name (by decide))
      (xss_one (xs_set (i := 4) sc__law_blended.nd rfl (by first | exact Or.inl rfl | exact Or.inr rfl) (xe_mod (xe_callTy call_intA d_int (by rfl) B.b_int (by decide +kernel) (xa_cons (xe_add (xe_add (xe_mul (xv 4) xe_int) (xv 5)) (xv 1)) xa_nil)) (xv 3)))))
      (xss_one (xs_set (i := 2) sc__law_blended.nd rfl (by first | exact Or.inl rfl | exact Or.inr rfl) (xe_add (xe_mul (xv 2) xe_int) (xe_mod (xe_callTy call_intA d_int (by rfl) B.b_int (by decide +kernel) (xa_cons (xe_pow (xv 4) xe_int) xa_nil)) (xv 3))))))))
      (xss_one (xs_ret (xv 2)))))), fun ds M Φ h => ?_⟩)
  obtain ⟨d, l, cs, gs, r, t, rfl, hd, h0, h1, k⟩ := h
  walk_at "dl"
  refine ⟨d, _, _, rfl, hd, rfl, dr_len, ?_⟩
  rw [dr_put_turn]
  walk_at "dl"
  refine for_by (fun _ Γ M' => M' = M.set d (.dK (DrM gs cs r (t + 1) l)) ∧ ∃ x y3 y4 y5, Γ = [some (.ptr d), some (.int (t + 1)), some (.int x), y3, y4, y5] ∧ 0 ≤ x) ⟨rfl, 0, _, _, _, rfl, by omega⟩ ?_ ?_
  · rintro i p Γ M' FF hx ⟨rfl, x, y3, y4, y5, rfl, h2⟩ hF
    obtain ⟨q, rfl, hq, hq2⟩ : ∃ q : Int, p = .int q ∧ 2147483000 < q ∧ q < 2147483648 := by
      rcases i with _ | _ | _ | i
      · exact ⟨_, (Option.some.inj hx).symm, by decide, by decide⟩
      · exact ⟨_, (Option.some.inj hx).symm, by decide, by decide⟩
      · exact ⟨_, (Option.some.inj hx).symm, by decide, by decide⟩
      · simp at hx
    have hd5 : q / 53 < 41000000 := by omega
    have hd6 : 0 ≤ q / 53 := by omega
    walk_at "dl"
    refine for_by (fun _ Γ M' => M' = M.set d (.dK (DrM gs cs r (t + 1) l)) ∧ ∃ b y5, Γ = [some (.ptr d), some (.int (t + 1)), some (.int x), some (.int q), some (.int b), y5] ∧ 0 ≤ b ∧ b < 2 ^ 60) ⟨rfl, _, _, rfl, by omega, by omega⟩ ?_ ?_
    · rintro i c Γ M' F2 hc ⟨rfl, b, z5, rfl, b0, b1⟩ hF2
      obtain ⟨c, rfl⟩ : ∃ n : Int, c = .int n := by
        rw [List.getElem?_map] at hc
        cases e : cs[i]? with
        | none => rw [e] at hc; cases hc
        | some n => rw [e] at hc; exact ⟨n, (Option.some.inj hc).symm⟩
      walk_at "dl"
      refine hF2 _ _ ⟨rfl, _, _, rfl, Int.emod_nonneg _ (by omega), ?_⟩
      have := Int.emod_lt_of_pos (b * 69621 + c + (t + 1)) (show 0 < q by omega)
      omega
    · rintro Γ M' ⟨rfl, b, z5, rfl, b0, b1⟩
      walk_at "dl"
      refine i_pow ⟨by decide, by decide, by omega⟩ ?_
      walk_at "dl"
      refine hF _ _ ⟨rfl, _, _, _, _, rfl, ?_⟩
      have := Int.emod_nonneg (b ^ Int.toNat 5) (show q ≠ 0 by omega)
      omega
  · rintro Γ M' ⟨rfl, x, y3, y4, y5, rfl, h2⟩
    walk_at "dl"
    exact i_drp0 (k _ h2)

abbrev s__law_draw : Stmt := topS 26
abbrev nn__law_draw : List Str := ["state", "room", "found"]
theorem sc__law_draw : FnScope nn__law_draw ["state", "room"] (defScope s__law_draw) := ⟨rfl, rfl, rfl, by decide +kernel, rfl, by decide +kernel, by decide +kernel⟩
theorem ok__law_draw {P : Program} {w : World} {K : PySem.W.Frag} {mg : Str → Option Value} {base : Heap} {T : List (Addr × Str)}  (B : Blt mg) (G__law_blended : Has P w K mg base T "_law_blended" 1 1 fs__law_blended) {f : Addr} {fd : FuncData} (F : Fun K "_law_draw" "_law_draw" s__law_draw f fd) (hm : mg "_law_draw" = some (.ref f)) (hb : L2.Binds K fd ["state", "room"] []) : Has P w K mg base T "_law_draw" 2 2 fs__law_draw := by
  refine okD (k := 1) F sc__law_draw hm hb len__law_draw (fun cdv A outer s H E hr => ⟨_, (xss_cons (xs_if (xt_eq hr.units (xe_dget (hu_of hr) (xv 0) xe_str) xe_int)
      (xss_one (xs_dput (hu_of hr) (xv 0) xe_str (xe_if (xt_ne hr.units (xe_dget (hu_of hr) (xv 0) xe_str) (xe_lst xa_nil)) (xe_popAt (xe_dget (hu_of hr) (xv 0) xe_str) xe_int) (xe_call G__law_blended (hr.mono (by decide)) (by rfl) (xa_cons (xv 0) xa_nil)))))
      xss_nil)
      (xss_cons (xs_set (i := 2) sc__law_draw.nd rfl (by first | exact Or.inl rfl | exact Or.inr rfl) (xe_mod (xe_callTy call_intA d_int (by rfl) B.b_int (by decide +kernel) (xa_cons (xe_dget (hu_of hr) (xv 0) xe_str) xa_nil)) (xv 1)))
      (xss_cons (xs_dput (hu_of hr) (xv 0) xe_str (xe_fdiv (xe_dget (hu_of hr) (xv 0) xe_str) (xv 1)))
      (xss_one (xs_ret (xv 2)))))), fun ds M Φ h => ?_⟩)
  obtain ⟨d, l, n, room, rfl, ⟨ne, gs, cs, r, t, hd, hl, hg, hr0, ht0, htn⟩, hn, h0, h1, k⟩ := h
  refine i_cut (fun Γ' M' => Γ' = [some (.ptr d), some (.int room), none] ∧ Ev M M' d l ∧ ∃ gs r t, M' d = some (.dK (DrM gs cs r t l)) ∧ M' l = some (.lst (gs.map .int)) ∧ (∀ g ∈ gs, 0 ≤ g) ∧ 0 ≤ r ∧ 0 ≤ t ∧ t ≤ (n + 1 : Nat)) (fun FF hF => ?_) ?_
  · walk_at "dl"
    refine i_itD (fun e => ?_) (fun e => hF _ _ ⟨rfl, .refl, gs, r, t, hd, hl, hg, hr0, ht0, by omega⟩)
    walk_at "dl"
    refine i_neLn hl ?_
    walk_at "dl"
    cases gs with
    | nil =>
      walk_at "dl"
      refine ⟨d, l, cs, [], r, t, rfl, hd, ht0, by omega, fun x hx => ?_⟩
      walk_at "dl"
      refine ⟨d, _, _, rfl, Mem.set_same, rfl, dr_len, ?_⟩
      rw [dr_put_rest, Mem.set_set]
      refine hF _ _ ⟨rfl, fun a h1 h2 => Mem.set_ne h1, [], x, t + 1, Mem.set_same, by rw [Mem.set_ne ne]; exact hl, fun g hg => (by cases hg), hx, by omega, by omega⟩
    | cons g gs =>
      refine i_itT ?_
      walk_at "dl"
      refine i_popAt (j := 0) hl (by simp) (by decide) rfl ?_
      walk_at "dl"
      refine ⟨d, _, _, rfl, by rw [Mem.set_ne ne.symm]; exact hd, rfl, dr_len, ?_⟩
      rw [dr_put_rest]
      refine hF _ _ ⟨rfl, fun a h1 h2 => by rw [Mem.set_ne h1, Mem.set_ne h2], gs, g, t, Mem.set_same, by rw [Mem.set_ne ne, Mem.set_same]; rfl, fun g' hg' => hg g' (List.mem_cons_of_mem _ hg'), hg g List.mem_cons_self, ht0, by omega⟩
  · rintro Γ M' ⟨rfl, ev, gs, r, t, hd, hl, hg, hr0, ht0, htn⟩
    walk_at "dl"
    refine i_fdiv ⟨h0, h1⟩ ?_
    walk_at "dl"
    refine ⟨d, _, _, rfl, hd, rfl, dr_len, ?_⟩
    rw [dr_put_rest]
    walk_at "dl"
    refine i_drp0 (k _ _ (Int.emod_nonneg _ (by omega)) (Int.emod_lt_of_pos _ h0) ⟨ne, gs, cs, r / room, t, Mem.set_same, by rw [Mem.set_ne ne]; exact hl, hg, Int.ediv_nonneg hr0 (by omega), ht0, htn⟩ fun a h1 h2 => by rw [Mem.set_ne h1]; exact ev a h1 h2)

abbrev s__law_pick : Stmt := topS 27
abbrev nn__law_pick : List Str := ["state", "some"]
theorem sc__law_pick : FnScope nn__law_pick ["state", "some"] (defScope s__law_pick) := ⟨rfl, rfl, rfl, by decide +kernel, rfl, by decide +kernel, by decide +kernel⟩
theorem ok__law_pick {P : Program} {w : World} {K : PySem.W.Frag} {mg : Str → Option Value} {base : Heap} {T : List (Addr × Str)}  (B : Blt mg) (G__law_draw : Has P w K mg base T "_law_draw" 2 2 fs__law_draw) {f : Addr} {fd : FuncData} (F : Fun K "_law_pick" "_law_pick" s__law_pick f fd) (hm : mg "_law_pick" = some (.ref f)) (hb : L2.Binds K fd ["state", "some"] []) : Has P w K mg base T "_law_pick" 3 2 fs__law_pick := by
  refine okD (k := 2) F sc__law_pick hm hb len__law_pick (fun cdv A outer s H E hr => ⟨_, (xss_one (xs_ret (xe_item (xv 1) (xe_call G__law_draw (hr.mono (by decide)) (by rfl) (xa_cons (xv 0) (xa_cons (xe_callB call_len d_len (by rfl) B.b_len (by decide +kernel) (xa_cons (xv 1) xa_nil)) xa_nil)))))), fun ds M Φ h => ?_⟩)
  obtain ⟨d, l, n, xs, rfl, hd, hn, h0, hl, k⟩ := h
  have hp : 0 < xs.length := List.length_pos_iff.mpr h0
  walk_at "dl"
  refine ⟨d, l, n, (xs.length : Int), rfl, hd, hn, by omega, ?_, fun x M' hx1 hx2 hd' ev => ?_⟩
  · have : ((xs.length : Int).natAbs).log2 < 64 := by rw [Nat.log2_lt (by omega)]; omega
    omega
  · walk_at "dl"
    obtain ⟨i, rfl⟩ := Int.eq_ofNat_of_zero_le hx1
    have hi : i < xs.length := by omega
    refine i_ixl (x := xs[i]) ?_ (i_drp0 (k _ (List.getElem_mem hi) M' hd' ev))
    unfold atI
    rw [ixN_of hi]
    simp [hi]

abbrev s__law_shuffled : Stmt := topS 28
abbrev nn__law_shuffled : List Str := ["state", "some", "left", "found"]
theorem sc__law_shuffled : FnScope nn__law_shuffled ["state", "some"] (defScope s__law_shuffled) := ⟨rfl, rfl, rfl, by decide +kernel, rfl, by decide +kernel, by decide +kernel⟩
theorem ok__law_shuffled {P : Program} {w : World} {K : PySem.W.Frag} {mg : Str → Option Value} {base : Heap} {T : List (Addr × Str)}  (B : Blt mg) (G__law_draw : Has P w K mg base T "_law_draw" 2 2 fs__law_draw) {f : Addr} {fd : FuncData} (F : Fun K "_law_shuffled" "_law_shuffled" s__law_shuffled f fd) (hm : mg "_law_shuffled" = some (.ref f)) (hb : L2.Binds K fd ["state", "some"] []) : Has P w K mg base T "_law_shuffled" 3 2 fs__law_shuffled := by
  refine okD (k := 2) F sc__law_shuffled hm hb len__law_shuffled (fun cdv A outer s H E hr => ⟨_, (xss_cons (xs_par (i := 2) (j := 3) rfl sc__law_shuffled.nd rfl rfl (by decide) rfl rfl (xa_cons (xe_callTy call_list_of d_listM (by rfl) B.b_list (by decide +kernel) (xa_cons (xv 1) xa_nil)) (xa_cons (xe_lstM xa_nil) xa_nil)) (by rfl))
      (xss_cons (xs_while PassesOwn.never (xt_ne hr.units (xv 2) (xe_lst xa_nil))
      (xss_one (xs_expr (xe_append (xv 3) (xe_popAt (xv 2) (xe_call G__law_draw (hr.mono (by decide)) (by rfl) (xa_cons (xv 0) (xa_cons (xe_callB call_len d_len (by rfl) B.b_len (by decide +kernel) (xa_cons (xv 2) xa_nil)) xa_nil))))))))
      (xss_one (xs_ret (xe_fz (xv 3)))))), fun ds M Φ h => ?_⟩)
  obtain ⟨d, l, n, xs, rfl, hd, hn, hl, sh, k⟩ := h
  walk_at "dl"
  refine i_listM (xs := xs) rfl fun p np => ?_
  walk_at "dl"
  intro q nq
  have pd := hd.ne_new np
  have nqM : M q = none := by
    by_cases e : q = p
    · rw [e]; exact np
    · rw [Mem.set_ne e] at nq; exact nq
  have qp : q ≠ p := fun e => by rw [e, Mem.set_same] at nq; cases nq
  have qd := hd.ne_new nqM
  walk_at "dl"
  refine while_by (m := xs.length) (fun m Γ M' => Γ = [some (.ptr d), some (.lst xs), some (.ptr p), some (.ptr q)] ∧ ∃ ys zs, m = zs.length ∧ M' p = some (.lst zs) ∧ M' q = some (.lst ys) ∧ (ys ++ zs).Perm xs ∧ Dr M' d l (n + ys.length) ∧ ∀ a, a ≠ d → a ≠ l → a ≠ p → a ≠ q → M' a = M a) ⟨rfl, [], xs, rfl, by rw [Mem.set_ne qp.symm]; exact Mem.set_same, Mem.set_same, .refl _, (hd.set pd.1 pd.2).set qd.1 qd.2, fun a h1 h2 h3 h4 => by rw [Mem.set_ne h4, Mem.set_ne h3]⟩ ?_
  rintro m Γ M' ⟨rfl, ys, zs, rfl, hp, hq, pm, hd', ev⟩
  walk_at "dl"
  have hlen : (ys ++ zs).length = xs.length := pm.length_eq
  rw [List.length_append] at hlen
  refine i_neP hp (sh zs fun z hz => pm.subset (List.mem_append_right _ hz)) ?_
  cases zs with
  | nil =>
    refine i_itF ?_
    walk_at "dl"
    refine i_fzL (Φ2 := fun _ => True) hq ?_
    rw [List.append_nil] at pm
    simp only [List.length_nil] at hlen
    refine i_drp (M := (M'.del q).del p) (k ys _ (by omega) (fun y hy => pm.subset hy) pm ?_ fun a h1 h2 => ?_) sub_del
    · have e : n + xs.length = n + ys.length := by omega
      rw [e]
      exact (hd'.del qd.1 qd.2).del pd.1 pd.2
    · by_cases e1 : a = p
      · rw [e1, Mem.del_same, np]
      · rw [Mem.del_ne e1]
        by_cases e2 : a = q
        · rw [e2, Mem.del_same, nqM]
        · rw [Mem.del_ne e2]; exact ev a h1 h2 e1 e2
  | cons z zs =>
    refine i_itT ?_
    simp only [List.length_cons] at hlen
    walk_at "dl"
    refine ⟨d, l, n + ys.length, ((z :: zs).length : Int), rfl, hd', by omega, by simp only [List.length_cons]; omega, ?_, fun x M2 hx1 hx2 hd2 ev2 => ?_⟩
    · have : (((z :: zs).length : Int).natAbs).log2 < 64 := by rw [Nat.log2_lt (by simp only [List.length_cons]; omega)]; simp only [List.length_cons]; omega
      omega
    obtain ⟨i, rfl⟩ := Int.eq_ofNat_of_zero_le hx1
    have hi : i < (z :: zs).length := by omega
    have hp2 : M2 p = some (.lst (z :: zs)) := by rw [ev2 p pd.1 pd.2]; exact hp
    have hq2 : M2 q = some (.lst ys) := by rw [ev2 q qd.1 qd.2]; exact hq
    walk_at "dl"
    refine i_popAt (j := i) (x := (z :: zs)[i]) hp2 hi (by simp only [List.length_cons] at hi; omega) (by simp [hi]) ?_
    walk_at "dl"
    refine i_append (xs := ys) (by rw [Mem.set_ne qp]; exact hq2) (szlt (by omega)) ?_
    refine ⟨((z :: zs).eraseIdx i).length, by rw [List.length_eraseIdx_of_lt hi]; simp only [List.length_cons]; omega, rfl, ys ++ [(z :: zs)[i]], _, rfl, by rw [Mem.set_ne qp.symm]; exact Mem.set_same, Mem.set_same, ?_, ?_, fun a h1 h2 h3 h4 => by rw [Mem.set_ne h4, Mem.set_ne h3, ev2 a h1 h2]; exact ev a h1 h2 h3 h4⟩
    · refine List.Perm.trans ?_ pm
      rw [List.append_assoc]
      exact List.Perm.append_left ys (perm_erase hi)
    · rw [List.length_append, List.length_singleton, ← Nat.add_assoc]
      exact (hd2.set pd.1 pd.2).set qd.1 qd.2

abbrev s__law_caught : Stmt := topS 29
abbrev nn__law_caught : List Str := ["action", "found", "error"]
theorem sc__law_caught : FnScope nn__law_caught ["action"] (defScope s__law_caught) := ⟨rfl, rfl, rfl, by decide +kernel, rfl, by decide +kernel, by decide +kernel⟩
theorem cs__law_caught : CaughtS s__law_caught := ⟨_, _, _, _, _, _, _, _, _, _, _, _, _, _, _, rfl⟩
abbrev s__law_is_truth : Stmt := topS 30
abbrev nn__law_is_truth : List Str := ["found", "due"]
theorem sc__law_is_truth : FnScope nn__law_is_truth ["found", "due"] (defScope s__law_is_truth) := ⟨rfl, rfl, rfl, by decide +kernel, rfl, by decide +kernel, by decide +kernel⟩
theorem ok__law_is_truth {P : Program} {w : World} {K : PySem.W.Frag} {mg : Str → Option Value} {base : Heap} {T : List (Addr × Str)}  (B : Blt mg)  {f : Addr} {fd : FuncData} (F : Fun K "_law_is_truth" "_law_is_truth" s__law_is_truth f fd) (hm : mg "_law_is_truth" = some (.ref f)) (hb : L2.Binds K fd ["found", "due"] []) : Has P w K mg base T "_law_is_truth" 1 2 fs__law_is_truth := by
  refine okD (k := 0) F sc__law_is_truth hm hb len__law_is_truth (fun cdv A outer s H E hr => ⟨_, (xss_one (xs_ret (xe_if (xt_val (xv 1)) (xe_is (xv 0) xe_bl) (xe_is (xv 0) xe_bl)))), fun ds M Φ h => ?_⟩)
  obtain ⟨b, rfl, k⟩ := h
  cases b
  all_goals walk_at "dl"
  all_goals exact i_drp0 k

abbrev s__law_same : Stmt := topS 31
abbrev nn__law_same : List Str := ["found", "due", "unseen_here", "one", "other", "alike", "key", "left", "right"]
theorem sc__law_same : FnScope nn__law_same ["found", "due"] (defScope s__law_same) := ⟨rfl, rfl, rfl, by decide +kernel, rfl, by decide +kernel, by decide +kernel⟩
theorem ok__law_same {P : Program} {w : World} {K : PySem.W.Frag} {mg : Str → Option Value} {base : Heap} {T : List (Addr × Str)}  (B : Blt mg) (G__law_is_truth : Has P w K mg base T "_law_is_truth" 1 2 fs__law_is_truth) {f : Addr} {fd : FuncData} (F : Fun K "_law_same" "_law_same" s__law_same f fd) (hm : mg "_law_same" = some (.ref f)) (hb : L2.Binds K fd ["found", "due"] []) : Has P w K mg base T "_law_same" 2 2 fs__law_same := by
  refine okD (k := 1) F sc__law_same hm hb len__law_same (fun cdv A outer s H E hr => ⟨_, (xss_cons (xs_set (i := 2) sc__law_same.nd rfl (by first | exact Or.inl rfl | exact Or.inr rfl) (xe_lstM (xa_cons (xe_tup (xa_cons (xv 0) (xa_cons (xv 1) xa_nil))) xa_nil)))
      (xss_cons (xs_while PassesOwn.never (xt_ne hr.units (xv 2) (xe_lst xa_nil))
      (xss_cons (xs_asgP (i := 3) (j := 4) rfl sc__law_same.nd rfl rfl (xe_pop (xv 2)))
      (xss_one (xs_if (xt_w (xw_or (xt_is (xv 4) xe_non) (xw_or1 (xt_val (xe_callB call_isiA d_isi (by rfl) B.b_isinstance (by decide +kernel) (xa_cons (xv 4) (xa_cons (xe_ty (n := "bool") (by rfl) B.b_bool (by decide +kernel)) xa_nil)))))))
      (xss_one (xs_if (xt_if (xt_is (xv 4) xe_non) (xt_isNot (xv 3) xe_non) (xt_not (xt_val (xe_call G__law_is_truth (hr.mono (by decide)) (by rfl) (xa_cons (xv 3) (xa_cons (xv 4) xa_nil))))))
      (xss_one (xs_ret xe_bl))
      xss_nil))
      (xss_one (xs_if (xt_val (xe_callB call_isiA d_isi (by rfl) B.b_isinstance (by decide +kernel) (xa_cons (xv 4) (xa_cons (xe_tup (xa_cons (xe_ty (n := "int") (by rfl) B.b_int (by decide +kernel)) (xa_cons (xe_ty (n := "str") (by rfl) B.b_str (by decide +kernel)) xa_nil))) xa_nil))))
      (xss_one (xs_if (xt_w (xw_or (xt_val (xe_callB call_isiA d_isi (by rfl) B.b_isinstance (by decide +kernel) (xa_cons (xv 3) (xa_cons (xe_ty (n := "bool") (by rfl) B.b_bool (by decide +kernel)) xa_nil)))) (xw_or (xt_ne hr.units (xe_callB call_isiA d_isi (by rfl) B.b_isinstance (by decide +kernel) (xa_cons (xv 3) (xa_cons (xe_ty (n := "int") (by rfl) B.b_int (by decide +kernel)) xa_nil))) (xe_callB call_isiA d_isi (by rfl) B.b_isinstance (by decide +kernel) (xa_cons (xv 4) (xa_cons (xe_ty (n := "int") (by rfl) B.b_int (by decide +kernel)) xa_nil)))) (xw_or1 (xt_ne hr.units (xv 3) (xv 4))))))
      (xss_one (xs_ret xe_bl))
      xss_nil))
      (xss_one (xs_if (xt_val (xe_callB call_isiA d_isi (by rfl) B.b_isinstance (by decide +kernel) (xa_cons (xv 4) (xa_cons (xe_ty (n := "dict") (by rfl) B.b_dict (by decide +kernel)) xa_nil))))
      xss_never
      (xss_cons (xs_set (i := 5) sc__law_same.nd rfl (by first | exact Or.inl rfl | exact Or.inr rfl) (xe_lst (xa_cons (xe_and (xe_callB call_isiA d_isi (by rfl) B.b_isinstance (by decide +kernel) (xa_cons (xv 3) (xa_cons (xe_ty (n := "tuple") (by rfl) B.b_tuple (by decide +kernel)) xa_nil))) (xe_one (xe_callB call_isiA d_isi (by rfl) B.b_isinstance (by decide +kernel) (xa_cons (xv 4) (xa_cons (xe_ty (n := "tuple") (by rfl) B.b_tuple (by decide +kernel)) xa_nil))))) (xa_cons (xe_and (xe_callB call_isiA d_isi (by rfl) B.b_isinstance (by decide +kernel) (xa_cons (xv 3) (xa_cons (xe_ty (n := "list") (by rfl) B.b_list (by decide +kernel)) xa_nil))) (xe_one (xe_callB call_isiA d_isi (by rfl) B.b_isinstance (by decide +kernel) (xa_cons (xv 4) (xa_cons (xe_ty (n := "list") (by rfl) B.b_list (by decide +kernel)) xa_nil))))) xa_nil))))
      (xss_cons (xs_if (xt_w (xw_or (xt_notIn xe_bl (xv 5)) (xw_or1 (xt_ne hr.units (xe_callB call_len d_len (by rfl) B.b_len (by decide +kernel) (xa_cons (xv 3) xa_nil)) (xe_callB call_len d_len (by rfl) B.b_len (by decide +kernel) (xa_cons (xv 4) xa_nil))))))
      (xss_one (xs_ret xe_bl))
      xss_nil)
      (xss_one (xs_expr (xe_extend (xv 2) (xe_lc rfl sc__law_same.nd (xi_zip (by rfl) B.b_zip (xa_cons (xv 3) (xa_cons (xv 4) xa_nil))) (blkOk_by (own := [("left", 7), ("right", 8)]) (N := nn__law_same) (sc := defScope s__law_same) (by decide +kernel)) (tg_pair (i := 7) (j := 8) (by decide) (by decide)) (fun _ _ _ _ _ => pg_tup rfl (pgs_cons (pg_name (i := 7) sc__law_same.nd rfl (by first | exact Or.inl rfl | exact Or.inr rfl)) (pgs_cons (pg_name (i := 8) sc__law_same.nd rfl (by first | exact Or.inl rfl | exact Or.inr rfl)) pgs_nil))) (fun _ _ _ _ _ => xts_nil) (fun _ _ _ _ _ => (xe_tup (xa_cons (xv 7) (xa_cons (xv 8) xa_nil))))))))))))))))))
      (xss_one (xs_ret xe_bl)))), fun ds M Φ h => ?_⟩)
  obtain ⟨d, rfl, hd, hz, k⟩ := h
  walk_at "dl"
  intro p np
  walk_at "dl"
  refine while_by (m := szA [d]) (fun m Γ M' => ∃ (ws : List D) (y3 y4 y5 y6 y7 y8 : Option D), Γ = [some d, some d, some (.ptr p), y3, y4, y5, y6, y7, y8] ∧ (∀ w ∈ ws, saD 40 w = true) ∧ m = szA ws ∧ m ≤ 1000000 ∧ M' = M.set p (.lst (ws.map fun x => D.tup [x, x]))) ⟨[d], _, _, _, _, _, _, rfl, by simpa using hd, rfl, by simp only [szA]; omega, rfl⟩ ?_
  rintro m Γ M' ⟨ws, y3, y4, y5, y6, y7, y8, rfl, hw, rfl, hm, rfl⟩
  walk_at "dl"
  refine i_neP Mem.set_same (sh_pairs (n := 40) (by omega) hw) ?_
  rw [List.isEmpty_map]
  rcases List.eq_nil_or_concat ws with rfl | ⟨ws, w, rfl⟩
  · refine i_itF ?_
    walk_at "dl"
    exact i_drp k (sub_set np)
  · rw [List.concat_eq_append] at *
    have hww := hw w (by simp)
    have hws : ∀ x ∈ ws, saD 40 x = true := fun x hx => hw x (by simp [hx])
    have hsz : szA (ws ++ [w]) = szA ws + szD w := by rw [szA_app]; simp [szA]
    have hl := szA_len ws
    have hp := szD_pos w
    rw [show (!(ws ++ [w]).isEmpty) = true by simp]
    refine i_itT ?_
    walk_at "dl"
    rw [List.map_append, List.map_cons, List.map_nil] at *
    refine i_pop (x := .tup [w, w]) Mem.set_same (by simp) ?_
    rw [List.dropLast_concat, Mem.set_set]
    have back : ∀ y3 y4 y5 y6 y7 y8 : Option D, ∃ m', m' < szA (ws ++ [w]) ∧ ∃ (ws' : List D) (z3 z4 z5 z6 z7 z8 : Option D), [some d, some d, some (.ptr p), y3, y4, y5, y6, y7, y8] = [some d, some d, some (.ptr p), z3, z4, z5, z6, z7, z8] ∧ (∀ w ∈ ws', saD 40 w = true) ∧ m' = szA ws' ∧ m' ≤ 1000000 ∧ M.set p (.lst (ws.map fun x => D.tup [x, x])) = M.set p (.lst (ws'.map fun x => D.tup [x, x])) := fun y3 y4 y5 y6 y7 y8 =>
      ⟨szA ws, by omega, ws, _, _, _, _, _, _, rfl, hws, rfl, by omega, rfl⟩
    cases w <;> first | (cases hww; done) | skip
    all_goals walk_at "dl"
    case non => exact back _ _ _ _ _ _
    case bl b =>
      refine ⟨b, rfl, ?_⟩
      walk_at "dl"
      exact back _ _ _ _ _ _
    case int i =>
      refine i_itND rfl ?_
      walk_at "dl"
      refine i_itND rfl ?_
      walk_at "dl"
      exact back _ _ _ _ _ _
    case str z =>
      refine i_itND rfl ?_
      walk_at "dl"
      refine i_itND rfl ?_
      walk_at "dl"
      exact back _ _ _ _ _ _
    case tup xs =>
      refine i_notInq (xs := [D.bl true, .bl false]) rfl rfl rfl (fun x z h => by cases h) ?_
      rw [show ([D.bl true, .bl false].any fun y => eqF y (.bl true)) = true from by decide +kernel]
      walk_at "dl"
      refine i_itND rfl ?_
      have hx : ∀ x ∈ xs, saD 40 x = true := fun x hx => saD_up (List.all_eq_true.mp (show xs.all (saD 39) = true from hww) x hx)
      have hlx := szA_len xs
      have hs : szD (.tup xs) = 1 + szA xs := by simp [szD]
      walk_at "dl"
      dsimp only
      rw [zip_self]
      refine lc_by (fun x => some x) ?_ (fun x hxm M' _ F hF => ?_) ?_
      · rw [List.length_map]; exact szl (by omega)
      · obtain ⟨q, _, rfl⟩ := List.mem_map.mp hxm
        walk_at "dl"
        exact hF
      · walk_at "dl"
        refine i_extend (zs := xs.map fun x => D.tup [x, x]) Mem.set_same (by rw [show ((xs.map fun x => D.tup [x, x]).filterMap fun x => some x) = xs.map fun x => D.tup [x, x] from by rw [List.filterMap_eq_map', List.map_id']]; rfl) (szl (by rw [List.length_map, List.length_map]; omega)) ?_
        rw [Mem.set_set, ← List.map_append]
        refine ⟨szA (ws ++ xs), by rw [hsz, szA_app, hs]; omega, ws ++ xs, _, _, _, _, _, _, rfl, fun w hw => ?_, rfl, by rw [szA_app]; omega, rfl⟩
        rcases List.mem_append.mp hw with h | h
        · exact hws w h
        · exact hx w h
    case lst xs =>
      refine i_notInq (xs := [D.bl false, .bl true]) rfl rfl rfl (fun x z h => by cases h) ?_
      rw [show ([D.bl false, .bl true].any fun y => eqF y (.bl true)) = true from by decide +kernel]
      walk_at "dl"
      refine i_itND rfl ?_
      have hx : ∀ x ∈ xs, saD 40 x = true := fun x hx => saD_up (List.all_eq_true.mp (show xs.all (saD 39) = true from hww) x hx)
      have hlx := szA_len xs
      have hs : szD (.lst xs) = 1 + szA xs := by simp [szD]
      walk_at "dl"
      dsimp only
      rw [zip_self]
      refine lc_by (fun x => some x) ?_ (fun x hxm M' _ F hF => ?_) ?_
      · rw [List.length_map]; exact szl (by omega)
      · obtain ⟨q, _, rfl⟩ := List.mem_map.mp hxm
        walk_at "dl"
        exact hF
      · walk_at "dl"
        refine i_extend (zs := xs.map fun x => D.tup [x, x]) Mem.set_same (by rw [show ((xs.map fun x => D.tup [x, x]).filterMap fun x => some x) = xs.map fun x => D.tup [x, x] from by rw [List.filterMap_eq_map', List.map_id']]; rfl) (szl (by rw [List.length_map, List.length_map]; omega)) ?_
        rw [Mem.set_set, ← List.map_append]
        refine ⟨szA (ws ++ xs), by rw [hsz, szA_app, hs]; omega, ws ++ xs, _, _, _, _, _, _, rfl, fun w hw => ?_, rfl, by rw [szA_app]; omega, rfl⟩
        rcases List.mem_append.mp hw with h | h
        · exact hws w h
        · exact hx w h

abbrev s__law_made : Stmt := topS 32
abbrev nn__law_made : List Str := ["n", "ties", "a", "b"]
theorem sc__law_made : FnScope nn__law_made ["n", "ties"] (defScope s__law_made) := ⟨rfl, rfl, rfl, by decide +kernel, rfl, by decide +kernel, by decide +kernel⟩
theorem ok__law_made {P : Program} {w : World} {K : PySem.W.Frag} {mg : Str → Option Value} {base : Heap} {T : List (Addr × Str)}  (B : Blt mg)  {f : Addr} {fd : FuncData} (F : Fun K "_law_made" "_law_made" s__law_made f fd) (hm : mg "_law_made" = some (.ref f)) (hb : L2.Binds K fd ["n", "ties"] []) : Has P w K mg base T "_law_made" 1 2 fs__law_made := by
  refine okD (k := 0) F sc__law_made hm hb len__law_made (fun cdv A outer s H E hr => ⟨_, (xss_one (xs_ret (xe_tup (xa_cons xe_str (xa_cons (xv 0) (xa_cons (xe_callTy call_tuple_of d_tuple (by rfl) B.b_tuple (by decide +kernel) (xa_cons (xe_lc rfl sc__law_made.nd (xi_any (xv 1)) (blkOk_by (own := [("a", 2), ("b", 3)]) (N := nn__law_made) (sc := defScope s__law_made) (by decide +kernel)) (tg_pair (i := 2) (j := 3) (by decide) (by decide)) (fun _ _ _ _ _ => pg_tup rfl (pgs_cons (pg_name (i := 2) sc__law_made.nd rfl (by first | exact Or.inl rfl | exact Or.inr rfl)) (pgs_cons (pg_name (i := 3) sc__law_made.nd rfl (by first | exact Or.inl rfl | exact Or.inr rfl)) pgs_nil))) (fun _ _ _ _ _ => xts_nil) (fun _ _ _ _ _ => (xe_tup (xa_cons (xe_callB (call_min2 rfl) d_min2 (by rfl) B.b_min (by decide +kernel) (xa_cons (xv 2) (xa_cons (xv 3) xa_nil))) (xa_cons (xe_callB (call_max2 rfl) d_max2 (by rfl) B.b_max (by decide +kernel) (xa_cons (xv 2) (xa_cons (xv 3) xa_nil))) xa_nil))))) xa_nil)) xa_nil)))))), fun ds M Φ h => ?_⟩)
  obtain ⟨n, ts, rfl, hl, k⟩ := h
  walk_at "dl"
  refine lc_by (fun x => some (match x with
    | .tup [.int a, .int b] => pairD (nrm (a, b))
    | _ => .non)) ?_ (fun x hx M' _ F hF => ?_) ?_
  · rw [List.length_map]; exact szl (by omega)
  · obtain ⟨t, ht, rfl⟩ := List.mem_map.mp hx
    unfold pairD
    walk_at "dl"
    exact hF
  · walk_at "dl"
    refine i_drp0 ?_
    have e : (ts.map pairD).filterMap (fun x => some (match x with
        | .tup [.int a, .int b] => pairD (nrm (a, b))
        | _ => .non)) = (ts.map nrm).map pairD := by
      rw [List.filterMap_eq_map', List.map_map, List.map_map]
      rfl
    rw [e]
    exact k

abbrev s__law_web : Stmt := topS 33
abbrev nn__law_web : List Str := ["draws", "places", "most", "way", "n", "many", "ties", "a", "lap", "b", "place"]
theorem sc__law_web : FnScope nn__law_web ["draws", "places", "most"] (defScope s__law_web) := ⟨rfl, rfl, rfl, by decide +kernel, rfl, by decide +kernel, by decide +kernel⟩
theorem ok__law_web {P : Program} {w : World} {K : PySem.W.Frag} {mg : Str → Option Value} {base : Heap} {T : List (Addr × Str)}  (B : Blt mg) (G__law_draw : Has P w K mg base T "_law_draw" 2 2 fs__law_draw) (G__law_made : Has P w K mg base T "_law_made" 1 2 fs__law_made) (G__law_shuffled : Has P w K mg base T "_law_shuffled" 3 2 fs__law_shuffled) (G__law_shuffled_web : Has P w K mg base T "_law_shuffled_web" 4 3 fs__law_shuffled_web) {f : Addr} {fd : FuncData} (F : Fun K "_law_web" "_law_web" s__law_web f fd) (hm : mg "_law_web" = some (.ref f)) (hb : L2.Binds K fd ["draws", "places", "most"] []) : Has P w K mg base T "_law_web" 5 3 fs__law_web := by
  refine okD (k := 4) F sc__law_web hm hb len__law_web (fun cdv A outer s H E hr => ⟨_, (xss_cons (xs_asgP (i := 3) (j := 4) rfl sc__law_web.nd rfl rfl (xe_tup (xa_cons (xe_call G__law_draw (hr.mono (by decide)) (by rfl) (xa_cons (xv 0) (xa_cons xe_int xa_nil))) (xa_cons (xe_add xe_int (xe_call G__law_draw (hr.mono (by decide)) (by rfl) (xa_cons (xv 0) (xa_cons (xv 1) xa_nil)))) xa_nil))))
      (xss_cons (xs_set (i := 5) sc__law_web.nd rfl (by first | exact Or.inl rfl | exact Or.inr rfl) (xe_call G__law_draw (hr.mono (by decide)) (by rfl) (xa_cons (xv 0) (xa_cons (xe_add (xv 2) xe_int) xa_nil))))
      (xss_cons (xs_if (xt_eq hr.units (xv 3) xe_int)
      (xss_cons (xs_set (i := 6) sc__law_web.nd rfl (by first | exact Or.inl rfl | exact Or.inr rfl) (xe_sliceM (xe_lc rfl sc__law_web.nd (xi_rng1 (by rfl) B.b_range (xa_cons (xv 4) xa_nil)) (blkOk_by (own := [("place", 10)]) (N := nn__law_web) (sc := defScope s__law_web) (by decide +kernel)) (tg_name (by decide)) (fun _ _ _ _ _ => pg_name (i := 10) sc__law_web.nd rfl (by first | exact Or.inl rfl | exact Or.inr rfl)) (fun _ _ _ _ _ => xts_nil) (fun _ _ _ _ _ => (xe_tup (xa_cons (xv 10) (xa_cons (xe_mod (xe_callTy call_intA d_int (by rfl) B.b_int (by decide +kernel) (xa_cons (xe_add (xv 10) xe_int) xa_nil)) (xv 4)) xa_nil))))) xo_no (xo_at (xv 2))))
      (xss_one (xs_ret (xe_call G__law_shuffled_web (hr.mono (by decide)) (by rfl) (xa_cons (xv 0) (xa_cons (xv 4) (xa_cons (xe_fz (xv 6)) xa_nil)))))))
      xss_nil)
      (xss_cons (xs_if (xt_eq hr.units (xv 3) xe_int)
      (xss_cons (xs_set (i := 6) sc__law_web.nd rfl (by first | exact Or.inl rfl | exact Or.inr rfl) (xe_lstM xa_nil))
      (xss_cons (xs_for (vs := [7]) PassesOwn.never rfl (xi_rng1 (by rfl) B.b_range (xa_cons (xv 4) xa_nil)) (pg_name (i := 7) sc__law_web.nd rfl (by first | exact Or.inl rfl | exact Or.inr rfl)) (tg_name (by decide))
      (xss_one (xs_set (i := 6) sc__law_web.nd rfl (by first | exact Or.inl rfl | exact Or.inr rfl) (xe_addM (xv 6) (xe_lc rfl sc__law_web.nd (xi_rng2 (by rfl) B.b_range (xa_cons (xe_add (xv 7) xe_int) (xa_cons (xv 4) xa_nil))) (blkOk_by (own := [("b", 9)]) (N := nn__law_web) (sc := defScope s__law_web) (by decide +kernel)) (tg_name (by decide)) (fun _ _ _ _ _ => pg_name (i := 9) sc__law_web.nd rfl (by first | exact Or.inl rfl | exact Or.inr rfl)) (fun _ _ _ _ _ => xts_nil) (fun _ _ _ _ _ => (xe_tup (xa_cons (xv 7) (xa_cons (xv 9) xa_nil)))))))))
      (xss_one (xs_ret (xe_call G__law_shuffled_web (hr.mono (by decide)) (by rfl) (xa_cons (xv 0) (xa_cons (xv 4) (xa_cons (xe_slice (xe_call G__law_shuffled (hr.mono (by decide)) (by rfl) (xa_cons (xv 0) (xa_cons (xe_fz (xv 6)) xa_nil))) xo_no (xo_at (xv 5))) xa_nil))))))))
      xss_nil)
      (xss_cons (xs_if (xt_w (xw_or (xt_eq hr.units (xv 3) xe_int) (xw_or1 (xt_eq hr.units (xv 3) xe_int))))
      (xss_cons (xs_set (i := 6) sc__law_web.nd rfl (by first | exact Or.inl rfl | exact Or.inr rfl) (xe_sliceM (xe_lc rfl sc__law_web.nd (xi_rng2 (by rfl) B.b_range (xa_cons xe_int (xa_cons (xv 4) xa_nil))) (blkOk_by (own := [("place", 10)]) (N := nn__law_web) (sc := defScope s__law_web) (by decide +kernel)) (tg_name (by decide)) (fun _ _ _ _ _ => pg_name (i := 10) sc__law_web.nd rfl (by first | exact Or.inl rfl | exact Or.inr rfl)) (fun _ _ _ _ _ => xts_nil) (fun _ _ _ _ _ => (xe_tup (xa_cons (xv 10) (xa_cons (xe_call G__law_draw (hr.mono (by decide)) (by rfl) (xa_cons (xv 0) (xa_cons (xv 10) xa_nil))) xa_nil))))) xo_no (xo_at (xv 2))))
      (xss_cons (xs_for (vs := [8]) PassesOwn.never rfl (xi_rng1 (by rfl) B.b_range (xa_cons (xe_callB (call_max2 rfl) d_max2 (by rfl) B.b_max (by decide +kernel) (xa_cons xe_int (xa_cons (xe_sub (xv 5) (xe_callB call_len d_len (by rfl) B.b_len (by decide +kernel) (xa_cons (xv 6) xa_nil))) xa_nil))) xa_nil)) (pg_name (i := 8) sc__law_web.nd rfl (by first | exact Or.inl rfl | exact Or.inr rfl)) (tg_name (by decide))
      (xss_one (xs_expr (xe_append (xv 6) (xe_tup (xa_cons (xe_call G__law_draw (hr.mono (by decide)) (by rfl) (xa_cons (xv 0) (xa_cons (xv 4) xa_nil))) (xa_cons (xe_call G__law_draw (hr.mono (by decide)) (by rfl) (xa_cons (xv 0) (xa_cons (xv 4) xa_nil))) xa_nil)))))))
      (xss_one (xs_ret (xe_call G__law_shuffled_web (hr.mono (by decide)) (by rfl) (xa_cons (xv 0) (xa_cons (xv 4) (xa_cons (xe_fz (xv 6)) xa_nil))))))))
      xss_nil)
      (xss_cons (xs_if (xt_w (xw_and (xt_eq hr.units (xv 3) xe_int) (xw_and1 (xt_gt (xv 4) xe_int))))
      (xss_cons (xs_asgP (i := 7) (j := 9) rfl sc__law_web.nd rfl rfl (xe_tup (xa_cons (xe_call G__law_draw (hr.mono (by decide)) (by rfl) (xa_cons (xv 0) (xa_cons (xv 4) xa_nil))) (xa_cons (xe_call G__law_draw (hr.mono (by decide)) (by rfl) (xa_cons (xv 0) (xa_cons (xv 4) xa_nil))) xa_nil))))
      (xss_one (xs_ret (xe_call G__law_shuffled_web (hr.mono (by decide)) (by rfl) (xa_cons (xv 0) (xa_cons (xv 4) (xa_cons (xe_add (xe_mul (xe_lst (xa_cons (xe_tup (xa_cons (xv 7) (xa_cons (xv 9) xa_nil))) xa_nil)) (xe_callTy call_intA d_int (by rfl) B.b_int (by decide +kernel) (xa_cons (xe_fdiv (xv 5) xe_int) xa_nil))) (xe_lc rfl sc__law_web.nd (xi_rng1 (by rfl) B.b_range (xa_cons (xe_sub (xv 5) (xe_callTy call_intA d_int (by rfl) B.b_int (by decide +kernel) (xa_cons (xe_fdiv (xv 5) xe_int) xa_nil))) xa_nil)) (blkOk_by (own := [("lap", 8)]) (N := nn__law_web) (sc := defScope s__law_web) (by decide +kernel)) (tg_name (by decide)) (fun _ _ _ _ _ => pg_name (i := 8) sc__law_web.nd rfl (by first | exact Or.inl rfl | exact Or.inr rfl)) (fun _ _ _ _ _ => xts_nil) (fun _ _ _ _ _ => (xe_tup (xa_cons (xe_call G__law_draw (hr.mono (by decide)) (by rfl) (xa_cons (xv 0) (xa_cons (xv 4) xa_nil))) (xa_cons (xe_call G__law_draw (hr.mono (by decide)) (by rfl) (xa_cons (xv 0) (xa_cons (xv 4) xa_nil))) xa_nil)))))) xa_nil)))))))
      xss_nil)
      (xss_one (xs_ret (xe_call G__law_made (hr.mono (by decide)) (by rfl) (xa_cons (xv 4) (xa_cons (xe_lc rfl sc__law_web.nd (xi_rng1 (by rfl) B.b_range (xa_cons (xv 5) xa_nil)) (blkOk_by (own := [("lap", 8)]) (N := nn__law_web) (sc := defScope s__law_web) (by decide +kernel)) (tg_name (by decide)) (fun _ _ _ _ _ => pg_name (i := 8) sc__law_web.nd rfl (by first | exact Or.inl rfl | exact Or.inr rfl)) (fun _ _ _ _ _ => xts_nil) (fun _ _ _ _ _ => (xe_tup (xa_cons (xe_call G__law_draw (hr.mono (by decide)) (by rfl) (xa_cons (xv 0) (xa_cons (xv 4) xa_nil))) (xa_cons (xe_call G__law_draw (hr.mono (by decide)) (by rfl) (xa_cons (xv 0) (xa_cons (xv 4) xa_nil))) xa_nil))))) xa_nil))))))))))), fun ds M Φ h => ?_⟩)
  obtain ⟨d, l, n, rfl, hd, hn, k⟩ := h
  walk_at "dl"
  refine ⟨d, l, n, 7, rfl, hd, by omega, by omega, by decide, fun way M1 w1 w2 hd1 ev1 => ?_⟩
  walk_at "dl"
  refine ⟨d, l, n + 1, 8, rfl, hd1, by omega, by omega, by decide, fun n0 M2 n1 n2 hd2 ev2 => ?_⟩
  walk_at "dl"
  refine ⟨d, l, n + 1 + 1, 13, rfl, hd2, by omega, by omega, by decide, fun many M3 m1 m2 hd3 ev3 => ?_⟩
  have ev := (ev1.trans ev2).trans ev3
  obtain ⟨mm, rfl⟩ := Int.eq_ofNat_of_zero_le m1
  walk_at "dl"
  refine i_itD (fun e0 => ?_) fun e0 => ?_
  · walk_at "dl"
    refine ⟨by omega, by omega, ?_⟩
    refine lc_by (fun x => some (match x with
      | .int i => pairD (i, (i + 1) % (1 + n0))
      | _ => .non)) ?_ (fun x hx M' _ F hF => ?_) ?_
    · unfold rgD; rw [List.length_map, List.length_range]; exact szl (by omega)
    · unfold rgD at hx
      obtain ⟨i, _, rfl⟩ := List.mem_map.mp hx
      walk_at "dl"
      exact hF
    · have er : (rgD 0 (1 + n0)).filterMap (fun x => some (match x with
          | .int i => pairD (i, (i + 1) % (1 + n0))
          | _ => D.non)) = (ringD (1 + n0)).map pairD := by
        unfold rgD ringD
        rw [List.filterMap_eq_map', List.map_map, List.map_map, Int.sub_zero]
        refine List.map_congr_left fun i _ => ?_
        show pairD (0 + (i : Int), (0 + (i : Int) + 1) % (1 + n0)) = pairD ((i : Int), ((i : Int) + 1) % (1 + n0))
        rw [Int.zero_add]
      rw [er]
      walk_at "dl"
      refine ⟨_, rfl, fun p np => ?_⟩
      rw [show cutD ((ringD (1 + n0)).map pairD) none (some 12) = ((ringD (1 + n0)).take 12).map pairD from by rw [show (12 : Int) = ((12 : Nat) : Int) from rfl, cutTake, List.map_take]]
      walk_at "dl"
      dsimp only
      rw [Mem.set_same]
      dsimp only
      rw [del_set np]
      have hrl : (ringD (1 + n0)).length ≤ 8 := by unfold ringD; rw [List.length_map, List.length_range]; omega
      have hl : ((ringD (1 + n0)).take 12).length ≤ 8 := by rw [List.length_take]; omega
      walk_at "dl"
      refine ⟨d, l, n + 1 + 1 + 1, 1 + n0, _, rfl, hd3, by omega, by omega, fun qs M' pm hd' ev' => ?_⟩
      refine i_drp0 (k _ _ _ (good_nrm (by omega) (by omega) (by omega) (fun t ht => ?_) pm) (hd'.mono (by omega)) (ev.trans ev'))
      obtain ⟨i, hi, rfl⟩ := List.mem_map.mp (List.mem_of_mem_take ht)
      have := List.mem_range.mp hi
      have h1 := Int.emod_nonneg ((i : Int) + 1) (show (1 + n0) ≠ 0 by omega)
      have h2 := Int.emod_lt_of_pos ((i : Int) + 1) (show 0 < 1 + n0 by omega)
      exact ⟨by dsimp only; omega, by dsimp only; omega, h1, h2⟩
  · walk_at "dl"
    refine i_itD (fun e1 => ?_) fun e1 => ?_
    · walk_at "dl"
      intro p0 np0
      walk_at "dl"
      refine ⟨by omega, by omega, ?_⟩
      refine for_by (fun i Γ M' => ∃ (p : Addr) (ts : List (Int × Int)) (y7 y8 y9 y10 : Option D), Γ = [some (.ptr d), some (.int 8), some (.int 12), some (.int way), some (.int (1 + n0)), some (.int (mm : Int)), some (.ptr p), y7, y8, y9, y10] ∧ Sub M3 M' ∧ M3 p = none ∧ M' p = some (.lst (ts.map pairD)) ∧ ts.length ≤ 8 * i ∧ ∀ t ∈ ts, InR (1 + n0) t) ⟨p0, [], _, _, _, _, rfl, sub_set np0, np0, Mem.set_same, by simp, by simp⟩ ?_ ?_
      · rintro i x Γ M' FF hx ⟨p, ts, y7, y8, y9, y10, rfl, sb, np, hp, hl, ht⟩ hF
        obtain ⟨hi, rfl⟩ := rgD_get hx
        walk_at "dl"
        refine ⟨⟨by omega, by omega, by omega, by omega⟩, ?_⟩
        refine lc_by (fun x => some (match x with
          | .int b => pairD (0 + (i : Int), b)
          | _ => .non)) ?_ (fun x hx M' _ F hF => ?_) ?_
        · rw [rgD_len]; exact szl (by omega)
        · obtain ⟨b, hb1, hb2, rfl⟩ := rgD_mem hx
          walk_at "dl"
          exact hF
        · have er : (rgD (0 + (i : Int) + 1) (1 + n0)).filterMap (fun x => some (match x with
              | .int b => pairD (0 + (i : Int), b)
              | _ => D.non)) = ((rgI (0 + (i : Int) + 1) (1 + n0)).map fun b => (0 + (i : Int), b)).map pairD := by
            rw [rgD_I, List.filterMap_eq_map', List.map_map, List.map_map]; rfl
          rw [er]
          walk_at "dl"
          refine ⟨_, _, lsR_p hp, rfl, ?_, fun p' np' => ?_⟩
          · rw [List.length_map, List.length_map, List.length_map, rgI_len]; exact szl (by omega)
          walk_at "dl"
          refine hF _ _ ⟨p', ts ++ ((rgI (0 + (i : Int) + 1) (1 + n0)).map fun b => (0 + (i : Int), b)), _, _, _, _, rfl, sb.trans (sub_set np'), sb.none_ np', ?_, ?_, ?_⟩
          · rw [Mem.set_same, List.map_append]
          · rw [List.length_append, List.length_map, rgI_len]; omega
          · intro t h
            rcases List.mem_append.mp h with h | h
            · exact ht t h
            · obtain ⟨b, hb, rfl⟩ := List.mem_map.mp h
              have := rgI_mem hb
              exact ⟨by dsimp only; omega, by dsimp only; omega, by dsimp only; omega, by dsimp only; omega⟩
      · rintro Γ M' ⟨p, ts, y7, y8, y9, y10, rfl, sb, np, hp, hl, ht⟩
        rw [rgD_len] at hl
        have pd := hd3.ne_new np
        have hdp := (hd3.sub sb).del pd.1 pd.2
        walk_at "dl"
        dsimp only
        rw [hp]
        dsimp only
        walk_at "dl"
        refine ⟨d, l, n + 1 + 1 + 1, _, rfl, hdp, by rw [List.length_map]; omega, by rw [List.length_map]; omega, shD_pairs ts, fun ys M4 y1 y2 y3 hd4 ev4 => ?_⟩
        obtain ⟨qs, rfl, hq⟩ := perm_pairs y3
        rw [List.length_map] at hd4
        walk_at "dl"
        rw [cutTake, ← List.map_take]
        have hql := hq.length_eq
        refine ⟨d, l, _, 1 + n0, _, rfl, hd4, by rw [List.length_take]; omega, by rw [List.length_take]; omega, fun us M5 pm hd5 ev5 => ?_⟩
        obtain ⟨Mf, s1, s2, s3⟩ := clean (M := M3) hd5 (fun a h1 h2 m hm => by
          rw [ev5 a h1 h2, ev4 a h1 h2, Mem.del_ne (fun z => by rw [z, np] at hm; cases hm)]
          exact sb a m hm)
        refine i_drp (k _ _ Mf (good_nrm (by omega) (by omega) (by rw [List.length_take]; omega) (fun t h => ?_) pm) (s2.mono (by rw [List.length_take]; omega)) (ev.trans s3)) s1
        exact ht t (hq.subset (List.mem_of_mem_take h))
    · walk_at "dl"
      refine i_share1 (way = 2 ∨ way = 3) (fun e => .inl e) (fun e23 => ?_) fun e2 hA => ?_
      · walk_at "dl"
        refine ⟨⟨by omega, by omega, by omega, by omega⟩, ?_⟩
        refine lcI_by (fun i acc M' => ∃ ts : List (Int × Int), acc = ts.map pairD ∧ ts.length = i ∧ (∀ t ∈ ts, InR (1 + n0) t) ∧ Dr M' d l (n + 3 + i) ∧ Ev M3 M' d l) ⟨[], rfl, rfl, (fun t h => by cases h), hd3, Ev.refl⟩ ?_ ?_ ?_
        · rw [rgD_len]; exact szl (by omega)
        · rintro i x acc M4 hx ⟨ts, rfl, hl, ht, hd4, ev4⟩ p hp F hF
          obtain ⟨hi, rfl⟩ := rgD_get hx
          have ne := hd4.ne_new hp
          walk_at "dl"
          refine ⟨d, l, n + 3 + i, _, rfl, hd4.set ne.1 ne.2, by omega, by omega, log_small (by omega) (by omega), fun a M5 a1 a2 hd5 ev5 => ?_⟩
          walk_at "dl"
          obtain ⟨h1, h2⟩ := beside hd4 hp ev5
          have := hF (some (pairD (1 + (i : Int), a))) (M5.del p) ⟨ts ++ [(1 + (i : Int), a)], by rw [List.map_append]; rfl, by simp [hl], fun t h => ?_, (hd5.del ne.1 ne.2), ev4.trans h2⟩ Mem.del_same
          · rw [del_put h1] at this
            exact this
          · rcases List.mem_append.mp h with h | h
            · exact ht t h
            · rcases List.mem_singleton.mp h with rfl
              exact ⟨by dsimp only; omega, by dsimp only; omega, by dsimp only; omega, by dsimp only; omega⟩
        · rintro acc M4 ⟨ts, rfl, hl, ht, hd4, ev4⟩
          rw [rgD_len] at hl hd4
          have tk : ts.take 12 = ts := List.take_of_length_le (by omega)
          walk_at "dl"
          refine ⟨_, rfl, fun p np => ?_⟩
          rw [show cutD (ts.map pairD) none (some 12) = ts.map pairD from by rw [show (12 : Int) = ((12 : Nat) : Int) from rfl, cutTake, ← List.map_take, tk]]
          have pd := hd4.ne_new np
          walk_at "dl"
          rw [List.length_map]
          refine ⟨by omega, by omega, ?_⟩
          refine for_by (fun i Γ M' => ∃ (us : List (Int × Int)) (y7 y8 y9 y10 : Option D), Γ = [some (.ptr d), some (.int 8), some (.int 12), some (.int way), some (.int (1 + n0)), some (.int (mm : Int)), some (.ptr p), y7, y8, y9, y10] ∧ M' p = some (.lst (us.map pairD)) ∧ us.length = ts.length + i ∧ (∀ t ∈ us, InR (1 + n0) t) ∧ Dr M' d l (n + 10 + 2 * i) ∧ ∀ a, a ≠ d → a ≠ l → a ≠ p → M' a = M4 a) ⟨ts, _, _, _, _, rfl, Mem.set_same, rfl, ht, (hd4.set pd.1 pd.2).mono (by omega), fun a _ _ h => Mem.set_ne h⟩ ?_ ?_
          · rintro i x Γ M' FF hx ⟨us, y7, y8, y9, y10, rfl, hp, hl', hu, hd5, ev5⟩ hF
            have hi := (rgD_get hx).1
            walk_at "dl"
            refine ⟨d, l, _, 1 + n0, rfl, hd5, by omega, by omega, log_small (by omega) (by omega), fun a M6 a1 a2 hd6 ev6 => ?_⟩
            walk_at "dl"
            refine ⟨d, l, _, 1 + n0, rfl, hd6, by omega, by omega, log_small (by omega) (by omega), fun b M7 b1 b2 hd7 ev7 => ?_⟩
            walk_at "dl"
            have hp7 : M7 p = some (.lst (us.map pairD)) := by rw [ev7 p pd.1 pd.2, ev6 p pd.1 pd.2]; exact hp
            refine i_append hp7 (szlt (by rw [List.length_map]; omega)) ?_
            refine hF _ _ ⟨us ++ [(a, b)], _, _, _, _, rfl, by rw [Mem.set_same, List.map_append]; rfl, by rw [List.length_append, List.length_singleton]; omega, fun t h => ?_, (hd7.set pd.1 pd.2).mono (by omega), fun c h1 h2 h3 => by rw [Mem.set_ne h3, ev7 c h1 h2, ev6 c h1 h2]; exact ev5 c h1 h2 h3⟩
            rcases List.mem_append.mp h with h | h
            · exact hu t h
            · rcases List.mem_singleton.mp h with rfl
              exact ⟨a1, a2, b1, b2⟩
          · rintro Γ M' ⟨us, y7, y8, y9, y10, rfl, hp, hl', hu, hd5, ev5⟩
            rw [rgD_len] at hl' hd5
            have hus : us.length ≤ 12 := by omega
            walk_at "dl"
            dsimp only
            rw [hp]
            dsimp only
            obtain ⟨g1, g2⟩ := drop_beside hd5 np pd ev5
            walk_at "dl"
            refine ⟨d, l, _, 1 + n0, _, rfl, g1, by omega, by omega, fun qs M6 pm hd6 ev6 => ?_⟩
            exact i_drp0 (k _ _ _ (good_nrm (by omega) (by omega) hus hu pm) (hd6.mono (by omega)) (ev.trans (ev4.trans (g2.trans ev6))))
      · walk_at "dl"
        refine i_itD (fun e3 => ?_) fun e3 => ?_
        · have := hA (.inr e3)
          rw [if_pos rfl] at this
          exact this
        · walk_at "dl"
          refine i_share (way ≠ 4 ∨ ¬ (1 + n0 > 1)) (fun hc => ?_) (fun e4 hB => ?_) (fun e => .inl e)
          · walk_at "dl"
            refine ⟨by omega, by omega, ?_⟩
            refine lcI_by (fun i acc M' => ∃ ts : List (Int × Int), acc = ts.map pairD ∧ ts.length = i ∧ (∀ t ∈ ts, InR (1 + n0) t) ∧ Dr M' d l (n + 3 + 2 * i) ∧ Ev M3 M' d l) ⟨[], rfl, rfl, (fun t h => by cases h), hd3, Ev.refl⟩ ?_ ?_ ?_
            · rw [rgD_len]; exact szl (by omega)
            · rintro i x acc M4 hx ⟨ts, rfl, hl, ht, hd4, ev4⟩ p hp F hF
              have hi := (rgD_get hx).1
              have ne := hd4.ne_new hp
              walk_at "dl"
              refine ⟨d, l, n + 3 + 2 * i, 1 + n0, rfl, hd4.set ne.1 ne.2, by omega, by omega, log_small (by omega) (by omega), fun a M5 a1 a2 hd5 ev5 => ?_⟩
              walk_at "dl"
              refine ⟨d, l, n + 3 + 2 * i + 1, 1 + n0, rfl, hd5, by omega, by omega, log_small (by omega) (by omega), fun b M6 b1 b2 hd6 ev6 => ?_⟩
              walk_at "dl"
              obtain ⟨h1, h2⟩ := beside hd4 hp (ev5.trans ev6)
              have := hF (some (pairD (a, b))) (M6.del p) ⟨ts ++ [(a, b)], by rw [List.map_append]; rfl, by simp [hl], fun t h => ?_, (hd6.del ne.1 ne.2).mono (by omega), ev4.trans h2⟩ Mem.del_same
              · rw [del_put h1] at this
                exact this
              · rcases List.mem_append.mp h with h | h
                · exact ht t h
                · rcases List.mem_singleton.mp h with rfl
                  exact ⟨a1, a2, b1, b2⟩
            · rintro acc M4 ⟨ts, rfl, hl, ht, hd4, ev4⟩
              have hm : ts.length ≤ 12 := by rw [rgD_len] at hl; omega
              rw [hl.symm] at hd4
              walk_at "dl"
              refine ⟨1 + n0, ts, rfl, by omega, ?_⟩
              exact i_drp0 (k _ _ _ (good_nrm (by omega) (by omega) hm ht (.refl _)) (hd4.mono (by omega)) (ev.trans ev4))
          · walk_at "dl"
            refine i_itD (fun e5 => ?_) fun e5 => ?_
            · walk_at "dl"
              refine ⟨d, l, n + 3, 1 + n0, rfl, hd3, by omega, by omega, log_small (by omega) (by omega), fun a M4 a1 a2 hd4 ev4 => ?_⟩
              walk_at "dl"
              refine ⟨d, l, n + 4, 1 + n0, rfl, hd4, by omega, by omega, log_small (by omega) (by omega), fun b M5 b1 b2 hd5 ev5 => ?_⟩
              have evb := ev4.trans ev5
              walk_at "dl"
              refine ⟨_, rfl, by omega, by omega, szl (by simp only [List.length_cons, List.length_nil]; omega), ?_⟩
              walk_at "dl"
              refine ⟨by omega, by omega, ?_⟩
              refine lcI_by (fun i acc M' => ∃ ts : List (Int × Int), acc = ts.map pairD ∧ ts.length = i ∧ (∀ t ∈ ts, InR (1 + n0) t) ∧ Dr M' d l (n + 5 + 2 * i) ∧ Ev M3 M' d l) ⟨[], rfl, rfl, (fun t h => by cases h), hd5, evb⟩ ?_ ?_ ?_
              · rw [rgD_len]; exact szl (by omega)
              · rintro i x acc M6 hx ⟨ts, rfl, hl, ht, hd6, ev6⟩ p hp F hF
                have hi := (rgD_get hx).1
                have ne := hd6.ne_new hp
                walk_at "dl"
                refine ⟨d, l, n + 5 + 2 * i, 1 + n0, rfl, hd6.set ne.1 ne.2, by omega, by omega, log_small (by omega) (by omega), fun a' M7 a1' a2' hd7 ev7 => ?_⟩
                walk_at "dl"
                refine ⟨d, l, n + 5 + 2 * i + 1, 1 + n0, rfl, hd7, by omega, by omega, log_small (by omega) (by omega), fun b' M8 b1' b2' hd8 ev8 => ?_⟩
                walk_at "dl"
                obtain ⟨h1, h2⟩ := beside hd6 hp (ev7.trans ev8)
                have := hF (some (pairD (a', b'))) (M8.del p) ⟨ts ++ [(a', b')], by rw [List.map_append]; rfl, by simp [hl], fun t h => ?_, (hd8.del ne.1 ne.2).mono (by omega), ev6.trans h2⟩ Mem.del_same
                · rw [del_put h1] at this
                  exact this
                · rcases List.mem_append.mp h with h | h
                  · exact ht t h
                  · rcases List.mem_singleton.mp h with rfl
                    exact ⟨a1', a2', b1', b2'⟩
              · rintro acc M6 ⟨ts, rfl, hl, ht, hd6, ev6⟩
                rw [rgD_len] at hl hd6
                have lk : (List.replicate (Int.toNat ((mm : Int) / 2)) (a, b) ++ ts).length ≤ 12 := by rw [List.length_append, List.length_replicate]; omega
                have rp : (List.replicate (Int.toNat ((mm : Int) / 2)) [D.tup [D.int a, D.int b]]).flatten ++ ts.map pairD = (List.replicate (Int.toNat ((mm : Int) / 2)) (a, b) ++ ts).map pairD := rep_pairs (t := (a, b))
                have rl := congrArg List.length rp
                rw [List.length_append, List.length_map, List.length_map] at rl
                walk_at "dl"
                refine i_addl (szl (by rw [List.length_map]; omega)) ?_
                rw [rp]
                walk_at "dl"
                refine ⟨d, l, _, 1 + n0, _, rfl, hd6, by omega, by omega, fun qs M7 pm hd7 ev7 => ?_⟩
                refine i_drp0 (k _ _ _ (good_nrm (by omega) (by omega) lk (fun t h => ?_) pm) (hd7.mono (by omega)) (ev.trans (ev6.trans ev7)))
                rcases List.mem_append.mp h with h | h
                · rcases List.mem_replicate.mp h with ⟨_, rfl⟩
                  exact ⟨a1, a2, b1, b2⟩
                · exact ht t h
            · have := hB (.inr e5)
              rw [if_neg Bool.false_ne_true] at this
              exact this

abbrev s__law_shuffled_web : Stmt := topS 34
abbrev nn__law_shuffled_web : List Str := ["draws", "n", "ties"]
theorem sc__law_shuffled_web : FnScope nn__law_shuffled_web ["draws", "n", "ties"] (defScope s__law_shuffled_web) := ⟨rfl, rfl, rfl, by decide +kernel, rfl, by decide +kernel, by decide +kernel⟩
theorem ok__law_shuffled_web {P : Program} {w : World} {K : PySem.W.Frag} {mg : Str → Option Value} {base : Heap} {T : List (Addr × Str)}  (B : Blt mg) (G__law_made : Has P w K mg base T "_law_made" 1 2 fs__law_made) (G__law_shuffled : Has P w K mg base T "_law_shuffled" 3 2 fs__law_shuffled) {f : Addr} {fd : FuncData} (F : Fun K "_law_shuffled_web" "_law_shuffled_web" s__law_shuffled_web f fd) (hm : mg "_law_shuffled_web" = some (.ref f)) (hb : L2.Binds K fd ["draws", "n", "ties"] []) : Has P w K mg base T "_law_shuffled_web" 4 3 fs__law_shuffled_web := by
  refine okD (k := 3) F sc__law_shuffled_web hm hb len__law_shuffled_web (fun cdv A outer s H E hr => ⟨_, (xss_one (xs_ret (xe_call G__law_made (hr.mono (by decide)) (by rfl) (xa_cons (xv 1) (xa_cons (xe_call G__law_shuffled (hr.mono (by decide)) (by rfl) (xa_cons (xv 0) (xa_cons (xe_callTy (call_listA rfl) d_listA (by rfl) B.b_list (by decide +kernel) (xa_cons (xv 2) xa_nil)) xa_nil))) xa_nil))))), fun ds M Φ h => ?_⟩)
  obtain ⟨d, l, n, kk, ts, rfl, hd, hn, hl, k⟩ := h
  walk_at "dl"
  refine ⟨d, l, n, _, rfl, hd, by rw [List.length_map]; exact hn, by rw [List.length_map]; exact hl, shD_pairs ts, fun ys M' h1 h2 h3 h4 h5 => ?_⟩
  obtain ⟨qs, rfl, hq⟩ := perm_pairs h3
  rw [List.length_map] at h4
  walk_at "dl"
  refine ⟨kk, qs, rfl, by rw [hq.length_eq]; exact hl, ?_⟩
  exact i_drp0 (k qs M' hq h4 h5)

abbrev s__law_is_web : Stmt := topS 35
abbrev nn__law_is_web : List Str := ["value", "n", "ties", "tie", "place"]
theorem sc__law_is_web : FnScope nn__law_is_web ["value"] (defScope s__law_is_web) := ⟨rfl, rfl, rfl, by decide +kernel, rfl, by decide +kernel, by decide +kernel⟩
theorem ok__law_is_web {P : Program} {w : World} {K : PySem.W.Frag} {mg : Str → Option Value} {base : Heap} {T : List (Addr × Str)}  (B : Blt mg)  {f : Addr} {fd : FuncData} (F : Fun K "_law_is_web" "_law_is_web" s__law_is_web f fd) (hm : mg "_law_is_web" = some (.ref f)) (hb : L2.Binds K fd ["value"] []) : Has P w K mg base T "_law_is_web" 1 1 fs__law_is_web := by
  refine okD (k := 0) F sc__law_is_web hm hb len__law_is_web (fun cdv A outer s H E hr => ⟨_, (xss_cons (xs_if (xt_w (xw_or (xt_not (xt_val (xe_callB call_isiA d_isi (by rfl) B.b_isinstance (by decide +kernel) (xa_cons (xv 0) (xa_cons (xe_ty (n := "tuple") (by rfl) B.b_tuple (by decide +kernel)) xa_nil))))) (xw_or (xt_ne hr.units (xe_callB call_len d_len (by rfl) B.b_len (by decide +kernel) (xa_cons (xv 0) xa_nil)) xe_int) (xw_or (xt_not (xt_val (xe_callB call_isiA d_isi (by rfl) B.b_isinstance (by decide +kernel) (xa_cons (xe_item (xv 0) xe_int) (xa_cons (xe_ty (n := "str") (by rfl) B.b_str (by decide +kernel)) xa_nil))))) (xw_or1 (xt_ne hr.units (xe_item (xv 0) xe_int) xe_str))))))
      (xss_one (xs_ret xe_bl))
      xss_nil)
      (xss_cons (xs_asgP (i := 1) (j := 2) rfl sc__law_is_web.nd rfl rfl (xe_tup (xa_cons (xe_item (xv 0) xe_int) (xa_cons (xe_item (xv 0) xe_int) xa_nil))))
      (xss_cons (xs_if (xt_w (xw_or (xt_not (xt_val (xe_callB call_isiA d_isi (by rfl) B.b_isinstance (by decide +kernel) (xa_cons (xv 1) (xa_cons (xe_ty (n := "int") (by rfl) B.b_int (by decide +kernel)) xa_nil))))) (xw_or (xt_val (xe_callB call_isiA d_isi (by rfl) B.b_isinstance (by decide +kernel) (xa_cons (xv 1) (xa_cons (xe_ty (n := "bool") (by rfl) B.b_bool (by decide +kernel)) xa_nil)))) (xw_or (xt_not (xt_chain op_le d_cmp op_le d_cmp xe_int (xv 1) xe_int)) (xw_or (xt_not (xt_val (xe_callB call_isiA d_isi (by rfl) B.b_isinstance (by decide +kernel) (xa_cons (xv 2) (xa_cons (xe_ty (n := "tuple") (by rfl) B.b_tuple (by decide +kernel)) xa_nil))))) (xw_or1 (xt_gt (xe_callB call_len d_len (by rfl) B.b_len (by decide +kernel) (xa_cons (xv 2) xa_nil)) xe_int)))))))
      (xss_one (xs_ret xe_bl))
      xss_nil)
      (xss_cons (xs_for (vs := [3]) PassesOwn.never rfl (xi_any (xv 2)) (pg_name (i := 3) sc__law_is_web.nd rfl (by first | exact Or.inl rfl | exact Or.inr rfl)) (tg_name (by decide))
      (xss_cons (xs_if (xt_w (xw_or (xt_not (xt_val (xe_callB call_isiA d_isi (by rfl) B.b_isinstance (by decide +kernel) (xa_cons (xv 3) (xa_cons (xe_ty (n := "tuple") (by rfl) B.b_tuple (by decide +kernel)) xa_nil))))) (xw_or (xt_ne hr.units (xe_callB call_len d_len (by rfl) B.b_len (by decide +kernel) (xa_cons (xv 3) xa_nil)) xe_int) (xw_or1 (xt_ne hr.units (xe_lc rfl sc__law_is_web.nd (xi_any (xv 3)) (blkOk_by (own := [("place", 4)]) (N := nn__law_is_web) (sc := defScope s__law_is_web) (by decide +kernel)) (tg_name (by decide)) (fun _ _ _ _ _ => pg_name (i := 4) sc__law_is_web.nd rfl (by first | exact Or.inl rfl | exact Or.inr rfl)) (fun _ _ _ _ _ => (xts_one (xt_w (xw_or (xt_not (xt_val (xe_callB call_isiA d_isi (by rfl) B.b_isinstance (by decide +kernel) (xa_cons (xv 4) (xa_cons (xe_ty (n := "int") (by rfl) B.b_int (by decide +kernel)) xa_nil))))) (xw_or (xt_val (xe_callB call_isiA d_isi (by rfl) B.b_isinstance (by decide +kernel) (xa_cons (xv 4) (xa_cons (xe_ty (n := "bool") (by rfl) B.b_bool (by decide +kernel)) xa_nil)))) (xw_or1 (xt_not (xt_chain op_le d_cmp op_lt d_cmp xe_int (xv 4) (xv 1))))))))) (fun _ _ _ _ _ => xe_int)) (xe_lst xa_nil))))))
      (xss_one (xs_ret xe_bl))
      xss_nil)
      (xss_one (xs_if (xt_gt (xe_item (xv 3) xe_int) (xe_item (xv 3) xe_int))
      (xss_one (xs_ret xe_bl))
      xss_nil))))
      (xss_one (xs_ret xe_bl)))))), fun ds M Φ h => ?_⟩)
  obtain ⟨d, rfl, hp, k⟩ := h
  cases d <;> first | (cases hp; done) | skip
  all_goals walk_at "dl"
  all_goals first | exact i_drp0 k | skip
  rename_i xs
  refine i_itN (fun e => ?_) fun e => ?_
  · obtain ⟨a, b, c, rfl⟩ : ∃ a b c, xs = [a, b, c] := by
      match xs, e with
      | [a, b, c], _ => exact ⟨a, b, c, rfl⟩
      | [], e => cases e
      | [_], e => cases e
      | [_, _], e => cases e
      | _ :: _ :: _ :: _ :: _, e => simp at e; omega
    rw [puD, Bool.and_eq_true, puAll, puAll, puAll, Bool.and_eq_true, Bool.and_eq_true, Bool.and_eq_true] at hp
    obtain ⟨⟨h1, h2, h3, hz⟩, hy⟩ := hp
    walk_at "dl"
    cases a <;> first | (cases h1; done) | skip
    all_goals walk_at "dl"
    all_goals first | exact i_drp0 k | skip
    rename_i x
    refine i_itN (fun ex => ?_) fun ex => ?_
    · walk_at "dl"
      cases b <;> first | (cases h2; done) | skip
      all_goals walk_at "dl"
      all_goals first | exact i_drp0 k | skip
      rename_i n
      have sk : ∀ q : Prop, (¬ (1 ≤ n ∧ n ≤ 8) → isW3 (.str x) (.int n) c = false) := by
        intro _ hn
        cases c <;> try rfl
        rw [isW3, decide_eq_true ex, Bool.true_and]
        by_cases h8 : (1 : Int) ≤ n
        · rw [decide_eq_true h8, decide_eq_false (show ¬ n ≤ 8 from fun z => hn ⟨h8, z⟩)]; rfl
        · rw [decide_eq_false h8]; rfl
      refine i_itD (fun e1 => ?_) fun e1 => ?_
      · walk_at "dl"
        refine i_itN (fun e2 => ?_) fun e2 => ?_
        · cases c <;> first | (cases h3; done) | skip
          all_goals walk_at "dl"
          all_goals first | exact i_drp0 k | skip
          rename_i ts
          refine i_itD (fun e3 => ?_) fun e3 => ?_
          · walk_at "dl"
            rw [show isWebD (.tup [.str x, .int n, .tup ts]) = false from by
              rw [isWebD, isW3, decide_eq_true ex, decide_eq_true e1, decide_eq_true e2, decide_eq_false (show ¬ (ts.length : Int) ≤ 12 by omega)]
              rfl] at k
            exact i_drp0 k
          · have ek : isWebD (.tup [.str x, .int n, .tup ts]) = ts.all (isPairD n) := by
              rw [isWebD, isW3, decide_eq_true ex, decide_eq_true e1, decide_eq_true e2, decide_eq_true (show (ts.length : Int) ≤ 12 by omega)]
              rfl
            rw [ek] at k
            rw [puD, Bool.and_eq_true] at h3
            walk_at "dl"
            refine for_by (fun i Γ M' => ∃ y3 y4, Γ = [some (.tup [.str x, .int n, .tup ts]), some (.int n), some (.tup ts), y3, y4] ∧ M' = M ∧ (ts.take i).all (isPairD n) = true) ⟨_, _, rfl, rfl, by simp⟩ ?_ ?_
            · rintro i t Γ M' FF ht ⟨y3, y4, rfl, rfl, e4⟩ hF
              have htm : t ∈ ts := List.mem_of_getElem? ht
              have hpt := puAll_mem h3.1 htm
              have no : isPairD n t = false → ts.all (isPairD n) = false := fun z => by
                rw [List.all_eq_false]
                exact ⟨t, htm, by rw [z]; exact Bool.false_ne_true⟩
              have yes : isPairD n t = true → (ts.take (i + 1)).all (isPairD n) = true := fun z => by
                rw [List.take_succ, ht, List.all_append, e4]
                show (true && (isPairD n t && true)) = true
                rw [z]; rfl
              clear ek
              cases t <;> first | (cases hpt; done) | skip
              all_goals walk_at "dl"
              all_goals first | (rw [no rfl] at k; exact i_drp0 k) | skip
              rename_i us
              refine i_itN (fun e5 => ?_) fun e5 => ?_
              · obtain ⟨a, b, rfl⟩ : ∃ a b, us = [a, b] := by
                  match us, e5 with
                  | [a, b], _ => exact ⟨a, b, rfl⟩
                  | [], e => cases e
                  | [_], e => cases e
                  | _ :: _ :: _ :: _, e => simp at e; omega
                rw [puD, Bool.and_eq_true] at hpt
                walk_at "dl"
                refine lc_by (fun q => if (!isBelowD q n) = true then some (.int 1) else none) ?_ (fun q hq M' _ F hF => ?_) ?_
                · exact szl (show 2 ≤ _ by decide)
                · have hpq := puAll_mem hpt.1 hq
                  cases q <;> first | (cases hpq; done) | skip
                  all_goals walk_at "dl"
                  all_goals first | exact hF | skip
                  rename_i j
                  have hF' : F (if (!(decide (0 ≤ j) && decide (j < n))) = true then some (.int 1) else none) M' := hF
                  refine i_itD (fun e6 => ?_) fun e6 => ?_
                  · rw [decide_eq_true e6, Bool.true_and] at hF'
                    walk_at "dl"
                    refine i_itN (fun e7 => ?_) fun e7 => ?_
                    · rw [decide_eq_true e7] at hF'; walk_at "dl"; exact hF'
                    · rw [decide_eq_false e7] at hF'; walk_at "dl"; exact hF'
                  · rw [decide_eq_false e6, Bool.false_and] at hF'
                    walk_at "dl"; exact hF'
                · walk_at "dl"
                  refine i_ones (p := fun q => !isBelowD q n) ?_
                  rw [show ([a, b].any fun q => !isBelowD q n) = !(isBelowD a n && isBelowD b n) by
                    simp only [List.any_cons, List.any_nil, Bool.or_false, Bool.not_and]]
                  refine i_itnB (fun e6 => ?_) fun e6 => ?_
                  · have e7 := Bool.and_eq_true_iff.mp e6
                    cases a <;> first | (simp [isBelowD] at e7; done) | skip
                    cases b <;> first | (simp [isBelowD] at e7; done) | skip
                    rename_i i1 j1
                    have ep : isPairD n (.tup [.int i1, .int j1]) = decide (i1 ≤ j1) := by
                      show (isBelowD (.int i1) n && isBelowD (.int j1) n && decide (i1 ≤ j1)) = _
                      rw [e6, Bool.true_and]
                    walk_at "dl"
                    refine i_itD (fun e8 => ?_) fun e8 => ?_
                    · walk_at "dl"
                      rw [no (by rw [ep, decide_eq_false (by omega)])] at k
                      exact i_drp0 k
                    · walk_at "dl"
                      exact hF _ _ ⟨_, _, rfl, rfl, yes (by rw [ep, decide_eq_true (by omega)])⟩
                  · walk_at "dl"
                    rw [no (by show (isBelowD a n && isBelowD b n && _) = false; rw [e6, Bool.false_and])] at k
                    exact i_drp0 k
              · walk_at "dl"
                have : isPairD n (.tup us) = false := by
                  match us, e5 with
                  | [a, b], e => exact absurd rfl e
                  | [], _ => rfl
                  | [_], _ => rfl
                  | _ :: _ :: _ :: _, _ => rfl
                rw [no this] at k
                exact i_drp0 k
            · rintro Γ M' ⟨y3, y4, rfl, rfl, e4⟩
              rw [List.take_length] at e4
              rw [e4] at k
              walk_at "dl"
              exact i_drp0 k
        · walk_at "dl"
          rw [show isWebD (.tup [.str x, .int n, c]) = false from sk True fun z => e2 z.2] at k
          exact i_drp0 k
      · walk_at "dl"
        rw [show isWebD (.tup [.str x, .int n, c]) = false from sk True fun z => e1 z.1] at k
        exact i_drp0 k
    · walk_at "dl"
      have : isWebD (.tup [.str x, b, c]) = false := by
        rw [isWebD]
        cases b <;> try rfl
        cases c <;> try rfl
        rw [isW3, decide_eq_false ex]
        rfl
      rw [this] at k
      exact i_drp0 k
  · walk_at "dl"
    have : isWebD (.tup xs) = false := by
      match xs, e with
      | [a, b, c], e => exact absurd rfl e
      | [], _ => rfl
      | [_], _ => rfl
      | [_, _], _ => rfl
      | _ :: _ :: _ :: _ :: _, _ => rfl
    rw [this] at k
    exact i_drp0 k

abbrev s__law_odd : Stmt := topS 36
abbrev nn__law_odd : List Str := ["draws", "some"]
theorem sc__law_odd : FnScope nn__law_odd ["draws"] (defScope s__law_odd) := ⟨rfl, rfl, rfl, by decide +kernel, rfl, by decide +kernel, by decide +kernel⟩
theorem ok__law_odd {P : Program} {w : World} {K : PySem.W.Frag} {mg : Str → Option Value} {base : Heap} {T : List (Addr × Str)}  (B : Blt mg) (G__law_pick : Has P w K mg base T "_law_pick" 3 2 fs__law_pick) {f : Addr} {fd : FuncData} (F : Fun K "_law_odd" "_law_odd" s__law_odd f fd) (hm : mg "_law_odd" = some (.ref f)) (hb : L2.Binds K fd ["draws"] []) : Has P w K mg base T "_law_odd" 4 1 fs__law_odd := by
  refine okD (k := 3) F sc__law_odd hm hb len__law_odd (fun cdv A outer s H E hr => ⟨_, (xss_cons (xs_set (i := 1) sc__law_odd.nd rfl (by first | exact Or.inl rfl | exact Or.inr rfl) (xe_lst (xa_cons xe_non (xa_cons xe_bl (xa_cons xe_int (xa_cons xe_str (xa_cons xe_str (xa_cons (xe_tup xa_nil) (xa_cons (xe_lst xa_nil) (xa_cons xe_dict0 (xa_cons (xe_tup (xa_cons xe_str xa_nil)) (xa_cons (xe_tup (xa_cons xe_str (xa_cons xe_int xa_nil))) (xa_cons (xe_lst (xa_cons xe_str (xa_cons xe_int (xa_cons (xe_tup xa_nil) xa_nil)))) (xa_cons (xe_tup (xa_cons xe_str (xa_cons xe_int (xa_cons (xe_tup xa_nil) xa_nil)))) (xa_cons (xe_tup (xa_cons xe_str (xa_cons xe_int (xa_cons (xe_tup xa_nil) xa_nil)))) (xa_cons (xe_tup (xa_cons xe_str (xa_cons xe_int (xa_cons (xe_lst (xa_cons (xe_tup (xa_cons xe_int (xa_cons xe_int xa_nil))) xa_nil)) xa_nil)))) (xa_cons (xe_tup (xa_cons xe_str (xa_cons xe_bl (xa_cons (xe_tup xa_nil) xa_nil)))) (xa_cons (xe_tup (xa_cons xe_str (xa_cons xe_str (xa_cons (xe_tup xa_nil) xa_nil)))) xa_nil))))))))))))))))))
      (xss_one (xs_ret (xe_call G__law_pick (hr.mono (by decide)) (by rfl) (xa_cons (xv 0) (xa_cons (xe_add (xv 1) (xe_lst (xa_cons (xe_tup (xa_cons xe_str (xa_cons xe_int (xa_cons (xe_tup (xa_cons (xe_tup (xa_cons xe_int (xa_cons xe_int xa_nil))) xa_nil)) xa_nil)))) (xa_cons (xe_tup (xa_cons xe_str (xa_cons xe_int (xa_cons (xe_tup (xa_cons (xe_tup (xa_cons xe_int (xa_cons xe_int xa_nil))) xa_nil)) xa_nil)))) (xa_cons (xe_tup (xa_cons xe_str (xa_cons xe_int (xa_cons (xe_tup (xa_cons (xe_tup (xa_cons xe_int xa_nil)) xa_nil)) xa_nil)))) (xa_cons (xe_tup (xa_cons xe_str (xa_cons xe_int (xa_cons (xe_tup (xa_cons (xe_tup (xa_cons xe_int (xa_cons xe_bl xa_nil))) xa_nil)) xa_nil)))) (xa_cons (xe_tup (xa_cons xe_str (xa_cons xe_int (xa_cons (xe_tup xa_nil) xa_nil)))) (xa_cons (xe_tup (xa_cons xe_str (xa_cons xe_int (xa_cons (xe_mul (xe_tup (xa_cons (xe_tup (xa_cons xe_int (xa_cons xe_int xa_nil))) xa_nil)) xe_int) xa_nil)))) (xa_cons (xe_tup (xa_cons xe_str (xa_cons xe_int (xa_cons (xe_tup (xa_cons (xe_lst (xa_cons xe_int (xa_cons xe_int xa_nil))) xa_nil)) xa_nil)))) xa_nil))))))))) xa_nil)))))), fun ds M Φ h => ?_⟩)
  obtain ⟨d, l, n, rfl, hd, hn, k⟩ := h
  walk_at "dl"
  refine ⟨by simp, by decide, by decide, by decide, ?_⟩
  rw [show (List.replicate (Int.toNat 13) [D.tup [D.int 0, D.int 1]]).flatten = List.replicate 13 (D.tup [D.int 0, D.int 1]) from rfl]
  walk_at "dl"
  refine i_addl (szl (by decide)) ?_
  walk_at "dl"
  refine ⟨d, l, n, _, rfl, hd, hn, by simp, by decide, fun x hx M' h1 h2 => ?_⟩
  have hb : (puD x && !isWebD x) = true := by
    refine (List.all_eq_true (p := fun x => puD x && !isWebD x)).mp ?_ x hx
    decide +kernel
  rw [Bool.and_eq_true] at hb
  exact i_drp0 (k x M' hb.1 (by simpa using hb.2) h1 h2)

abbrev s__law_piece_text : Stmt := topS 37
abbrev nn__law_piece_text : List Str := ["numbers", "number"]
theorem sc__law_piece_text : FnScope nn__law_piece_text ["numbers"] (defScope s__law_piece_text) := ⟨rfl, rfl, rfl, by decide +kernel, rfl, by decide +kernel, by decide +kernel⟩
theorem ok__law_piece_text {P : Program} {w : World} {K : PySem.W.Frag} {mg : Str → Option Value} {base : Heap} {T : List (Addr × Str)}  (B : Blt mg)  {f : Addr} {fd : FuncData} (F : Fun K "_law_piece_text" "_law_piece_text" s__law_piece_text f fd) (hm : mg "_law_piece_text" = some (.ref f)) (hb : L2.Binds K fd ["numbers"] []) : Has P w K mg base T "_law_piece_text" 1 1 fs__law_piece_text := by
  refine okD (k := 0) F sc__law_piece_text hm hb len__law_piece_text (fun cdv A outer s H E hr => ⟨_, (xss_one (xs_ret (xe_add (xe_add xe_str (xe_join xe_str (xe_lc rfl sc__law_piece_text.nd (xi_any (xv 0)) (blkOk_by (own := [("number", 1)]) (N := nn__law_piece_text) (sc := defScope s__law_piece_text) (by decide +kernel)) (tg_name (by decide)) (fun _ _ _ _ _ => pg_name (i := 1) sc__law_piece_text.nd rfl (by first | exact Or.inl rfl | exact Or.inr rfl)) (fun _ _ _ _ _ => xts_nil) (fun _ _ _ _ _ => (xe_callTy call_str_int d_str (by rfl) B.b_str (by decide +kernel) (xa_cons (xv 1) xa_nil)))))) xe_str))), fun ds M Φ h => ?_⟩)
  obtain ⟨t, rfl, h1, h2, h3, h4, k⟩ := h
  have lg : ∀ i : Int, 0 ≤ i → i < 100 → i.natAbs.log2 < 1920 := fun i a b => by
    by_cases z : i.natAbs = 0
    · rw [z]; decide
    · have : i.natAbs.log2 < 7 := by rw [Nat.log2_lt z]; omega
      omega
  have ts : ∀ i : Int, 0 ≤ i → tl (Str.ofString (toString i)) = numL i.toNat := fun i a => by
    obtain ⟨n, rfl⟩ := Int.eq_ofNat_of_zero_le a
    exact tl_num n
  have nl : ∀ i : Int, 0 ≤ i → i < 100 → (numL i.toNat).length ≤ 2 := fun i a b => numL_len (by decide) (by show i.toNat < 100; omega)
  unfold pairD
  walk_at "dl"
  refine lc_by (fun x => some (match x with
    | .int i => .str (Str.ofString (toString i))
    | _ => .non)) ?_ (fun x hx M' _ F hF => ?_) ?_
  · exact szl (show 2 ≤ _ by decide)
  · rcases List.mem_cons.mp hx with rfl | hx
    · walk_at "dl"
      refine i_str (lg _ h1 h2) hF
    · rcases List.mem_singleton.mp hx with rfl
      walk_at "dl"
      refine i_str (lg _ h3 h4) hF
  · walk_at "dl"
    have l1 : (Str.ofString (toString t.1)).length ≤ 2 := by rw [len_tl, ts _ h1]; exact nl _ h1 h2
    have l2 : (Str.ofString (toString t.2)).length ≤ 2 := by rw [len_tl, ts _ h3]; exact nl _ h3 h4
    refine i_join (ys := [Str.ofString (toString t.1), Str.ofString (toString t.2)]) rfl ?_ ?_
    · show (Str.ofString (toString t.1)).length + ((Str.ofString (toString t.2)).length + 0) + 2 * 1 ≤ _
      omega
    walk_at "dl"
    have ej : tl (Txt.join (Str.ofString ",") [Str.ofString (toString t.1), Str.ofString (toString t.2)]) = joinL [44] ([t.1.toNat, t.2.toNat].map numL) := by
      rw [join_eq, tl_join, show tl (Str.ofString ",") = [44] by decide +kernel]
      show joinL [44] [tl (Str.ofString (toString t.1)), tl (Str.ofString (toString t.2))] = _
      rw [ts _ h1, ts _ h3]
      rfl
    have lj : (joinL [44] ([t.1.toNat, t.2.toNat].map numL)).length ≤ 5 := by
      show (numL t.1.toNat ++ ([44] ++ numL t.2.toNat)).length ≤ 5
      simp only [List.length_append, List.length_singleton]
      have := nl _ h1 h2; have := nl _ h3 h4; omega
    have ll : (Txt.join (Str.ofString ",") [Str.ofString (toString t.1), Str.ofString (toString t.2)]).length ≤ 5 := by rw [len_tl, ej]; exact lj
    refine i_adds ?_ ?_
    · show 1 + _ ≤ _; exact szl (by omega)
    walk_at "dl"
    refine i_adds ?_ ?_
    · rw [len_tl, tl_append, List.length_append, ← len_tl (Txt.join _ _)]; show 1 + _ + 1 ≤ _; exact szl (by omega)
    refine i_drp0 ?_
    rw [show (Str.ofString "(" ++ Txt.join (Str.ofString ",") [Str.ofString (toString t.1), Str.ofString (toString t.2)] ++ Str.ofString ")" : Str) = ⟨(pieceL [t.1.toNat, t.2.toNat]).toArray⟩ from ext_tl (by
      rw [tl_append, tl_append, ej, show tl (Str.ofString "(") = [40] by decide +kernel, show tl (Str.ofString ")") = [41] by decide +kernel]
      show _ = pieceL _
      unfold pieceL
      simp)]
    exact k

abbrev s__law_web_text : Stmt := topS 38
abbrev nn__law_web_text : List Str := ["web", "tie"]
theorem sc__law_web_text : FnScope nn__law_web_text ["web"] (defScope s__law_web_text) := ⟨rfl, rfl, rfl, by decide +kernel, rfl, by decide +kernel, by decide +kernel⟩
theorem ok__law_web_text {P : Program} {w : World} {K : PySem.W.Frag} {mg : Str → Option Value} {base : Heap} {T : List (Addr × Str)}  (B : Blt mg) (G__law_piece_text : Has P w K mg base T "_law_piece_text" 1 1 fs__law_piece_text) {f : Addr} {fd : FuncData} (F : Fun K "_law_web_text" "_law_web_text" s__law_web_text f fd) (hm : mg "_law_web_text" = some (.ref f)) (hb : L2.Binds K fd ["web"] []) : Has P w K mg base T "_law_web_text" 2 1 fs__law_web_text := by
  refine okD (k := 1) F sc__law_web_text hm hb len__law_web_text (fun cdv A outer s H E hr => ⟨_, (xss_one (xs_ret (xe_join xe_str (xe_add (xe_lst (xa_cons xe_str (xa_cons (xe_callTy call_str_int d_str (by rfl) B.b_str (by decide +kernel) (xa_cons (xe_item (xv 0) xe_int) xa_nil)) xa_nil))) (xe_lc rfl sc__law_web_text.nd (xi_any (xe_item (xv 0) xe_int)) (blkOk_by (own := [("tie", 1)]) (N := nn__law_web_text) (sc := defScope s__law_web_text) (by decide +kernel)) (tg_name (by decide)) (fun _ _ _ _ _ => pg_name (i := 1) sc__law_web_text.nd rfl (by first | exact Or.inl rfl | exact Or.inr rfl)) (fun _ _ _ _ _ => xts_nil) (fun _ _ _ _ _ => (xe_call G__law_piece_text (hr.mono (by decide)) (by rfl) (xa_cons (xv 1) xa_nil)))))))), fun ds M Φ h => ?_⟩)
  obtain ⟨n, ts, rfl, g, k⟩ := h
  unfold webD
  walk_at "dl"
  have hn : 0 ≤ n := by have := g.lo; omega
  refine i_str ?_ ?_
  · have : n.natAbs.log2 < 7 := by rw [Nat.log2_lt (by have := g.lo; omega)]; have := g.hi; omega
    omega
  walk_at "dl"
  refine lc_by (fun x => some (match x with
    | .tup [.int a, .int b] => strL (pieceL [a.toNat, b.toNat])
    | _ => .non)) ?_ (fun x hx M' _ F hF => ?_) ?_
  · rw [List.length_map]; exact szl (by have := g.len; omega)
  · obtain ⟨t, ht, rfl⟩ := List.mem_map.mp hx
    have := g.ok t ht
    have := g.hi
    walk_at "dl"
    exact ⟨t, rfl, by omega, by omega, by omega, by omega, hF⟩
  · walk_at "dl"
    have ts' : tl (Str.ofString (toString n)) = numL n.toNat := by
      obtain ⟨m, rfl⟩ := Int.eq_ofNat_of_zero_le hn
      exact tl_num m
    have hg := g.len
    rw [List.filterMap_eq_map', List.map_map]
    have e1 : (ts.map ((fun x => match x with
        | D.tup [D.int a, D.int b] => strL (pieceL [a.toNat, b.toNat])
        | _ => D.non) ∘ pairD)) = (ts.map fun t => (⟨(pieceL [t.1.toNat, t.2.toNat]).toArray⟩ : Str)).map D.str := by
      rw [List.map_map]; rfl
    rw [e1]
    refine i_addl (szl (by rw [List.length_map, List.length_map]; show 2 + _ ≤ _; omega)) ?_
    have nl : ∀ i : Nat, i < 100 → (numL i).length ≤ 2 := fun i a => numL_len (by decide) (by show i < 100; exact a)
    have pl : ∀ t ∈ ts, (pieceL [t.1.toNat, t.2.toNat]).length ≤ 7 := fun t ht => by
      have := g.ok t ht
      have := g.hi
      have a1 := nl t.1.toNat (by omega)
      have a2 := nl t.2.toNat (by omega)
      show (40 :: ((numL t.1.toNat ++ ([44] ++ numL t.2.toNat)) ++ [41])).length ≤ 7
      simp only [List.length_cons, List.length_append, List.length_nil]
      omega
    refine i_join (ys := Str.ofString "web" :: Str.ofString (toString n) :: ts.map fun t => (⟨(pieceL [t.1.toNat, t.2.toNat]).toArray⟩ : Str)) rfl ?_ ?_
    · have sm : ∀ l : List (Int × Int), (∀ t ∈ l, (pieceL [t.1.toNat, t.2.toNat]).length ≤ 7) → ((l.map fun t => (⟨(pieceL [t.1.toNat, t.2.toNat]).toArray⟩ : Str)).map (·.length)).sum ≤ 7 * l.length := by
        intro l
        induction l with
        | nil => intro _; exact Nat.le_refl _
        | cons t l ih =>
          intro h
          have h1 := h t (by simp)
          have h2 := ih fun q hq => h q (by simp [hq])
          simp only [List.map_cons, List.sum_cons, List.length_cons]
          have : (⟨(pieceL [t.1.toNat, t.2.toNat]).toArray⟩ : Str).length = (pieceL [t.1.toNat, t.2.toNat]).length := by rw [len_tl]
          omega
      have h7 := sm ts pl
      have hw : (Str.ofString "web").length = 3 := by decide +kernel
      have hsp : (Str.ofString " ").length = 1 := by decide +kernel
      have hnn : (Str.ofString (toString n)).length ≤ 2 := by rw [len_tl, ts']; exact nl _ (by have := g.hi; omega)
      rw [List.map_cons, List.map_cons, List.sum_cons, List.sum_cons, hw, hsp, List.length_cons, List.length_cons, List.length_map]
      omega
    refine i_drp0 ?_
    rw [show Txt.join (Str.ofString " ") (Str.ofString "web" :: Str.ofString (toString n) :: ts.map fun t => (⟨(pieceL [t.1.toNat, t.2.toNat]).toArray⟩ : Str)) = (⟨(webTextL n ts).toArray⟩ : Str) from ext_tl (by
      rw [join_eq, tl_join, List.map_cons, List.map_cons, ts', List.map_map, show tl (Str.ofString " ") = [32] by decide +kernel, show tl (Str.ofString "web") = webL by decide +kernel]
      rfl)]
    exact k

abbrev s__law_number_of : Stmt := topS 39
abbrev nn__law_number_of : List Str := ["word", "letter"]
theorem sc__law_number_of : FnScope nn__law_number_of ["word"] (defScope s__law_number_of) := ⟨rfl, rfl, rfl, by decide +kernel, rfl, by decide +kernel, by decide +kernel⟩
theorem ok__law_number_of {P : Program} {w : World} {K : PySem.W.Frag} {mg : Str → Option Value} {base : Heap} {T : List (Addr × Str)}  (B : Blt mg)  {f : Addr} {fd : FuncData} (F : Fun K "_law_number_of" "_law_number_of" s__law_number_of f fd) (hm : mg "_law_number_of" = some (.ref f)) (hb : L2.Binds K fd ["word"] []) : Has P w K mg base T "_law_number_of" 1 1 fs__law_number_of := by
  refine okD (k := 0) F sc__law_number_of hm hb len__law_number_of (fun cdv A outer s H E hr => ⟨_, (xss_cons (xs_if (xt_w (xw_or (xt_eq hr.units (xv 0) xe_str) (xw_or (xt_gt (xe_callB call_len d_len (by rfl) B.b_len (by decide +kernel) (xa_cons (xv 0) xa_nil)) xe_int) (xw_or1 (xt_ne hr.units (xe_lc rfl sc__law_number_of.nd (xi_any (xv 0)) (blkOk_by (own := [("letter", 1)]) (N := nn__law_number_of) (sc := defScope s__law_number_of) (by decide +kernel)) (tg_name (by decide)) (fun _ _ _ _ _ => pg_name (i := 1) sc__law_number_of.nd rfl (by first | exact Or.inl rfl | exact Or.inr rfl)) (fun _ _ _ _ _ => (xts_one (xt_notIn (xv 1) xe_str))) (fun _ _ _ _ _ => xe_int)) (xe_lst xa_nil))))))
      (xss_one (xs_ret xe_non))
      xss_nil)
      (xss_one (xs_ret (xe_if (xt_w (xw_and (xt_eq hr.units (xe_callB call_len d_len (by rfl) B.b_len (by decide +kernel) (xa_cons (xv 0) xa_nil)) xe_int) (xw_and1 (xt_eq hr.units (xe_item (xv 0) xe_int) xe_str)))) xe_non (xe_callTy call_intA d_int (by rfl) B.b_int (by decide +kernel) (xa_cons (xv 0) xa_nil)))))), fun ds M Φ h => ?_⟩)
  obtain ⟨w, rfl, hw, k⟩ := h
  have hl : w.length = (tl w).length := len_tl w
  walk_at "dl"
  refine i_itD (fun e1 => ?_) (fun e1 => ?_)
  · walk_at "dl"
    rw [e1, show numOf (tl (Str.ofString "")) = none from rfl] at k
    exact i_drp0 k
  · walk_at "dl"
    have l0 : tl w ≠ [] := fun z => e1 (ext_tl z)
    refine i_lens (szl (by omega)) ?_
    walk_at "dl"
    refine i_itD (fun e2 => ?_) fun e2 => ?_
    · walk_at "dl"
      have : numOf (tl w) = none := by
        match h : tl w with
        | [] => rfl
        | [_] => rw [hl, h] at e2; simp at e2 <;> omega
        | [_, _] => rw [hl, h] at e2; simp at e2
        | _ :: _ :: _ :: _ => rfl
      rw [this] at k
      exact i_drp0 k
    · walk_at "dl"
      have l1 : 1 ≤ (tl w).length := by
        cases h : tl w with
        | nil => exact absurd h l0
        | cons _ _ => simp
      refine lc_by (fun x => if (!digB (oneC x)) = true then some (.int 1) else none) ?_ (fun x hx M' _ F hF => ?_) ?_
      · rw [List.length_map]; show (tl w).length ≤ _; exact szl (by omega)
      · obtain ⟨c, hc, rfl⟩ := List.mem_map.mp hx
        walk_at "dl"
        rw [dig_in]
        have hF' : F (if (!digB c) = true then some (.int 1) else none) M' := hF
        cases hc : digB c with
        | true => rw [hc] at hF'; walk_at "dl"; exact hF'
        | false => rw [hc] at hF'; walk_at "dl"; exact hF'
      · walk_at "dl"
        refine i_ones (p := fun x => !digB (oneC x)) ?_
        have ea : ((w.cps.toList.map fun c => D.str ⟨#[c]⟩).any fun x => !digB (oneC x)) = !((tl w).all digB) := by
          rw [List.any_map, List.all_eq_not_any_not, Bool.not_not]
          rfl
        rw [ea]
        refine i_itnB (fun e3 => ?_) fun e3 => ?_
        · walk_at "dl"
          refine i_lens (szl (by omega)) ?_
          walk_at "dl"
          have nk := num_key (l := tl w) (by omega) (by omega) e3
          have ad : NumText.AllDigits w.cps.toList := fun c hc => digB_iff.mp (List.all_eq_true.mp e3 c hc)
          refine i_itD (fun e4 => ?_) fun e4 => ?_
          · walk_at "dl"
            match h : tl w with
            | [] => exact absurd h l0
            | [_] => rw [hl, h] at e4; simp at e4
            | [a, b] =>
              refine i_ixs (c := a) (szl (by omega)) (by show atI (tl w) 0 = some a; rw [h]; rfl) ?_
              walk_at "dl"
              have e0 : (⟨#[a]⟩ : Str) = Str.ofString "0" ↔ a = 48 := by
                constructor
                · intro z; have := congrArg tl z; rw [show tl (Str.ofString "0") = [48] by decide +kernel] at this; simpa [tl] using this
                · intro z; subst z; exact ext_tl (by decide +kernel)
              have hd := e3
              rw [h] at hd
              simp only [List.all_cons, List.all_nil, Bool.and_true] at hd
              refine i_itD (fun e5 => ?_) fun e5 => ?_
              · walk_at "dl"
                rw [h, numOf, if_pos hd, if_pos (e0.mp e5)] at k
                exact i_drp0 k
              · walk_at "dl"
                refine ⟨_, intText_digits ad l0 (by omega), by omega, ?_⟩
                rw [h, numOf, if_pos hd, if_neg fun z => e5 (e0.mpr z)] at k
                rw [show w.cps.toList = [a, b] from h, show NumText.digitsVal [a, b] = (a - 48) * 10 + (b - 48) by simp [NumText.digitsVal]]
                exact i_drp0 k
            | _ :: _ :: _ :: _ => rw [hl, h] at e2; simp at e2 <;> omega
          · walk_at "dl"
            refine ⟨_, intText_digits ad l0 (by omega), by omega, ?_⟩
            match h : tl w with
            | [] => exact absurd h l0
            | [a] =>
              rw [h] at e3
              simp only [List.all_cons, List.all_nil, Bool.and_true] at e3
              rw [h, numOf, if_pos e3] at k
              rw [show w.cps.toList = [a] from h, show NumText.digitsVal [a] = a - 48 by simp [NumText.digitsVal]]
              exact i_drp0 k
            | [_, _] => rw [hl, h] at e4; simp at e4
            | _ :: _ :: _ :: _ => rw [hl, h] at e2; simp at e2 <;> omega
        · walk_at "dl"
          have : numOf (tl w) = none := by
            match h : tl w with
            | [] => rfl
            | [a] =>
              rw [h] at e3
              simp only [List.all_cons, List.all_nil, Bool.and_true] at e3
              rw [numOf, if_neg (by rw [e3]; exact Bool.false_ne_true)]
            | [a, b] =>
              rw [h] at e3
              simp only [List.all_cons, List.all_nil, Bool.and_true] at e3
              rw [numOf, if_neg (by rw [e3]; exact Bool.false_ne_true)]
            | _ :: _ :: _ :: _ => rfl
          rw [this] at k
          exact i_drp0 k

abbrev s__law_numbers_of : Stmt := topS 40
abbrev nn__law_numbers_of : List Str := ["piece", "found", "word"]
theorem sc__law_numbers_of : FnScope nn__law_numbers_of ["piece"] (defScope s__law_numbers_of) := ⟨rfl, rfl, rfl, by decide +kernel, rfl, by decide +kernel, by decide +kernel⟩
theorem ok__law_numbers_of {P : Program} {w : World} {K : PySem.W.Frag} {mg : Str → Option Value} {base : Heap} {T : List (Addr × Str)}  (B : Blt mg) (G__law_number_of : Has P w K mg base T "_law_number_of" 1 1 fs__law_number_of) {f : Addr} {fd : FuncData} (F : Fun K "_law_numbers_of" "_law_numbers_of" s__law_numbers_of f fd) (hm : mg "_law_numbers_of" = some (.ref f)) (hb : L2.Binds K fd ["piece"] []) : Has P w K mg base T "_law_numbers_of" 2 1 fs__law_numbers_of := by
  refine okD (k := 1) F sc__law_numbers_of hm hb len__law_numbers_of (fun cdv A outer s H E hr => ⟨_, (xss_cons (xs_if (xt_w (xw_or (xt_lt (xe_callB call_len d_len (by rfl) B.b_len (by decide +kernel) (xa_cons (xv 0) xa_nil)) xe_int) (xw_or (xt_ne hr.units (xe_slice (xv 0) xo_no (xo_at xe_int)) xe_str) (xw_or1 (xt_ne hr.units (xe_slice (xv 0) (xo_at (xe_neg xe_int)) xo_no) xe_str)))))
      (xss_one (xs_ret xe_non))
      xss_nil)
      (xss_cons (xs_set (i := 1) sc__law_numbers_of.nd rfl (by first | exact Or.inl rfl | exact Or.inr rfl) (xe_if (xt_gt (xe_callB call_len d_len (by rfl) B.b_len (by decide +kernel) (xa_cons (xv 0) xa_nil)) xe_int) (xe_callTy call_tuple_of d_tuple (by rfl) B.b_tuple (by decide +kernel) (xa_cons (xe_lc rfl sc__law_numbers_of.nd (xi_any (xe_split (xe_slice (xv 0) (xo_at xe_int) (xo_at (xe_neg xe_int))) xe_str)) (blkOk_by (own := [("word", 2)]) (N := nn__law_numbers_of) (sc := defScope s__law_numbers_of) (by decide +kernel)) (tg_name (by decide)) (fun _ _ _ _ _ => pg_name (i := 2) sc__law_numbers_of.nd rfl (by first | exact Or.inl rfl | exact Or.inr rfl)) (fun _ _ _ _ _ => xts_nil) (fun _ _ _ _ _ => (xe_call G__law_number_of (hr.mono (by decide)) (by rfl) (xa_cons (xv 2) xa_nil)))) xa_nil)) (xe_tup xa_nil)))
      (xss_one (xs_ret (xe_if (xt_in xe_non (xv 1)) xe_non (xv 1)))))), fun ds M Φ h => ?_⟩)
  obtain ⟨w, rfl, hw, k⟩ := h
  have hl : w.length = (tl w).length := len_tl w
  have bad : (w.length < 2 ∨ (tl w).head? ≠ some 40 ∨ (tl w).getLast? ≠ some 41) → numsOf (tl w) = none := fun h => by
    unfold numsOf
    rw [if_pos (by rw [← hl]; exact h)]
  have ec : ∀ (x y : Nat), (⟨#[x]⟩ : Str) = ⟨#[y]⟩ ↔ x = y := fun x y => ⟨fun z => by have := congrArg tl z; simpa [tl] using this, fun z => by rw [z]⟩
  walk_at "dl"
  refine i_lens (szl (by omega)) ?_
  walk_at "dl"
  refine i_itD (fun e1 => ?_) (fun e1 => ?_)
  · walk_at "dl"
    rw [bad (.inl (by omega))] at k
    exact i_drp0 k
  · walk_at "dl"
    obtain ⟨c, r, hc⟩ : ∃ c r, tl w = c :: r := by
      cases h : tl w with
      | nil => rw [hl, h] at e1; simp at e1
      | cons c r => exact ⟨c, r, rfl⟩
    obtain ⟨c2, hc2⟩ : ∃ c2, (tl w).getLast? = some c2 := by
      rw [hc]
      exact ⟨_, List.getLast?_eq_some_getLast (by simp)⟩
    refine i_sls (szl (by omega)) ?_
    rw [show cutS w none (some 1) = (⟨#[c]⟩ : Str) from ext_tl (by rw [tl_cut_head (by omega), hc]; rfl)]
    walk_at "dl"
    refine i_itN (fun e2 => ?_) fun e2 => ?_
    · have e2' : c = 40 := (ec c 40).mp e2
      walk_at "dl"
      refine i_sls (szl (by omega)) ?_
      rw [show cutS w (some (-1)) none = (⟨#[c2]⟩ : Str) from ext_tl (by
        rw [tl_cut_last (by omega), hl]
        exact last_drop hc2)]
      walk_at "dl"
      refine i_itN (fun e3 => ?_) fun e3 => ?_
      · have e3' : c2 = 41 := (ec c2 41).mp e3
        subst e2'
        subst e3'
        have good : numsOf (tl w) = if (tl w).length = 2 then some [] else optAll ((spl [44] 0 [] (inner (tl w))).map numOf) := by
          unfold numsOf
          rw [if_neg (by rw [hc2, hc]; simp; rw [hl, hc] at e1; simp at e1; omega)]
        walk_at "dl"
        refine i_lens (szl (by omega)) ?_
        walk_at "dl"
        refine i_itD (fun e4 => ?_) fun e4 => ?_
        · walk_at "dl"
          refine i_sls (szl (by omega)) ?_
          walk_at "dl"
          have hci : tl (cutS w (some 1) (some (-1))) = inner (tl w) := tl_cut_inner (by omega)
          have hli : (inner (tl w)).length ≤ 1000000 := by unfold inner; rw [List.length_dropLast, List.length_drop]; omega
          have hlc : (cutS w (some 1) (some (-1))).length = (inner (tl w)).length := by rw [len_tl, hci]
          refine i_split rfl (szl (by omega)) ?_
          rw [split_words (s := 44) (by decide +kernel) (by decide +kernel), hci]
          walk_at "dl"
          obtain ⟨sl1, sl2⟩ := spl_len (s := 44) (inner (tl w)) []
          refine lc_by (fun x => some (match x with
            | .str z => optI (numOf (tl z))
            | _ => .non)) ?_ (fun x hx M' _ F hF => ?_) ?_
          · rw [List.length_map, List.length_map]; exact szl (by omega)
          · obtain ⟨z, hz, rfl⟩ := List.mem_map.mp hx
            obtain ⟨p, hp, rfl⟩ := List.mem_map.mp hz
            walk_at "dl"
            have := sl2 p hp
            exact ⟨_, rfl, by rw [len_tl, tl_mk]; simp at this; omega, hF⟩
          · walk_at "dl"
            have eo : ((List.map D.str (List.map (fun l => (⟨l.toArray⟩ : Str)) (spl [44] 0 [] (inner (tl w))))).filterMap fun x => some (match x with
                | .str z => optI (numOf (tl z))
                | _ => .non)) = ((spl [44] 0 [] (inner (tl w))).map numOf).map optI := by
              rw [List.filterMap_eq_map', List.map_map, List.map_map, List.map_map]
              rfl
            rw [eo]
            rw [good, if_neg (by omega)] at k
            generalize (spl [44] 0 [] (inner (tl w))).map numOf = os at *
            refine i_inq (xs := os.map optI) rfl rfl ?_ (fun x z h => by cases h) ?_
            · rw [List.all_map, List.all_eq_true]
              intro o _
              cases o <;> rfl
            have ea : ((os.map optI).any fun y => eqF y .non) = (optAll os).isNone := by
              rw [List.any_map, Bool.eq_iff_iff, List.any_eq_true, Option.isNone_iff_eq_none, optAll_none]
              refine exists_congr fun o => and_congr_right fun _ => ?_
              cases o <;> simp [optI, eqF, vOf, eqV]
            rw [ea]
            cases ho : optAll os with
            | none => walk_at "dl"; rw [ho] at k; exact i_drp0 k
            | some l =>
              walk_at "dl"
              rw [ho] at k
              rw [optAll_some ho, List.map_map]
              exact i_drp0 k
        · walk_at "dl"
          refine i_inq (xs := []) rfl rfl rfl (fun x z h => by cases h) ?_
          walk_at "dl"
          rw [good, if_pos (by omega)] at k
          exact i_drp0 k
      · walk_at "dl"
        rw [bad (.inr (.inr (by rw [hc2]; exact fun z => e3 ((ec c2 41).mpr (Option.some.inj z)))))] at k
        exact i_drp0 k
    · walk_at "dl"
      rw [bad (.inr (.inl (by rw [hc]; exact fun z => e2 ((ec c 40).mpr (Option.some.inj z)))))] at k
      exact i_drp0 k

abbrev s__law_web_of : Stmt := topS 41
abbrev nn__law_web_of : List Str := ["text", "words", "n", "found", "at", "piece", "tie"]
theorem sc__law_web_of : FnScope nn__law_web_of ["text"] (defScope s__law_web_of) := ⟨rfl, rfl, rfl, by decide +kernel, rfl, by decide +kernel, by decide +kernel⟩
theorem ok__law_web_of {P : Program} {w : World} {K : PySem.W.Frag} {mg : Str → Option Value} {base : Heap} {T : List (Addr × Str)}  (B : Blt mg) (G__law_is_web : Has P w K mg base T "_law_is_web" 1 1 fs__law_is_web) (G__law_number_of : Has P w K mg base T "_law_number_of" 1 1 fs__law_number_of) (G__law_numbers_of : Has P w K mg base T "_law_numbers_of" 2 1 fs__law_numbers_of) {f : Addr} {fd : FuncData} (F : Fun K "_law_web_of" "_law_web_of" s__law_web_of f fd) (hm : mg "_law_web_of" = some (.ref f)) (hb : L2.Binds K fd ["text"] []) : Has P w K mg base T "_law_web_of" 3 1 fs__law_web_of := by
  refine okD (k := 2) F sc__law_web_of hm hb len__law_web_of (fun cdv A outer s H E hr => ⟨_, (xss_cons (xs_set (i := 1) sc__law_web_of.nd rfl (by first | exact Or.inl rfl | exact Or.inr rfl) (xe_split (xv 0) xe_str))
      (xss_cons (xs_if (xt_ne hr.units (xe_item (xv 1) xe_int) xe_str)
      (xss_one (xs_ret (xe_tup (xa_cons xe_non (xa_cons xe_int xa_nil)))))
      xss_nil)
      (xss_cons (xs_set (i := 2) sc__law_web_of.nd rfl (by first | exact Or.inl rfl | exact Or.inr rfl) (xe_if (xt_gt (xe_callB call_len d_len (by rfl) B.b_len (by decide +kernel) (xa_cons (xv 1) xa_nil)) xe_int) (xe_call G__law_number_of (hr.mono (by decide)) (by rfl) (xa_cons (xe_item (xv 1) xe_int) xa_nil)) xe_non))
      (xss_cons (xs_if (xt_w (xw_or (xt_is (xv 2) xe_non) (xw_or1 (xt_not (xt_val (xe_call G__law_is_web (hr.mono (by decide)) (by rfl) (xa_cons (xe_tup (xa_cons xe_str (xa_cons (xv 2) (xa_cons (xe_tup xa_nil) xa_nil)))) xa_nil)))))))
      (xss_one (xs_ret (xe_tup (xa_cons xe_non (xa_cons xe_int xa_nil)))))
      xss_nil)
      (xss_cons (xs_set (i := 3) sc__law_web_of.nd rfl (by first | exact Or.inl rfl | exact Or.inr rfl) (xe_tup xa_nil))
      (xss_cons (xs_for (vs := [4, 5]) PassesOwn.never rfl (xi_enum (by rfl) B.b_enumerate (xa_cons (xe_slice (xv 1) (xo_at xe_int) xo_no) xa_nil)) (pg_tup rfl (pgs_cons (pg_name (i := 4) sc__law_web_of.nd rfl (by first | exact Or.inl rfl | exact Or.inr rfl)) (pgs_cons (pg_name (i := 5) sc__law_web_of.nd rfl (by first | exact Or.inl rfl | exact Or.inr rfl)) pgs_nil))) (tg_pair (i := 4) (j := 5) (by decide) (by decide))
      (xss_cons (xs_set (i := 6) sc__law_web_of.nd rfl (by first | exact Or.inl rfl | exact Or.inr rfl) (xe_call G__law_numbers_of (hr.mono (by decide)) (by rfl) (xa_cons (xv 5) xa_nil)))
      (xss_cons (xs_if (xt_w (xw_or (xt_is (xv 6) xe_non) (xw_or1 (xt_not (xt_val (xe_call G__law_is_web (hr.mono (by decide)) (by rfl) (xa_cons (xe_tup (xa_cons xe_str (xa_cons (xv 2) (xa_cons (xe_add (xv 3) (xe_tup (xa_cons (xv 6) xa_nil))) xa_nil)))) xa_nil)))))))
      (xss_one (xs_ret (xe_tup (xa_cons xe_non (xa_cons (xe_add (xv 4) xe_int) xa_nil)))))
      xss_nil)
      (xss_one (xs_set (i := 3) sc__law_web_of.nd rfl (by first | exact Or.inl rfl | exact Or.inr rfl) (xe_add (xv 3) (xe_tup (xa_cons (xv 6) xa_nil))))))))
      (xss_one (xs_ret (xe_tup (xa_cons (xe_tup (xa_cons xe_str (xa_cons (xv 2) (xa_cons (xv 3) xa_nil)))) (xa_cons xe_non xa_nil))))))))))), fun ds M Φ h => ?_⟩)
  obtain ⟨z, rfl, hz, k⟩ := h
  have es := split_words (z := z) (y := Str.ofString " ") (s := 32) (by decide +kernel) (by decide +kernel)
  have hl : z.length = (tl z).length := len_tl z
  obtain ⟨s1, s2⟩ := spl_len (s := 32) (tl z) []
  have sn := spl_ne (s := 32) (tl z) []
  unfold words at k
  walk_at "dl"
  refine i_split rfl (szl (by omega)) ?_
  rw [es]
  generalize spl [32] 0 [] (tl z) = qs at *
  obtain ⟨w, r, rfl⟩ : ∃ w r, qs = w :: r := by
    cases qs with
    | nil => exact absurd rfl sn
    | cons w r => exact ⟨w, r, rfl⟩
  have ew : (⟨w.toArray⟩ : Str) = Str.ofString "web" ↔ w = webL := by
    constructor
    · intro z; have := congrArg tl z; rw [tl_mk, show tl (Str.ofString "web") = webL by decide +kernel] at this; exact this
    · intro z; exact ext_tl (by rw [tl_mk, z]; decide +kernel)
  simp only [List.map_cons]
  walk_at "dl"
  refine i_itN (fun e1 => ?_) fun e1 => ?_
  · have e1' := ew.mp e1
    rw [e1'] at k
    walk_at "dl"
    cases r with
    | nil =>
      simp only [List.map_nil]
      refine i_itDF (by simp) ?_
      walk_at "dl"
      try with_reducible refine i_itT ?_
      walk_at "dl"
      rw [readW_1] at k
      exact i_drp0 k
    | cons v ps =>
      simp only [List.map_cons]
      refine i_itDT (by simp; omega) ?_
      walk_at "dl"
      have lv : v.length ≤ 900000 := by have := s2 v (by simp); simp only [List.length_nil] at this; omega
      have lps : ∀ p ∈ ps, p.length ≤ 900000 := fun p hp => by have := s2 p (by simp [hp]); simp only [List.length_nil] at this; omega
      have lpn : ps.length ≤ 900000 := by simp only [List.length_cons] at s1; omega
      refine ⟨_, rfl, by rw [len_tl, tl_mk]; omega, ?_⟩
      rw [tl_mk]
      cases hv : numOf v with
      | none =>
        walk_at "dl"
        refine i_itT ?_
        walk_at "dl"
        rw [readW_none hv] at k
        exact i_drp0 k
      | some n =>
        rw [readW_some hv] at k
        dsimp only [optI]
        walk_at "dl"
        try with_reducible refine i_itF ?_
        walk_at "dl"
        refine ⟨_, rfl, rfl, ?_⟩
        unfold readN at k
        have e0 : isWebD (.tup [.str "web", .int (n : Int), .tup []]) = decide (1 ≤ (n : Int) ∧ (n : Int) ≤ 8) := by
          show (decide ((Str.ofString "web") = Str.ofString "web") && (decide (1 ≤ (n : Int)) && decide ((n : Int) ≤ 8)) && decide ((([] : List D).length : Int) ≤ 12) && true) = _
          rw [decide_eq_true rfl]
          by_cases h1 : (1 : Int) ≤ n <;> by_cases h2 : (n : Int) ≤ 8 <;> simp [h1, h2]
        rw [e0]
        refine i_itN (fun e2 => ?_) fun e2 => ?_
        · rw [if_pos e2] at k
          walk_at "dl"
          rw [cut2]
          refine for_by (fun i Γ M' => ∃ y4 y5 y6, Γ = [some (.str z), some (.lst (D.str ⟨w.toArray⟩ :: D.str ⟨v.toArray⟩ :: List.map D.str (List.map (fun l => (⟨l.toArray⟩ : Str)) ps))), some (.int (n : Int)), some (.tup (((ps.take i).map fun p => (tieOf n p).getD (0, 0)).map pairD)), y4, y5, y6] ∧ M' = M ∧ i ≤ 12 ∧ takeT n 12 ps = ((ps.take i).map fun p => (tieOf n p).getD (0, 0)) ++ takeT n (12 - i) (ps.drop i) ∧ ∀ p ∈ ps.take i, (tieOf n p).isSome = true) ⟨_, _, _, rfl, rfl, by omega, by simp, by simp⟩ ?_ ?_
          · rintro i x Γ M' FF hx ⟨y4, y5, y6, rfl, rfl, hi, e3, e4⟩ hF
            obtain ⟨d, hd, rfl⟩ := enD_get hx
            rw [List.getElem?_map, List.getElem?_map] at hd
            obtain ⟨p, hp, rfl⟩ : ∃ p, ps[i]? = some p ∧ d = .str ⟨p.toArray⟩ := by
              cases e : ps[i]? with
              | none => rw [e] at hd; cases hd
              | some p => rw [e] at hd; exact ⟨p, rfl, (Option.some.inj hd).symm⟩
            have hil : i < ps.length := (List.getElem?_eq_some_iff.mp hp).1
            have hpm : p ∈ ps := List.mem_of_getElem? hp
            have hdr : ps.drop i = p :: ps.drop (i + 1) := by rw [List.drop_eq_getElem_cons hil, (List.getElem?_eq_some_iff.mp hp).2]
            have ht : ps.take (i + 1) = ps.take i ++ [p] := by rw [List.take_succ, hp]; rfl
            have lli : ((ps.take i).map fun p => (tieOf (n : Int) p).getD (0, 0)).length = i := by rw [List.length_map, List.length_take]; omega
            have okF : ∀ t ∈ (ps.take i).map fun p => (tieOf (n : Int) p).getD (0, 0), 0 ≤ t.1 ∧ t.1 ≤ t.2 ∧ t.2 < n := fun t ht => by
              obtain ⟨q, hq, rfl⟩ := List.mem_map.mp ht
              obtain ⟨t, ht⟩ := Option.isSome_iff_exists.mp (e4 q hq)
              rw [ht]; exact (tie_data ht).2
            generalize hFd : ((ps.take i).map fun p => (tieOf (n : Int) p).getD (0, 0)) = Fd at *
            have stop : (i = 12 ∨ tieOf n p = none) → webOfR (.inl (i + 2)) M' Φ := fun hs => by
              have e5 : takeT n 12 ps = Fd := by
                rw [e3, hdr]
                rcases hs with rfl | hs
                · simp [takeT]
                · by_cases h12 : i = 12
                  · subst h12; simp [takeT]
                  · rw [show 12 - i = (12 - (i + 1)) + 1 by omega, takeT, hs, List.append_nil]
              rw [e5, lli, if_neg (by omega)] at k
              exact k
            walk_at "dl"
            refine ⟨_, rfl, by rw [len_tl, tl_mk]; have := lps p hpm; omega, ?_⟩
            rw [tl_mk]
            walk_at "dl"
            cases hn : numsOf p with
            | none =>
              refine i_itT ?_
              walk_at "dl"
              exact i_drp0 (stop (.inr (by unfold tieOf; rw [hn])))
            | some l =>
              refine i_itF ?_
              walk_at "dl"
              refine i_addt ?_ ?_
              · rw [List.length_map, lli]; exact szl (show i + 1 ≤ _ by omega)
              walk_at "dl"
              have pt : isPairD n (optT (some l)) = (tieOf n p).isSome := by rw [← hn]; exact pair_tie n p
              have pp : puD (optT (some l)) = true := by rw [← hn]; exact pu_nums (by have := lps p hpm; omega)
              refine ⟨_, rfl, ?_, ?_⟩
              · have a1 : ∀ F : List (Int × Int), puAll (F.map pairD ++ [optT (some l)]) = true := by
                  intro F
                  induction F with
                  | nil => show (puD (optT (some l)) && true) = true; rw [pp]; rfl
                  | cons t F ih => rw [List.map_cons, List.cons_append, puAll, ih]; rfl
                show ((decide ((Str.ofString "web").length ≤ 1000000) && (true && ((puAll (Fd.map pairD ++ [optT (some l)]) && decide ((Fd.map pairD ++ [optT (some l)]).length ≤ 1000000)) && true))) && decide ((3 : Nat) ≤ 1000000)) = true
                rw [a1, decide_eq_true (show (Fd.map pairD ++ [optT (some l)]).length ≤ 1000000 by rw [List.length_append, List.length_map, lli]; show i + 1 ≤ _; omega)]
                decide +kernel
              have ei : isWebD (.tup [.str "web", .int (n : Int), .tup (Fd.map pairD ++ [optT (some l)])]) = (decide (i + 1 ≤ 12) && (tieOf n p).isSome) := by
                show (decide ((Str.ofString "web") = Str.ofString "web") && (decide (1 ≤ (n : Int)) && decide ((n : Int) ≤ 8)) && decide (((Fd.map pairD ++ [optT (some l)]).length : Int) ≤ 12) && (Fd.map pairD ++ [optT (some l)]).all (isPairD n)) = _
                rw [decide_eq_true rfl, decide_eq_true e2.1, decide_eq_true e2.2, List.all_append, List.all_map, show (Fd.all (isPairD (n : Int) ∘ pairD)) = true from by rw [List.all_eq_true]; exact fun t ht => pair_is (okF t ht)]
                show (true && decide (((Fd.map pairD ++ [optT (some l)]).length : Int) ≤ 12) && (true && (isPairD n (optT (some l)) && true))) = _
                rw [pt, List.length_append, List.length_map, lli]
                simp only [Bool.true_and, Bool.and_true, List.length_singleton]
                congr 1
                rw [decide_eq_decide]
                omega
              rw [ei]
              refine i_itnB (fun e5 => ?_) fun e5 => ?_
              · obtain ⟨e6, e7⟩ := Bool.and_eq_true_iff.mp e5
                rw [decide_eq_true_eq] at e6
                obtain ⟨t, ht2⟩ := Option.isSome_iff_exists.mp e7
                walk_at "dl"
                refine i_addt ?_ ?_
                · rw [List.length_map, lli]; exact szl (show i + 1 ≤ _ by omega)
                walk_at "dl"
                have eF : (ps.take (i + 1)).map (fun p => (tieOf (n : Int) p).getD (0, 0)) = Fd ++ [t] := by rw [ht, List.map_append, hFd]; simp [ht2]
                refine hF _ _ ⟨some (.int (i : Int)), some (.str ⟨p.toArray⟩), some (optT (some l)), ?_, rfl, by omega, ?_, ?_⟩
                · rw [eF, List.map_append, show optT (some l) = pairD t from by rw [← hn]; exact (tie_data ht2).1]
                  rfl
                · rw [eF, e3, hdr, show 12 - i = (12 - (i + 1)) + 1 by omega, takeT, ht2]
                  simp
                · intro q hq
                  rw [ht] at hq
                  rcases List.mem_append.mp hq with hq | hq
                  · exact e4 q hq
                  · rw [List.mem_singleton.mp hq]; exact e7
              · walk_at "dl"
                refine i_drp0 (stop ?_)
                rcases Bool.and_eq_false_iff.mp e5 with e6 | e6
                · rw [decide_eq_false_iff_not] at e6
                  exact .inl (by omega)
                · exact .inr (Option.not_isSome_iff_eq_none.mp (by rw [e6]; exact Bool.false_ne_true))
          · rintro Γ M' ⟨y4, y5, y6, rfl, rfl, hi, e3, e4⟩
            rw [enD_len, List.length_map, List.length_map] at e3 hi ⊢
            rw [List.take_length, List.drop_length, show takeT (n : Int) (12 - ps.length) [] = [] by cases (12 - ps.length) <;> rfl, List.append_nil] at e3
            rw [List.take_length, ← e3]
            rw [if_pos (by rw [e3, List.length_map])] at k
            walk_at "dl"
            exact i_drp0 k
        · rw [if_neg e2] at k
          walk_at "dl"
          exact i_drp0 k
  · walk_at "dl"
    rw [readW_ne fun z => e1 (ew.mpr z)] at k
    exact i_drp0 k

abbrev s__law_one_letter : Stmt := topS 42
abbrev nn__law_one_letter : List Str := ["draws", "text", "at", "letter"]
theorem sc__law_one_letter : FnScope nn__law_one_letter ["draws", "text"] (defScope s__law_one_letter) := ⟨rfl, rfl, rfl, by decide +kernel, rfl, by decide +kernel, by decide +kernel⟩
theorem ok__law_one_letter {P : Program} {w : World} {K : PySem.W.Frag} {mg : Str → Option Value} {base : Heap} {T : List (Addr × Str)}  (B : Blt mg) (G__law_draw : Has P w K mg base T "_law_draw" 2 2 fs__law_draw) (G__law_pick : Has P w K mg base T "_law_pick" 3 2 fs__law_pick) {f : Addr} {fd : FuncData} (F : Fun K "_law_one_letter" "_law_one_letter" s__law_one_letter f fd) (hm : mg "_law_one_letter" = some (.ref f)) (hb : L2.Binds K fd ["draws", "text"] []) : Has P w K mg base T "_law_one_letter" 4 2 fs__law_one_letter := by
  refine okD (k := 3) F sc__law_one_letter hm hb len__law_one_letter (fun cdv A outer s H E hr => ⟨_, (xss_cons (xs_par (i := 2) (j := 3) rfl sc__law_one_letter.nd rfl rfl (by decide) rfl rfl (xa_cons (xe_call G__law_draw (hr.mono (by decide)) (by rfl) (xa_cons (xv 0) (xa_cons (xe_add (xe_callB call_len d_len (by rfl) B.b_len (by decide +kernel) (xa_cons (xv 1) xa_nil)) xe_int) xa_nil))) (xa_cons (xe_call G__law_pick (hr.mono (by decide)) (by rfl) (xa_cons (xv 0) (xa_cons (xe_callTy (call_listA rfl) d_listA (by rfl) B.b_list (by decide +kernel) (xa_cons xe_str xa_nil)) xa_nil))) xa_nil)) (by rfl))
      (xss_one (xs_ret (xe_call G__law_pick (hr.mono (by decide)) (by rfl) (xa_cons (xv 0) (xa_cons (xe_lst (xa_cons (xe_add (xe_add (xe_slice (xv 1) xo_no (xo_at (xv 2))) (xv 3)) (xe_slice (xv 1) (xo_at (xv 2)) xo_no)) (xa_cons (xe_add (xe_slice (xv 1) xo_no (xo_at (xv 2))) (xe_slice (xv 1) (xo_at (xe_add (xv 2) xe_int)) xo_no)) (xa_cons (xe_add (xe_add (xe_slice (xv 1) xo_no (xo_at (xv 2))) (xv 3)) (xe_slice (xv 1) (xo_at (xe_add (xv 2) xe_int)) xo_no)) xa_nil)))) xa_nil)))))), fun ds M Φ h => ?_⟩)
  obtain ⟨d, l, n, z, rfl, hd, hn, hz, k⟩ := h
  walk_at "dl"
  refine i_lens (szl (by omega)) ?_
  walk_at "dl"
  refine ⟨d, l, n, _, rfl, hd, by omega, by omega, ?_, fun x M1 hx1 hx2 hd1 ev1 => ?_⟩
  · have : (((z.length : Int) + 1).natAbs).log2 < 64 := by rw [Nat.log2_lt (by omega)]; omega
    omega
  walk_at "dl"
  have e34 : (Str.ofString "0123456789(),- \nabcdefghkmnoprtuvwy").length ≤ 100 := by decide +kernel
  refine i_lists (szl (by omega)) ?_
  walk_at "dl"
  refine ⟨d, l, n + 1, _, rfl, hd1, by omega, by simp; decide +kernel, by rw [List.length_map, ← len_tl]; omega, fun c hc M2 hd2 ev2 => ?_⟩
  obtain ⟨q, _, rfl⟩ := List.mem_map.mp hc
  obtain ⟨i, rfl⟩ := Int.eq_ofNat_of_zero_le hx1
  have hi : i ≤ z.length := by omega
  have cutL : ∀ (lo hi : Option Int), (cutS z lo hi).length ≤ z.length := fun lo hi => by
    rw [len_tl]
    unfold cutS
    show (((tl z).drop _).take _).length ≤ _
    rw [List.length_take, List.length_drop, ← len_tl]
    omega
  have lcut : (cutS z none (some (i : Int))).length + (cutS z (some (i : Int)) none).length ≤ z.length := by
    rw [len_tl, len_tl]
    unfold cutS
    simp only [HT.sIx_none, HT.sIx_nat]
    show (((tl z).drop _).take _).length + (((tl z).drop _).take _).length ≤ _
    rw [List.length_take, List.length_drop, List.length_take, List.length_drop, ← len_tl]
    omega
  have lcut1 : (cutS z none (some (i : Int))).length + (cutS z (some ((i : Int) + 1)) none).length ≤ z.length := by
    rw [len_tl, len_tl]
    unfold cutS
    rw [show ((i : Int) + 1) = ((i + 1 : Nat) : Int) by omega]
    simp only [HT.sIx_none, HT.sIx_nat]
    show (((tl z).drop _).take _).length + (((tl z).drop _).take _).length ≤ _
    rw [List.length_take, List.length_drop, List.length_take, List.length_drop, ← len_tl]
    omega
  have la : ∀ a b : Str, (a ++ b).length = a.length + b.length := fun a b => by rw [len_tl, tl_append, List.length_append, ← len_tl, ← len_tl]
  have l1 : (⟨#[q]⟩ : Str).length = 1 := rfl
  walk_at "dl"
  refine i_sls (szl (by omega)) ?_
  walk_at "dl"
  refine i_adds (szl (by rw [l1]; omega)) ?_
  walk_at "dl"
  refine i_sls (szl (by omega)) ?_
  walk_at "dl"
  refine i_adds (szl (by rw [la, l1]; omega)) ?_
  walk_at "dl"
  refine i_sls (szl (by omega)) ?_
  walk_at "dl"
  refine i_sls (szl (by omega)) ?_
  walk_at "dl"
  refine i_adds (szl (by omega)) ?_
  walk_at "dl"
  refine i_sls (szl (by omega)) ?_
  walk_at "dl"
  refine i_adds (szl (by rw [l1]; omega)) ?_
  walk_at "dl"
  refine i_sls (szl (by omega)) ?_
  walk_at "dl"
  refine i_adds (szl (by rw [la, l1]; omega)) ?_
  walk_at "dl"
  refine ⟨d, l, n + 1 + 1, _, rfl, hd2, by omega, by simp, by simp, fun y hy M3 hd3 ev3 => ?_⟩
  have ev := (ev1.trans ev2).trans ev3
  rcases List.mem_cons.mp hy with rfl | hy
  · exact i_drp0 (k _ _ (by rw [la, la, l1]; omega) hd3 ev)
  rcases List.mem_cons.mp hy with rfl | hy
  · exact i_drp0 (k _ _ (by rw [la]; omega) hd3 ev)
  rcases List.mem_singleton.mp hy with rfl
  exact i_drp0 (k _ _ (by rw [la, la, l1]; omega) hd3 ev)

abbrev s__law_is_kind : Stmt := topS 43
abbrev nn__law_is_kind : List Str := ["error", "word", "kinds", "kind"]
theorem sc__law_is_kind : FnScope nn__law_is_kind ["error", "word"] (defScope s__law_is_kind) := ⟨rfl, rfl, rfl, by decide +kernel, rfl, by decide +kernel, by decide +kernel⟩
theorem ok__law_is_kind {P : Program} {w : World} {K : PySem.W.Frag} {mg : Str → Option Value} {base : Heap} {T : List (Addr × Str)} {cBadText : Addr} {cBadWeb : Addr} {cWebError : Addr} (B : Blt mg)  (R_BadText : mg "BadText" = some (.ref cBadText)) (R_BadWeb : mg "BadWeb" = some (.ref cBadWeb)) (R_WebError : mg "WebError" = some (.ref cWebError)) (KI : IsK K cBadText cBadWeb cWebError) {f : Addr} {fd : FuncData} (F : Fun K "_law_is_kind" "_law_is_kind" s__law_is_kind f fd) (hm : mg "_law_is_kind" = some (.ref f)) (hb : L2.Binds K fd ["error", "word"] []) : Has P w K mg base T "_law_is_kind" 1 2 (fs__law_is_kind cBadText cBadWeb) := by
  refine okD (k := 0) F sc__law_is_kind hm hb len__law_is_kind (fun cdv A outer s H E hr => ⟨_, (xss_cons (xs_set (i := 2) sc__law_is_kind.nd rfl (by first | exact Or.inl rfl | exact Or.inr rfl) (xe_dict (xps_cons xe_str (xe_callB call_isX d_isX (by rfl) B.b_isinstance (by decide +kernel) (xa_cons (xv 0) (xa_cons (xe_ref (by rfl) R_BadText) xa_nil))) (xps_cons xe_str (xe_callB call_isX d_isX (by rfl) B.b_isinstance (by decide +kernel) (xa_cons (xv 0) (xa_cons (xe_ref (by rfl) R_BadWeb) xa_nil))) xps_nil))))
      (xss_one (xs_ret (xe_and (xe_callB call_isX d_isX (by rfl) B.b_isinstance (by decide +kernel) (xa_cons (xv 0) (xa_cons (xe_ref (by rfl) R_WebError) xa_nil))) (xe_and (xe_callB call_isX d_isX (by rfl) B.b_isinstance (by decide +kernel) (xa_cons (xv 0) (xa_cons (xe_ty (n := "ValueError") (by rfl) B.b_ValueError (by decide +kernel)) xa_nil))) (xe_one (xe_eq hr.units (xe_lc rfl sc__law_is_kind.nd (xi_any (xv 2)) (blkOk_by (own := [("kind", 3)]) (N := nn__law_is_kind) (sc := defScope s__law_is_kind) (by decide +kernel)) (tg_name (by decide)) (fun _ _ _ _ _ => pg_name (i := 3) sc__law_is_kind.nd rfl (by first | exact Or.inl rfl | exact Or.inr rfl)) (fun _ _ _ _ _ => (xts_one (xt_val (xe_dget (hu_of hr) (xv 2) (xv 3))))) (fun _ _ _ _ _ => (xv 3))) (xe_lst (xa_cons (xv 1) xa_nil))))))))), fun ds M Φ h => ?_⟩)
  obtain ⟨C, fs, word, rfl, hw, k⟩ := h
  walk_at "dl"
  intro p np
  walk_at "dl"
  rcases hw with ⟨rfl, rfl⟩ | ⟨rfl, rfl⟩
  · refine i_isx KI.dt KI.tt ?_
    walk_at "dl"
    refine i_isx KI.dt KI.tw ?_
    walk_at "dl"
    refine ⟨Mem.set_same, [(.inr "BadText", .bl true), (.inr "BadWeb", .bl false)], rfl, by decide, ?_⟩
    rw [show mergeD [] [((.inr "BadText" : Key), D.bl true), (.inr "BadWeb", .bl false)] = [(.inr "BadText", .bl true), (.inr "BadWeb", .bl false)] from rfl, del_set np]
    walk_at "dl"
    refine i_isx KI.dt KI.te ?_
    walk_at "dl"
    refine i_isxT KI.dt KI.tv ?_
    walk_at "dl"
    refine ⟨[.str "BadText", .str "BadWeb"], rfl, ?_⟩
    refine lc_by (fun x => match x with
      | .str z => if z = Str.ofString "BadText" then some (.str z) else none
      | _ => none) ?_ (fun x hx M' _ F hF => ?_) ?_
    · exact szl (show 2 ≤ _ by decide)
    · rcases List.mem_cons.mp hx with rfl | hx
      · walk_at "dl"
        refine i_dgetF (key := .inr "BadText") rfl valD_hit ?_
        walk_at "dl"
        rw [show (match (D.str (Str.ofString "BadText")) with | .str z => if z = Str.ofString "BadText" then some (D.str z) else none | _ => none) = some (D.str (Str.ofString "BadText")) from by kernel_rfl] at hF
        exact hF
      · rcases List.mem_singleton.mp hx with rfl
        walk_at "dl"
        refine i_dgetF (key := .inr "BadWeb") rfl (by rw [valD_skip (by decide +kernel), valD_hit]) ?_
        walk_at "dl"
        rw [show (match (D.str (Str.ofString "BadWeb")) with | .str z => if z = Str.ofString "BadText" then some (D.str z) else none | _ => none) = none from by kernel_rfl] at hF
        exact hF
    · rw [show ([D.str (Str.ofString "BadText"), D.str (Str.ofString "BadWeb")].filterMap fun x => match x with
        | .str z => if z = Str.ofString "BadText" then some (D.str z) else none
        | _ => none) = [D.str (Str.ofString "BadText")] from by kernel_rfl]
      walk_at "dl"
      refine fEq_py (x := .list [.str "BadText"]) (y := .list [.str "BadText"]) rfl rfl (by decide +kernel) (by decide +kernel) ?_
      rw [show PyData.eqv (.list [.str "BadText"]) (.list [.str "BadText"]) = true from by decide +kernel]
      exact i_drp0 k
  · refine i_isx KI.dw KI.wt ?_
    walk_at "dl"
    refine i_isx KI.dw KI.ww ?_
    walk_at "dl"
    refine ⟨Mem.set_same, [(.inr "BadText", .bl false), (.inr "BadWeb", .bl true)], rfl, by decide, ?_⟩
    rw [show mergeD [] [((.inr "BadText" : Key), D.bl false), (.inr "BadWeb", .bl true)] = [(.inr "BadText", .bl false), (.inr "BadWeb", .bl true)] from rfl, del_set np]
    walk_at "dl"
    refine i_isx KI.dw KI.we_ ?_
    walk_at "dl"
    refine i_isxT KI.dw KI.wv ?_
    walk_at "dl"
    refine ⟨[.str "BadText", .str "BadWeb"], rfl, ?_⟩
    refine lc_by (fun x => match x with
      | .str z => if z = Str.ofString "BadWeb" then some (.str z) else none
      | _ => none) ?_ (fun x hx M' _ F hF => ?_) ?_
    · exact szl (show 2 ≤ _ by decide)
    · rcases List.mem_cons.mp hx with rfl | hx
      · walk_at "dl"
        refine i_dgetF (key := .inr "BadText") rfl valD_hit ?_
        walk_at "dl"
        rw [show (match (D.str (Str.ofString "BadText")) with | .str z => if z = Str.ofString "BadWeb" then some (D.str z) else none | _ => none) = none from by kernel_rfl] at hF
        exact hF
      · rcases List.mem_singleton.mp hx with rfl
        walk_at "dl"
        refine i_dgetF (key := .inr "BadWeb") rfl (by rw [valD_skip (by decide +kernel), valD_hit]) ?_
        walk_at "dl"
        rw [show (match (D.str (Str.ofString "BadWeb")) with | .str z => if z = Str.ofString "BadWeb" then some (D.str z) else none | _ => none) = some (D.str (Str.ofString "BadWeb")) from by kernel_rfl] at hF
        exact hF
    · rw [show ([D.str (Str.ofString "BadText"), D.str (Str.ofString "BadWeb")].filterMap fun x => match x with
        | .str z => if z = Str.ofString "BadWeb" then some (D.str z) else none
        | _ => none) = [D.str (Str.ofString "BadWeb")] from by kernel_rfl]
      walk_at "dl"
      refine fEq_py (x := .list [.str "BadWeb"]) (y := .list [.str "BadWeb"]) rfl rfl (by decide +kernel) (by decide +kernel) ?_
      rw [show PyData.eqv (.list [.str "BadWeb"]) (.list [.str "BadWeb"]) = true from by decide +kernel]
      exact i_drp0 k

abbrev s__law_reads : Stmt := topS 44
abbrev nn__law_reads : List Str := ["text", "due", "at", "error", "ahead"]
theorem sc__law_reads : FnScope nn__law_reads ["text"] (defScope s__law_reads) := ⟨rfl, rfl, rfl, by decide +kernel, rfl, by decide +kernel, by decide +kernel⟩
theorem ok__law_reads {P : Program} {w : World} {K : PySem.W.Frag} {mg : Str → Option Value} {base : Heap} {T : List (Addr × Str)} {cBadText : Addr} {cBadWeb : Addr} {gC fc PP : Addr} {cW : Value} {okC : Addr → Prop} (B : Blt mg) (G__law_is_kind : Has P w K mg base T "_law_is_kind" 1 2 (fs__law_is_kind cBadText cBadWeb)) (G__law_same : Has P w K mg base T "_law_same" 2 2 fs__law_same) (G__law_web_of : Has P w K mg base T "_law_web_of" 3 1 fs__law_web_of) (G_is_web : Has P w K mg base T "is_web" 4 1 fs_is_web) (G_read_web : HasX P w K mg base T "read_web" 6 1 (fs_read_web cBadText)) (G_web_text : HasX P w K mg base T "web_text" 6 1 (fs_web_text cBadWeb)) (CA : CaughtK K mg s__law_caught gC cW okC) (LK : LamK base mg T fc PP (envOfC "_law_reads" (defScope s__law_reads) 0 0 .none).qual) (ho : okC cBadText) (XD : ExcD K cBadText) (hat : PySem.W.findIn K (.ref cBadText) "at" = some none) {f : Addr} {kV doc pm ct oc : Value} {an od : Option Addr} {osl : Array (Option Value)} (lk : K.lookup f = some ⟨oc, od, .func (PySem.W.fnOf "_law_reads" "_law_reads" (defArgs s__law_reads) (defBody s__law_reads) (defScope s__law_reads) .none kV doc pm an (.ref fc) ct), osl⟩) (hcd : PySem.W.codeIn K (.ref fc) "_law_reads" = true) (hkp : PySem.W.keepIn K (.ref f) = true) (hm : mg "_law_reads" = some (.ref f))
    (hb : L2.Binds K (PySem.W.fnOf "_law_reads" "_law_reads" (defArgs s__law_reads) (defBody s__law_reads) (defScope s__law_reads) .none kV doc pm an (.ref fc) ct) ["text"] []) : Has P w K mg base T "_law_reads" 9 1 fs__law_reads := by
  refine okDL (k := 8) lk hcd hkp sc__law_reads hm hb len__law_reads (fun A outer s H E hr => ⟨_, (xss_cons (xs_asgP (i := 1) (j := 2) rfl sc__law_reads.nd rfl rfl (xe_call G__law_web_of (hr.mono (by decide)) (by rfl) (xa_cons (xv 0) xa_nil)))
      (xss_cons (xs_if (xt_is (xv 2) xe_non)
      (xss_one (xs_ret (xe_and (xe_call G__law_same (hr.mono (by decide)) (by rfl) (xa_cons (xe_callN G_read_web (hr.mono (by decide)) (by rfl) (xa_cons (xv 0) xa_nil)) (xa_cons (xv 1) xa_nil))) (xe_and (xe_is (xe_call G_is_web (hr.mono (by decide)) (by rfl) (xa_cons (xe_callN G_read_web (hr.mono (by decide)) (by rfl) (xa_cons (xv 0) xa_nil)) xa_nil)) xe_bl) (xe_one (xe_eq hr.units (xe_callN G_web_text (hr.mono (by decide)) (by rfl) (xa_cons (xv 1) xa_nil)) (xv 0)))))))
      xss_nil)
      (xss_cons (xs_set (i := 3) sc__law_reads.nd rfl (by first | exact Or.inl rfl | exact Or.inr rfl) (xe_lam (k := 6) CA cs__law_caught LK (by rfl) sc__law_caught (.inl rfl) rfl rfl rfl rfl (hr.mono (by decide)) (LamX.lamS_by (sc := defScope s__law_reads) (by decide +kernel)) rfl (fun _ _ _ _ _ => rfl) (fun A' outer' s' H' E' f' c' hr' tk' => (xl_callX G_read_web tk' (hr'.mono (by decide)) (by rfl) (xa_cons (xv 0) xa_nil)))))
      (xss_cons (xs_if (xt_w (xw_or (xt_not (xt_val (xe_call G__law_is_kind (hr.mono (by decide)) (by rfl) (xa_cons (xv 3) (xa_cons xe_str xa_nil))))) (xw_or1 (xt_not (xt_val (xe_call G__law_same (hr.mono (by decide)) (by rfl) (xa_cons (xe_attr (xv 3)) (xa_cons (xv 2) xa_nil))))))))
      (xss_one (xs_ret xe_bl))
      xss_nil)
      (xss_cons (xs_set (i := 4) sc__law_reads.nd rfl (by first | exact Or.inl rfl | exact Or.inr rfl) (xe_join xe_str (xe_slice (xe_split (xv 0) xe_str) xo_no (xo_at (xv 2)))))
      (xss_one (xs_ret (xe_or (xe_lt (xv 2) xe_int) (xe_one (xe_call G__law_same (hr.mono (by decide)) (by rfl) (xa_cons (xe_callN G_read_web (hr.mono (by decide)) (by rfl) (xa_cons (xv 4) xa_nil)) (xa_cons (xe_item (xe_call G__law_web_of (hr.mono (by decide)) (by rfl) (xa_cons (xv 4) xa_nil)) xe_int) xa_nil)))))))))))), fun ds M Φ h => ?_⟩)
  obtain ⟨z, rfl, hz, k⟩ := h
  have pz : puD (.str z) = true := by show decide (z.length ≤ 1000000) = true; rw [decide_eq_true_eq]; omega
  walk_at "dl"
  refine ⟨z, rfl, by omega, ?_⟩
  cases hr : readW (words (tl z)) with
  | inr w =>
    obtain ⟨n, ts⟩ := w
    obtain ⟨g, et⟩ := readW_text hr
    have sa := webD_sa g
    have rd : ∀ Φ' : Cont, Φ' (webD n ts) M → fs_read_web cBadText [.str z] M Φ' noX := fun Φ' h => ⟨_, rfl, pz, fun y e => by cases e; exact ⟨by omega, by rw [hr]; exact h⟩, fun e => absurd rfl (e z)⟩
    dsimp only [webOfR]
    walk_at "dl"
    refine rd _ ?_
    walk_at "dl"
    refine ⟨webD n ts, rfl, sa.1, sa.2, ?_⟩
    walk_at "dl"
    refine rd _ ?_
    walk_at "dl"
    refine ⟨_, rfl, good_pu g, ?_⟩
    rw [good_is g]
    walk_at "dl"
    refine i_itDT rfl ?_
    walk_at "dl"
    refine ⟨_, rfl, good_pu g, fun n' ts' e g' => ?_, fun e => by rw [good_is g] at e; cases e⟩
    obtain ⟨rfl, rfl⟩ := webD_inj e
    dsimp only [strL]
    walk_at "dl"
    rw [decide_eq_true (show (⟨(webTextL n ts).toArray⟩ : Str) = z from ext_tl (by rw [tl_mk]; exact et))]
    exact i_drp0 k
  | inl at_ =>
    dsimp only [webOfR]
    walk_at "dl"
    refine ⟨_, rfl, pz, fun y e => ?_, fun e => absurd rfl (e z)⟩
    cases e
    refine ⟨by omega, ?_⟩
    rw [hr]
    refine ⟨ho, ?_⟩
    walk_at "dl"
    refine ⟨_, _, _, rfl, .inl ⟨rfl, rfl⟩, ?_⟩
    walk_at "dl"
    refine ⟨XD.fld, hat, _, rfl, ?_⟩
    walk_at "dl"
    refine ⟨.int (at_ : Nat), rfl, rfl, by show 1 ≤ _; omega, ?_⟩
    walk_at "dl"
    have es := split_words (z := z) (y := Str.ofString " ") (s := 32) (by decide +kernel) (by decide +kernel)
    obtain ⟨s1, s2⟩ := spl_len (s := 32) (tl z) []
    have hl : z.length = (tl z).length := len_tl z
    have ss := sum_spl (s := 32) (tl z) []
    have fr := spl_free (s := 32) (tl z) [] (by simp)
    refine i_split rfl (szl (by omega)) ?_
    rw [es]
    walk_at "dl"
    rw [cutTake]
    unfold words at hr
    generalize spl [32] 0 [] (tl z) = ws at *
    have s3 := sum_take (ws.map List.length) at_
    rw [← List.map_take] at s3
    simp only [List.length_nil, Nat.zero_add] at ss
    have el : ((ws.take at_).map fun l => (⟨l.toArray⟩ : Str)).map (·.length) = (ws.take at_).map List.length := by
      rw [List.map_map]
      refine List.map_congr_left fun l _ => ?_
      show (⟨l.toArray⟩ : Str).length = _
      rw [len_tl]
    have hsp : (Str.ofString " ").length = 1 := by decide +kernel
    have ltk : (ws.take at_).length ≤ ws.length := by rw [List.length_take]; omega
    refine i_join (ys := (ws.take at_).map fun l => (⟨l.toArray⟩ : Str)) (by show some _ = some _; rw [List.map_take, List.map_take]) (by rw [el, List.length_map, hsp]; omega) ?_
    walk_at "dl"
    refine i_itD (fun e2 => ?_) fun e2 => ?_
    · exact i_drp0 k
    · obtain ⟨n, ts, hc, g⟩ := readW_cut hr (by omega)
      have sa := webD_sa g
      have ej : tl (Txt.join (Str.ofString " ") ((ws.take at_).map fun l => (⟨l.toArray⟩ : Str))) = joinL [32] (ws.take at_) := by
        rw [join_eq, tl_join, List.map_map, show tl (Str.ofString " ") = [32] by decide +kernel]
        show joinL [32] ((ws.take at_).map id) = _
        rw [List.map_id]
      have ly : (Txt.join (Str.ofString " ") ((ws.take at_).map fun l => (⟨l.toArray⟩ : Str))).length ≤ 900000 := by
        rw [len_tl, ej]
        have := joinL_len (ws.take at_)
        omega
      have hw : words (tl (Txt.join (Str.ofString " ") ((ws.take at_).map fun l => (⟨l.toArray⟩ : Str)))) = ws.take at_ := by
        rw [ej]
        refine spl_join (fun e => ?_) fun p hp => fr p (List.mem_of_mem_take hp)
        rw [e] at hc
        cases hc
      generalize Txt.join (Str.ofString " ") ((ws.take at_).map fun l => (⟨l.toArray⟩ : Str)) = y at *
      have py : puD (.str y) = true := by show decide (y.length ≤ 1000000) = true; rw [decide_eq_true_eq]; omega
      walk_at "dl"
      refine ⟨_, rfl, py, fun q e => ?_, fun e => absurd rfl (e y)⟩
      cases e
      refine ⟨ly, ?_⟩
      rw [hw, hc]
      dsimp only [toldR]
      walk_at "dl"
      refine ⟨y, rfl, ly, ?_⟩
      rw [hw, hc]
      dsimp only [webOfR]
      walk_at "dl"
      exact ⟨webD n ts, rfl, sa.1, sa.2, i_drp0 k⟩

abbrev s__law_pieces_bent : Stmt := topS 45
abbrev nn__law_pieces_bent : List Str := ["draws", "text", "words", "at", "to", "some", "piece"]
theorem sc__law_pieces_bent : FnScope nn__law_pieces_bent ["draws", "text"] (defScope s__law_pieces_bent) := ⟨rfl, rfl, rfl, by decide +kernel, rfl, by decide +kernel, by decide +kernel⟩
theorem ok__law_pieces_bent {P : Program} {w : World} {K : PySem.W.Frag} {mg : Str → Option Value} {base : Heap} {T : List (Addr × Str)}  (B : Blt mg) (G__law_draw : Has P w K mg base T "_law_draw" 2 2 fs__law_draw) (G__law_pick : Has P w K mg base T "_law_pick" 3 2 fs__law_pick) {f : Addr} {fd : FuncData} (F : Fun K "_law_pieces_bent" "_law_pieces_bent" s__law_pieces_bent f fd) (hm : mg "_law_pieces_bent" = some (.ref f)) (hb : L2.Binds K fd ["draws", "text"] []) : Has P w K mg base T "_law_pieces_bent" 4 2 fs__law_pieces_bent := by
  refine okD (k := 3) F sc__law_pieces_bent hm hb len__law_pieces_bent (fun cdv A outer s H E hr => ⟨_, (xss_cons (xs_set (i := 2) sc__law_pieces_bent.nd rfl (by first | exact Or.inl rfl | exact Or.inr rfl) (xe_split (xv 1) xe_str))
      (xss_cons (xs_par (i := 3) (j := 4) rfl sc__law_pieces_bent.nd rfl rfl (by decide) rfl rfl (xa_cons (xe_call G__law_draw (hr.mono (by decide)) (by rfl) (xa_cons (xv 0) (xa_cons (xe_callB call_len d_len (by rfl) B.b_len (by decide +kernel) (xa_cons (xv 2) xa_nil)) xa_nil))) (xa_cons (xe_call G__law_draw (hr.mono (by decide)) (by rfl) (xa_cons (xv 0) (xa_cons (xe_callB call_len d_len (by rfl) B.b_len (by decide +kernel) (xa_cons (xv 2) xa_nil)) xa_nil))) xa_nil)) (by rfl))
      (xss_cons (xs_set (i := 5) sc__law_pieces_bent.nd rfl (by first | exact Or.inl rfl | exact Or.inr rfl) (xe_lstM (xa_cons (xe_add (xe_slice (xv 2) xo_no (xo_at (xv 3))) (xe_slice (xv 2) (xo_at (xe_add (xv 3) xe_int)) xo_no)) (xa_cons (xe_add (xe_add (xe_slice (xv 2) xo_no (xo_at (xv 3))) (xe_lst (xa_cons (xe_item (xv 2) (xv 4)) xa_nil))) (xe_slice (xv 2) (xo_at (xv 3)) xo_no)) (xa_cons (xe_rev (xv 2)) (xa_cons (xe_slice (xv 2) xo_no (xo_at (xv 3))) (xa_cons (xe_add (xv 2) (xe_lst (xa_cons xe_str xa_nil))) (xa_cons (xe_add (xe_lst (xa_cons xe_str xa_nil)) (xv 2)) (xa_cons (xe_add (xv 2) (xe_slice (xv 2) (xo_at xe_int) xo_no)) xa_nil)))))))))
      (xss_cons (xs_for (vs := [6]) PassesOwn.never rfl (xi_any (xe_lst (xa_cons xe_str (xa_cons xe_str (xa_cons xe_str (xa_cons xe_str (xa_cons xe_str (xa_cons xe_str (xa_cons xe_str (xa_cons xe_str (xa_cons xe_str (xa_cons xe_str (xa_cons xe_str (xa_cons xe_str (xa_cons xe_str (xa_cons xe_str (xa_cons xe_str (xa_cons xe_str (xa_cons xe_str (xa_cons xe_str xa_nil)))))))))))))))))))) (pg_name (i := 6) sc__law_pieces_bent.nd rfl (by first | exact Or.inl rfl | exact Or.inr rfl)) (tg_name (by decide))
      (xss_cons (xs_expr (xe_append (xv 5) (xe_add (xe_add (xe_slice (xv 2) xo_no (xo_at (xv 3))) (xe_lst (xa_cons (xv 6) xa_nil))) (xe_slice (xv 2) (xo_at (xe_add (xv 3) xe_int)) xo_no))))
      (xss_one (xs_expr (xe_append (xv 5) (xe_add (xe_add (xe_slice (xv 2) xo_no (xo_at (xe_add (xv 3) xe_int))) (xe_lst (xa_cons (xv 6) xa_nil))) (xe_slice (xv 2) (xo_at (xe_add (xv 3) xe_int)) xo_no)))))))
      (xss_cons (xs_for (vs := [6]) PassesOwn.never rfl (xi_any (xe_lst (xa_cons xe_str (xa_cons xe_str (xa_cons xe_str (xa_cons xe_str (xa_cons xe_str (xa_cons xe_str (xa_cons xe_str (xa_cons xe_str (xa_cons xe_str (xa_cons xe_str (xa_cons xe_str (xa_cons (xe_mul xe_str xe_int) xa_nil)))))))))))))) (pg_name (i := 6) sc__law_pieces_bent.nd rfl (by first | exact Or.inl rfl | exact Or.inr rfl)) (tg_name (by decide))
      (xss_cons (xs_expr (xe_append (xv 5) (xe_add (xe_add (xe_slice (xv 2) xo_no (xo_at (xv 3))) (xe_lst (xa_cons (xv 6) xa_nil))) (xe_slice (xv 2) (xo_at (xe_add (xv 3) xe_int)) xo_no))))
      (xss_one (xs_expr (xe_append (xv 5) (xe_add (xe_add (xe_slice (xv 2) xo_no (xo_at xe_int)) (xe_lst (xa_cons (xv 6) xa_nil))) (xe_slice (xv 2) (xo_at xe_int) xo_no)))))))
      (xss_one (xs_ret (xe_join xe_str (xe_call G__law_pick (hr.mono (by decide)) (by rfl) (xa_cons (xv 0) (xa_cons (xe_fz (xv 5)) xa_nil))))))))))), fun ds M Φ h => ?_⟩)
  obtain ⟨d, l, n, z, rfl, hd, hn, hz, k⟩ := h
  walk_at "dl"
  refine i_split rfl (szl (by omega)) ?_
  obtain ⟨w0, wm⟩ := split_m z
  generalize Txt.split z (Str.ofString " ") = ws at *
  have wl : 0 < ws.length := List.length_pos_iff.mpr w0
  have wl2 := mS_len ws
  walk_at "dl"
  refine ⟨d, l, n, _, rfl, hd, by omega, by rw [List.length_map]; omega, log_small (by omega) (by rw [List.length_map]; omega), fun a M1 a1 a2 hd1 ev1 => ?_⟩
  walk_at "dl"
  refine ⟨d, l, n + 1, _, rfl, hd1, by omega, by rw [List.length_map]; omega, log_small (by omega) (by rw [List.length_map]; omega), fun t M2 t1 t2 hd2 ev2 => ?_⟩
  rw [List.length_map] at a2 t2
  obtain ⟨j, rfl⟩ := Int.eq_ofNat_of_zero_le t1
  have hj : j < ws.length := by omega
  have lj : (ws[j]).length + 1 ≤ mS ws := mS_mem (List.getElem_mem hj)
  have c0 : (Str.ofString "").length = 0 := by decide +kernel
  walk_at "dl"
  refine i_addW w_cut w_cut (by omega) fun x1 h1 => ?_
  walk_at "dl"
  refine i_ixl (x := .str ws[j]) ?_ ?_
  · unfold atI
    rw [ixN_of (by rw [List.length_map]; exact hj)]
    simp [hj]
  walk_at "dl"
  refine i_addW w_cut w_one (by omega) fun x2 h2 => ?_
  walk_at "dl"
  refine i_addW h2 w_cut (by omega) fun x3 h3 => ?_
  walk_at "dl"
  refine ⟨_, rfl, ?_⟩
  walk_at "dl"
  refine i_addW w_ws w_one (by omega) fun x4 h4 => ?_
  walk_at "dl"
  refine i_addW w_one w_ws (by omega) fun x5 h5 => ?_
  walk_at "dl"
  refine i_addW w_ws w_cut (by omega) fun x6 h6 => ?_
  walk_at "dl"
  intro p np
  have hB : ∀ x ∈ [x1, x3, D.lst (ws.map .str).reverse, D.lst (cutD (ws.map .str) none (some a)), x4, x5, x6], WsD (3 * mS ws + 5001) x := by
    intro x hx
    simp only [List.mem_cons, List.not_mem_nil, or_false] at hx
    rcases hx with rfl | rfl | rfl | rfl | rfl | rfl | rfl
    · exact h1.mono (by omega)
    · exact h3.mono (by omega)
    · exact w_rev.mono (by omega)
    · exact w_cut.mono (by omega)
    · exact h4.mono (by omega)
    · exact h5.mono (by omega)
    · exact h6.mono (by omega)
  have pd := hd2.ne_new np
  walk_at "dl"
  refine for_by (fun i Γ M' => ∃ (xs : List D) (y6 : Option D), Γ = [some (.ptr d), some (.str z), some (.lst (ws.map .str)), some (.int a), some (.int (j : Int)), some (.ptr p), y6] ∧ M' = M2.set p (.lst xs) ∧ (∀ x ∈ xs, WsD (3 * mS ws + 5001) x) ∧ 7 ≤ xs.length ∧ xs.length ≤ 7 + 2 * i) ⟨_, _, rfl, rfl, hB, by simp, by simp⟩ ?_ ?_
  · rintro i x Γ M' FF hx ⟨xs, y6, rfl, rfl, hxs, l1, l2⟩ hF
    have hi : i < 18 := (List.getElem?_eq_some_iff.mp hx).1
    obtain ⟨s, rfl, hs⟩ := strs_le (by decide +kernel) hx
    clear hB h1 h2 h3 h4 h5 h6
    walk_at "dl"
    refine i_addW w_cut w_one (by omega) fun x1 h1 => ?_
    walk_at "dl"
    refine i_addW h1 w_cut (by omega) fun x2 h2 => ?_
    walk_at "dl"
    refine i_append Mem.set_same (szlt (by omega)) ?_
    rw [Mem.set_set]
    walk_at "dl"
    refine i_addW w_cut w_one (by omega) fun x3 h3 => ?_
    walk_at "dl"
    refine i_addW h3 w_cut (by omega) fun x4 h4 => ?_
    walk_at "dl"
    refine i_append Mem.set_same (szlt (by rw [List.length_append, List.length_singleton]; omega)) ?_
    rw [Mem.set_set]
    refine hF _ _ ⟨_, _, rfl, rfl, fun x hx => ?_, ?_, ?_⟩
    · rcases List.mem_append.mp hx with hx | hx
      · rcases List.mem_append.mp hx with hx | hx
        · exact hxs x hx
        · rcases List.mem_singleton.mp hx with rfl
          exact h2.mono (by omega)
      · rcases List.mem_singleton.mp hx with rfl
        exact h4.mono (by omega)
    · simp only [List.length_append, List.length_singleton]; omega
    · simp only [List.length_append, List.length_singleton]; omega
  rintro Γ M' ⟨xs, y6, rfl, rfl, hxs, l1, l2⟩
  replace l2 : xs.length ≤ 43 := by simpa using l2
  clear hB h1 h2 h3 h4 h5 h6
  walk_at "dl"
  refine ⟨by decide, by decide, by decide +kernel, by decide +kernel, ?_⟩
  walk_at "dl"
  refine for_by (fun i Γ M' => ∃ (xs : List D) (y6 : Option D), Γ = [some (.ptr d), some (.str z), some (.lst (ws.map .str)), some (.int a), some (.int (j : Int)), some (.ptr p), y6] ∧ M' = M2.set p (.lst xs) ∧ (∀ x ∈ xs, WsD (3 * mS ws + 5001) x) ∧ 7 ≤ xs.length ∧ xs.length ≤ 43 + 2 * i) ⟨_, _, rfl, rfl, hxs, by omega, by omega⟩ ?_ ?_
  · clear l1 l2 hxs
    rintro i x Γ M' FF hx ⟨xs, y6, rfl, rfl, hxs, l1, l2⟩ hF
    have hi : i < 12 := (List.getElem?_eq_some_iff.mp hx).1
    obtain ⟨s, rfl, hs⟩ := strs_le (by decide +kernel) hx
    walk_at "dl"
    refine i_addW w_cut w_one (by omega) fun x1 h1 => ?_
    walk_at "dl"
    refine i_addW h1 w_cut (by omega) fun x2 h2 => ?_
    walk_at "dl"
    refine i_append Mem.set_same (szlt (by omega)) ?_
    rw [Mem.set_set]
    walk_at "dl"
    refine i_addW w_cut w_one (by omega) fun x3 h3 => ?_
    walk_at "dl"
    refine i_addW h3 w_cut (by omega) fun x4 h4 => ?_
    walk_at "dl"
    refine i_append Mem.set_same (szlt (by rw [List.length_append, List.length_singleton]; omega)) ?_
    rw [Mem.set_set]
    refine hF _ _ ⟨_, _, rfl, rfl, fun x hx => ?_, ?_, ?_⟩
    · rcases List.mem_append.mp hx with hx | hx
      · rcases List.mem_append.mp hx with hx | hx
        · exact hxs x hx
        · rcases List.mem_singleton.mp hx with rfl
          exact h2.mono (by omega)
      · rcases List.mem_singleton.mp hx with rfl
        exact h4.mono (by omega)
    · simp only [List.length_append, List.length_singleton]; omega
    · simp only [List.length_append, List.length_singleton]; omega
  clear l1 l2 hxs
  rintro Γ M' ⟨xs, y6, rfl, rfl, hxs, l1, l2⟩
  replace l2 : xs.length ≤ 67 := by simpa using l2
  walk_at "dl"
  dsimp only
  rw [Mem.set_same]
  dsimp only
  rw [del_set np]
  walk_at "dl"
  refine ⟨d, l, _, xs, rfl, hd2, by omega, (fun e => by rw [e] at l1; simp at l1), by omega, fun x hx M3 hd3 ev3 => ?_⟩
  obtain ⟨ys, rfl, hy⟩ := hxs x hx
  have ly := mS_len ys
  have le := mS_eq ys
  have lj := join_m ys
  walk_at "dl"
  refine i_join (ys := ys) rfl (by rw [show (Str.ofString " ").length = 1 by decide +kernel]; omega) ?_
  exact i_drp0 (k _ _ (by omega) hd3 ((ev1.trans ev2).trans ev3))

abbrev s_law : Stmt := topS 46
abbrev nn_law : List Str := ["script", "draws", "turn", "web", "text", "lap", "odd", "error"]
theorem sc_law : FnScope nn_law ["script"] (defScope s_law) := ⟨rfl, rfl, rfl, by decide +kernel, rfl, by decide +kernel, by decide +kernel⟩
theorem ok_law {P : Program} {w : World} {K : PySem.W.Frag} {mg : Str → Option Value} {base : Heap} {T : List (Addr × Str)} {cBadText : Addr} {cBadWeb : Addr} {gC fc PP : Addr} {cW : Value} {okC : Addr → Prop} (B : Blt mg) (G__law_begun : Has P w K mg base T "_law_begun" 1 1 fs__law_begun) (G__law_is_kind : Has P w K mg base T "_law_is_kind" 1 2 (fs__law_is_kind cBadText cBadWeb)) (G__law_odd : Has P w K mg base T "_law_odd" 4 1 fs__law_odd) (G__law_one_letter : Has P w K mg base T "_law_one_letter" 4 2 fs__law_one_letter) (G__law_pieces_bent : Has P w K mg base T "_law_pieces_bent" 4 2 fs__law_pieces_bent) (G__law_reads : Has P w K mg base T "_law_reads" 9 1 fs__law_reads) (G__law_same : Has P w K mg base T "_law_same" 2 2 fs__law_same) (G__law_web : Has P w K mg base T "_law_web" 5 3 fs__law_web) (G__law_web_text : Has P w K mg base T "_law_web_text" 2 1 fs__law_web_text) (G_read_web : HasX P w K mg base T "read_web" 6 1 (fs_read_web cBadText)) (G_web_text : HasX P w K mg base T "web_text" 6 1 (fs_web_text cBadWeb)) (GK_read_web : HasXK P w K mg base T "read_web" 6 1 (fs_read_web cBadText) ["text"]) (GK_web_text : HasXK P w K mg base T "web_text" 6 1 (fs_web_text cBadWeb) ["web"]) (CA : CaughtK K mg s__law_caught gC cW okC) (LK : LamK base mg T fc PP (envOfC "law" (defScope s_law) 0 0 .none).qual) (ho : okC cBadText) (ho2 : okC cBadWeb) (XD : ExcD K cBadText) (hat : PySem.W.findIn K (.ref cBadText) "at" = some none) {f : Addr} {kV doc pm ct oc : Value} {an od : Option Addr} {osl : Array (Option Value)} (lk : K.lookup f = some ⟨oc, od, .func (PySem.W.fnOf "law" "law" (defArgs s_law) (defBody s_law) (defScope s_law) .none kV doc pm an (.ref fc) ct), osl⟩) (hcd : PySem.W.codeIn K (.ref fc) "law" = true) :
    FnOk P w K mg base CX0 10 f (PySem.W.fnOf "law" "law" (defArgs s_law) (defBody s_law) (defScope s_law) .none kV doc pm an (.ref fc) ct) ["script"] (LawSp K T 63) := by
  refine okLawL (k := 9) lk hcd sc_law hfs_law (fun A outer s H E hr => ⟨_, (xss_cons (xs_set (i := 1) sc_law.nd rfl (by first | exact Or.inl rfl | exact Or.inr rfl) (xe_call G__law_begun (hr.mono (by decide)) (by rfl) (xa_cons (xv 0) xa_nil)))
      (xss_cons (xs_for (vs := [2]) PassesOwn.never rfl (xi_rng1 (by rfl) B.b_range (xa_cons (xe_add xe_int (xe_callB (call_min2 rfl) d_min2 (by rfl) B.b_min (by decide +kernel) (xa_cons (xe_callB call_len d_len (by rfl) B.b_len (by decide +kernel) (xa_cons (xv 0) xa_nil)) (xa_cons xe_int xa_nil)))) xa_nil)) (pg_name (i := 2) sc_law.nd rfl (by first | exact Or.inl rfl | exact Or.inr rfl)) (tg_name (by decide))
      (xss_cons (xs_set (i := 3) sc_law.nd rfl (by first | exact Or.inl rfl | exact Or.inr rfl) (xe_call G__law_web (hr.mono (by decide)) (by rfl) (xa_cons (xv 1) (xa_cons xe_int (xa_cons xe_int xa_nil)))))
      (xss_cons (xs_set (i := 4) sc_law.nd rfl (by first | exact Or.inl rfl | exact Or.inr rfl) (xe_call G__law_web_text (hr.mono (by decide)) (by rfl) (xa_cons (xv 3) xa_nil)))
      (xss_cons (xs_if (xt_w (xw_or (xt_not (xt_val (xe_call G__law_same (hr.mono (by decide)) (by rfl) (xa_cons (xe_callN G_web_text (hr.mono (by decide)) (by rfl) (xa_cons (xv 3) xa_nil)) (xa_cons (xv 4) xa_nil))))) (xw_or (xt_not (xt_val (xe_call G__law_same (hr.mono (by decide)) (by rfl) (xa_cons (xe_callN G_read_web (hr.mono (by decide)) (by rfl) (xa_cons (xv 4) xa_nil)) (xa_cons (xv 3) xa_nil))))) (xw_or1 (xt_ne hr.units (xe_callNK GK_read_web (hr.mono (by decide)) (by rfl) (xk_cons (xe_callNK GK_web_text (hr.mono (by decide)) (by rfl) (xk_cons (xv 3) xk_nil)) xk_nil)) (xv 3))))))
      (xss_one (xs_ret xe_bl))
      xss_nil)
      (xss_cons (xs_for (vs := [5]) PassesOwn.never rfl (xi_rng1 (by rfl) B.b_range (xa_cons xe_int xa_nil)) (pg_name (i := 5) sc_law.nd rfl (by first | exact Or.inl rfl | exact Or.inr rfl)) (tg_name (by decide))
      (xss_cons (xs_if (xt_w (xw_or (xt_not (xt_val (xe_call G__law_reads (hr.mono (by decide)) (by rfl) (xa_cons (xe_call G__law_one_letter (hr.mono (by decide)) (by rfl) (xa_cons (xv 1) (xa_cons (xv 4) xa_nil))) xa_nil)))) (xw_or1 (xt_not (xt_val (xe_call G__law_reads (hr.mono (by decide)) (by rfl) (xa_cons (xe_call G__law_pieces_bent (hr.mono (by decide)) (by rfl) (xa_cons (xv 1) (xa_cons (xv 4) xa_nil))) xa_nil)))))))
      (xss_one (xs_ret xe_bl))
      xss_nil)
      (xss_one (xs_if (xt_not (xt_val (xe_call G__law_reads (hr.mono (by decide)) (by rfl) (xa_cons (xe_call G__law_pieces_bent (hr.mono (by decide)) (by rfl) (xa_cons (xv 1) (xa_cons (xe_call G__law_pieces_bent (hr.mono (by decide)) (by rfl) (xa_cons (xv 1) (xa_cons (xv 4) xa_nil))) xa_nil))) xa_nil))))
      (xss_one (xs_ret xe_bl))
      xss_nil))))
      (xss_cons (xs_for (vs := [6]) PassesOwn.never rfl (xi_any (xe_lst (xa_cons xe_non (xa_cons xe_int (xa_cons (xe_lst (xa_cons (xv 4) xa_nil)) (xa_cons (xe_tup (xa_cons (xv 4) xa_nil)) (xa_cons xe_bl (xa_cons (xv 3) (xa_cons xe_dict0 xa_nil))))))))) (pg_name (i := 6) sc_law.nd rfl (by first | exact Or.inl rfl | exact Or.inr rfl)) (tg_name (by decide))
      (xss_cons (xs_set (i := 7) sc_law.nd rfl (by first | exact Or.inl rfl | exact Or.inr rfl) (xe_lam (k := 6) CA cs__law_caught LK (by rfl) sc__law_caught (.inl rfl) rfl rfl rfl rfl (hr.mono (by decide)) (LamX.lamS_by (sc := defScope s_law) (by decide +kernel)) rfl (fun _ _ _ _ _ => rfl) (fun A' outer' s' H' E' f' c' hr' tk' => (xl_callX G_read_web tk' (hr'.mono (by decide)) (by rfl) (xa_cons (xv 6) xa_nil)))))
      (xss_one (xs_if (xt_w (xw_or (xt_not (xt_val (xe_call G__law_is_kind (hr.mono (by decide)) (by rfl) (xa_cons (xv 7) (xa_cons xe_str xa_nil))))) (xw_or1 (xt_not (xt_val (xe_call G__law_same (hr.mono (by decide)) (by rfl) (xa_cons (xe_attr (xv 7)) (xa_cons (xe_neg xe_int) xa_nil))))))))
      (xss_one (xs_ret xe_bl))
      xss_nil))))
      (xss_one (xs_if (xt_not (xt_val (xe_call G__law_is_kind (hr.mono (by decide)) (by rfl) (xa_cons (xe_lam (k := 6) CA cs__law_caught LK (by rfl) sc__law_caught (.inl rfl) rfl rfl rfl rfl (hr.mono (by decide)) (LamX.lamS_by (sc := defScope s_law) (by decide +kernel)) rfl (fun _ _ _ _ _ => rfl) (fun A' outer' s' H' E' f' c' hr' tk' => (xl_callX G_web_text tk' (hr'.mono (by decide)) (by rfl) (xa_cons (xe_call G__law_odd (hr'.mono (by decide)) (by rfl) (xa_cons (xv 1) xa_nil)) xa_nil)))) (xa_cons xe_str xa_nil)))))
      (xss_one (xs_ret xe_bl))
      xss_nil))))))))
      (xss_one (xs_ret (xe_and (xe_call G__law_reads (hr.mono (by decide)) (by rfl) (xa_cons (xe_add xe_str (xe_mul xe_str xe_int)) xa_nil)) (xe_and (xe_call G__law_reads (hr.mono (by decide)) (by rfl) (xa_cons (xe_add xe_str (xe_mul xe_str xe_int)) xa_nil)) (xe_and (xe_call G__law_reads (hr.mono (by decide)) (by rfl) (xa_cons xe_str xa_nil)) (xe_and (xe_call G__law_reads (hr.mono (by decide)) (by rfl) (xa_cons xe_str xa_nil)) (xe_and (xe_call G__law_reads (hr.mono (by decide)) (by rfl) (xa_cons xe_str xa_nil)) (xe_one (xe_call G__law_reads (hr.mono (by decide)) (by rfl) (xa_cons xe_str xa_nil)))))))))))), fun ds M Φ h => ?_⟩)
  obtain ⟨ns, rfl, hl, k⟩ := h
  walk_at "dl"
  refine ⟨ns, rfl, by omega, fun d l M1 nd nl hd ev => ?_⟩
  walk_at "dl"
  rw [List.length_map]
  refine ⟨by omega, by omega, ?_⟩
  refine for_by (fun i Γ M' => ∃ (y2 y3 y4 y5 y6 y7 : Option D), Γ = [some (.scr (ns.map .int)), some (.ptr d), y2, y3, y4, y5, y6, y7] ∧ Dr M' d l (1000 * i) ∧ Ev M M' d l) ⟨_, _, _, _, _, _, rfl, hd, ev⟩ ?_ ?_
  · rintro i x Γ M' FF hx ⟨y2, y3, y4, y5, y6, y7, rfl, hd1, ev1⟩ hF
    have hi := (rgD_get hx).1
    walk_at "dl"
    refine ⟨d, l, _, rfl, hd1, by omega, fun kk ts M2 g hd2 ev2 => ?_⟩
    have sa := webD_sa g
    obtain ⟨t1, t2, t3, t4⟩ := text_ok g
    have tw : ∀ (M : Mem) (Φ' : Cont), Φ' (strL (webTextL kk ts)) M → fs_web_text cBadWeb [webD kk ts] M Φ' noX := fun M Φ' h => ⟨_, rfl, good_pu g, fun n' ts' e g' => by obtain ⟨rfl, rfl⟩ := webD_inj e; exact h, fun e => by rw [good_is g] at e; cases e⟩
    have tr : ∀ (M : Mem) (Φ' : Cont), Φ' (webD kk ts) M → fs_read_web cBadText [strL (webTextL kk ts)] M Φ' noX := fun M Φ' h => ⟨_, rfl, t3, fun y e => by cases e; exact ⟨by omega, by rw [tl_mk, words_text g]; exact h⟩, fun e => absurd rfl (e _)⟩
    walk_at "dl"
    refine ⟨kk, ts, rfl, g, ?_⟩
    walk_at "dl"
    refine tw _ _ ?_
    walk_at "dl"
    refine ⟨_, rfl, t1, t2, ?_⟩
    walk_at "dl"
    refine tr _ _ ?_
    walk_at "dl"
    refine ⟨_, rfl, sa.1, sa.2, ?_⟩
    walk_at "dl"
    refine tw _ _ ?_
    walk_at "dl"
    refine tr _ _ ?_
    walk_at "dl"
    refine ne_webs g ?_
    walk_at "dl"
    refine ⟨by decide, by decide, ?_⟩
    refine for_by (fun j Γ M' => ∃ (y5 y6 y7 : Option D), Γ = [some (.scr (ns.map .int)), some (.ptr d), some x, some (webD kk ts), some (strL (webTextL kk ts)), y5, y6, y7] ∧ Dr M' d l (1000 * i + 100 + 20 * j) ∧ Ev M M' d l) ⟨_, _, _, rfl, hd2.mono (by omega), ev1.trans ev2⟩ ?_ ?_
    · rintro j x' Γ M3 FF' hx' ⟨y5, y6, y7, rfl, hd3, ev3⟩ hF'
      have hj := (rgD_get hx').1
      walk_at "dl"
      refine ⟨d, l, _, _, rfl, hd3, by omega, by omega, fun z1 M4 l4 hd4 ev4 => ?_⟩
      walk_at "dl"
      refine ⟨z1, rfl, by omega, ?_⟩
      walk_at "dl"
      refine ⟨d, l, _, _, rfl, hd4, by omega, by omega, fun z2 M5 l5 hd5 ev5 => ?_⟩
      walk_at "dl"
      refine ⟨z2, rfl, by omega, ?_⟩
      walk_at "dl"
      refine ⟨d, l, _, _, rfl, hd5, by omega, by omega, fun z3 M6 l6 hd6 ev6 => ?_⟩
      walk_at "dl"
      refine ⟨d, l, _, _, rfl, hd6, by omega, by omega, fun z4 M7 l7 hd7 ev7 => ?_⟩
      walk_at "dl"
      refine ⟨z4, rfl, by omega, ?_⟩
      walk_at "dl"
      exact hF' _ _ ⟨_, _, _, rfl, hd7.mono (by omega), (((ev3.trans ev4).trans ev5).trans ev6).trans ev7⟩
    · rintro Γ M3 ⟨y5, y6, y7, rfl, hd3, ev3⟩
      rw [rgD_len] at hd3
      have hodd : ∀ x ∈ [D.non, D.int 5, D.lst [strL (webTextL kk ts)], D.tup [strL (webTextL kk ts)], D.bl true, webD kk ts, D.dic []], puD x = true ∧ ∀ z, x ≠ .str z := by
        intro x hx
        simp only [List.mem_cons, List.not_mem_nil, or_false] at hx
        rcases hx with rfl | rfl | rfl | rfl | rfl | rfl | rfl
        · exact ⟨rfl, fun z e => by cases e⟩
        · exact ⟨rfl, fun z e => by cases e⟩
        · exact ⟨by show (puD (strL (webTextL kk ts)) && true && true) = true; rw [t3]; rfl, fun z e => by cases e⟩
        · exact ⟨by show (puD (strL (webTextL kk ts)) && true && true) = true; rw [t3]; rfl, fun z e => by cases e⟩
        · exact ⟨rfl, fun z e => by cases e⟩
        · exact ⟨good_pu g, fun z e => by cases e⟩
        · exact ⟨rfl, fun z e => by cases e⟩
      walk_at "dl"
      refine for_by (fun j Γ M' => ∃ (y5 y6 y7 : Option D), Γ = [some (.scr (ns.map .int)), some (.ptr d), some x, some (webD kk ts), some (strL (webTextL kk ts)), y5, y6, y7] ∧ Dr M' d l (1000 * i + 300) ∧ Ev M M' d l) ⟨_, _, _, rfl, hd3.mono (by omega), ev3⟩ ?_ ?_
      · rintro j x' Γ M4 FF' hx' ⟨y5, y6, y7, rfl, hd4, ev4⟩ hF'
        obtain ⟨o1, o2⟩ := hodd x' (List.mem_of_getElem? hx')
        walk_at "dl"
        refine ⟨x', rfl, o1, fun z e => absurd e (o2 z), fun _ => ⟨ho, ?_⟩⟩
        walk_at "dl"
        refine ⟨_, _, _, rfl, .inl ⟨rfl, rfl⟩, ?_⟩
        walk_at "dl"
        refine ⟨XD.fld, hat, _, rfl, ?_⟩
        walk_at "dl"
        refine ⟨.int (-1), rfl, rfl, by show 1 ≤ _; omega, ?_⟩
        walk_at "dl"
        exact hF' _ _ ⟨_, _, _, rfl, hd4, ev4⟩
      · rintro Γ M4 ⟨y5, y6, y7, rfl, hd4, ev4⟩
        walk_at "dl"
        refine ⟨d, l, _, rfl, hd4, by omega, fun o M5 o1 o2 hd5 ev5 => ?_⟩
        walk_at "dl"
        refine ⟨o, rfl, o1, fun n ts e g => (by rw [e, good_is g] at o2; cases o2), fun _ => ⟨ho2, ?_⟩⟩
        walk_at "dl"
        refine ⟨_, _, _, rfl, .inr ⟨rfl, rfl⟩, ?_⟩
        walk_at "dl"
        exact hF _ _ ⟨_, _, _, _, _, _, rfl, hd5.mono (by omega), ev4.trans ev5⟩
  · rintro Γ M2 ⟨y2, y3, y4, y5, y6, y7, rfl, hd2, ev2⟩
    walk_at "dl"
    refine ⟨by decide, by decide, by decide +kernel, by decide +kernel, ?_⟩
    walk_at "dl"
    refine i_adds (szl (by decide +kernel)) ?_
    walk_at "dl"
    refine ⟨_, rfl, by decide +kernel, ?_⟩
    walk_at "dl"
    refine ⟨by decide, by decide, by decide +kernel, by decide +kernel, ?_⟩
    walk_at "dl"
    refine i_adds (szl (by decide +kernel)) ?_
    walk_at "dl"
    refine ⟨_, rfl, by decide +kernel, ?_⟩
    walk_at "dl"
    refine ⟨_, rfl, by decide +kernel, ?_⟩
    walk_at "dl"
    refine ⟨_, rfl, by decide +kernel, ?_⟩
    walk_at "dl"
    refine ⟨_, rfl, by decide +kernel, ?_⟩
    walk_at "dl"
    refine ⟨_, rfl, by decide +kernel, ?_⟩
    exact i_drp k (ev2.sub nd nl)

end DL

namespace DL
open PySem PySem.Spec PyProof.Rows L2 TL
def fasK : List He.Fa := [.free "abs", .free "len", .free "all", .free "any", .free "isinstance", .free "int", .free "str", .free "tuple", .free "list", .free "bool", .free "dict", .free "min", .free "max", .free "range", .free "enumerate", .free "zip", .free "sorted", .free "sum", .free "reversed", .free "ValueError", .free "super", .int "MOST_PLACES" 8, .int "MOST_TIES" 12, .str "DIGITS" "0123456789", .glo "WebError", .glo "BadWeb", .glo "BadText", .glo "is_whole", .keep "is_whole", .glo "is_below", .keep "is_below", .glo "is_pair", .keep "is_pair", .glo "is_web", .keep "is_web", .glo "need_web", .keep "need_web", .glo "need_text", .keep "need_text", .glo "piece_of_numbers", .keep "piece_of_numbers", .glo "number_from", .keep "number_from", .glo "numbers_from", .keep "numbers_from", .glo "web_line", .keep "web_line", .glo "web_text", .keep "web_text", .glo "ties_told", .keep "ties_told", .glo "web_told", .keep "web_told", .glo "read_web", .keep "read_web", .glo "_law_begun", .keep "_law_begun", .glo "_law_blended", .keep "_law_blended", .glo "_law_draw", .keep "_law_draw", .glo "_law_pick", .keep "_law_pick", .glo "_law_shuffled", .keep "_law_shuffled", .glo "_law_caught", .keep "_law_caught", .glo "_law_is_truth", .keep "_law_is_truth", .glo "_law_same", .keep "_law_same", .glo "_law_made", .keep "_law_made", .glo "_law_web", .keep "_law_web", .glo "_law_shuffled_web", .keep "_law_shuffled_web", .glo "_law_is_web", .keep "_law_is_web", .glo "_law_odd", .keep "_law_odd", .glo "_law_piece_text", .keep "_law_piece_text", .glo "_law_web_text", .keep "_law_web_text", .glo "_law_number_of", .keep "_law_number_of", .glo "_law_numbers_of", .keep "_law_numbers_of", .glo "_law_web_of", .keep "_law_web_of", .glo "_law_one_letter", .keep "_law_one_letter", .glo "_law_is_kind", .keep "_law_is_kind", .glo "_law_reads", .keep "_law_reads", .glo "_law_pieces_bent", .keep "_law_pieces_bent", .glo "law", .keep "law"]
def fnsK : List He.FnD := [⟨("is_whole", none), "is_whole", "is_whole", defArgs s_is_whole, defBody s_is_whole, defScope s_is_whole⟩,
  ⟨("is_below", none), "is_below", "is_below", defArgs s_is_below, defBody s_is_below, defScope s_is_below⟩,
  ⟨("is_pair", none), "is_pair", "is_pair", defArgs s_is_pair, defBody s_is_pair, defScope s_is_pair⟩,
  ⟨("is_web", none), "is_web", "is_web", defArgs s_is_web, defBody s_is_web, defScope s_is_web⟩,
  ⟨("need_web", none), "need_web", "need_web", defArgs s_need_web, defBody s_need_web, defScope s_need_web⟩,
  ⟨("need_text", none), "need_text", "need_text", defArgs s_need_text, defBody s_need_text, defScope s_need_text⟩,
  ⟨("piece_of_numbers", none), "piece_of_numbers", "piece_of_numbers", defArgs s_piece_of_numbers, defBody s_piece_of_numbers, defScope s_piece_of_numbers⟩,
  ⟨("number_from", none), "number_from", "number_from", defArgs s_number_from, defBody s_number_from, defScope s_number_from⟩,
  ⟨("numbers_from", none), "numbers_from", "numbers_from", defArgs s_numbers_from, defBody s_numbers_from, defScope s_numbers_from⟩,
  ⟨("web_line", none), "web_line", "web_line", defArgs s_web_line, defBody s_web_line, defScope s_web_line⟩,
  ⟨("web_text", none), "web_text", "web_text", defArgs s_web_text, defBody s_web_text, defScope s_web_text⟩,
  ⟨("ties_told", none), "ties_told", "ties_told", defArgs s_ties_told, defBody s_ties_told, defScope s_ties_told⟩,
  ⟨("web_told", none), "web_told", "web_told", defArgs s_web_told, defBody s_web_told, defScope s_web_told⟩,
  ⟨("read_web", none), "read_web", "read_web", defArgs s_read_web, defBody s_read_web, defScope s_read_web⟩,
  ⟨("_law_begun", none), "_law_begun", "_law_begun", defArgs s__law_begun, defBody s__law_begun, defScope s__law_begun⟩,
  ⟨("_law_blended", none), "_law_blended", "_law_blended", defArgs s__law_blended, defBody s__law_blended, defScope s__law_blended⟩,
  ⟨("_law_draw", none), "_law_draw", "_law_draw", defArgs s__law_draw, defBody s__law_draw, defScope s__law_draw⟩,
  ⟨("_law_pick", none), "_law_pick", "_law_pick", defArgs s__law_pick, defBody s__law_pick, defScope s__law_pick⟩,
  ⟨("_law_shuffled", none), "_law_shuffled", "_law_shuffled", defArgs s__law_shuffled, defBody s__law_shuffled, defScope s__law_shuffled⟩,
  ⟨("_law_caught", none), "_law_caught", "_law_caught", defArgs s__law_caught, defBody s__law_caught, defScope s__law_caught⟩,
  ⟨("_law_is_truth", none), "_law_is_truth", "_law_is_truth", defArgs s__law_is_truth, defBody s__law_is_truth, defScope s__law_is_truth⟩,
  ⟨("_law_same", none), "_law_same", "_law_same", defArgs s__law_same, defBody s__law_same, defScope s__law_same⟩,
  ⟨("_law_made", none), "_law_made", "_law_made", defArgs s__law_made, defBody s__law_made, defScope s__law_made⟩,
  ⟨("_law_web", none), "_law_web", "_law_web", defArgs s__law_web, defBody s__law_web, defScope s__law_web⟩,
  ⟨("_law_shuffled_web", none), "_law_shuffled_web", "_law_shuffled_web", defArgs s__law_shuffled_web, defBody s__law_shuffled_web, defScope s__law_shuffled_web⟩,
  ⟨("_law_is_web", none), "_law_is_web", "_law_is_web", defArgs s__law_is_web, defBody s__law_is_web, defScope s__law_is_web⟩,
  ⟨("_law_odd", none), "_law_odd", "_law_odd", defArgs s__law_odd, defBody s__law_odd, defScope s__law_odd⟩,
  ⟨("_law_piece_text", none), "_law_piece_text", "_law_piece_text", defArgs s__law_piece_text, defBody s__law_piece_text, defScope s__law_piece_text⟩,
  ⟨("_law_web_text", none), "_law_web_text", "_law_web_text", defArgs s__law_web_text, defBody s__law_web_text, defScope s__law_web_text⟩,
  ⟨("_law_number_of", none), "_law_number_of", "_law_number_of", defArgs s__law_number_of, defBody s__law_number_of, defScope s__law_number_of⟩,
  ⟨("_law_numbers_of", none), "_law_numbers_of", "_law_numbers_of", defArgs s__law_numbers_of, defBody s__law_numbers_of, defScope s__law_numbers_of⟩,
  ⟨("_law_web_of", none), "_law_web_of", "_law_web_of", defArgs s__law_web_of, defBody s__law_web_of, defScope s__law_web_of⟩,
  ⟨("_law_one_letter", none), "_law_one_letter", "_law_one_letter", defArgs s__law_one_letter, defBody s__law_one_letter, defScope s__law_one_letter⟩,
  ⟨("_law_is_kind", none), "_law_is_kind", "_law_is_kind", defArgs s__law_is_kind, defBody s__law_is_kind, defScope s__law_is_kind⟩,
  ⟨("_law_reads", none), "_law_reads", "_law_reads", defArgs s__law_reads, defBody s__law_reads, defScope s__law_reads⟩,
  ⟨("_law_pieces_bent", none), "_law_pieces_bent", "_law_pieces_bent", defArgs s__law_pieces_bent, defBody s__law_pieces_bent, defScope s__law_pieces_bent⟩,
  ⟨("law", none), "law", "law", defArgs s_law, defBody s_law, defScope s_law⟩]
def clsK (K : PySem.W.Frag) : Bool := excSB K (He.ga K "BadWeb") && (excCB K (He.ga K "BadWeb") && (excCB K (He.ga K "BadText") && (excMkB PySem.Challenge.rw_ringsandcuts_k79_whole_texts_of_webs.prog K (He.ga K "BadText") "BadText.__init__" "at" && (decide (PySem.W.exmOne K (.ref (He.ga K "BadText")) (.ref (He.ga K "WebError")) = some true) && (decide (PySem.W.exmOne K (.ref (He.ga K "BadWeb")) (.ref (He.ga K "WebError")) = some true) && (decide (PySem.W.kitOne K (.ref (He.ga K "BadText")) (.ref (He.ga K "BadText")) = some true) && (decide (PySem.W.kitOne K (.ref (He.ga K "BadText")) (.ref (He.ga K "BadWeb")) = some false) && (decide (PySem.W.kitOne K (.ref (He.ga K "BadText")) (.ref (He.ga K "WebError")) = some true) && (decide (PySem.W.kitOne K (.ref (He.ga K "BadText")) (.type "ValueError") = some true) && (decide (PySem.W.kitOne K (.ref (He.ga K "BadWeb")) (.ref (He.ga K "BadText")) = some false) && (decide (PySem.W.kitOne K (.ref (He.ga K "BadWeb")) (.ref (He.ga K "BadWeb")) = some true) && (decide (PySem.W.kitOne K (.ref (He.ga K "BadWeb")) (.ref (He.ga K "WebError")) = some true) && (decide (PySem.W.kitOne K (.ref (He.ga K "BadWeb")) (.type "ValueError") = some true))))))))))))))
def tabK (K : PySem.W.Frag) (ts : List Addr) : Bool := tabB K ts "_law_reads" && (tabB K ts "law" && ((!(tP K "_law_reads" == tP K "law"))))
set_option maxHeartbeats 0 in
theorem lawAt {w : World} {K : PySem.W.Frag} {mg : Str → Option Value} {h : Heap} {fa : Addr} {ts : List Addr} (X : K.In h) (G : h.Ns mainGlobals mg) (hfa : mg "law" = some (.ref fa)) (hT : ∀ P ∈ ts, h.get? P = some (PySem.W.tabObj #[])) (c : He.SaysE fasK fnsK K) (q : clsK K = true) (t : tabK K ts = true) (so_BadText : supObs K (He.ma K (He.ga K "BadText") "__init__") = (some (("__init__" : Str), "BadText.__init__", defArgs (inClass (topS 3) 0), FuncBody.stmts (defBody (inClass (topS 3) 0)), defScope (inClass (topS 3) 0), mainGlobals, builtinsNs) : SupV)) :
    LamX.LawAtS PySem.Challenge.rw_ringsandcuts_k79_whole_texts_of_webs w K CX0 10 63 "script" mg fa h := by
  have m_is_whole : mg "is_whole" = some (.ref (He.ga K "is_whole")) := He.glo_ok X G (c.fact 27 (f := .glo "is_whole") rfl)
  have m_is_below : mg "is_below" = some (.ref (He.ga K "is_below")) := He.glo_ok X G (c.fact 29 (f := .glo "is_below") rfl)
  have m_is_pair : mg "is_pair" = some (.ref (He.ga K "is_pair")) := He.glo_ok X G (c.fact 31 (f := .glo "is_pair") rfl)
  have m_is_web : mg "is_web" = some (.ref (He.ga K "is_web")) := He.glo_ok X G (c.fact 33 (f := .glo "is_web") rfl)
  have m_need_web : mg "need_web" = some (.ref (He.ga K "need_web")) := He.glo_ok X G (c.fact 35 (f := .glo "need_web") rfl)
  have m_need_text : mg "need_text" = some (.ref (He.ga K "need_text")) := He.glo_ok X G (c.fact 37 (f := .glo "need_text") rfl)
  have m_piece_of_numbers : mg "piece_of_numbers" = some (.ref (He.ga K "piece_of_numbers")) := He.glo_ok X G (c.fact 39 (f := .glo "piece_of_numbers") rfl)
  have m_number_from : mg "number_from" = some (.ref (He.ga K "number_from")) := He.glo_ok X G (c.fact 41 (f := .glo "number_from") rfl)
  have m_numbers_from : mg "numbers_from" = some (.ref (He.ga K "numbers_from")) := He.glo_ok X G (c.fact 43 (f := .glo "numbers_from") rfl)
  have m_web_line : mg "web_line" = some (.ref (He.ga K "web_line")) := He.glo_ok X G (c.fact 45 (f := .glo "web_line") rfl)
  have m_web_text : mg "web_text" = some (.ref (He.ga K "web_text")) := He.glo_ok X G (c.fact 47 (f := .glo "web_text") rfl)
  have m_ties_told : mg "ties_told" = some (.ref (He.ga K "ties_told")) := He.glo_ok X G (c.fact 49 (f := .glo "ties_told") rfl)
  have m_web_told : mg "web_told" = some (.ref (He.ga K "web_told")) := He.glo_ok X G (c.fact 51 (f := .glo "web_told") rfl)
  have m_read_web : mg "read_web" = some (.ref (He.ga K "read_web")) := He.glo_ok X G (c.fact 53 (f := .glo "read_web") rfl)
  have m__law_begun : mg "_law_begun" = some (.ref (He.ga K "_law_begun")) := He.glo_ok X G (c.fact 55 (f := .glo "_law_begun") rfl)
  have m__law_blended : mg "_law_blended" = some (.ref (He.ga K "_law_blended")) := He.glo_ok X G (c.fact 57 (f := .glo "_law_blended") rfl)
  have m__law_draw : mg "_law_draw" = some (.ref (He.ga K "_law_draw")) := He.glo_ok X G (c.fact 59 (f := .glo "_law_draw") rfl)
  have m__law_pick : mg "_law_pick" = some (.ref (He.ga K "_law_pick")) := He.glo_ok X G (c.fact 61 (f := .glo "_law_pick") rfl)
  have m__law_shuffled : mg "_law_shuffled" = some (.ref (He.ga K "_law_shuffled")) := He.glo_ok X G (c.fact 63 (f := .glo "_law_shuffled") rfl)
  have m__law_caught : mg "_law_caught" = some (.ref (He.ga K "_law_caught")) := He.glo_ok X G (c.fact 65 (f := .glo "_law_caught") rfl)
  have m__law_is_truth : mg "_law_is_truth" = some (.ref (He.ga K "_law_is_truth")) := He.glo_ok X G (c.fact 67 (f := .glo "_law_is_truth") rfl)
  have m__law_same : mg "_law_same" = some (.ref (He.ga K "_law_same")) := He.glo_ok X G (c.fact 69 (f := .glo "_law_same") rfl)
  have m__law_made : mg "_law_made" = some (.ref (He.ga K "_law_made")) := He.glo_ok X G (c.fact 71 (f := .glo "_law_made") rfl)
  have m__law_web : mg "_law_web" = some (.ref (He.ga K "_law_web")) := He.glo_ok X G (c.fact 73 (f := .glo "_law_web") rfl)
  have m__law_shuffled_web : mg "_law_shuffled_web" = some (.ref (He.ga K "_law_shuffled_web")) := He.glo_ok X G (c.fact 75 (f := .glo "_law_shuffled_web") rfl)
  have m__law_is_web : mg "_law_is_web" = some (.ref (He.ga K "_law_is_web")) := He.glo_ok X G (c.fact 77 (f := .glo "_law_is_web") rfl)
  have m__law_odd : mg "_law_odd" = some (.ref (He.ga K "_law_odd")) := He.glo_ok X G (c.fact 79 (f := .glo "_law_odd") rfl)
  have m__law_piece_text : mg "_law_piece_text" = some (.ref (He.ga K "_law_piece_text")) := He.glo_ok X G (c.fact 81 (f := .glo "_law_piece_text") rfl)
  have m__law_web_text : mg "_law_web_text" = some (.ref (He.ga K "_law_web_text")) := He.glo_ok X G (c.fact 83 (f := .glo "_law_web_text") rfl)
  have m__law_number_of : mg "_law_number_of" = some (.ref (He.ga K "_law_number_of")) := He.glo_ok X G (c.fact 85 (f := .glo "_law_number_of") rfl)
  have m__law_numbers_of : mg "_law_numbers_of" = some (.ref (He.ga K "_law_numbers_of")) := He.glo_ok X G (c.fact 87 (f := .glo "_law_numbers_of") rfl)
  have m__law_web_of : mg "_law_web_of" = some (.ref (He.ga K "_law_web_of")) := He.glo_ok X G (c.fact 89 (f := .glo "_law_web_of") rfl)
  have m__law_one_letter : mg "_law_one_letter" = some (.ref (He.ga K "_law_one_letter")) := He.glo_ok X G (c.fact 91 (f := .glo "_law_one_letter") rfl)
  have m__law_is_kind : mg "_law_is_kind" = some (.ref (He.ga K "_law_is_kind")) := He.glo_ok X G (c.fact 93 (f := .glo "_law_is_kind") rfl)
  have m__law_reads : mg "_law_reads" = some (.ref (He.ga K "_law_reads")) := He.glo_ok X G (c.fact 95 (f := .glo "_law_reads") rfl)
  have m__law_pieces_bent : mg "_law_pieces_bent" = some (.ref (He.ga K "_law_pieces_bent")) := He.glo_ok X G (c.fact 97 (f := .glo "_law_pieces_bent") rfl)
  have m_law : mg "law" = some (.ref (He.ga K "law")) := He.glo_ok X G (c.fact 99 (f := .glo "law") rfl)
  have m_WebError : mg "WebError" = some (.ref (He.ga K "WebError")) := He.glo_ok X G (c.fact 24 (f := .glo "WebError") rfl)
  have m_BadWeb : mg "BadWeb" = some (.ref (He.ga K "BadWeb")) := He.glo_ok X G (c.fact 25 (f := .glo "BadWeb") rfl)
  have m_BadText : mg "BadText" = some (.ref (He.ga K "BadText")) := He.glo_ok X G (c.fact 26 (f := .glo "BadText") rfl)
  have m_super : mg "super" = none := He.free_ok X G (c.fact 20 (f := .free "super") rfl)
  have B : Blt mg := ⟨He.free_ok X G (c.fact 0 (f := .free "abs") rfl), He.free_ok X G (c.fact 1 (f := .free "len") rfl), He.free_ok X G (c.fact 2 (f := .free "all") rfl), He.free_ok X G (c.fact 3 (f := .free "any") rfl), He.free_ok X G (c.fact 4 (f := .free "isinstance") rfl), He.free_ok X G (c.fact 5 (f := .free "int") rfl), He.free_ok X G (c.fact 6 (f := .free "str") rfl), He.free_ok X G (c.fact 7 (f := .free "tuple") rfl), He.free_ok X G (c.fact 8 (f := .free "list") rfl), He.free_ok X G (c.fact 9 (f := .free "bool") rfl), He.free_ok X G (c.fact 10 (f := .free "dict") rfl), He.free_ok X G (c.fact 11 (f := .free "min") rfl), He.free_ok X G (c.fact 12 (f := .free "max") rfl), He.free_ok X G (c.fact 13 (f := .free "range") rfl), He.free_ok X G (c.fact 14 (f := .free "enumerate") rfl), He.free_ok X G (c.fact 15 (f := .free "zip") rfl), He.free_ok X G (c.fact 16 (f := .free "sorted") rfl), He.free_ok X G (c.fact 17 (f := .free "sum") rfl), He.free_ok X G (c.fact 18 (f := .free "reversed") rfl), He.free_ok X G (c.fact 19 (f := .free "ValueError") rfl), He.int_ok X G (c.fact 21 (f := .int "MOST_PLACES" 8) rfl), He.int_ok X G (c.fact 22 (f := .int "MOST_TIES" 12) rfl), He.str_ok X G (c.fact 23 (f := .str "DIGITS" "0123456789") rfl)⟩
  obtain ⟨q0, r0⟩ := b2 q
  obtain ⟨q1, r1⟩ := b2 r0
  obtain ⟨q2, r2⟩ := b2 r1
  obtain ⟨q3, r3⟩ := b2 r2
  obtain ⟨q4, r4⟩ := b2 r3
  obtain ⟨q5, r5⟩ := b2 r4
  obtain ⟨q6, r6⟩ := b2 r5
  obtain ⟨q7, r7⟩ := b2 r6
  obtain ⟨q8, r8⟩ := b2 r7
  obtain ⟨q9, r9⟩ := b2 r8
  obtain ⟨q10, r10⟩ := b2 r9
  obtain ⟨q11, r11⟩ := b2 r10
  obtain ⟨q12, r12⟩ := b2 r11
  have q13 := r12
  obtain ⟨t0, u0⟩ := b2 t
  obtain ⟨t1, u1⟩ := b2 u0
  have t2 := u1
  obtain ⟨hT0, nT0, C0⟩ := tabB_ok X hT t0
  obtain ⟨hT1, nT1, C1⟩ := tabB_ok X hT t1
  obtain ⟨oc_is_whole, od_is_whole, osl_is_whole, kV_is_whole, doc_is_whole, pm_is_whole, an_is_whole, cdv_is_whole, ct_is_whole, l_is_whole, c_is_whole⟩ := c.def_ 0 (d := ⟨("is_whole", none), "is_whole", "is_whole", defArgs s_is_whole, defBody s_is_whole, defScope s_is_whole⟩) rfl
  obtain ⟨fd_is_whole, F_is_whole⟩ : ∃ fd : FuncData, Fun K "is_whole" "is_whole" s_is_whole (He.ga K "is_whole") fd := ⟨_, fun_mk (st := s_is_whole) l_is_whole c_is_whole (He.keep_ok (c.fact 28 (f := .keep "is_whole") rfl))⟩
  clear l_is_whole c_is_whole oc_is_whole od_is_whole osl_is_whole kV_is_whole doc_is_whole pm_is_whole an_is_whole cdv_is_whole ct_is_whole
  have b_is_whole := F_is_whole.binds (ps := ["value"]) fun _ _ _ _ _ _ us hl => match us, hl with | [_], _ => rfl
  obtain ⟨oc_is_below, od_is_below, osl_is_below, kV_is_below, doc_is_below, pm_is_below, an_is_below, cdv_is_below, ct_is_below, l_is_below, c_is_below⟩ := c.def_ 1 (d := ⟨("is_below", none), "is_below", "is_below", defArgs s_is_below, defBody s_is_below, defScope s_is_below⟩) rfl
  obtain ⟨fd_is_below, F_is_below⟩ : ∃ fd : FuncData, Fun K "is_below" "is_below" s_is_below (He.ga K "is_below") fd := ⟨_, fun_mk (st := s_is_below) l_is_below c_is_below (He.keep_ok (c.fact 30 (f := .keep "is_below") rfl))⟩
  clear l_is_below c_is_below oc_is_below od_is_below osl_is_below kV_is_below doc_is_below pm_is_below an_is_below cdv_is_below ct_is_below
  have b_is_below := F_is_below.binds (ps := ["value", "bound"]) fun _ _ _ _ _ _ us hl => match us, hl with | [_, _], _ => rfl
  obtain ⟨oc_is_pair, od_is_pair, osl_is_pair, kV_is_pair, doc_is_pair, pm_is_pair, an_is_pair, cdv_is_pair, ct_is_pair, l_is_pair, c_is_pair⟩ := c.def_ 2 (d := ⟨("is_pair", none), "is_pair", "is_pair", defArgs s_is_pair, defBody s_is_pair, defScope s_is_pair⟩) rfl
  obtain ⟨fd_is_pair, F_is_pair⟩ : ∃ fd : FuncData, Fun K "is_pair" "is_pair" s_is_pair (He.ga K "is_pair") fd := ⟨_, fun_mk (st := s_is_pair) l_is_pair c_is_pair (He.keep_ok (c.fact 32 (f := .keep "is_pair") rfl))⟩
  clear l_is_pair c_is_pair oc_is_pair od_is_pair osl_is_pair kV_is_pair doc_is_pair pm_is_pair an_is_pair cdv_is_pair ct_is_pair
  have b_is_pair := F_is_pair.binds (ps := ["n", "value"]) fun _ _ _ _ _ _ us hl => match us, hl with | [_, _], _ => rfl
  obtain ⟨oc_is_web, od_is_web, osl_is_web, kV_is_web, doc_is_web, pm_is_web, an_is_web, cdv_is_web, ct_is_web, l_is_web, c_is_web⟩ := c.def_ 3 (d := ⟨("is_web", none), "is_web", "is_web", defArgs s_is_web, defBody s_is_web, defScope s_is_web⟩) rfl
  obtain ⟨fd_is_web, F_is_web⟩ : ∃ fd : FuncData, Fun K "is_web" "is_web" s_is_web (He.ga K "is_web") fd := ⟨_, fun_mk (st := s_is_web) l_is_web c_is_web (He.keep_ok (c.fact 34 (f := .keep "is_web") rfl))⟩
  clear l_is_web c_is_web oc_is_web od_is_web osl_is_web kV_is_web doc_is_web pm_is_web an_is_web cdv_is_web ct_is_web
  have b_is_web := F_is_web.binds (ps := ["value"]) fun _ _ _ _ _ _ us hl => match us, hl with | [_], _ => rfl
  obtain ⟨oc_need_web, od_need_web, osl_need_web, kV_need_web, doc_need_web, pm_need_web, an_need_web, cdv_need_web, ct_need_web, l_need_web, c_need_web⟩ := c.def_ 4 (d := ⟨("need_web", none), "need_web", "need_web", defArgs s_need_web, defBody s_need_web, defScope s_need_web⟩) rfl
  obtain ⟨fd_need_web, F_need_web⟩ : ∃ fd : FuncData, Fun K "need_web" "need_web" s_need_web (He.ga K "need_web") fd := ⟨_, fun_mk (st := s_need_web) l_need_web c_need_web (He.keep_ok (c.fact 36 (f := .keep "need_web") rfl))⟩
  clear l_need_web c_need_web oc_need_web od_need_web osl_need_web kV_need_web doc_need_web pm_need_web an_need_web cdv_need_web ct_need_web
  have b_need_web := F_need_web.binds (ps := ["web"]) fun _ _ _ _ _ _ us hl => match us, hl with | [_], _ => rfl
  obtain ⟨oc_need_text, od_need_text, osl_need_text, kV_need_text, doc_need_text, pm_need_text, an_need_text, cdv_need_text, ct_need_text, l_need_text, c_need_text⟩ := c.def_ 5 (d := ⟨("need_text", none), "need_text", "need_text", defArgs s_need_text, defBody s_need_text, defScope s_need_text⟩) rfl
  obtain ⟨fd_need_text, F_need_text⟩ : ∃ fd : FuncData, Fun K "need_text" "need_text" s_need_text (He.ga K "need_text") fd := ⟨_, fun_mk (st := s_need_text) l_need_text c_need_text (He.keep_ok (c.fact 38 (f := .keep "need_text") rfl))⟩
  clear l_need_text c_need_text oc_need_text od_need_text osl_need_text kV_need_text doc_need_text pm_need_text an_need_text cdv_need_text ct_need_text
  have b_need_text := F_need_text.binds (ps := ["text"]) fun _ _ _ _ _ _ us hl => match us, hl with | [_], _ => rfl
  obtain ⟨oc_piece_of_numbers, od_piece_of_numbers, osl_piece_of_numbers, kV_piece_of_numbers, doc_piece_of_numbers, pm_piece_of_numbers, an_piece_of_numbers, cdv_piece_of_numbers, ct_piece_of_numbers, l_piece_of_numbers, c_piece_of_numbers⟩ := c.def_ 6 (d := ⟨("piece_of_numbers", none), "piece_of_numbers", "piece_of_numbers", defArgs s_piece_of_numbers, defBody s_piece_of_numbers, defScope s_piece_of_numbers⟩) rfl
  obtain ⟨fd_piece_of_numbers, F_piece_of_numbers⟩ : ∃ fd : FuncData, Fun K "piece_of_numbers" "piece_of_numbers" s_piece_of_numbers (He.ga K "piece_of_numbers") fd := ⟨_, fun_mk (st := s_piece_of_numbers) l_piece_of_numbers c_piece_of_numbers (He.keep_ok (c.fact 40 (f := .keep "piece_of_numbers") rfl))⟩
  clear l_piece_of_numbers c_piece_of_numbers oc_piece_of_numbers od_piece_of_numbers osl_piece_of_numbers kV_piece_of_numbers doc_piece_of_numbers pm_piece_of_numbers an_piece_of_numbers cdv_piece_of_numbers ct_piece_of_numbers
  have b_piece_of_numbers := F_piece_of_numbers.binds (ps := ["numbers"]) fun _ _ _ _ _ _ us hl => match us, hl with | [_], _ => rfl
  obtain ⟨oc_number_from, od_number_from, osl_number_from, kV_number_from, doc_number_from, pm_number_from, an_number_from, cdv_number_from, ct_number_from, l_number_from, c_number_from⟩ := c.def_ 7 (d := ⟨("number_from", none), "number_from", "number_from", defArgs s_number_from, defBody s_number_from, defScope s_number_from⟩) rfl
  obtain ⟨fd_number_from, F_number_from⟩ : ∃ fd : FuncData, Fun K "number_from" "number_from" s_number_from (He.ga K "number_from") fd := ⟨_, fun_mk (st := s_number_from) l_number_from c_number_from (He.keep_ok (c.fact 42 (f := .keep "number_from") rfl))⟩
  clear l_number_from c_number_from oc_number_from od_number_from osl_number_from kV_number_from doc_number_from pm_number_from an_number_from cdv_number_from ct_number_from
  have b_number_from := F_number_from.binds (ps := ["word"]) fun _ _ _ _ _ _ us hl => match us, hl with | [_], _ => rfl
  obtain ⟨oc_numbers_from, od_numbers_from, osl_numbers_from, kV_numbers_from, doc_numbers_from, pm_numbers_from, an_numbers_from, cdv_numbers_from, ct_numbers_from, l_numbers_from, c_numbers_from⟩ := c.def_ 8 (d := ⟨("numbers_from", none), "numbers_from", "numbers_from", defArgs s_numbers_from, defBody s_numbers_from, defScope s_numbers_from⟩) rfl
  obtain ⟨fd_numbers_from, F_numbers_from⟩ : ∃ fd : FuncData, Fun K "numbers_from" "numbers_from" s_numbers_from (He.ga K "numbers_from") fd := ⟨_, fun_mk (st := s_numbers_from) l_numbers_from c_numbers_from (He.keep_ok (c.fact 44 (f := .keep "numbers_from") rfl))⟩
  clear l_numbers_from c_numbers_from oc_numbers_from od_numbers_from osl_numbers_from kV_numbers_from doc_numbers_from pm_numbers_from an_numbers_from cdv_numbers_from ct_numbers_from
  have b_numbers_from := F_numbers_from.binds (ps := ["piece"]) fun _ _ _ _ _ _ us hl => match us, hl with | [_], _ => rfl
  obtain ⟨oc_web_line, od_web_line, osl_web_line, kV_web_line, doc_web_line, pm_web_line, an_web_line, cdv_web_line, ct_web_line, l_web_line, c_web_line⟩ := c.def_ 9 (d := ⟨("web_line", none), "web_line", "web_line", defArgs s_web_line, defBody s_web_line, defScope s_web_line⟩) rfl
  obtain ⟨fd_web_line, F_web_line⟩ : ∃ fd : FuncData, Fun K "web_line" "web_line" s_web_line (He.ga K "web_line") fd := ⟨_, fun_mk (st := s_web_line) l_web_line c_web_line (He.keep_ok (c.fact 46 (f := .keep "web_line") rfl))⟩
  clear l_web_line c_web_line oc_web_line od_web_line osl_web_line kV_web_line doc_web_line pm_web_line an_web_line cdv_web_line ct_web_line
  have b_web_line := F_web_line.binds (ps := ["web"]) fun _ _ _ _ _ _ us hl => match us, hl with | [_], _ => rfl
  obtain ⟨oc_web_text, od_web_text, osl_web_text, kV_web_text, doc_web_text, pm_web_text, an_web_text, cdv_web_text, ct_web_text, l_web_text, c_web_text⟩ := c.def_ 10 (d := ⟨("web_text", none), "web_text", "web_text", defArgs s_web_text, defBody s_web_text, defScope s_web_text⟩) rfl
  obtain ⟨fd_web_text, F_web_text⟩ : ∃ fd : FuncData, Fun K "web_text" "web_text" s_web_text (He.ga K "web_text") fd := ⟨_, fun_mk (st := s_web_text) l_web_text c_web_text (He.keep_ok (c.fact 48 (f := .keep "web_text") rfl))⟩
  clear l_web_text c_web_text oc_web_text od_web_text osl_web_text kV_web_text doc_web_text pm_web_text an_web_text cdv_web_text ct_web_text
  have b_web_text := F_web_text.binds (ps := ["web"]) fun _ _ _ _ _ _ us hl => match us, hl with | [_], _ => rfl
  obtain ⟨oc_ties_told, od_ties_told, osl_ties_told, kV_ties_told, doc_ties_told, pm_ties_told, an_ties_told, cdv_ties_told, ct_ties_told, l_ties_told, c_ties_told⟩ := c.def_ 11 (d := ⟨("ties_told", none), "ties_told", "ties_told", defArgs s_ties_told, defBody s_ties_told, defScope s_ties_told⟩) rfl
  obtain ⟨fd_ties_told, F_ties_told⟩ : ∃ fd : FuncData, Fun K "ties_told" "ties_told" s_ties_told (He.ga K "ties_told") fd := ⟨_, fun_mk (st := s_ties_told) l_ties_told c_ties_told (He.keep_ok (c.fact 50 (f := .keep "ties_told") rfl))⟩
  clear l_ties_told c_ties_told oc_ties_told od_ties_told osl_ties_told kV_ties_told doc_ties_told pm_ties_told an_ties_told cdv_ties_told ct_ties_told
  have b_ties_told := F_ties_told.binds (ps := ["n", "parts_told"]) fun _ _ _ _ _ _ us hl => match us, hl with | [_, _], _ => rfl
  obtain ⟨oc_web_told, od_web_told, osl_web_told, kV_web_told, doc_web_told, pm_web_told, an_web_told, cdv_web_told, ct_web_told, l_web_told, c_web_told⟩ := c.def_ 12 (d := ⟨("web_told", none), "web_told", "web_told", defArgs s_web_told, defBody s_web_told, defScope s_web_told⟩) rfl
  obtain ⟨fd_web_told, F_web_told⟩ : ∃ fd : FuncData, Fun K "web_told" "web_told" s_web_told (He.ga K "web_told") fd := ⟨_, fun_mk (st := s_web_told) l_web_told c_web_told (He.keep_ok (c.fact 52 (f := .keep "web_told") rfl))⟩
  clear l_web_told c_web_told oc_web_told od_web_told osl_web_told kV_web_told doc_web_told pm_web_told an_web_told cdv_web_told ct_web_told
  have b_web_told := F_web_told.binds (ps := ["parts_told"]) fun _ _ _ _ _ _ us hl => match us, hl with | [_], _ => rfl
  obtain ⟨oc_read_web, od_read_web, osl_read_web, kV_read_web, doc_read_web, pm_read_web, an_read_web, cdv_read_web, ct_read_web, l_read_web, c_read_web⟩ := c.def_ 13 (d := ⟨("read_web", none), "read_web", "read_web", defArgs s_read_web, defBody s_read_web, defScope s_read_web⟩) rfl
  obtain ⟨fd_read_web, F_read_web⟩ : ∃ fd : FuncData, Fun K "read_web" "read_web" s_read_web (He.ga K "read_web") fd := ⟨_, fun_mk (st := s_read_web) l_read_web c_read_web (He.keep_ok (c.fact 54 (f := .keep "read_web") rfl))⟩
  clear l_read_web c_read_web oc_read_web od_read_web osl_read_web kV_read_web doc_read_web pm_read_web an_read_web cdv_read_web ct_read_web
  have b_read_web := F_read_web.binds (ps := ["text"]) fun _ _ _ _ _ _ us hl => match us, hl with | [_], _ => rfl
  obtain ⟨oc__law_begun, od__law_begun, osl__law_begun, kV__law_begun, doc__law_begun, pm__law_begun, an__law_begun, cdv__law_begun, ct__law_begun, l__law_begun, c__law_begun⟩ := c.def_ 14 (d := ⟨("_law_begun", none), "_law_begun", "_law_begun", defArgs s__law_begun, defBody s__law_begun, defScope s__law_begun⟩) rfl
  obtain ⟨fd__law_begun, F__law_begun⟩ : ∃ fd : FuncData, Fun K "_law_begun" "_law_begun" s__law_begun (He.ga K "_law_begun") fd := ⟨_, fun_mk (st := s__law_begun) l__law_begun c__law_begun (He.keep_ok (c.fact 56 (f := .keep "_law_begun") rfl))⟩
  clear l__law_begun c__law_begun oc__law_begun od__law_begun osl__law_begun kV__law_begun doc__law_begun pm__law_begun an__law_begun cdv__law_begun ct__law_begun
  have b__law_begun := F__law_begun.binds (ps := ["script"]) fun _ _ _ _ _ _ us hl => match us, hl with | [_], _ => rfl
  obtain ⟨oc__law_blended, od__law_blended, osl__law_blended, kV__law_blended, doc__law_blended, pm__law_blended, an__law_blended, cdv__law_blended, ct__law_blended, l__law_blended, c__law_blended⟩ := c.def_ 15 (d := ⟨("_law_blended", none), "_law_blended", "_law_blended", defArgs s__law_blended, defBody s__law_blended, defScope s__law_blended⟩) rfl
  obtain ⟨fd__law_blended, F__law_blended⟩ : ∃ fd : FuncData, Fun K "_law_blended" "_law_blended" s__law_blended (He.ga K "_law_blended") fd := ⟨_, fun_mk (st := s__law_blended) l__law_blended c__law_blended (He.keep_ok (c.fact 58 (f := .keep "_law_blended") rfl))⟩
  clear l__law_blended c__law_blended oc__law_blended od__law_blended osl__law_blended kV__law_blended doc__law_blended pm__law_blended an__law_blended cdv__law_blended ct__law_blended
  have b__law_blended := F__law_blended.binds (ps := ["state"]) fun _ _ _ _ _ _ us hl => match us, hl with | [_], _ => rfl
  obtain ⟨oc__law_draw, od__law_draw, osl__law_draw, kV__law_draw, doc__law_draw, pm__law_draw, an__law_draw, cdv__law_draw, ct__law_draw, l__law_draw, c__law_draw⟩ := c.def_ 16 (d := ⟨("_law_draw", none), "_law_draw", "_law_draw", defArgs s__law_draw, defBody s__law_draw, defScope s__law_draw⟩) rfl
  obtain ⟨fd__law_draw, F__law_draw⟩ : ∃ fd : FuncData, Fun K "_law_draw" "_law_draw" s__law_draw (He.ga K "_law_draw") fd := ⟨_, fun_mk (st := s__law_draw) l__law_draw c__law_draw (He.keep_ok (c.fact 60 (f := .keep "_law_draw") rfl))⟩
  clear l__law_draw c__law_draw oc__law_draw od__law_draw osl__law_draw kV__law_draw doc__law_draw pm__law_draw an__law_draw cdv__law_draw ct__law_draw
  have b__law_draw := F__law_draw.binds (ps := ["state", "room"]) fun _ _ _ _ _ _ us hl => match us, hl with | [_, _], _ => rfl
  obtain ⟨oc__law_pick, od__law_pick, osl__law_pick, kV__law_pick, doc__law_pick, pm__law_pick, an__law_pick, cdv__law_pick, ct__law_pick, l__law_pick, c__law_pick⟩ := c.def_ 17 (d := ⟨("_law_pick", none), "_law_pick", "_law_pick", defArgs s__law_pick, defBody s__law_pick, defScope s__law_pick⟩) rfl
  obtain ⟨fd__law_pick, F__law_pick⟩ : ∃ fd : FuncData, Fun K "_law_pick" "_law_pick" s__law_pick (He.ga K "_law_pick") fd := ⟨_, fun_mk (st := s__law_pick) l__law_pick c__law_pick (He.keep_ok (c.fact 62 (f := .keep "_law_pick") rfl))⟩
  clear l__law_pick c__law_pick oc__law_pick od__law_pick osl__law_pick kV__law_pick doc__law_pick pm__law_pick an__law_pick cdv__law_pick ct__law_pick
  have b__law_pick := F__law_pick.binds (ps := ["state", "some"]) fun _ _ _ _ _ _ us hl => match us, hl with | [_, _], _ => rfl
  obtain ⟨oc__law_shuffled, od__law_shuffled, osl__law_shuffled, kV__law_shuffled, doc__law_shuffled, pm__law_shuffled, an__law_shuffled, cdv__law_shuffled, ct__law_shuffled, l__law_shuffled, c__law_shuffled⟩ := c.def_ 18 (d := ⟨("_law_shuffled", none), "_law_shuffled", "_law_shuffled", defArgs s__law_shuffled, defBody s__law_shuffled, defScope s__law_shuffled⟩) rfl
  obtain ⟨fd__law_shuffled, F__law_shuffled⟩ : ∃ fd : FuncData, Fun K "_law_shuffled" "_law_shuffled" s__law_shuffled (He.ga K "_law_shuffled") fd := ⟨_, fun_mk (st := s__law_shuffled) l__law_shuffled c__law_shuffled (He.keep_ok (c.fact 64 (f := .keep "_law_shuffled") rfl))⟩
  clear l__law_shuffled c__law_shuffled oc__law_shuffled od__law_shuffled osl__law_shuffled kV__law_shuffled doc__law_shuffled pm__law_shuffled an__law_shuffled cdv__law_shuffled ct__law_shuffled
  have b__law_shuffled := F__law_shuffled.binds (ps := ["state", "some"]) fun _ _ _ _ _ _ us hl => match us, hl with | [_, _], _ => rfl
  obtain ⟨oc__law_caught, od__law_caught, osl__law_caught, kV__law_caught, doc__law_caught, pm__law_caught, an__law_caught, cdv__law_caught, ct__law_caught, l__law_caught, c__law_caught⟩ := c.def_ 19 (d := ⟨("_law_caught", none), "_law_caught", "_law_caught", defArgs s__law_caught, defBody s__law_caught, defScope s__law_caught⟩) rfl
  have F__law_caught : Fun K "_law_caught" "_law_caught" s__law_caught (He.ga K "_law_caught") _ := fun_mk (st := s__law_caught) l__law_caught c__law_caught (He.keep_ok (c.fact 66 (f := .keep "_law_caught") rfl))
  have b__law_caught := F__law_caught.binds (ps := ["action"]) fun _ _ _ _ _ _ us hl => match us, hl with | [_], _ => rfl
  obtain ⟨oc__law_is_truth, od__law_is_truth, osl__law_is_truth, kV__law_is_truth, doc__law_is_truth, pm__law_is_truth, an__law_is_truth, cdv__law_is_truth, ct__law_is_truth, l__law_is_truth, c__law_is_truth⟩ := c.def_ 20 (d := ⟨("_law_is_truth", none), "_law_is_truth", "_law_is_truth", defArgs s__law_is_truth, defBody s__law_is_truth, defScope s__law_is_truth⟩) rfl
  obtain ⟨fd__law_is_truth, F__law_is_truth⟩ : ∃ fd : FuncData, Fun K "_law_is_truth" "_law_is_truth" s__law_is_truth (He.ga K "_law_is_truth") fd := ⟨_, fun_mk (st := s__law_is_truth) l__law_is_truth c__law_is_truth (He.keep_ok (c.fact 68 (f := .keep "_law_is_truth") rfl))⟩
  clear l__law_is_truth c__law_is_truth oc__law_is_truth od__law_is_truth osl__law_is_truth kV__law_is_truth doc__law_is_truth pm__law_is_truth an__law_is_truth cdv__law_is_truth ct__law_is_truth
  have b__law_is_truth := F__law_is_truth.binds (ps := ["found", "due"]) fun _ _ _ _ _ _ us hl => match us, hl with | [_, _], _ => rfl
  obtain ⟨oc__law_same, od__law_same, osl__law_same, kV__law_same, doc__law_same, pm__law_same, an__law_same, cdv__law_same, ct__law_same, l__law_same, c__law_same⟩ := c.def_ 21 (d := ⟨("_law_same", none), "_law_same", "_law_same", defArgs s__law_same, defBody s__law_same, defScope s__law_same⟩) rfl
  obtain ⟨fd__law_same, F__law_same⟩ : ∃ fd : FuncData, Fun K "_law_same" "_law_same" s__law_same (He.ga K "_law_same") fd := ⟨_, fun_mk (st := s__law_same) l__law_same c__law_same (He.keep_ok (c.fact 70 (f := .keep "_law_same") rfl))⟩
  clear l__law_same c__law_same oc__law_same od__law_same osl__law_same kV__law_same doc__law_same pm__law_same an__law_same cdv__law_same ct__law_same
  have b__law_same := F__law_same.binds (ps := ["found", "due"]) fun _ _ _ _ _ _ us hl => match us, hl with | [_, _], _ => rfl
  obtain ⟨oc__law_made, od__law_made, osl__law_made, kV__law_made, doc__law_made, pm__law_made, an__law_made, cdv__law_made, ct__law_made, l__law_made, c__law_made⟩ := c.def_ 22 (d := ⟨("_law_made", none), "_law_made", "_law_made", defArgs s__law_made, defBody s__law_made, defScope s__law_made⟩) rfl
  obtain ⟨fd__law_made, F__law_made⟩ : ∃ fd : FuncData, Fun K "_law_made" "_law_made" s__law_made (He.ga K "_law_made") fd := ⟨_, fun_mk (st := s__law_made) l__law_made c__law_made (He.keep_ok (c.fact 72 (f := .keep "_law_made") rfl))⟩
  clear l__law_made c__law_made oc__law_made od__law_made osl__law_made kV__law_made doc__law_made pm__law_made an__law_made cdv__law_made ct__law_made
  have b__law_made := F__law_made.binds (ps := ["n", "ties"]) fun _ _ _ _ _ _ us hl => match us, hl with | [_, _], _ => rfl
  obtain ⟨oc__law_web, od__law_web, osl__law_web, kV__law_web, doc__law_web, pm__law_web, an__law_web, cdv__law_web, ct__law_web, l__law_web, c__law_web⟩ := c.def_ 23 (d := ⟨("_law_web", none), "_law_web", "_law_web", defArgs s__law_web, defBody s__law_web, defScope s__law_web⟩) rfl
  obtain ⟨fd__law_web, F__law_web⟩ : ∃ fd : FuncData, Fun K "_law_web" "_law_web" s__law_web (He.ga K "_law_web") fd := ⟨_, fun_mk (st := s__law_web) l__law_web c__law_web (He.keep_ok (c.fact 74 (f := .keep "_law_web") rfl))⟩
  clear l__law_web c__law_web oc__law_web od__law_web osl__law_web kV__law_web doc__law_web pm__law_web an__law_web cdv__law_web ct__law_web
  have b__law_web := F__law_web.binds (ps := ["draws", "places", "most"]) fun _ _ _ _ _ _ us hl => match us, hl with | [_, _, _], _ => rfl
  obtain ⟨oc__law_shuffled_web, od__law_shuffled_web, osl__law_shuffled_web, kV__law_shuffled_web, doc__law_shuffled_web, pm__law_shuffled_web, an__law_shuffled_web, cdv__law_shuffled_web, ct__law_shuffled_web, l__law_shuffled_web, c__law_shuffled_web⟩ := c.def_ 24 (d := ⟨("_law_shuffled_web", none), "_law_shuffled_web", "_law_shuffled_web", defArgs s__law_shuffled_web, defBody s__law_shuffled_web, defScope s__law_shuffled_web⟩) rfl
  obtain ⟨fd__law_shuffled_web, F__law_shuffled_web⟩ : ∃ fd : FuncData, Fun K "_law_shuffled_web" "_law_shuffled_web" s__law_shuffled_web (He.ga K "_law_shuffled_web") fd := ⟨_, fun_mk (st := s__law_shuffled_web) l__law_shuffled_web c__law_shuffled_web (He.keep_ok (c.fact 76 (f := .keep "_law_shuffled_web") rfl))⟩
  clear l__law_shuffled_web c__law_shuffled_web oc__law_shuffled_web od__law_shuffled_web osl__law_shuffled_web kV__law_shuffled_web doc__law_shuffled_web pm__law_shuffled_web an__law_shuffled_web cdv__law_shuffled_web ct__law_shuffled_web
  have b__law_shuffled_web := F__law_shuffled_web.binds (ps := ["draws", "n", "ties"]) fun _ _ _ _ _ _ us hl => match us, hl with | [_, _, _], _ => rfl
  obtain ⟨oc__law_is_web, od__law_is_web, osl__law_is_web, kV__law_is_web, doc__law_is_web, pm__law_is_web, an__law_is_web, cdv__law_is_web, ct__law_is_web, l__law_is_web, c__law_is_web⟩ := c.def_ 25 (d := ⟨("_law_is_web", none), "_law_is_web", "_law_is_web", defArgs s__law_is_web, defBody s__law_is_web, defScope s__law_is_web⟩) rfl
  obtain ⟨fd__law_is_web, F__law_is_web⟩ : ∃ fd : FuncData, Fun K "_law_is_web" "_law_is_web" s__law_is_web (He.ga K "_law_is_web") fd := ⟨_, fun_mk (st := s__law_is_web) l__law_is_web c__law_is_web (He.keep_ok (c.fact 78 (f := .keep "_law_is_web") rfl))⟩
  clear l__law_is_web c__law_is_web oc__law_is_web od__law_is_web osl__law_is_web kV__law_is_web doc__law_is_web pm__law_is_web an__law_is_web cdv__law_is_web ct__law_is_web
  have b__law_is_web := F__law_is_web.binds (ps := ["value"]) fun _ _ _ _ _ _ us hl => match us, hl with | [_], _ => rfl
  obtain ⟨oc__law_odd, od__law_odd, osl__law_odd, kV__law_odd, doc__law_odd, pm__law_odd, an__law_odd, cdv__law_odd, ct__law_odd, l__law_odd, c__law_odd⟩ := c.def_ 26 (d := ⟨("_law_odd", none), "_law_odd", "_law_odd", defArgs s__law_odd, defBody s__law_odd, defScope s__law_odd⟩) rfl
  obtain ⟨fd__law_odd, F__law_odd⟩ : ∃ fd : FuncData, Fun K "_law_odd" "_law_odd" s__law_odd (He.ga K "_law_odd") fd := ⟨_, fun_mk (st := s__law_odd) l__law_odd c__law_odd (He.keep_ok (c.fact 80 (f := .keep "_law_odd") rfl))⟩
  clear l__law_odd c__law_odd oc__law_odd od__law_odd osl__law_odd kV__law_odd doc__law_odd pm__law_odd an__law_odd cdv__law_odd ct__law_odd
  have b__law_odd := F__law_odd.binds (ps := ["draws"]) fun _ _ _ _ _ _ us hl => match us, hl with | [_], _ => rfl
  obtain ⟨oc__law_piece_text, od__law_piece_text, osl__law_piece_text, kV__law_piece_text, doc__law_piece_text, pm__law_piece_text, an__law_piece_text, cdv__law_piece_text, ct__law_piece_text, l__law_piece_text, c__law_piece_text⟩ := c.def_ 27 (d := ⟨("_law_piece_text", none), "_law_piece_text", "_law_piece_text", defArgs s__law_piece_text, defBody s__law_piece_text, defScope s__law_piece_text⟩) rfl
  obtain ⟨fd__law_piece_text, F__law_piece_text⟩ : ∃ fd : FuncData, Fun K "_law_piece_text" "_law_piece_text" s__law_piece_text (He.ga K "_law_piece_text") fd := ⟨_, fun_mk (st := s__law_piece_text) l__law_piece_text c__law_piece_text (He.keep_ok (c.fact 82 (f := .keep "_law_piece_text") rfl))⟩
  clear l__law_piece_text c__law_piece_text oc__law_piece_text od__law_piece_text osl__law_piece_text kV__law_piece_text doc__law_piece_text pm__law_piece_text an__law_piece_text cdv__law_piece_text ct__law_piece_text
  have b__law_piece_text := F__law_piece_text.binds (ps := ["numbers"]) fun _ _ _ _ _ _ us hl => match us, hl with | [_], _ => rfl
  obtain ⟨oc__law_web_text, od__law_web_text, osl__law_web_text, kV__law_web_text, doc__law_web_text, pm__law_web_text, an__law_web_text, cdv__law_web_text, ct__law_web_text, l__law_web_text, c__law_web_text⟩ := c.def_ 28 (d := ⟨("_law_web_text", none), "_law_web_text", "_law_web_text", defArgs s__law_web_text, defBody s__law_web_text, defScope s__law_web_text⟩) rfl
  obtain ⟨fd__law_web_text, F__law_web_text⟩ : ∃ fd : FuncData, Fun K "_law_web_text" "_law_web_text" s__law_web_text (He.ga K "_law_web_text") fd := ⟨_, fun_mk (st := s__law_web_text) l__law_web_text c__law_web_text (He.keep_ok (c.fact 84 (f := .keep "_law_web_text") rfl))⟩
  clear l__law_web_text c__law_web_text oc__law_web_text od__law_web_text osl__law_web_text kV__law_web_text doc__law_web_text pm__law_web_text an__law_web_text cdv__law_web_text ct__law_web_text
  have b__law_web_text := F__law_web_text.binds (ps := ["web"]) fun _ _ _ _ _ _ us hl => match us, hl with | [_], _ => rfl
  obtain ⟨oc__law_number_of, od__law_number_of, osl__law_number_of, kV__law_number_of, doc__law_number_of, pm__law_number_of, an__law_number_of, cdv__law_number_of, ct__law_number_of, l__law_number_of, c__law_number_of⟩ := c.def_ 29 (d := ⟨("_law_number_of", none), "_law_number_of", "_law_number_of", defArgs s__law_number_of, defBody s__law_number_of, defScope s__law_number_of⟩) rfl
  obtain ⟨fd__law_number_of, F__law_number_of⟩ : ∃ fd : FuncData, Fun K "_law_number_of" "_law_number_of" s__law_number_of (He.ga K "_law_number_of") fd := ⟨_, fun_mk (st := s__law_number_of) l__law_number_of c__law_number_of (He.keep_ok (c.fact 86 (f := .keep "_law_number_of") rfl))⟩
  clear l__law_number_of c__law_number_of oc__law_number_of od__law_number_of osl__law_number_of kV__law_number_of doc__law_number_of pm__law_number_of an__law_number_of cdv__law_number_of ct__law_number_of
  have b__law_number_of := F__law_number_of.binds (ps := ["word"]) fun _ _ _ _ _ _ us hl => match us, hl with | [_], _ => rfl
  obtain ⟨oc__law_numbers_of, od__law_numbers_of, osl__law_numbers_of, kV__law_numbers_of, doc__law_numbers_of, pm__law_numbers_of, an__law_numbers_of, cdv__law_numbers_of, ct__law_numbers_of, l__law_numbers_of, c__law_numbers_of⟩ := c.def_ 30 (d := ⟨("_law_numbers_of", none), "_law_numbers_of", "_law_numbers_of", defArgs s__law_numbers_of, defBody s__law_numbers_of, defScope s__law_numbers_of⟩) rfl
  obtain ⟨fd__law_numbers_of, F__law_numbers_of⟩ : ∃ fd : FuncData, Fun K "_law_numbers_of" "_law_numbers_of" s__law_numbers_of (He.ga K "_law_numbers_of") fd := ⟨_, fun_mk (st := s__law_numbers_of) l__law_numbers_of c__law_numbers_of (He.keep_ok (c.fact 88 (f := .keep "_law_numbers_of") rfl))⟩
  clear l__law_numbers_of c__law_numbers_of oc__law_numbers_of od__law_numbers_of osl__law_numbers_of kV__law_numbers_of doc__law_numbers_of pm__law_numbers_of an__law_numbers_of cdv__law_numbers_of ct__law_numbers_of
  have b__law_numbers_of := F__law_numbers_of.binds (ps := ["piece"]) fun _ _ _ _ _ _ us hl => match us, hl with | [_], _ => rfl
  obtain ⟨oc__law_web_of, od__law_web_of, osl__law_web_of, kV__law_web_of, doc__law_web_of, pm__law_web_of, an__law_web_of, cdv__law_web_of, ct__law_web_of, l__law_web_of, c__law_web_of⟩ := c.def_ 31 (d := ⟨("_law_web_of", none), "_law_web_of", "_law_web_of", defArgs s__law_web_of, defBody s__law_web_of, defScope s__law_web_of⟩) rfl
  obtain ⟨fd__law_web_of, F__law_web_of⟩ : ∃ fd : FuncData, Fun K "_law_web_of" "_law_web_of" s__law_web_of (He.ga K "_law_web_of") fd := ⟨_, fun_mk (st := s__law_web_of) l__law_web_of c__law_web_of (He.keep_ok (c.fact 90 (f := .keep "_law_web_of") rfl))⟩
  clear l__law_web_of c__law_web_of oc__law_web_of od__law_web_of osl__law_web_of kV__law_web_of doc__law_web_of pm__law_web_of an__law_web_of cdv__law_web_of ct__law_web_of
  have b__law_web_of := F__law_web_of.binds (ps := ["text"]) fun _ _ _ _ _ _ us hl => match us, hl with | [_], _ => rfl
  obtain ⟨oc__law_one_letter, od__law_one_letter, osl__law_one_letter, kV__law_one_letter, doc__law_one_letter, pm__law_one_letter, an__law_one_letter, cdv__law_one_letter, ct__law_one_letter, l__law_one_letter, c__law_one_letter⟩ := c.def_ 32 (d := ⟨("_law_one_letter", none), "_law_one_letter", "_law_one_letter", defArgs s__law_one_letter, defBody s__law_one_letter, defScope s__law_one_letter⟩) rfl
  obtain ⟨fd__law_one_letter, F__law_one_letter⟩ : ∃ fd : FuncData, Fun K "_law_one_letter" "_law_one_letter" s__law_one_letter (He.ga K "_law_one_letter") fd := ⟨_, fun_mk (st := s__law_one_letter) l__law_one_letter c__law_one_letter (He.keep_ok (c.fact 92 (f := .keep "_law_one_letter") rfl))⟩
  clear l__law_one_letter c__law_one_letter oc__law_one_letter od__law_one_letter osl__law_one_letter kV__law_one_letter doc__law_one_letter pm__law_one_letter an__law_one_letter cdv__law_one_letter ct__law_one_letter
  have b__law_one_letter := F__law_one_letter.binds (ps := ["draws", "text"]) fun _ _ _ _ _ _ us hl => match us, hl with | [_, _], _ => rfl
  obtain ⟨oc__law_is_kind, od__law_is_kind, osl__law_is_kind, kV__law_is_kind, doc__law_is_kind, pm__law_is_kind, an__law_is_kind, cdv__law_is_kind, ct__law_is_kind, l__law_is_kind, c__law_is_kind⟩ := c.def_ 33 (d := ⟨("_law_is_kind", none), "_law_is_kind", "_law_is_kind", defArgs s__law_is_kind, defBody s__law_is_kind, defScope s__law_is_kind⟩) rfl
  obtain ⟨fd__law_is_kind, F__law_is_kind⟩ : ∃ fd : FuncData, Fun K "_law_is_kind" "_law_is_kind" s__law_is_kind (He.ga K "_law_is_kind") fd := ⟨_, fun_mk (st := s__law_is_kind) l__law_is_kind c__law_is_kind (He.keep_ok (c.fact 94 (f := .keep "_law_is_kind") rfl))⟩
  clear l__law_is_kind c__law_is_kind oc__law_is_kind od__law_is_kind osl__law_is_kind kV__law_is_kind doc__law_is_kind pm__law_is_kind an__law_is_kind cdv__law_is_kind ct__law_is_kind
  have b__law_is_kind := F__law_is_kind.binds (ps := ["error", "word"]) fun _ _ _ _ _ _ us hl => match us, hl with | [_, _], _ => rfl
  obtain ⟨oc__law_reads, od__law_reads, osl__law_reads, kV__law_reads, doc__law_reads, pm__law_reads, an__law_reads, cdv__law_reads, ct__law_reads, l__law_reads, c__law_reads⟩ := c.def_ 34 (d := ⟨("_law_reads", none), "_law_reads", "_law_reads", defArgs s__law_reads, defBody s__law_reads, defScope s__law_reads⟩) rfl
  have e__law_reads := tabB_code t0 (He.eqO_ok (c.fact 95 (f := .glo "_law_reads") rfl)) l__law_reads
  replace e__law_reads : cdv__law_reads = .ref (tc K "_law_reads") := e__law_reads
  subst e__law_reads
  have F__law_reads : Fun K "_law_reads" "_law_reads" s__law_reads (He.ga K "_law_reads") _ := fun_mk (st := s__law_reads) l__law_reads c__law_reads (He.keep_ok (c.fact 96 (f := .keep "_law_reads") rfl))
  have b__law_reads := F__law_reads.binds (ps := ["text"]) fun _ _ _ _ _ _ us hl => match us, hl with | [_], _ => rfl
  obtain ⟨oc__law_pieces_bent, od__law_pieces_bent, osl__law_pieces_bent, kV__law_pieces_bent, doc__law_pieces_bent, pm__law_pieces_bent, an__law_pieces_bent, cdv__law_pieces_bent, ct__law_pieces_bent, l__law_pieces_bent, c__law_pieces_bent⟩ := c.def_ 35 (d := ⟨("_law_pieces_bent", none), "_law_pieces_bent", "_law_pieces_bent", defArgs s__law_pieces_bent, defBody s__law_pieces_bent, defScope s__law_pieces_bent⟩) rfl
  obtain ⟨fd__law_pieces_bent, F__law_pieces_bent⟩ : ∃ fd : FuncData, Fun K "_law_pieces_bent" "_law_pieces_bent" s__law_pieces_bent (He.ga K "_law_pieces_bent") fd := ⟨_, fun_mk (st := s__law_pieces_bent) l__law_pieces_bent c__law_pieces_bent (He.keep_ok (c.fact 98 (f := .keep "_law_pieces_bent") rfl))⟩
  clear l__law_pieces_bent c__law_pieces_bent oc__law_pieces_bent od__law_pieces_bent osl__law_pieces_bent kV__law_pieces_bent doc__law_pieces_bent pm__law_pieces_bent an__law_pieces_bent cdv__law_pieces_bent ct__law_pieces_bent
  have b__law_pieces_bent := F__law_pieces_bent.binds (ps := ["draws", "text"]) fun _ _ _ _ _ _ us hl => match us, hl with | [_, _], _ => rfl
  obtain ⟨oc_law, od_law, osl_law, kV_law, doc_law, pm_law, an_law, cdv_law, ct_law, l_law, c_law⟩ := c.def_ 36 (d := ⟨("law", none), "law", "law", defArgs s_law, defBody s_law, defScope s_law⟩) rfl
  have e_law := tabB_code t1 (He.eqO_ok (c.fact 99 (f := .glo "law") rfl)) l_law
  replace e_law : cdv_law = .ref (tc K "law") := e_law
  subst e_law
  have F_law : Fun K "law" "law" s_law (He.ga K "law") _ := fun_mk (st := s_law) l_law c_law (He.keep_ok (c.fact 100 (f := .keep "law") rfl))
  have b_law := F_law.binds (ps := ["script"]) fun _ _ _ _ _ _ us hl => match us, hl with | [_], _ => rfl
  have e_fa := hfa.symm.trans m_law
  have e_fa : fa = He.ga K "law" := by injection e_fa with e; injection e
  subst e_fa
  obtain ⟨TT, hTT⟩ : ∃ TT : List (Addr × Str), TT = [(tP K "_law_reads", (envOfC "_law_reads" (defScope s__law_reads) 0 0 .none).qual ++ "<lambda>"), (tP K "law", (envOfC "law" (defScope s_law) 0 0 .none).qual ++ "<lambda>")] := ⟨_, rfl⟩
  refine ⟨PySem.W.fnOf "law" "law" (defArgs s_law) (defBody s_law) (defScope s_law) .none kV_law doc_law pm_law an_law (.ref (tc K "law")) ct_law, [(tc K "_law_reads", tP K "_law_reads"), (tc K "law", tP K "law")], LawSp K TT 63, List.forall_mem_cons.mpr ⟨hT0, List.forall_mem_cons.mpr ⟨hT1, fun _ z => nomatch z⟩⟩, List.forall_mem_cons.mpr ⟨nT0, List.forall_mem_cons.mpr ⟨nT1, fun _ z => nomatch z⟩⟩, List.forall_mem_cons.mpr ⟨C0, List.forall_mem_cons.mpr ⟨C1, fun _ z => nomatch z⟩⟩, fun s v => .of_eq rfl, fun H a ns hl hb hH hS => ⟨a, ns, rfl, hl, hb, hS, tabs0 ?_, fun _ => rfl⟩, fun base KB NB TB => ?_⟩
  · rw [hTT]; exact List.forall_mem_cons.mpr ⟨(hH (tc K "_law_reads", tP K "_law_reads") (by simp)), List.forall_mem_cons.mpr ⟨(hH (tc K "law", tP K "law") (by simp)), fun _ z => nomatch z⟩⟩
  have X_BadWeb := excSB_ok q0 m_BadWeb
  have XW := excCB_ok q1
  have XD := excCB_ok q2
  have XM := excMk_ok (w := w) (base := base) (x := "BadText") (s1 := "self") (s2 := "at") q3 ⟨_, _, _, _, _, _, _, _, _, _, _, rfl, fun _ _ _ _ => rfl⟩ ⟨⟨_, rfl, rfl⟩, rfl, rfl, rfl, by decide +kernel, by decide +kernel, by decide +kernel, by decide +kernel, by decide +kernel, by decide +kernel, by decide +kernel, by decide +kernel, by decide +kernel, fun _ _ _ _ _ _ _ _ us hl => match us, hl with | [_, _], _ => rfl⟩ so_BadText m_BadText m_super
  have X_BadText := XM.1
  have hat := XM.2
  have KI : IsK K (He.ga K "BadText") (He.ga K "BadWeb") (He.ga K "WebError") := ⟨XD.isi, XW.isi, of_decide_eq_true q6, of_decide_eq_true q7, of_decide_eq_true q8, of_decide_eq_true q9, of_decide_eq_true q10, of_decide_eq_true q11, of_decide_eq_true q12, of_decide_eq_true q13⟩
  obtain ⟨okC, hokC⟩ : ∃ okC : Addr → Prop, okC = fun C => C = He.ga K "BadText" ∨ C = He.ga K "BadWeb" := ⟨_, rfl⟩
  have ho : okC (He.ga K "BadText") := by rw [hokC]; exact .inl rfl
  have ho2 : okC (He.ga K "BadWeb") := by rw [hokC]; exact .inr rfl
  have hok : ∀ C, okC C → PySem.W.exmOne K (.ref C) (.ref (He.ga K "WebError")) = some true := by
    intro C hC
    rw [hokC] at hC
    rcases hC with rfl | rfl
    · exact of_decide_eq_true q4
    · exact of_decide_eq_true q5
  have LK__law_reads : LamK base mg TT (tc K "_law_reads") (tP K "_law_reads") (envOfC "_law_reads" (defScope s__law_reads) 0 0 .none).qual := ⟨TB (tc K "_law_reads", tP K "_law_reads") (by simp), by rw [hTT]; simp, fun p hp e => by
    rw [hTT] at hp
    simp only [List.mem_cons, List.not_mem_nil, or_false] at hp
    rcases hp with rfl | rfl
    · rfl
    · exact absurd e.symm (by simpa using t2)⟩
  have LK_law : LamK base mg TT (tc K "law") (tP K "law") (envOfC "law" (defScope s_law) 0 0 .none).qual := ⟨TB (tc K "law", tP K "law") (by simp), by rw [hTT]; simp, fun p hp e => by
    rw [hTT] at hp
    simp only [List.mem_cons, List.not_mem_nil, or_false] at hp
    rcases hp with rfl | rfl
    · exact absurd e (by simpa using t2)
    · rfl⟩
  have CA : CaughtK K mg s__law_caught (He.ga K "_law_caught") (.ref (He.ga K "WebError")) okC := ⟨m__law_caught, He.keep_ok (c.fact 66 (f := .keep "_law_caught") rfl), ⟨_, _, _, _, _, _, _, _, _, l__law_caught, c__law_caught, b__law_caught⟩, m_WebError, hok⟩
  have G_is_whole := ok_is_whole (P := PySem.Challenge.rw_ringsandcuts_k79_whole_texts_of_webs.prog) (w := w) (base := base) (T := TT) (B := B) (F := F_is_whole) (hm := m_is_whole) (hb := b_is_whole)
  have G_piece_of_numbers := ok_piece_of_numbers (P := PySem.Challenge.rw_ringsandcuts_k79_whole_texts_of_webs.prog) (w := w) (base := base) (T := TT) (B := B) (F := F_piece_of_numbers) (hm := m_piece_of_numbers) (hb := b_piece_of_numbers)
  have G_number_from := ok_number_from (P := PySem.Challenge.rw_ringsandcuts_k79_whole_texts_of_webs.prog) (w := w) (base := base) (T := TT) (B := B) (F := F_number_from) (hm := m_number_from) (hb := b_number_from)
  have G__law_begun := ok__law_begun (P := PySem.Challenge.rw_ringsandcuts_k79_whole_texts_of_webs.prog) (w := w) (base := base) (T := TT) (B := B) (F := F__law_begun) (hm := m__law_begun) (hb := b__law_begun)
  have G__law_blended := ok__law_blended (P := PySem.Challenge.rw_ringsandcuts_k79_whole_texts_of_webs.prog) (w := w) (base := base) (T := TT) (B := B) (F := F__law_blended) (hm := m__law_blended) (hb := b__law_blended)
  have G__law_is_truth := ok__law_is_truth (P := PySem.Challenge.rw_ringsandcuts_k79_whole_texts_of_webs.prog) (w := w) (base := base) (T := TT) (B := B) (F := F__law_is_truth) (hm := m__law_is_truth) (hb := b__law_is_truth)
  have G__law_made := ok__law_made (P := PySem.Challenge.rw_ringsandcuts_k79_whole_texts_of_webs.prog) (w := w) (base := base) (T := TT) (B := B) (F := F__law_made) (hm := m__law_made) (hb := b__law_made)
  have G__law_is_web := ok__law_is_web (P := PySem.Challenge.rw_ringsandcuts_k79_whole_texts_of_webs.prog) (w := w) (base := base) (T := TT) (B := B) (F := F__law_is_web) (hm := m__law_is_web) (hb := b__law_is_web)
  have G__law_piece_text := ok__law_piece_text (P := PySem.Challenge.rw_ringsandcuts_k79_whole_texts_of_webs.prog) (w := w) (base := base) (T := TT) (B := B) (F := F__law_piece_text) (hm := m__law_piece_text) (hb := b__law_piece_text)
  have G__law_number_of := ok__law_number_of (P := PySem.Challenge.rw_ringsandcuts_k79_whole_texts_of_webs.prog) (w := w) (base := base) (T := TT) (B := B) (F := F__law_number_of) (hm := m__law_number_of) (hb := b__law_number_of)
  have G__law_is_kind := ok__law_is_kind (P := PySem.Challenge.rw_ringsandcuts_k79_whole_texts_of_webs.prog) (w := w) (base := base) (T := TT) (B := B) (R_BadText := m_BadText) (R_BadWeb := m_BadWeb) (R_WebError := m_WebError) (KI := KI) (F := F__law_is_kind) (hm := m__law_is_kind) (hb := b__law_is_kind)
  have G_is_below := ok_is_below (P := PySem.Challenge.rw_ringsandcuts_k79_whole_texts_of_webs.prog) (w := w) (base := base) (T := TT) (B := B) (G_is_whole := G_is_whole) (F := F_is_below) (hm := m_is_below) (hb := b_is_below)
  have G_numbers_from := ok_numbers_from (P := PySem.Challenge.rw_ringsandcuts_k79_whole_texts_of_webs.prog) (w := w) (base := base) (T := TT) (B := B) (G_number_from := G_number_from) (F := F_numbers_from) (hm := m_numbers_from) (hb := b_numbers_from)
  have G_web_line := ok_web_line (P := PySem.Challenge.rw_ringsandcuts_k79_whole_texts_of_webs.prog) (w := w) (base := base) (T := TT) (B := B) (G_piece_of_numbers := G_piece_of_numbers) (F := F_web_line) (hm := m_web_line) (hb := b_web_line)
  have G__law_draw := ok__law_draw (P := PySem.Challenge.rw_ringsandcuts_k79_whole_texts_of_webs.prog) (w := w) (base := base) (T := TT) (B := B) (G__law_blended := G__law_blended) (F := F__law_draw) (hm := m__law_draw) (hb := b__law_draw)
  have G__law_same := ok__law_same (P := PySem.Challenge.rw_ringsandcuts_k79_whole_texts_of_webs.prog) (w := w) (base := base) (T := TT) (B := B) (G__law_is_truth := G__law_is_truth) (F := F__law_same) (hm := m__law_same) (hb := b__law_same)
  have G__law_web_text := ok__law_web_text (P := PySem.Challenge.rw_ringsandcuts_k79_whole_texts_of_webs.prog) (w := w) (base := base) (T := TT) (B := B) (G__law_piece_text := G__law_piece_text) (F := F__law_web_text) (hm := m__law_web_text) (hb := b__law_web_text)
  have G__law_numbers_of := ok__law_numbers_of (P := PySem.Challenge.rw_ringsandcuts_k79_whole_texts_of_webs.prog) (w := w) (base := base) (T := TT) (B := B) (G__law_number_of := G__law_number_of) (F := F__law_numbers_of) (hm := m__law_numbers_of) (hb := b__law_numbers_of)
  have G_is_pair := ok_is_pair (P := PySem.Challenge.rw_ringsandcuts_k79_whole_texts_of_webs.prog) (w := w) (base := base) (T := TT) (B := B) (G_is_below := G_is_below) (F := F_is_pair) (hm := m_is_pair) (hb := b_is_pair)
  have G_need_text := ok_need_text (P := PySem.Challenge.rw_ringsandcuts_k79_whole_texts_of_webs.prog) (w := w) (base := base) (T := TT) (B := B) (X_BadText := X_BadText) (F := F_need_text) (hm := m_need_text) (hb := b_need_text)
  have G__law_pick := ok__law_pick (P := PySem.Challenge.rw_ringsandcuts_k79_whole_texts_of_webs.prog) (w := w) (base := base) (T := TT) (B := B) (G__law_draw := G__law_draw) (F := F__law_pick) (hm := m__law_pick) (hb := b__law_pick)
  have G__law_shuffled := ok__law_shuffled (P := PySem.Challenge.rw_ringsandcuts_k79_whole_texts_of_webs.prog) (w := w) (base := base) (T := TT) (B := B) (G__law_draw := G__law_draw) (F := F__law_shuffled) (hm := m__law_shuffled) (hb := b__law_shuffled)
  have G__law_web_of := ok__law_web_of (P := PySem.Challenge.rw_ringsandcuts_k79_whole_texts_of_webs.prog) (w := w) (base := base) (T := TT) (B := B) (G__law_is_web := G__law_is_web) (G__law_number_of := G__law_number_of) (G__law_numbers_of := G__law_numbers_of) (F := F__law_web_of) (hm := m__law_web_of) (hb := b__law_web_of)
  have G_is_web := ok_is_web (P := PySem.Challenge.rw_ringsandcuts_k79_whole_texts_of_webs.prog) (w := w) (base := base) (T := TT) (B := B) (G_is_pair := G_is_pair) (G_is_whole := G_is_whole) (F := F_is_web) (hm := m_is_web) (hb := b_is_web)
  have G_ties_told := ok_ties_told (P := PySem.Challenge.rw_ringsandcuts_k79_whole_texts_of_webs.prog) (w := w) (base := base) (T := TT) (B := B) (G_is_pair := G_is_pair) (G_numbers_from := G_numbers_from) (F := F_ties_told) (hm := m_ties_told) (hb := b_ties_told)
  have G__law_shuffled_web := ok__law_shuffled_web (P := PySem.Challenge.rw_ringsandcuts_k79_whole_texts_of_webs.prog) (w := w) (base := base) (T := TT) (B := B) (G__law_made := G__law_made) (G__law_shuffled := G__law_shuffled) (F := F__law_shuffled_web) (hm := m__law_shuffled_web) (hb := b__law_shuffled_web)
  have G__law_odd := ok__law_odd (P := PySem.Challenge.rw_ringsandcuts_k79_whole_texts_of_webs.prog) (w := w) (base := base) (T := TT) (B := B) (G__law_pick := G__law_pick) (F := F__law_odd) (hm := m__law_odd) (hb := b__law_odd)
  have G__law_one_letter := ok__law_one_letter (P := PySem.Challenge.rw_ringsandcuts_k79_whole_texts_of_webs.prog) (w := w) (base := base) (T := TT) (B := B) (G__law_draw := G__law_draw) (G__law_pick := G__law_pick) (F := F__law_one_letter) (hm := m__law_one_letter) (hb := b__law_one_letter)
  have G__law_pieces_bent := ok__law_pieces_bent (P := PySem.Challenge.rw_ringsandcuts_k79_whole_texts_of_webs.prog) (w := w) (base := base) (T := TT) (B := B) (G__law_draw := G__law_draw) (G__law_pick := G__law_pick) (F := F__law_pieces_bent) (hm := m__law_pieces_bent) (hb := b__law_pieces_bent)
  have G_need_web := ok_need_web (P := PySem.Challenge.rw_ringsandcuts_k79_whole_texts_of_webs.prog) (w := w) (base := base) (T := TT) (B := B) (G_is_web := G_is_web) (X_BadWeb := X_BadWeb) (F := F_need_web) (hm := m_need_web) (hb := b_need_web)
  have G_web_told := ok_web_told (P := PySem.Challenge.rw_ringsandcuts_k79_whole_texts_of_webs.prog) (w := w) (base := base) (T := TT) (B := B) (G_number_from := G_number_from) (G_ties_told := G_ties_told) (X_BadText := X_BadText) (F := F_web_told) (hm := m_web_told) (hb := b_web_told)
  have G__law_web := ok__law_web (P := PySem.Challenge.rw_ringsandcuts_k79_whole_texts_of_webs.prog) (w := w) (base := base) (T := TT) (B := B) (G__law_draw := G__law_draw) (G__law_made := G__law_made) (G__law_shuffled := G__law_shuffled) (G__law_shuffled_web := G__law_shuffled_web) (F := F__law_web) (hm := m__law_web) (hb := b__law_web)
  have GG_web_text := ok_web_text (P := PySem.Challenge.rw_ringsandcuts_k79_whole_texts_of_webs.prog) (w := w) (base := base) (T := TT) (B := B) (G_need_web := G_need_web) (G_web_line := G_web_line) (F := F_web_text) (hm := m_web_text) (hb := b_web_text)
  have G_web_text := GG_web_text.1
  have GK_web_text := GG_web_text.2 ["web"] (bindsK (ps := ["web"]) F_web_text fun _ _ _ _ _ _ us hl => match us, hl with | [_], _ => rfl)
  have GG_read_web := ok_read_web (P := PySem.Challenge.rw_ringsandcuts_k79_whole_texts_of_webs.prog) (w := w) (base := base) (T := TT) (B := B) (G_need_text := G_need_text) (G_web_told := G_web_told) (F := F_read_web) (hm := m_read_web) (hb := b_read_web)
  have G_read_web := GG_read_web.1
  have GK_read_web := GG_read_web.2 ["text"] (bindsK (ps := ["text"]) F_read_web fun _ _ _ _ _ _ us hl => match us, hl with | [_], _ => rfl)
  have G__law_reads := ok__law_reads (P := PySem.Challenge.rw_ringsandcuts_k79_whole_texts_of_webs.prog) (w := w) (base := base) (T := TT) (B := B) (G__law_is_kind := G__law_is_kind) (G__law_same := G__law_same) (G__law_web_of := G__law_web_of) (G_is_web := G_is_web) (G_read_web := G_read_web) (G_web_text := G_web_text) (CA := CA) (LK := LK__law_reads) (ho := ho) (XD := XD) (hat := hat) (lk := l__law_reads) (hcd := c__law_reads) (hkp := He.keep_ok (c.fact 96 (f := .keep "_law_reads") rfl)) (hm := m__law_reads) (hb := b__law_reads)
  exact ok_law (B := B) (G__law_begun := G__law_begun) (G__law_is_kind := G__law_is_kind) (G__law_odd := G__law_odd) (G__law_one_letter := G__law_one_letter) (G__law_pieces_bent := G__law_pieces_bent) (G__law_reads := G__law_reads) (G__law_same := G__law_same) (G__law_web := G__law_web) (G__law_web_text := G__law_web_text) (G_read_web := G_read_web) (G_web_text := G_web_text) (GK_read_web := GK_read_web) (GK_web_text := GK_web_text) (CA := CA) (LK := LK_law) (ho := ho) (ho2 := ho2) (XD := XD) (hat := hat) (lk := l_law) (hcd := c_law)
end DL
open PySem PySem.W PyProof.Rows
set_option maxRecDepth 100000 in
set_option maxHeartbeats 0 in
theorem PySem.Challenge.cw_ringsandcuts_k79_whole_texts_of_webs_holds : PySem.Challenge.rw_ringsandcuts_k79_whole_texts_of_webs.Holds := by
  w_on; o_law; k_head; (case hw => w_witness2)
  k_fill
  refine LamX.walk_ofTs (l := PySem.Challenge.rw_ringsandcuts_k79_whole_texts_of_webs) (n := 63) (k := 10) (x := "script") (CX := fun _ => L2.CX0) rfl (by decide) rfl ⟨rfl, by decide, by decide⟩ (fun w h Y => PySem.W.km_in_of Y) ?F (fun _ _ _ _ _ z => z)
  case F =>
    intro w mg fa h Y KX G hmg
    exact DL.lawAt KX G hmg (PySem.W.km_tabs_of Y) (by show He.obsE _ _ _ = He.valE _; kernel_rfl) (by kernel_rfl) (by kernel_rfl) (by kernel_rfl)
