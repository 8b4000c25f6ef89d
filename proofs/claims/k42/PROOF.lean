import PyProof.Rows.All
import Wide.All
import OpenK.AllK
import Wide.FinOn
import HandS.ForMost
import HandS.ForExc
import HandS.AnyAll
import HandS.EndTab
import HandS.Wide
import HandS.TupAny
import HandS.Defaults
import HandS.HeadNt
import KE.KExcSuper
import HandS.ExcInit
import HandS.ExcSuper
import HandS.ExcField
import HandS.CallSlots
import HandS.TryOnly
import HandS.Codes
import KE.KStateDown
import HandS.Head0
import HandS.Head1
import HandS.Head2
import HandS.HeadEnd
import HandS.HeadHook4
import HandS.HeadWalk
import HandS.IsInst
import HandS.Style
import PySem.Challenge.RW_keyfocus_k42_announcements
set_option Elab.async false
set_option linter.all false
set_option maxRecDepth 100000
set_option maxHeartbeats 1000000
/-! Kf: data without addresses; what stands at an address bears such data; anchors. -/
namespace Kf
open PySem L2

/-- data: what never changes while it is looked at -/
inductive D where
  | non | bl (b : Bool) | int (i : Int) | str (x : Str)
  | lst (xs : List D) | fls (xs : List D) | tup (xs : List D)
  | dic (ks : List (Key × D))
  | ins (C : Addr) (fs : List (Str × D))
/-- what a frame owns: data; a list, a dict, an instance of its own -/
inductive M where
  | im (d : D) | ls (xs : List D) | dc (ks : List (Key × M)) | ob (C : Addr) (fs : List (Str × M))

/-! ### bearing data -/
mutual
inductive Rp (K : PySem.W.Frag) (A : Hp) : V → D → Prop
  | non : Rp K A .non .non
  | bl (b : Bool) : Rp K A (.bl b) (.bl b)
  | int (i : Int) : Rp K A (.int i) (.int i)
  | str (x : Str) : Rp K A (.str x) (.str x)
  | lst {a : Addr} {xs : List V} {ds : List D} : A a = some (.lst xs) → RpL K A xs ds → Rp K A (.ref a) (.lst ds)
  | fls {a : Addr} {xs : List V} {ds : List D} : SqL K A a xs → RpL K A xs ds → Rp K A (.ref a) (.fls ds)
  | tup {a : Addr} {xs : List V} {ds : List D} : SqT K A a xs → RpL K A xs ds → Rp K A (.ref a) (.tup ds)
  | dic {a : Addr} {kvs : List (Key × V)} {ds : List (Key × D)} : A a = some (.dK kvs) → RpM K A Key kvs ds → Rp K A (.ref a) (.dic ds)
  | ins {a C dx : Addr} {fs : List (Str × V)} {ds : List (Str × D)} : A a = some (.ins C dx fs) → RpM K A Str fs ds → Rp K A (.ref a) (.ins C ds)
inductive RpL (K : PySem.W.Frag) (A : Hp) : List V → List D → Prop
  | nil : RpL K A [] []
  | cons {v : V} {vs : List V} {d : D} {ds : List D} : Rp K A v d → RpL K A vs ds → RpL K A (v :: vs) (d :: ds)
inductive RpM (K : PySem.W.Frag) (A : Hp) : (κ : Type) → List (κ × V) → List (κ × D) → Prop
  | nil {κ : Type} : RpM K A κ [] []
  | cons {κ : Type} {k : κ} {v : V} {vs : List (κ × V)} {d : D} {ds : List (κ × D)} : Rp K A v d → RpM K A κ vs ds → RpM K A κ ((k, v) :: vs) ((k, d) :: ds)
end
mutual
inductive RM (K : PySem.W.Frag) (A H : Hp) : V → M → List Addr → Prop
  | im {v : V} {d : D} : Rp K A v d → RM K A H v (.im d) []
  | ls {a : Addr} {xs : List V} {ds : List D} : H a = some (.lst xs) → A a = none → RpL K A xs ds → RM K A H (.ref a) (.ls ds) [a]
  | dc {a : Addr} {kvs : List (Key × V)} {ms : List (Key × M)} {fp : List Addr} : H a = some (.dK kvs) → A a = none → RMs K A H Key kvs ms fp → RM K A H (.ref a) (.dc ms) (a :: fp)
  | ob {a C dx : Addr} {fs : List (Str × V)} {ms : List (Str × M)} {fp : List Addr} : H a = some (.ins C dx fs) → A a = none → RMs K A H Str fs ms fp → RM K A H (.ref a) (.ob C ms) (a :: fp)
inductive RMs (K : PySem.W.Frag) (A H : Hp) : (κ : Type) → List (κ × V) → List (κ × M) → List Addr → Prop
  | nil {κ : Type} : RMs K A H κ [] [] []
  | cons {κ : Type} {k : κ} {v : V} {vs : List (κ × V)} {m : M} {ms : List (κ × M)} {p q : List Addr} : RM K A H v m p → RMs K A H κ vs ms q → RMs K A H κ ((k, v) :: vs) ((k, m) :: ms) (p ++ q)
end

theorem seqT_mono {K : PySem.W.Frag} {H H' : Hp} {a : Addr} {xs : List V} (e : Same H H') (h : SqT K H a xs) : SqT K H' a xs := by
  rcases h with (h | ⟨o, h⟩) | h
  · exact .inl (.inl (e _ _ h))
  · exact .inl (.inr ⟨o, e _ _ h⟩)
  · exact .inr h

mutual
theorem Rp.mono {K : PySem.W.Frag} {A A' : Hp} (e : Same A A') : ∀ {v : V} {d : D}, Rp K A v d → Rp K A' v d
  | _, _, .non => .non
  | _, _, .bl b => .bl b
  | _, _, .int i => .int i
  | _, _, .str x => .str x
  | _, _, .lst h r => .lst (e _ _ h) (RpL.mono e r)
  | _, _, .fls h r => .fls (e.seq h) (RpL.mono e r)
  | _, _, .tup h r => .tup (seqT_mono e h) (RpL.mono e r)
  | _, _, .dic h r => .dic (e _ _ h) (RpM.mono e r)
  | _, _, .ins h r => .ins (e _ _ h) (RpM.mono e r)
theorem RpL.mono {K : PySem.W.Frag} {A A' : Hp} (e : Same A A') : ∀ {vs : List V} {ds : List D}, RpL K A vs ds → RpL K A' vs ds
  | _, _, .nil => .nil
  | _, _, .cons h r => .cons (Rp.mono e h) (RpL.mono e r)
theorem RpM.mono {K : PySem.W.Frag} {A A' : Hp} (e : Same A A') : ∀ {κ : Type} {vs : List (κ × V)} {ds : List (κ × D)}, RpM K A κ vs ds → RpM K A' κ vs ds
  | _, _, _, .nil => .nil
  | _, _, _, .cons h r => .cons (Rp.mono e h) (RpM.mono e r)
end
mutual
theorem RM.mono {K : PySem.W.Frag} {A A' H H' : Hp} (e : Same A A') : ∀ {v : V} {m : M} {fp : List Addr}, RM K A H v m fp → (∀ a ∈ fp, H' a = H a) → (∀ a ∈ fp, A' a = none) → RM K A' H' v m fp
  | _, _, _, .im r, _, _ => .im (r.mono e)
  | _, _, _, .ls h n r, k, z => .ls ((k _ (List.mem_cons_self ..)).trans h) (z _ (List.mem_cons_self ..)) (r.mono e)
  | _, _, _, .dc h n r, k, z => .dc ((k _ (List.mem_cons_self ..)).trans h) (z _ (List.mem_cons_self ..)) (RMs.mono e r (fun a ha => k a (List.mem_cons_of_mem _ ha)) fun a ha => z a (List.mem_cons_of_mem _ ha))
  | _, _, _, .ob h n r, k, z => .ob ((k _ (List.mem_cons_self ..)).trans h) (z _ (List.mem_cons_self ..)) (RMs.mono e r (fun a ha => k a (List.mem_cons_of_mem _ ha)) fun a ha => z a (List.mem_cons_of_mem _ ha))
theorem RMs.mono {K : PySem.W.Frag} {A A' H H' : Hp} (e : Same A A') : ∀ {κ : Type} {vs : List (κ × V)} {ms : List (κ × M)} {fp : List Addr}, RMs K A H κ vs ms fp → (∀ a ∈ fp, H' a = H a) → (∀ a ∈ fp, A' a = none) → RMs K A' H' κ vs ms fp
  | _, _, _, _, .nil, _, _ => .nil
  | _, _, _, _, .cons h r, k, z => .cons (RM.mono e h (fun a ha => k a (List.mem_append_left _ ha)) fun a ha => z a (List.mem_append_left _ ha)) (RMs.mono e r (fun a ha => k a (List.mem_append_right _ ha)) fun a ha => z a (List.mem_append_right _ ha))
end
/-! what stands at owned places -/
mutual
theorem RM.there {K : PySem.W.Frag} {A H : Hp} : ∀ {v : V} {m : M} {fp : List Addr}, RM K A H v m fp → ∀ a ∈ fp, A a = none ∧ Mut (H a)
  | _, _, _, .im _, _, h => nomatch h
  | _, _, _, .ls h n _, _, z => by
    cases z with
    | head => exact ⟨n, by rw [h]; trivial⟩
    | tail _ z => cases z
  | _, _, _, .dc h n r, _, z => by
    cases z with
    | head => exact ⟨n, by rw [h]; trivial⟩
    | tail _ z => exact RMs.there r _ z
  | _, _, _, .ob h n r, _, z => by
    cases z with
    | head => exact ⟨n, by rw [h]; trivial⟩
    | tail _ z => exact RMs.there r _ z
theorem RMs.there {K : PySem.W.Frag} {A H : Hp} : ∀ {κ : Type} {vs : List (κ × V)} {ms : List (κ × M)} {fp : List Addr}, RMs K A H κ vs ms fp → ∀ a ∈ fp, A a = none ∧ Mut (H a)
  | _, _, _, _, .nil, _, z => nomatch z
  | _, _, _, _, .cons h r, _, z => by
    rcases List.mem_append.mp z with z | z
    · exact RM.there h _ z
    · exact RMs.there r _ z
end
/-! ### frozen: what is owned as data -/
mutual
def frz : M → D
  | .im d => d
  | .ls ds => .lst ds
  | .dc ms => .dic (frzK ms)
  | .ob C ms => .ins C (frzF ms)
def frzK : List (Key × M) → List (Key × D)
  | [] => []
  | (k, m) :: r => (k, frz m) :: frzK r
def frzF : List (Str × M) → List (Str × D)
  | [] => []
  | (k, m) :: r => (k, frz m) :: frzF r
end
/-- A with what H has at the places R -/
def glue (A H : Hp) (R : List Addr) : Hp := fun a => if a ∈ R then H a else A a
theorem glue_in {A H : Hp} {R : List Addr} {a : Addr} (h : a ∈ R) : glue A H R a = H a := if_pos h
theorem glue_out {A H : Hp} {R : List Addr} {a : Addr} (h : a ∉ R) : glue A H R a = A a := if_neg h
mutual
theorem RM.frz {K : PySem.W.Frag} {A A' H : Hp} (e : Same A A') : ∀ {v : V} {m : M} {fp : List Addr}, RM K A H v m fp → (∀ a ∈ fp, A' a = H a) → Rp K A' v (frz m)
  | _, _, _, .im r, _ => by rw [Kf.frz]; exact r.mono e
  | _, _, _, .ls h _ r, k => by rw [Kf.frz]; exact .lst ((k _ (List.mem_cons_self ..)).trans h) (r.mono e)
  | _, _, _, .dc h _ r, k => by rw [Kf.frz]; exact .dic ((k _ (List.mem_cons_self ..)).trans h) (RMs.frzK e r fun a ha => k a (List.mem_cons_of_mem _ ha))
  | _, _, _, .ob h _ r, k => by rw [Kf.frz]; exact .ins ((k _ (List.mem_cons_self ..)).trans h) (RMs.frzF e r fun a ha => k a (List.mem_cons_of_mem _ ha))
theorem RMs.frzK {K : PySem.W.Frag} {A A' H : Hp} (e : Same A A') : ∀ {vs : List (Key × V)} {ms : List (Key × M)} {fp : List Addr}, RMs K A H Key vs ms fp → (∀ a ∈ fp, A' a = H a) → RpM K A' Key vs (frzK ms)
  | _, _, _, .nil, _ => by rw [Kf.frzK]; exact .nil
  | _, _, _, .cons h r, k => by rw [Kf.frzK]; exact .cons (RM.frz e h fun a ha => k a (List.mem_append_left _ ha)) (RMs.frzK e r fun a ha => k a (List.mem_append_right _ ha))
theorem RMs.frzF {K : PySem.W.Frag} {A A' H : Hp} (e : Same A A') : ∀ {vs : List (Str × V)} {ms : List (Str × M)} {fp : List Addr}, RMs K A H Str vs ms fp → (∀ a ∈ fp, A' a = H a) → RpM K A' Str vs (frzF ms)
  | _, _, _, .nil, _ => by rw [Kf.frzF]; exact .nil
  | _, _, _, .cons h r, k => by rw [Kf.frzF]; exact .cons (RM.frz e h fun a ha => k a (List.mem_append_left _ ha)) (RMs.frzF e r fun a ha => k a (List.mem_append_right _ ha))
end
/-! ### data of tuples and flat things alone: no owned place bears it -/
mutual
def flatD : D → Bool
  | .tup xs => flatDs xs
  | .lst _ | .fls _ | .dic _ | .ins _ _ => false
  | _ => true
def flatDs : List D → Bool
  | [] => true
  | x :: xs => flatD x && flatDs xs
end
mutual
theorem Rp.flat {K : PySem.W.Frag} {A A' : Hp} (e : ∀ a o, A a = some o → ¬ Mut (some o) → A' a = some o) : ∀ {v : V} {d : D}, Rp K A v d → flatD d = true → Rp K A' v d
  | _, _, .non, _ => .non
  | _, _, .bl b, _ => .bl b
  | _, _, .int i, _ => .int i
  | _, _, .str x, _ => .str x
  | _, _, .lst h r, z => by rw [flatD] at z; cases z
  | _, _, .fls h r, z => by rw [flatD] at z; cases z
  | _, _, .tup h r, z => by
    rw [flatD] at z
    refine .tup ?_ (RpL.flat e r z)
    rcases h with (h | ⟨o, h⟩) | h
    · exact .inl (.inl (e _ _ h fun z => z))
    · exact .inl (.inr ⟨o, e _ _ h fun z => z⟩)
    · exact .inr h
  | _, _, .dic h r, z => by rw [flatD] at z; cases z
  | _, _, .ins h r, z => by rw [flatD] at z; cases z
theorem RpL.flat {K : PySem.W.Frag} {A A' : Hp} (e : ∀ a o, A a = some o → ¬ Mut (some o) → A' a = some o) : ∀ {vs : List V} {ds : List D}, RpL K A vs ds → flatDs ds = true → RpL K A' vs ds
  | _, _, .nil, _ => .nil
  | _, _, .cons h r, z => by
    rw [flatDs, Bool.and_eq_true] at z
    exact .cons (Rp.flat e h z.1) (RpL.flat e r z.2)
end
mutual
def safe : M → Bool
  | .im d => flatD d
  | .ls ds => flatDs ds
  | .dc ms => safeK ms
  | .ob _ ms => safeF ms
def safeK : List (Key × M) → Bool
  | [] => true
  | (_, m) :: r => safe m && safeK r
def safeF : List (Str × M) → Bool
  | [] => true
  | (_, m) :: r => safe m && safeF r
end
mutual
theorem RM.safe {K : PySem.W.Frag} {A A' H : Hp} (e : ∀ a o, A a = some o → ¬ Mut (some o) → A' a = some o) : ∀ {v : V} {m : M} {fp : List Addr}, RM K A H v m fp → safe m = true → (∀ a ∈ fp, A' a = none) → RM K A' H v m fp
  | _, _, _, .im r, z, _ => by rw [Kf.safe] at z; exact .im (r.flat e z)
  | _, _, _, .ls h _ r, z, n => by rw [Kf.safe] at z; exact .ls h (n _ (List.mem_cons_self ..)) (r.flat e z)
  | _, _, _, .dc h _ r, z, n => by rw [Kf.safe] at z; exact .dc h (n _ (List.mem_cons_self ..)) (RMs.safeK e r z fun a ha => n a (List.mem_cons_of_mem _ ha))
  | _, _, _, .ob h _ r, z, n => by rw [Kf.safe] at z; exact .ob h (n _ (List.mem_cons_self ..)) (RMs.safeF e r z fun a ha => n a (List.mem_cons_of_mem _ ha))
theorem RMs.safeK {K : PySem.W.Frag} {A A' H : Hp} (e : ∀ a o, A a = some o → ¬ Mut (some o) → A' a = some o) : ∀ {vs : List (Key × V)} {ms : List (Key × M)} {fp : List Addr}, RMs K A H Key vs ms fp → safeK ms = true → (∀ a ∈ fp, A' a = none) → RMs K A' H Key vs ms fp
  | _, _, _, .nil, _, _ => .nil
  | _, _, _, .cons h r, z, n => by
    rw [Kf.safeK, Bool.and_eq_true] at z
    exact .cons (RM.safe e h z.1 fun a ha => n a (List.mem_append_left _ ha)) (RMs.safeK e r z.2 fun a ha => n a (List.mem_append_right _ ha))
theorem RMs.safeF {K : PySem.W.Frag} {A A' H : Hp} (e : ∀ a o, A a = some o → ¬ Mut (some o) → A' a = some o) : ∀ {vs : List (Str × V)} {ms : List (Str × M)} {fp : List Addr}, RMs K A H Str vs ms fp → safeF ms = true → (∀ a ∈ fp, A' a = none) → RMs K A' H Str vs ms fp
  | _, _, _, .nil, _, _ => .nil
  | _, _, _, .cons h r, z, n => by
    rw [Kf.safeF, Bool.and_eq_true] at z
    exact .cons (RM.safe e h z.1 fun a ha => n a (List.mem_append_left _ ha)) (RMs.safeF e r z.2 fun a ha => n a (List.mem_append_right _ ha))
end

/-! ### steps: anchors grow, the heap changes at F alone; a code object's table may grow at any time -/
def noTab (o : HO) : Prop := ∀ ps, o ≠ .tbl ps
structure Ext (F : List Addr) (A H A' H' : Hp) : Prop where
  aa : Same A A'
  hh : ∀ a o, H a = some o → noTab o → a ∉ F → H' a = some o
  ah : Same A' H'
  nt : ∀ a o, A' a = some o → noTab o
  nw : ∀ a, H a ≠ none → A' a = A a
  dm : ∀ a, H a ≠ none → H' a ≠ none
  tb : ∀ a, GxR.TabG H a → GxR.TabG H' a
abbrev Ex0 := Ext []
/-- an anchor, and the tables T -/
structure Ok (T : List Addr) (A H : Hp) : Prop where
  s : Same A H
  nt : ∀ a o, A a = some o → noTab o
  tb : ∀ P ∈ T, GxR.TabG H P
section
variable {T : List Addr} {F G : List Addr} {A H A1 H1 A2 H2 A' H' : Hp} {p : Addr} {o : HO} {R : List Addr} {K : PySem.W.Frag} {v : V} {m : M} {fp : List Addr}
theorem Ext.refl (e : Ok T A H) : Ext F A H A H := ⟨Same.refl A, fun _ _ h _ _ => h, e.s, e.nt, fun _ _ => rfl, fun _ h => h, fun _ h => h⟩
theorem Ext.ok (x : Ext F A H A' H') (e : Ok T A H) : Ok T A' H' := ⟨x.ah, x.nt, fun P hP => x.tb P (e.tb P hP)⟩
theorem Ext.trans (x : Ext F A H A1 H1) (y : Ext G A1 H1 A2 H2) (g : ∀ a ∈ G, a ∈ F ∨ H a = none) : Ext F A H A2 H2 where
  aa := x.aa.trans y.aa
  hh := fun a o h n z => y.hh a o (x.hh a o h n z) n fun w => (g a w).elim z fun q => (nomatch q.symm.trans h)
  ah := y.ah
  nt := y.nt
  nw := fun a h => (y.nw a (x.dm a h)).trans (x.nw a h)
  dm := fun a h => y.dm a (x.dm a h)
  tb := fun a h => y.tb a (x.tb a h)
theorem Ext.tr0 (x : Ext F A H A1 H1) (y : Ex0 A1 H1 A2 H2) : Ext F A H A2 H2 := x.trans y fun _ z => nomatch z
theorem Ext.same (x : Ex0 A H A' H') : ∀ a o, H a = some o → noTab o → H' a = some o := fun a o h n => x.hh a o h n (fun z => nomatch z)
theorem Ext.up (x : Ex0 A H A' H') : Ext F A H A' H' := ⟨x.aa, fun a o h n _ => x.same a o h n, x.ah, x.nt, x.nw, x.dm, x.tb⟩
theorem tab_upd (h : H p = none) (a : Addr) (t : GxR.TabG H a) : GxR.TabG (upd H p o) a := by
  obtain ⟨ps, e, t⟩ := t
  exact ⟨ps, by rw [upd_ne (ne_of_none e h)]; exact e, t⟩
theorem dm_upd (a : Addr) (n : H a ≠ none) : upd H p o a ≠ none := fun z => by
  by_cases hb : a = p
  · rw [hb, upd_same] at z; cases z
  · rw [upd_ne hb] at z; exact n z
/-- a new object that nobody owns as yet: into the heap alone -/
theorem ext_new (e : Ok T A H) (h : H p = none) : Ex0 A H A (upd H p o) where
  aa := Same.refl A
  hh := fun a u q _ _ => by rw [upd_ne (ne_of_none q h)]; exact q
  ah := fun a u q => by rw [upd_ne (ne_of_none (e.s _ _ q) h)]; exact e.s _ _ q
  nt := e.nt
  nw := fun _ _ => rfl
  dm := dm_upd
  tb := tab_upd h
theorem same_new (h : A p = none) : Same A (upd A p o) := fun a u q => by rw [upd_ne (ne_of_none q h)]; exact q
theorem Ok.none (e : Ok T A H) (h : H p = none) : A p = none := e.s.free h
/-- .. and into the anchor -/
theorem ext_pin (e : Ok T A H) (h : H p = none) (n : noTab o) : Ex0 A H (upd A p o) (upd H p o) where
  aa := same_new (e.none h)
  hh := fun a u q _ _ => by rw [upd_ne (ne_of_none q h)]; exact q
  ah := fun a u q => by
    by_cases hb : a = p
    · subst hb; rw [upd_same] at q ⊢; exact q
    · rw [upd_ne hb] at q ⊢; exact e.s _ _ q
  nt := fun a u q => by
    by_cases hb : a = p
    · subst hb; rw [upd_same] at q; cases q; exact n
    · rw [upd_ne hb] at q; exact e.nt _ _ q
  nw := fun a z => by
    by_cases hb : a = p
    · exact absurd (hb ▸ h) z
    · rw [upd_ne hb]
  dm := dm_upd
  tb := tab_upd h
theorem mut_noTab (h : Mut (some o)) : noTab o := fun ps z => by subst z; exact h
/-- owned things become data -/
theorem glue_ok (e : Ok T A H) (h : ∀ a ∈ R, A a = none ∧ Mut (H a)) : Same A (glue A H R) ∧ Ok T (glue A H R) H := by
  refine ⟨fun a o q => ?_, fun a o q => ?_, fun a o q => ?_, e.tb⟩
  · rw [glue_out fun z => by rw [(h a z).1] at q; cases q]
    exact q
  · by_cases z : a ∈ R
    · rw [glue_in z] at q; exact q
    · rw [glue_out z] at q; exact e.s _ _ q
  · by_cases z : a ∈ R
    · rw [glue_in z] at q
      have mu := (h a z).2
      rw [q] at mu
      exact mut_noTab mu
    · rw [glue_out z] at q; exact e.nt _ _ q
def Fresh (H : Hp) (fp : List Addr) : Prop := ∀ a ∈ fp, H a = none
theorem Ext.ok0 (x : Ext F A H A' H') : Ok [] A' H' := ⟨x.ah, x.nt, fun _ z => nomatch z⟩
theorem Ext.glued (x : Ext F A H A' H') (n : ∀ a ∈ R, A' a = none ∧ Mut (H' a)) (f : Fresh H R) : Ext F A H (glue A' H' R) H' :=
  ⟨x.aa.trans (glue_ok x.ok0 n).1, x.hh, (glue_ok x.ok0 n).2.s, (glue_ok x.ok0 n).2.nt, fun a h => by
    rw [glue_out fun z => h (f a z)]
    exact x.nw a h, x.dm, x.tb⟩
/-- RM of what was there before a step that leaves its places -/
theorem RM.step (r : RM K A H v m fp) (x : Ext F A H A' H') (d : ∀ a ∈ fp, a ∉ F) : RM K A' H' v m fp := by
  have t := r.there
  refine r.mono x.aa (fun a ha => ?_) fun a ha => ?_
  · obtain ⟨_, mu⟩ := t a ha
    cases q : H a with
    | none => rw [q] at mu; exact mu.elim
    | some o =>
      rw [q] at mu
      exact x.hh a o q (mut_noTab mu) (d a ha)
  · obtain ⟨n, mu⟩ := t a ha
    rw [x.nw a fun z => by rw [z] at mu; exact mu.elim]
    exact n
theorem RM.step0 (r : RM K A H v m fp) (x : Ex0 A H A' H') : RM K A' H' v m fp := r.step x fun _ _ z => nomatch z
/-- what is owned is frozen -/
theorem RM.froze (x : Ext F A H A' H') (r : RM K A' H' v m fp) (f : Fresh H fp) : ∃ A2, Ext F A H A2 H' ∧ Same A' A2 ∧ Rp K A2 v (Kf.frz m) := by
  have t := r.there
  exact ⟨glue A' H' fp, x.glued t f, (glue_ok x.ok0 t).1, r.frz (glue_ok x.ok0 t).1 fun a h => glue_in h⟩
end
end Kf

set_option maxHeartbeats 1000000
/-! Kf: what an expression is worth over data; statements over what a frame holds. -/
namespace Kf
open PySem L2

/-! ### expressions: the readings as they are -/
abbrev Rho := List (Option M)
def Sl (K : PySem.W.Frag) (A H : Hp) (σ : L2.St) (ρ : Rho) : Prop := ∀ (i : Nat) (m : M), ρ[i]? = some (some m) → ∃ v fp, σ[i]? = some (some v) ∧ RM K A H v m fp
theorem Sl.step {K : PySem.W.Frag} {A A' H H' : Hp} {σ : L2.St} {ρ : Rho} (l : Sl K A H σ ρ) (x : Ex0 A H A' H') : Sl K A' H' σ ρ := fun i m h => by
  obtain ⟨v, fp, h1, h2⟩ := l i m h
  exact ⟨v, fp, h1, h2.step0 x⟩
/-- what follows a value that owns new things; one that is data -/
abbrev KM (K : PySem.W.Frag) (A H : Hp) (m : M) (Q : VK) : Prop := ∀ v A2 H2 fp, Ex0 A H A2 H2 → RM K A2 H2 v m fp → Fresh H fp → fp.Nodup → Q v H2
abbrev KD (K : PySem.W.Frag) (A H : Hp) (d : D) (Q : VK) : Prop := ∀ v A2 H2, Ex0 A H A2 H2 → Rp K A2 v d → Q v H2
theorem KM.im {K : PySem.W.Frag} {A H : Hp} {d : D} {Q : VK} (k : KM K A H (.im d) Q) : KD K A H d Q := fun v A2 H2 x r => k v A2 H2 [] x (.im r) (fun _ z => nomatch z) List.nodup_nil
theorem KM.now {T : List Addr} {K : PySem.W.Frag} {A H : Hp} {d : D} {v : V} {Q : VK} (k : KM K A H (.im d) Q) (e : Ok T A H) (r : Rp K A v d) : Q v H := k.im v A H (Ext.refl e) r
theorem KM.back {K : PySem.W.Frag} {A H A1 H1 : Hp} {m : M} {Q : VK} (k : KM K A H m Q) (x : Ex0 A H A1 H1) : KM K A1 H1 m Q := fun v A2 H2 fp y r f n =>
  k v A2 H2 fp (x.tr0 y) r (fun a ha => by
    cases q : H a with
    | none => rfl
    | some o => exact absurd (f a ha) (x.dm a (by rw [q]; simp))) n
theorem KM.ls {T : List Addr} {K : PySem.W.Frag} {A H : Hp} {ds : List D} {p : Addr} {xs : List V} {Q : VK} (k : KM K A H (.ls ds) Q) (e : Ok T A H) (hp : H p = none) (r : RpL K A xs ds) : Q (.ref p) (upd H p (.lst xs)) :=
  k (.ref p) A _ [p] (ext_new e hp) (.ls upd_same (e.none hp) r) (fun a ha => by
    rcases List.mem_cons.mp ha with h | h
    · rw [h]; exact hp
    · cases h) (by simp)
theorem KM.tup {T : List Addr} {K : PySem.W.Frag} {A H : Hp} {ds : List D} {p : Addr} {xs : List V} {Q : VK} (k : KM K A H (.im (.tup ds)) Q) (e : Ok T A H) (hp : H p = none) (r : RpL K A xs ds) : Q (.ref p) (upd H p (.tup xs)) :=
  k.im (.ref p) _ _ (ext_pin e hp fun _ z => nomatch z) (.tup (SqT.of upd_same) (r.mono (same_new (e.none hp))))

def tw (X : Cx) (e : Expr) : TE := fun σ H Q => ∀ (pins : List (Addr × Obj)) (s : Shared), Inv X pins σ H s → wpAny (model X.prog X.w) X.A (eval e X.env) (EP X pins σ Q) X.xe s
theorem pe_tw {X : Cx} {e : Expr} : PE X e (tw X e) := ⟨fun pins s _ _ _ I h => h pins s I⟩
def twT (X : Cx) (e : Expr) : TT := fun σ H Q => ∀ (pins : List (Addr × Obj)) (s : Shared), Inv X pins σ H s → wpAny (model X.prog X.w) X.A (isTrue e X.env (eval e X.env)) (TP X pins σ Q) X.xe s
theorem pt_tw {X : Cx} {e : Expr} : PT X e (twT X e) := ⟨fun pins s _ _ _ I h => h pins s I⟩
def twW (X : Cx) (e : Expr) : TT := fun σ H Q => ∀ (whole : Sem Value) (pins : List (Addr × Obj)) (s : Shared), Inv X pins σ H s → wpAny (model X.prog X.w) X.A (isTrue e X.env whole) (TP X pins σ Q) X.xe s
theorem pw_tw {X : Cx} {e : Expr} : PW X e (twW X e) := ⟨fun whole pins s _ _ _ I h => h whole pins s I⟩
def twA (X : Cx) (es : List Expr) : TA := fun σ H Q => ∀ (pos : Pos) (pins : List (Addr × Obj)) (s : Shared), Inv X pins σ H s → wpAny (model X.prog X.w) X.A (spliced (backTo pos (starEach es X.env))) (AP X pins σ Q) X.xe s
theorem pa_tw {X : Cx} {es : List Expr} : PA X es (twA X es) := ⟨fun pos pins s _ _ _ I h => h pos pins s I⟩
def tws (X : Cx) (st : Stmt) : TS := fun D σ H => ∀ (pins : List (Addr × Obj)) (s : Shared), Inv X pins σ H s → wpAny (model X.prog X.w) X.A (exec st X.env) (SP X pins D) X.xe s
theorem ps_tw {X : Cx} {st : Stmt} : PS X st (tws X st) := ⟨fun pins s _ _ _ I h => h pins s I⟩
def twss (X : Cx) (sts : List Stmt) : TS := fun D σ H => ∀ (pins : List (Addr × Obj)) (s : Shared), Inv X pins σ H s → wpAny (model X.prog X.w) X.A (execs sts X.env) (SP X pins D) X.xe s
theorem pss_tw {X : Cx} {sts : List Stmt} : PSs X sts (twss X sts) := ⟨fun pins s _ _ _ I h => h pins s I⟩
def twO (X : Cx) (f : Value → Value → Sem Value) : R2 := fun x y H Q => ∀ (pins : List (Addr × Obj)) (s : Shared) (σ : L2.St) (v u : Value), Inv X pins σ H s → RelV x v → RelV y u → wpAny (model X.prog X.w) X.A (f v u) (EP X pins σ Q) X.xe s
theorem op_tw {X : Cx} {f : Value → Value → Sem Value} : OpR X f (twO X f) := fun pins s σ _ _ _ v u _ I rx ry h => h pins s σ v u I rx ry

/-- over data: to what a reading leads -/
def Den (T : List Addr) (K : PySem.W.Frag) (te : TE) (ρ : Rho) (m : M) : Prop := ∀ A H σ, Ok T A H → Sl K A H σ ρ → ∀ Q : VK, KM K A H m Q → te σ H Q
def Did (T : List Addr) (K : PySem.W.Frag) (te : TE) (ρ : Rho) (d : D) : Prop := ∀ A H σ, Ok T A H → Sl K A H σ ρ → ∀ Q : VK, KD K A H d Q → te σ H Q
def Dit (T : List Addr) (K : PySem.W.Frag) (tt : TT) (ρ : Rho) (b : Bool) : Prop := ∀ A H σ, Ok T A H → Sl K A H σ ρ → ∀ Q : Bool → Hp → Prop, (∀ A2 H2, Ex0 A H A2 H2 → Q b H2) → tt σ H Q
def Dia (T : List Addr) (K : PySem.W.Frag) (ta : TA) (ρ : Rho) (ds : List D) : Prop := ∀ A H σ, Ok T A H → Sl K A H σ ρ → ∀ Q : List V → Hp → Prop, (∀ vs A2 H2, Ex0 A H A2 H2 → RpL K A2 vs ds → Q vs H2) → ta σ H Q
def Dop (T : List Addr) (K : PySem.W.Frag) (r : R2) (x y : D) (m : M) : Prop := ∀ A H v u, Ok T A H → Rp K A v x → Rp K A u y → ∀ Q : VK, KM K A H m Q → r v u H Q
/-- an expression's worth: owned | data; a test's; an argument list's -/
def Me (X : Cx) (T : List Addr) (e : Expr) (ρ : Rho) (m : M) : Prop := Den T X.K (tw X e) ρ m
def Ie (X : Cx) (T : List Addr) (e : Expr) (ρ : Rho) (d : D) : Prop := Did T X.K (tw X e) ρ d
def Te (X : Cx) (T : List Addr) (e : Expr) (ρ : Rho) (b : Bool) : Prop := Dit T X.K (twT X e) ρ b
def We (X : Cx) (T : List Addr) (e : Expr) (ρ : Rho) (b : Bool) : Prop := Dit T X.K (twW X e) ρ b
def As (X : Cx) (T : List Addr) (es : List Expr) (ρ : Rho) (ds : List D) : Prop := Dia T X.K (twA X es) ρ ds
def Op (X : Cx) (T : List Addr) (f : Value → Value → Sem Value) (x y : D) (m : M) : Prop := Dop T X.K (twO X f) x y m

section
variable {T : List Addr} {X : Cx} {e a b c : Expr} {es : List Expr} {ρ : Rho} {m : M} {d d1 d2 : D} {ds : List D} {k k1 k2 : Bool} {pos : Pos} {K : PySem.W.Frag} {te ta tb : TE}
theorem me_of (h : PE X e te) (q : Den T X.K te ρ m) : Me X T e ρ m := fun A H σ s l Q k pins st I => h.run pins st σ H Q I (q A H σ s l Q k)
theorem ie_of (h : PE X e te) (q : Did T X.K te ρ d) : Ie X T e ρ d := fun A H σ s l Q k pins st I => h.run pins st σ H Q I (q A H σ s l Q k)
theorem te_of {t : TT} (h : PT X e t) (q : Dit T X.K t ρ k) : Te X T e ρ k := fun A H σ s l Q k pins st I => h.run pins st σ H Q I (q A H σ s l Q k)
theorem we_of {t : TT} (h : PW X e t) (q : Dit T X.K t ρ k) : We X T e ρ k := fun A H σ s l Q k whole pins st I => h.run whole pins st σ H Q I (q A H σ s l Q k)
theorem as_of {t : TA} (h : PA X es t) (q : Dia T X.K t ρ ds) : As X T es ρ ds := fun A H σ s l Q k pos pins st I => h.run pos pins st σ H Q I (q A H σ s l Q k)
theorem op_of {f : Value → Value → Sem Value} {r : R2} (h : OpR X f r) (q : Dop T X.K r d1 d2 m) : Op X T f d1 d2 m := fun A H v u s rv ru Q k pins st σ v' u' I hv hu => h pins st σ H v u v' u' Q I hv hu (q A H v u s rv ru Q k)
theorem den_im (h : Did T K te ρ d) : Den T K te ρ (.im d) := fun A H σ s l Q k => h A H σ s l Q k.im
theorem did_m (h : Den T K te ρ m) : Did T K te ρ (frz m) := fun A H σ s l Q k => h A H σ s l Q fun v A2 H2 fp x r f _ => by
  obtain ⟨A3, x3, _, r3⟩ := r.froze x f
  exact k v A3 H2 x3 r3
theorem me_ie (h : Ie X T e ρ d) : Me X T e ρ (.im d) := den_im h
theorem ie_me (h : Me X T e ρ m) : Ie X T e ρ (frz m) := did_m h
theorem ie_im (h : Me X T e ρ (.im d)) : Ie X T e ρ d := by
  have q := did_m h
  rw [frz] at q
  exact q
theorem ie_ls (h : Me X T e ρ (.ls ds)) : Ie X T e ρ (.lst ds) := by
  have q := did_m h
  rw [frz] at q
  exact q
theorem Ie.to (h : Ie X T e ρ d1) (q : d1 = d2) : Ie X T e ρ d2 := q ▸ h
theorem Me.to {m1 m2 : M} (h : Me X T e ρ m1) (q : m1 = m2) : Me X T e ρ m2 := q ▸ h
theorem Te.to (h : Te X T e ρ k1) (q : k1 = k2) : Te X T e ρ k2 := q ▸ h

/-! ### names, constants -/
theorem ie_var {i : Nat} {x : Str} (h : PE X (.Name x pos) (tVar i)) (hr : ρ[i]? = some (some (.im d))) : Ie X T (.Name x pos) ρ d := ie_of h fun A H σ s l Q k => by
  obtain ⟨v, fp, h1, h2⟩ := l i _ hr
  cases h2 with
  | im h2 => exact ⟨v, h1, k v A H (Ext.refl s) h2⟩
theorem ie_c {v : V} (h : PE X e (tC v)) (hr : ∀ A, Rp X.K A v d) : Ie X T e ρ d := ie_of h fun A H _ s _ _ k => k v A H (Ext.refl s) (hr A)
theorem ie_int {i : Int} {j : Nat} : Ie X T (.Constant (.int i) j pos) ρ (.int i) := ie_c pe_int fun _ => .int i
theorem ie_str {x : Str} {j : Nat} : Ie X T (.Constant (.str x) j pos) ρ (.str x) := ie_c pe_str fun _ => .str x
theorem ie_bl {x : Bool} {j : Nat} : Ie X T (.Constant (.bool x) j pos) ρ (.bl x) := ie_c pe_bl fun _ => .bl x
theorem ie_non {j : Nat} : Ie X T (.Constant .none j pos) ρ .non := ie_c pe_non fun _ => .non

/-! ### argument lists, displays -/
theorem as_nil : As X T [] ρ [] := as_of pa_nil fun A H _ s _ _ k => k [] A H (Ext.refl s) .nil
theorem as_cons (h : Ie X T e ρ d) (hr : As X T es ρ ds) (hs : starEach (e :: es) X.env = (false, eval e X.env) :: starEach es X.env := by rfl) : As X T (e :: es) ρ (d :: ds) :=
  as_of (pa_cons pe_tw pa_tw hs) fun A H σ s l Q k => h A H σ s l _ fun v A1 H1 x1 r1 => hr A1 H1 σ (x1.ok s) (l.step x1) _ fun vs A2 H2 x2 r2 => k _ A2 H2 (x1.tr0 x2) (.cons (r1.mono x2.aa) r2)
theorem RpL.len {K : PySem.W.Frag} {A : Hp} : ∀ {vs : List V} {ds : List D}, RpL K A vs ds → vs.length = ds.length
  | _, _, .nil => rfl
  | _, _, .cons _ r => by simp [RpL.len r]
theorem me_lst (h : As X T es ρ ds) (hz : decide (ds.length ≤ 64) = true := by rfl) : Me X T (.List es pos) ρ (.ls ds) :=
  me_of (pe_lst pa_tw) fun A H σ s l Q k => h A H σ s l _ fun vs A1 H1 x1 r1 => ⟨by rw [r1.len]; exact Nat.le_trans (of_decide_eq_true hz) (by decide), fun p hp => (k.back x1).ls (x1.ok s) hp r1⟩
theorem ie_tup {x1 : Nat} (h : As X T es ρ ds) (hz : decide (ds.length ≤ 64) = true := by rfl) : Ie X T (.Tuple es x1 pos) ρ (.tup ds) :=
  ie_im (me_of (pe_tup pa_tw) fun A H σ s l Q k => h A H σ s l _ fun vs A1 H1 x1 r1 => ⟨by rw [r1.len]; exact Nat.le_trans (of_decide_eq_true hz) (by decide), fun p hp => (k.back x1).tup (x1.ok s) hp r1⟩)

/-! ### operators -/
theorem den_op {r : R2} (h1 : Did T K ta ρ d1) (h2 : Did T K tb ρ d2) (ho : Dop T K r d1 d2 m) : Den T K (tOp r ta tb) ρ m := fun A H σ s l Q k =>
  h1 A H σ s l _ fun v A1 H1 x1 r1 => h2 A1 H1 σ (x1.ok s) (l.step x1) _ fun u A2 H2 x2 r2 => ho A2 H2 v u (x2.ok (x1.ok s)) (r1.mono x2.aa) r2 Q (k.back (x1.tr0 x2))
theorem me_bin {op : Operator} (h1 : Ie X T a ρ d1) (h2 : Ie X T b ρ d2) (ho : Op X T (binaryOp op) d1 d2 m) : Me X T (.BinOp a op b pos) ρ m := me_of (pe_op op_tw pe_tw pe_tw) (den_op h1 h2 ho)
theorem me_cmp {op : CmpOp} (h1 : Ie X T a ρ d1) (h2 : Ie X T b ρ d2) (ho : Op X T (compareOp op) d1 d2 m) (hm : behindInMarks op b = false := by first | rfl | exact nomark _) : Me X T (.Compare a [op] [b] pos) ρ m := me_of (pe_cmpR op_tw pe_tw pe_tw hm) (den_op h1 h2 ho)
theorem te_cmp {op : CmpOp} (h1 : Ie X T a ρ d1) (h2 : Ie X T b ρ d2) (ho : Op X T (compareOp op) d1 d2 (.im (.bl k))) (hm : behindInMarks op b = false := by first | rfl | exact nomark _) : Te X T (.Compare a [op] [b] pos) ρ k :=
  te_of (pt_cmpR op_tw pe_tw pe_tw hm) fun A H σ s l Q q => den_op h1 h2 ho A H σ s l _ fun v A2 H2 fp x r _ _ => by
    cases r with
    | im r => cases r; exact ⟨k, rfl, q A2 H2 x⟩
theorem te_val (h : Ie X T e ρ (.bl k)) (he : ∀ whole, isTrue e X.env whole = (do let v ← whole; standAt e.pos; holding [v] (truthy v)) := by intro _; rfl) : Te X T e ρ k :=
  te_of (pt_val pe_tw he) fun A H σ s l Q q => h A H σ s l _ fun v A2 H2 x r => by
    cases r
    exact ⟨k, rfl, q A2 H2 x⟩
theorem te_not (h : Te X T e ρ k) : Te X T (.UnaryOp .Not e pos) ρ (!k) := te_of (pt_not pt_tw) fun A H σ s l Q q => h A H σ s l _ q
theorem te_w (h : We X T e ρ k) : Te X T e ρ k := te_of (pw_tw.pt) h
theorem we_and1 (h : Te X T a ρ k) : We X T (.BoolOp .And [a] pos) ρ k := we_of (pw_and1 pt_tw) h
theorem we_or1 (h : Te X T a ρ k) : We X T (.BoolOp .Or [a] pos) ρ k := we_of (pw_or1 pt_tw) h
theorem we_and {rest : List Expr} (h : Te X T a ρ k1) (hr : k1 = true → We X T (.BoolOp .And (b :: rest) pos) ρ k2) : We X T (.BoolOp .And (a :: b :: rest) pos) ρ (k1 && k2) :=
  we_of (pw_and pt_tw pw_tw) fun A H σ s l Q q => h A H σ s l _ fun A1 H1 x1 => by
    cases k1 with
    | true => exact (iteT (hr rfl A1 H1 σ (x1.ok s) (l.step x1) _ fun A2 H2 x2 => q A2 H2 (x1.tr0 x2)))
    | false => exact iteF (q A1 H1 x1)
theorem we_or {rest : List Expr} (h : Te X T a ρ k1) (hr : k1 = false → We X T (.BoolOp .Or (b :: rest) pos) ρ k2) : We X T (.BoolOp .Or (a :: b :: rest) pos) ρ (k1 || k2) :=
  we_of (pw_or pt_tw pw_tw) fun A H σ s l Q q => h A H σ s l _ fun A1 H1 x1 => by
    cases k1 with
    | true => exact (iteT (q A1 H1 x1))
    | false => exact iteF (hr rfl A1 H1 σ (x1.ok s) (l.step x1) _ fun A2 H2 x2 => q A2 H2 (x1.tr0 x2))
theorem ie_one {op : BoolOp} (h : Ie X T a ρ d) : Ie X T (.BoolOp op [a] pos) ρ d := ie_of (pe_one pe_tw) h
theorem ie_and {rest : List Expr} (h : Ie X T a ρ (.bl k1)) (hr : k1 = true → Ie X T (.BoolOp .And (b :: rest) pos) ρ (.bl k2)) : Ie X T (.BoolOp .And (a :: b :: rest) pos) ρ (.bl (k1 && k2)) :=
  ie_of (pe_and pe_tw pe_tw) fun A H σ s l Q q => h A H σ s l _ fun v A1 H1 x1 r1 => by
    cases r1
    refine ⟨k1, rfl, ?_⟩
    cases k1 with
    | true => exact (iteT (hr rfl A1 H1 σ (x1.ok s) (l.step x1) _ fun v A2 H2 x2 => q v A2 H2 (x1.tr0 x2)))
    | false => exact iteF (q _ A1 H1 x1 (.bl _))
theorem ie_or {rest : List Expr} (h : Ie X T a ρ (.bl k1)) (hr : k1 = false → Ie X T (.BoolOp .Or (b :: rest) pos) ρ (.bl k2)) : Ie X T (.BoolOp .Or (a :: b :: rest) pos) ρ (.bl (k1 || k2)) :=
  ie_of (pe_or pe_tw pe_tw) fun A H σ s l Q q => h A H σ s l _ fun v A1 H1 x1 r1 => by
    cases r1
    refine ⟨k1, rfl, ?_⟩
    cases k1 with
    | true => exact (iteT (q _ A1 H1 x1 (.bl _)))
    | false => exact iteF (hr rfl A1 H1 σ (x1.ok s) (l.step x1) _ fun v A2 H2 x2 => q v A2 H2 (x1.tr0 x2))
theorem ie_not (h : Ie X T a ρ (.bl k)) : Ie X T (.UnaryOp .Not a pos) ρ (.bl (!k)) :=
  ie_of (pe_not pe_tw) fun A H σ s l Q q => h A H σ s l _ fun v A1 H1 x1 r1 => by
    cases r1
    exact ⟨k, rfl, q _ A1 H1 x1 (.bl _)⟩
theorem me_if {m1 m2 : M} (h : Te X T c ρ k) (h1 : k = true → Me X T a ρ m1) (h2 : k = false → Me X T b ρ m2) : Me X T (.IfExp c a b pos) ρ (if k = true then m1 else m2) :=
  me_of (pe_ifExp pt_tw pe_tw pe_tw) fun A H σ s l Q q => h A H σ s l _ fun A1 H1 x1 => by
    cases k with
    | true => exact (iteT (h1 rfl A1 H1 σ (x1.ok s) (l.step x1) _ (q.back x1)))
    | false => exact iteF (h2 rfl A1 H1 σ (x1.ok s) (l.step x1) _ (q.back x1))
theorem ie_if (h : Te X T c ρ k) (h1 : k = true → Ie X T a ρ d1) (h2 : k = false → Ie X T b ρ d2) : Ie X T (.IfExp c a b pos) ρ (if k = true then d1 else d2) := by
  refine ie_im (Me.to (me_if h (fun q => me_ie (h1 q)) (fun q => me_ie (h2 q))) ?_)
  cases k <;> rfl
end

/-! ### what is owned taken as data for a while: every place that may change, but is not in the anchor -/
open Classical in
noncomputable def glueP (A H : Hp) : Hp := fun a => if A a = none ∧ Mut (H a) then H a else A a
theorem glueP_in {A H : Hp} {a : Addr} (h : A a = none ∧ Mut (H a)) : glueP A H a = H a := if_pos h
theorem glueP_out {A H : Hp} {a : Addr} (h : ¬ (A a = none ∧ Mut (H a))) : glueP A H a = A a := if_neg h
theorem glueP_ok {T : List Addr} {A H : Hp} (e : Ok T A H) : Same A (glueP A H) ∧ Ok T (glueP A H) H := by
  refine ⟨fun a o q => ?_, fun a o q => ?_, fun a o q => ?_, e.tb⟩
  · rw [glueP_out fun z => by rw [z.1] at q; cases q]
    exact q
  · by_cases z : A a = none ∧ Mut (H a)
    · rw [glueP_in z] at q; exact q
    · rw [glueP_out z] at q; exact e.s _ _ q
  · by_cases z : A a = none ∧ Mut (H a)
    · rw [glueP_in z] at q
      have mu := z.2
      rw [q] at mu
      exact mut_noTab mu
    · rw [glueP_out z] at q; exact e.nt _ _ q
def frzR (ρ : Rho) : Rho := ρ.map (Option.map fun m => .im (frz m))
theorem Sl.frz {K : PySem.W.Frag} {A H : Hp} {σ : L2.St} {ρ : Rho} {T : List Addr} (e : Ok T A H) (l : Sl K A H σ ρ) : Sl K (glueP A H) H σ (frzR ρ) := fun i m h => by
  unfold frzR at h
  rw [List.getElem?_map] at h
  cases q : ρ[i]? with
  | none => rw [q] at h; cases h
  | some o =>
    rw [q] at h
    cases o with
    | none => cases h
    | some m0 =>
      cases h
      obtain ⟨v, fp, h1, h2⟩ := l i m0 q
      exact ⟨v, [], h1, .im (h2.frz (glueP_ok e).1 fun a z => glueP_in (h2.there a z))⟩
/-- .. and let go again -/
theorem unglue {A H A2 H2 : Hp} {T : List Addr} (e : Ok T A H) (x : Ex0 (glueP A H) H A2 H2) : ∃ B : Hp, Ex0 A H B H2 ∧ (∀ a, A a = none ∧ Mut (H a) → B a = none) ∧ (∀ a, ¬ (A a = none ∧ Mut (H a)) → B a = A2 a) ∧ ∀ a, A a = none ∧ Mut (H a) → A2 a = H a := by
  classical
  have n2 : ∀ a, A a = none ∧ Mut (H a) → A2 a = H a := fun a z => by
    rw [x.nw a fun w => by have := z.2; rw [w] at this; exact this.elim]
    exact glueP_in z
  obtain ⟨B, hB⟩ : ∃ B : Hp, B = fun b => if A b = none ∧ Mut (H b) then none else A2 b := ⟨_, rfl⟩
  have b1 : ∀ a, A a = none ∧ Mut (H a) → B a = none := fun a z => by rw [hB]; exact if_pos z
  have b2 : ∀ a, ¬ (A a = none ∧ Mut (H a)) → B a = A2 a := fun a z => by rw [hB]; exact if_neg z
  refine ⟨B, ⟨fun a o w => ?_, x.hh, fun a o w => ?_, fun a o w => ?_, fun a w => ?_, x.dm, x.tb⟩, b1, b2, n2⟩
  · have nf : ¬ (A a = none ∧ Mut (H a)) := fun z => by rw [z.1] at w; cases w
    rw [b2 a nf]
    exact x.aa a o ((glueP_ok e).1 a o w)
  · by_cases z : A a = none ∧ Mut (H a)
    · rw [b1 a z] at w; cases w
    · rw [b2 a z] at w; exact x.ah a o w
  · by_cases z : A a = none ∧ Mut (H a)
    · rw [b1 a z] at w; cases w
    · rw [b2 a z] at w; exact x.nt a o w
  · by_cases z : A a = none ∧ Mut (H a)
    · rw [b1 a z, z.1]
    · rw [b2 a z, x.nw a w, glueP_out z]
section
variable {T : List Addr} {X : Cx} {e : Expr} {es : List Expr} {ρ : Rho} {m : M} {d : D} {ds : List D} {k : Bool}
theorem den_fz {te : TE} (h : Den T X.K te (frzR ρ) m) (hs : safe m = true) : Den T X.K te ρ m := fun A H σ s l Q q => by
  refine h (glueP A H) H σ (glueP_ok s).2 (l.frz s) Q fun v A2 H2 fp x r f n => ?_
  obtain ⟨B, xx, b1, b2, n2⟩ := unglue s x
  refine q v B H2 fp xx (r.safe (fun a o w nm => ?_) hs fun a z => ?_) f n
  · rw [b2 a fun z => nm (by rw [← w, n2 a z]; exact z.2)]
    exact w
  · by_cases w : A a = none ∧ Mut (H a)
    · exact b1 a w
    · rw [b2 a w]; exact (r.there a z).1
theorem me_fz (h : Me X T e (frzR ρ) m) (hs : safe m = true) : Me X T e ρ m := den_fz h hs
theorem ie_fz (h : Ie X T e (frzR ρ) d) (hs : flatD d = true) : Ie X T e ρ d := ie_im (me_fz (me_ie h) (by rw [safe]; exact hs))
theorem te_fz (h : Te X T e (frzR ρ) k) : Te X T e ρ k := fun A H σ s l Q q => h (glueP A H) H σ (glueP_ok s).2 (l.frz s) Q fun A2 H2 x => by
  obtain ⟨B, xx, _⟩ := unglue s x
  exact q B H2 xx
theorem as_fz (h : As X T es (frzR ρ) ds) (hs : flatDs ds = true) : As X T es ρ ds := fun A H σ s l Q q => h (glueP A H) H σ (glueP_ok s).2 (l.frz s) Q fun vs A2 H2 x r => by
  obtain ⟨B, xx, b1, b2, n2⟩ := unglue s x
  refine q vs B H2 xx (r.flat (fun a o w nm => ?_) hs)
  rw [b2 a fun z => nm (by rw [← w, n2 a z]; exact z.2)]
  exact w
end
end Kf

set_option maxHeartbeats 1000000
/-! Kf: statements over what a frame holds; defs over data. -/
namespace Kf
open PySem L2

/-! ### what a frame holds -/
abbrev Rhm := Rho
inductive Sls (K : PySem.W.Frag) (A H : Hp) : L2.St → Rhm → List Addr → Prop
  | nil : Sls K A H [] [] []
  | any {o : Option V} {σ : L2.St} {ρ : Rhm} {fp : List Addr} : Sls K A H σ ρ fp → Sls K A H (o :: σ) (none :: ρ) fp
  | val {v : V} {m : M} {p : List Addr} {σ : L2.St} {ρ : Rhm} {fp : List Addr} : RM K A H v m p → Sls K A H σ ρ fp → Sls K A H (some v :: σ) (some m :: ρ) (p ++ fp)
theorem Sls.there {K : PySem.W.Frag} {A H : Hp} : ∀ {σ : L2.St} {ρ : Rhm} {fp : List Addr}, Sls K A H σ ρ fp → ∀ a ∈ fp, A a = none ∧ Mut (H a)
  | _, _, _, .nil, _, z => nomatch z
  | _, _, _, .any r, a, z => r.there a z
  | _, _, _, .val h r, a, z => by
    rcases List.mem_append.mp z with z | z
    · exact h.there a z
    · exact r.there a z
theorem Sls.step {K : PySem.W.Frag} {F : List Addr} {A H A' H' : Hp} (x : Ext F A H A' H') : ∀ {σ : L2.St} {ρ : Rhm} {fp : List Addr}, Sls K A H σ ρ fp → (∀ a ∈ fp, a ∉ F) → Sls K A' H' σ ρ fp
  | _, _, _, .nil, _ => .nil
  | _, _, _, .any r, d => .any (Sls.step x r d)
  | _, _, _, .val h r, d => .val (h.step x fun a z => d a (List.mem_append_left _ z)) (Sls.step x r fun a z => d a (List.mem_append_right _ z))
theorem Sls.mono {K : PySem.W.Frag} {A A' H H' : Hp} (e : Same A A') : ∀ {σ : L2.St} {ρ : Rhm} {fp : List Addr}, Sls K A H σ ρ fp → (∀ a ∈ fp, H' a = H a) → (∀ a ∈ fp, A' a = none) → Sls K A' H' σ ρ fp
  | _, _, _, .nil, _, _ => .nil
  | _, _, _, .any r, k, z => .any (Sls.mono e r k z)
  | _, _, _, .val h r, k, z => .val (h.mono e (fun a w => k a (List.mem_append_left _ w)) fun a w => z a (List.mem_append_left _ w)) (Sls.mono e r (fun a w => k a (List.mem_append_right _ w)) fun a w => z a (List.mem_append_right _ w))
theorem Sls.len {K : PySem.W.Frag} {A H : Hp} : ∀ {σ : L2.St} {ρ : Rhm} {fp : List Addr}, Sls K A H σ ρ fp → σ.length = ρ.length
  | _, _, _, .nil => rfl
  | _, _, _, .any r => by simp [r.len]
  | _, _, _, .val _ r => by simp [r.len]
/-- a slot is stored; the places that it had are let go -/
theorem Sls.set {K : PySem.W.Frag} {A H : Hp} {v : V} {m : M} {p : List Addr} (h : RM K A H v m p) : ∀ {σ : L2.St} {ρ : Rhm} {fp : List Addr} (i : Nat), Sls K A H σ ρ fp → i < ρ.length → ∃ fp', Sls K A H (σ.set i (some v)) (ρ.set i (some m)) fp' ∧ (∀ a ∈ fp', a ∈ p ∨ a ∈ fp) ∧ (p.Nodup → fp.Nodup → (∀ a ∈ p, a ∉ fp) → fp'.Nodup)
  | _, _, _, i, .nil, l => absurd l (by simp)
  | _, _, fp, 0, .any r, _ => ⟨p ++ fp, .val h r, fun a z => List.mem_append.mp z, fun n1 n2 d => List.nodup_append.mpr ⟨n1, n2, fun a ha b hb q => d a ha (q ▸ hb)⟩⟩
  | _, _, _, 0, .val (p := p0) (fp := fp) _ r, _ => ⟨p ++ fp, .val h r, fun a z => (List.mem_append.mp z).imp id fun w => List.mem_append_right _ w, fun n1 n2 d => List.nodup_append.mpr ⟨n1, (List.nodup_append.mp n2).2.1, fun a ha b hb q => d a ha (List.mem_append_right _ (q ▸ hb))⟩⟩
  | _, _, fp, i + 1, .any r, l => by
    obtain ⟨fp', h1, h2, h3⟩ := Sls.set h i r (by simpa using l)
    exact ⟨fp', .any h1, h2, h3⟩
  | _, _, _, i + 1, .val (p := p0) (fp := fp) h0 r, l => by
    obtain ⟨fp', h1, h2, h3⟩ := Sls.set h i r (by simpa using l)
    refine ⟨p0 ++ fp', .val h0 h1, fun a z => ?_, fun n1 n2 d => ?_⟩
    · rcases List.mem_append.mp z with z | z
      · exact .inr (List.mem_append_left _ z)
      · exact (h2 a z).imp id fun w => List.mem_append_right _ w
    · obtain ⟨a1, a2, a3⟩ := List.nodup_append.mp n2
      refine List.nodup_append.mpr ⟨a1, h3 n1 a2 fun a ha z => d a ha (List.mem_append_right _ z), fun a ha b hb q => ?_⟩
      subst q
      rcases h2 a hb with z | z
      · exact d a z (List.mem_append_left _ ha)
      · exact a3 a ha a z rfl

/-- what slot i bears is altered, the rest stays -/
theorem Sls.alter {K : PySem.W.Frag} {A H : Hp} {m : M} : ∀ {σ : L2.St} {ρ : Rhm} {fp : List Addr} (i : Nat), Sls K A H σ ρ fp → ρ[i]? = some (some m) → fp.Nodup →
    ∃ v p, σ[i]? = some (some v) ∧ RM K A H v m p ∧ (∀ a ∈ p, a ∈ fp) ∧ p.Nodup ∧ ∀ A' H' m' p', Same A A' → (∀ a ∈ fp, a ∉ p → H' a = H a ∧ A' a = none) → RM K A' H' v m' p' → p'.Nodup → (∀ a ∈ p', a ∈ p ∨ a ∉ fp) →
      ∃ fp', Sls K A' H' σ (ρ.set i (some m')) fp' ∧ fp'.Nodup ∧ ∀ a ∈ fp', a ∈ p' ∨ (a ∈ fp ∧ a ∉ p)
  | _, _, _, i, .nil, h, _ => by simp at h
  | _, _, _, 0, .any r, h, _ => by simp at h
  | _, _, fp, i + 1, .any r, h, n => by
    obtain ⟨v, p, h1, h2, h3, h4, h5⟩ := Sls.alter i r (by simpa using h) n
    refine ⟨v, p, by simpa using h1, h2, h3, h4, fun A' H' m' p' e k r' n' d => ?_⟩
    obtain ⟨fp', q1, q2, q3⟩ := h5 A' H' m' p' e k r' n' d
    exact ⟨fp', .any q1, q2, q3⟩
  | _, _, _, 0, .val (v := v) (m := m0) (p := p0) (fp := fp) h0 r, h, n => by
    have e0 : m0 = m := by simpa using h
    subst e0
    obtain ⟨n1, n2, n3⟩ := List.nodup_append.mp n
    refine ⟨v, p0, rfl, h0, fun a z => List.mem_append_left _ z, n1, fun A' H' m' p' e k r' n' d => ?_⟩
    have out : ∀ a ∈ fp, a ∉ p0 := fun a z w => n3 a w a z rfl
    refine ⟨p' ++ fp, .val r' (Sls.mono e r (fun a z => (k a (List.mem_append_right _ z) (out a z)).1) fun a z => (k a (List.mem_append_right _ z) (out a z)).2), List.nodup_append.mpr ⟨n', n2, fun a ha b hb q => ?_⟩, fun a z => ?_⟩
    · subst q
      rcases d a ha with z | z
      · exact out a hb z
      · exact z (List.mem_append_right _ hb)
    · rcases List.mem_append.mp z with z | z
      · exact .inl z
      · exact .inr ⟨List.mem_append_right _ z, out a z⟩
  | _, _, _, i + 1, .val (v := v0) (m := m0) (p := p0) (fp := fp) h0 r, h, n => by
    obtain ⟨n1, n2, n3⟩ := List.nodup_append.mp n
    obtain ⟨v, p, h1, h2, h3, h4, h5⟩ := Sls.alter i r (by simpa using h) n2
    have out : ∀ a ∈ p0, a ∉ p := fun a z w => n3 a z a (h3 a w) rfl
    refine ⟨v, p, by simpa using h1, h2, fun a z => List.mem_append_right _ (h3 a z), h4, fun A' H' m' p' e k r' n' d => ?_⟩
    obtain ⟨fp', q1, q2, q3⟩ := h5 A' H' m' p' e (fun a z w => k a (List.mem_append_right _ z) w) r' n' fun a z => (d a z).imp id fun w u => w (List.mem_append_right _ u)
    refine ⟨p0 ++ fp', .val (h0.mono e (fun a z => (k a (List.mem_append_left _ z) (out a z)).1) fun a z => (k a (List.mem_append_left _ z) (out a z)).2) q1, List.nodup_append.mpr ⟨n1, q2, fun a ha b hb q => ?_⟩, fun a z => ?_⟩
    · subst q
      rcases q3 a hb with z | z
      · rcases d a z with w | w
        · exact out a ha w
        · exact w (List.mem_append_left _ ha)
      · exact n3 a ha a z.1 rfl
    · rcases List.mem_append.mp z with z | z
      · exact .inr ⟨List.mem_append_left _ z, out a z⟩
      · exact (q3 a z).imp id fun w => ⟨List.mem_append_right _ w.1, w.2⟩

/-- where a def stands: its context; the places that may change, the anchor and the heap of the entry; the tables -/
structure Fc where
  X : Cx
  T : List Addr
  F : List Addr
  A0 : Hp
  H0 : Hp
  P : List Hp := []
  S0 : Option V := none
/-- the state of a frame -/
structure Es (c : Fc) (A H : Hp) (σ : L2.St) (ρ : Rhm) (fp : List Addr) : Prop where
  ok : Ok c.T A H
  x : Ext c.F c.A0 c.H0 A H
  sl : Sls c.X.K A H σ ρ fp
  nd : fp.Nodup
  own : ∀ a ∈ fp, a ∈ c.F ∨ c.H0 a = none
  pn : ∀ B ∈ c.P, Same B A
  fix : ∀ v, c.S0 = some v → σ[0]? = some (some v)
def Nx (c : Fc) (P : L2.St → Hp → Prop) (ρ : Rhm) : Prop := ∀ A H σ fp, Es c A H σ ρ fp → P σ H
/-- what follows a value handed back that is new or data -/
def Rt (c : Fc) (R : VK) (m : M) : Prop := ∀ v A H fp, Ok c.T A H → Ext c.F c.A0 c.H0 A H → RM c.X.K A H v m fp → fp.Nodup → Fresh c.H0 fp → R v H
def Ss (c : Fc) (st : Stmt) (D : Ends) (ρ : Rhm) : Prop := Nx c (tws c.X st D) ρ
def Gs (c : Fc) (sts : List Stmt) (D : Ends) (ρ : Rhm) : Prop := Nx c (twss c.X sts D) ρ

section
variable {c : Fc} {st : Stmt} {sts : List Stmt} {D : Ends} {ρ : Rhm} {e : Expr} {m : M} {d : Kf.D} {k : Bool} {pos : Pos} {A H : Hp} {σ : L2.St} {fp : List Addr}
theorem ss_of {t : TS} (h : PS c.X st t) (q : Nx c (t D) ρ) : Ss c st D ρ := fun A H σ fp es pins s I => h.run pins s σ H D I (q A H σ fp es)
theorem gs_of {t : TS} (h : PSs c.X sts t) (q : Nx c (t D) ρ) : Gs c sts D ρ := fun A H σ fp es pins s I => h.run pins s σ H D I (q A H σ fp es)
theorem gs_nil (q : Nx c D.nx ρ) : Gs c [] D ρ := gs_of pss_nil q
theorem gs_cons (h : Ss c st { D with nx := twss c.X sts D } ρ) : Gs c (st :: sts) D ρ := gs_of (pss_cons ps_tw pss_tw) h
theorem gs_one (h : Ss c st D ρ) : Gs c [st] D ρ := gs_of (pss_one ps_tw) h

theorem Sls.sl {K : PySem.W.Frag} {A H : Hp} : ∀ {σ : L2.St} {ρ : Rhm} {fp : List Addr}, Sls K A H σ ρ fp → Sl K A H σ ρ
  | _, _, _, .nil => fun i m h => by simp at h
  | _, _, _, .any r => fun i m h => by
    cases i with
    | zero => simp at h
    | succ i => exact Sls.sl r i m (by simpa using h)
  | _, _, _, .val (v := v) (m := m0) (p := p) h r => fun i m q => by
    cases i with
    | zero =>
      have e2 : m0 = m := by simpa using q
      subst e2
      exact ⟨v, p, rfl, h⟩
    | succ i => exact Sls.sl r i m (by simpa using q)
/-- what an expression is worth here -/
abbrev Asks (c : Fc) (ρ : Rhm) (e : Expr) (m : M) : Prop := Me c.X c.T e ρ m
theorem ask_h (h : Me c.X c.T e ρ m) : Asks c ρ e m := h
theorem ask_f (h : Me c.X c.T e (frzR ρ) m) (s : safe m = true) : Asks c ρ e m := me_fz h s
theorem Es.ask {R : V → Hp → Prop} (es : Es c A H σ ρ fp) (h : Asks c ρ e m)
    (q : ∀ v A2 H2 p, Ex0 A H A2 H2 → Ok c.T A2 H2 → RM c.X.K A2 H2 v m p → Fresh H p → p.Nodup → R v H2) : tw c.X e σ H R :=
  h A H σ es.ok es.sl.sl R fun v A2 H2 p x r f n => q v A2 H2 p x (x.ok es.ok) r f n
theorem Es.askT {R : Bool → Hp → Prop} (es : Es c A H σ ρ fp) (h : Te c.X c.T e ρ k) (q : ∀ A2 H2, Ex0 A H A2 H2 → Ok c.T A2 H2 → R k H2) : twT c.X e σ H R :=
  h A H σ es.ok es.sl.sl R fun A2 H2 x => q A2 H2 x (x.ok es.ok)
theorem Es.step0 (es : Es c A H σ ρ fp) {A' H' : Hp} (x : Ex0 A H A' H') : Es c A' H' σ ρ fp := ⟨x.ok es.ok, es.x.tr0 x, es.sl.step x (fun _ _ z => nomatch z), es.nd, es.own, fun B h => (es.pn B h).trans x.aa, es.fix⟩
theorem Es.live (es : Es c A H σ ρ fp) : ∀ a ∈ fp, H a ≠ none := fun a z w => by
  have q := (es.sl.there a z).2
  rw [w] at q
  exact q
theorem fresh_back {p : List Addr} (x : Ext c.F c.A0 c.H0 A H) (f : Fresh H p) : Fresh c.H0 p := fun a z => by
  cases q : c.H0 a with
  | none => rfl
  | some o => exact absurd (f a z) (x.dm a (by rw [q]; simp))
theorem fix_set {i : Nat} {v : V} {S : Option V} (h0 : S = none ∨ i ≠ 0) (h : ∀ v, S = some v → σ[0]? = some (some v)) : ∀ w, S = some w → (σ.set i (some v))[0]? = some (some w) := fun w e => by
  rcases h0 with z | z
  · rw [z] at e; cases e
  · rw [List.getElem?_set_ne z]
    exact h w e
theorem Es.put (es : Es c A H σ ρ fp) {i : Nat} {v : V} {p : List Addr} {A' H' : Hp} (x : Ex0 A H A' H') (r : RM c.X.K A' H' v m p) (f : Fresh H p) (n : p.Nodup) (hi : i < ρ.length) (h0 : c.S0 = none ∨ i ≠ 0) : ∃ fp', Es c A' H' (σ.set i (some v)) (ρ.set i (some m)) fp' := by
  have es' := es.step0 x
  obtain ⟨fp', h1, h2, h3⟩ := Sls.set r i es'.sl hi
  refine ⟨fp', es'.ok, es'.x, h1, h3 n es.nd fun a z w => es.live a w (f a z), fun a z => ?_, es'.pn, fix_set h0 es.fix⟩
  rcases h2 a z with w | w
  · exact .inr (fresh_back es.x f a w)
  · exact es.own a w

/-! ### statements -/
theorem ss_pass (q : Nx c D.nx ρ) : Ss c (.Pass pos) D ρ := ss_of ps_pass q
theorem ss_break (q : Nx c D.bk ρ) : Ss c (.Break pos) D ρ := ss_of ps_break q
theorem ss_continue (q : Nx c D.ct ρ) : Ss c (.Continue pos) D ρ := ss_of ps_continue q
/-- x = e -/
theorem ss_set {i : Nat} {x : Str} {pos' : Pos} (h : Asks c ρ e m) (hN : c.X.N.Nodup) (hi : c.X.N[i]? = some x) (hx : Loc c.X.env.scope x) (q : Nx c D.nx (ρ.set i (some m))) (hl : i < ρ.length := by exact of_decide_eq_true rfl) (h0 : c.S0 = none ∨ i ≠ 0 := by first | exact .inl rfl | exact .inr (by decide))
    (hw : swapsWith e (some (.Name x pos')) pos.line c.X.env = pure false := by rfl) (hf : c.X.fn x = true ∨ c.X.env.scope.names.lookup x = some .local := by first | exact .inl rfl | exact .inr rfl) : Ss c (.Assign [.Name x pos'] e pos) D ρ :=
  ss_of (L2.ps_set hN hi hx pe_tw hw hf) fun A H σ fp es => es.ask h fun v A2 H2 p x _ r f n => by
    obtain ⟨fp', es'⟩ := es.put x r f n hl h0
    exact q A2 H2 _ fp' es'
theorem ss_ret (h : Asks c ρ e m) (q : Rt c D.rt m) : Ss c (.Return (some e) pos) D ρ :=
  ss_of (ps_ret pe_tw) fun A H σ fp es => es.ask h fun v A2 H2 p x ok r f n => q v A2 H2 p ok (es.x.tr0 x) r n (fresh_back es.x f)
theorem ss_retN (q : Rt c D.rt (.im .non)) : Ss c (.Return none pos) D ρ := ss_of ps_retN fun A H σ fp es => q .non A H [] es.ok es.x (.im .non) List.nodup_nil fun _ z => nomatch z
theorem ss_if {t : Expr} {a b : List Stmt} (h : Te c.X c.T t ρ k) (ha : k = true → Gs c a D ρ) (hb : k = false → Gs c b D ρ) : Ss c (.If t a b pos) D ρ :=
  ss_of (ps_if pt_tw pss_tw pss_tw) fun A H σ fp es => es.askT h fun A2 H2 x _ => by
    have es' := es.step0 x
    cases k with
    | true => exact (iteT (ha rfl A2 H2 σ fp es'))
    | false => exact (iteF (hb rfl A2 H2 σ fp es'))
theorem ss_drop (h : Asks c ρ e m) (q : Nx c D.nx ρ) (hw : swapsWith e none pos.line c.X.env = pure false := by rfl) : Ss c (.Expr e pos) D ρ :=
  ss_of (ps_expr pe_tw hw) fun A H σ fp es => es.ask h fun v A2 H2 p x _ r f n => q A2 H2 σ fp (es.step0 x)
/-- a way that can't be -/
theorem ss_no (h : False) : Ss c st D ρ := h.elim
theorem nx_mono {P P' : L2.St → Hp → Prop} (q : Nx c P ρ) (h : ∀ σ H, P σ H → P' σ H) : Nx c P' ρ := fun A H σ fp es => h σ H (q A H σ fp es)
/-- while, by a word over what is held and a measure -/
theorem ss_while {t : Expr} {body : List Stmt} (hp : PassesOwn (model c.X.prog c.X.w) c.X.A c.X.env c.X.xe) (W : Nat → Rhm → Prop) (μ : Nat) (w0 : W μ ρ)
    (turn : ∀ μ ρ', W μ ρ' → ∃ k, Te c.X c.T t ρ' k ∧ (k = true → ∀ N : L2.St → Hp → Prop, (∀ μ' ρ2, μ' < μ → W μ' ρ2 → Nx c N ρ2) → Gs c body { D with nx := N, ct := N, bk := D.nx } ρ') ∧ (k = false → Nx c D.nx ρ')) : Ss c (.While t body [] pos) D ρ :=
  ss_of (ps_while hp pt_tw pss_tw) fun A H σ fp es => by
    refine ⟨fun μ σ H => ∃ ρ' A fp, W μ ρ' ∧ Es c A H σ ρ' fp, ⟨μ, ρ, A, fp, w0, es⟩, ?_⟩
    rintro μ σ H ⟨ρ', A, fp, w, es⟩
    obtain ⟨k, ht, h1, h2⟩ := turn μ ρ' w
    refine es.askT ht fun A2 H2 x _ => ?_
    have es' := es.step0 x
    cases k with
    | true =>
      refine iteT ⟨fun σ' H' => ∃ m', m' < μ ∧ ∃ ρ2 A fp, W m' ρ2 ∧ Es c A H' σ' ρ2 fp, fun _ _ h => h, ?_⟩
      exact h1 rfl _ (fun μ' ρ2 hl w2 A3 H3 σ3 fp3 e3 => ⟨μ', hl, ρ2, A3, fp3, w2, e3⟩) A2 H2 σ fp es'
    | false => exact (iteF (h2 rfl A2 H2 σ fp es'))

/-! ### forgetting -/
inductive Weak : Rhm → Rhm → Prop
  | nil : Weak [] []
  | keep {o : Option M} {ρ ρ' : Rhm} : Weak ρ ρ' → Weak (o :: ρ) (o :: ρ')
  | drop {o : Option M} {ρ ρ' : Rhm} : Weak ρ ρ' → Weak (o :: ρ) (none :: ρ')
theorem Sls.weak {K : PySem.W.Frag} {A H : Hp} : ∀ {ρ ρ' : Rhm} {σ : L2.St} {fp : List Addr}, Weak ρ ρ' → Sls K A H σ ρ fp → fp.Nodup → ∃ fp', Sls K A H σ ρ' fp' ∧ fp'.Nodup ∧ ∀ a ∈ fp', a ∈ fp
  | _, _, _, _, .nil, .nil, n => ⟨[], .nil, n, fun _ z => z⟩
  | _, _, _, _, .keep w, .any r, n => by
    obtain ⟨fp', h1, h2, h3⟩ := Sls.weak w r n
    exact ⟨fp', .any h1, h2, h3⟩
  | _, _, _, _, .keep w, .val (p := p) h r, n => by
    obtain ⟨n1, n2, n3⟩ := List.nodup_append.mp n
    obtain ⟨fp', h1, h2, h3⟩ := Sls.weak w r n2
    exact ⟨p ++ fp', .val h h1, List.nodup_append.mpr ⟨n1, h2, fun a ha b hb => n3 a ha b (h3 b hb)⟩, fun a z => (List.mem_append.mp z).elim (fun w => List.mem_append_left _ w) fun w => List.mem_append_right _ (h3 a w)⟩
  | _, _, _, _, .drop w, .any r, n => by
    obtain ⟨fp', h1, h2, h3⟩ := Sls.weak w r n
    exact ⟨fp', .any h1, h2, h3⟩
  | _, _, _, _, .drop w, .val h r, n => by
    obtain ⟨fp', h1, h2, h3⟩ := Sls.weak w r (List.nodup_append.mp n).2.1
    exact ⟨fp', .any h1, h2, fun a z => List.mem_append_right _ (h3 a z)⟩
theorem nx_weak {P : L2.St → Hp → Prop} {ρ' : Rhm} (w : Weak ρ ρ') (q : Nx c P ρ') : Nx c P ρ := fun A H σ fp es => by
  obtain ⟨fp', h1, h2, h3⟩ := Sls.weak w es.sl es.nd
  exact q A H σ fp' ⟨es.ok, es.x, h1, h2, fun a z => es.own a (h3 a z), es.pn, es.fix⟩
abbrev Fc.pin (c : Fc) (B : Hp) : Fc := { c with P := B :: c.P }
theorem Es.unpin {B : Hp} (es : Es (c.pin B) A H σ ρ fp) : Es c A H σ ρ fp := ⟨es.ok, es.x, es.sl, es.nd, es.own, fun C h => es.pn C (List.mem_cons_of_mem _ h), es.fix⟩
theorem nx_pin {P : L2.St → Hp → Prop} {B : Hp} (q : Nx c P ρ) : Nx (c.pin B) P ρ := fun A H σ fp es => q A H σ fp es.unpin

/-! ### changes at owned places -/
theorem ext_mut {T : List Addr} {A H : Hp} {p : Addr} {o o' : HO} (e : Ok T A H) (h : H p = some o) (mu : Mut (some o)) (n : A p = none) : Ext [p] A H A (upd H p o') where
  aa := Same.refl A
  hh := fun a u q _ z => by rw [upd_ne fun w => z (by rw [w]; exact List.mem_cons_self ..)]; exact q
  ah := fun a u q => by rw [upd_ne fun w => by rw [w, n] at q; cases q]; exact e.s _ _ q
  nt := e.nt
  nw := fun _ _ => rfl
  dm := dm_upd
  tb := fun a ⟨ps, q, t⟩ => ⟨ps, by rw [upd_ne fun w => by rw [w, h] at q; cases q; exact mu]; exact q, t⟩
/-- the thing in slot i is altered at its own places -/
theorem Es.alter (es : Es c A H σ ρ fp) {i : Nat} (hi : ρ[i]? = some (some m)) : ∃ v p, σ[i]? = some (some v) ∧ RM c.X.K A H v m p ∧ p.Nodup ∧ (∀ a ∈ p, a ∈ fp) ∧
    ∀ A' H' m' p', Ext p A H A' H' → RM c.X.K A' H' v m' p' → p'.Nodup → (∀ a ∈ p', a ∈ p ∨ H a = none) → ∃ fp', Es c A' H' σ (ρ.set i (some m')) fp' ∧ ∀ a ∈ fp', a ∈ p' ∨ a ∈ fp := by
  obtain ⟨v, p, h1, h2, h3, h4, h5⟩ := es.sl.alter i hi es.nd
  refine ⟨v, p, h1, h2, h4, h3, fun A' H' m' p' x r n f => ?_⟩
  have lv := es.live
  obtain ⟨fp', q1, q2, q3⟩ := h5 A' H' m' p' x.aa (fun a z w => by
    obtain ⟨t1, t2⟩ := es.sl.there a z
    refine ⟨?_, (x.nw a (lv a z)).trans t1⟩
    cases q : H a with
    | none => exact absurd q (lv a z)
    | some o =>
      rw [q] at t2
      exact x.hh a o q (mut_noTab t2) w) r n fun a z => (f a z).imp id fun w u => lv a u w
  refine ⟨fp', ⟨x.ok es.ok, es.x.trans x fun a z => es.own a (h3 a z), q1, q2, fun a z => ?_, fun B h => (es.pn B h).trans x.aa, es.fix⟩, fun a z => (q3 a z).imp id fun w => w.1⟩
  rcases q3 a z with w | w
  · rcases f a w with u | u
    · exact es.own a (h3 a u)
    · exact .inr (fresh_back (p := [a]) es.x (fun b hb => by
        rcases List.mem_cons.mp hb with e | e
        · rw [e]; exact u
        · cases e) a (List.mem_cons_self ..))
  · exact es.own a w.1
end
end Kf

set_option maxHeartbeats 1000000
/-! Kf: rules: operators, loops, comprehensions, defs, calls. -/
namespace Kf
open PySem L2

section
variable {X : Cx} {T : List Addr} {ρ : Rho} {e a b : Expr} {es : List Expr} {m : M} {d d1 d2 : D} {ds xs ys : List D} {pos : Pos} {i j : Int} {x y : Str}
/-! ### ints -/
theorem op_int {f : Value → Value → Sem Value} {g : Int → Int → V} {z : D} (h : OpR X f (rI0 g)) (r : ∀ A, Rp X.K A (g i j) z) : Op X T f (.int i) (.int j) (.im z) := op_of h fun A H v u s rv ru Q k => by
  cases rv; cases ru
  exact ⟨i, j, rfl, rfl, k.now s (r A)⟩
theorem op_intC {f : Value → Value → Sem Value} {C : Int → Int → Prop} {g : Int → Int → V} {z : D} (h : OpR X f (rI C g)) (hc : C i j) (r : ∀ A, Rp X.K A (g i j) z) : Op X T f (.int i) (.int j) (.im z) := op_of h fun A H v u s rv ru Q k => by
  cases rv; cases ru
  exact ⟨i, j, rfl, rfl, hc, k.now s (r A)⟩
theorem o_add : Op X T (binaryOp .Add) (.int i) (.int j) (.im (.int (i + j))) := op_int op_add fun _ => .int _
theorem o_sub : Op X T (binaryOp .Sub) (.int i) (.int j) (.im (.int (i - j))) := op_int op_sub fun _ => .int _
theorem o_mul (h : CMul i j) : Op X T (binaryOp .Mult) (.int i) (.int j) (.im (.int (i * j))) := op_intC op_mul h fun _ => .int _
theorem o_mod (h : 0 < j) : Op X T (binaryOp .Mod) (.int i) (.int j) (.im (.int (i % j))) := op_intC op_mod h fun _ => .int _
theorem o_fdiv (h : CDiv i j) : Op X T (binaryOp .FloorDiv) (.int i) (.int j) (.im (.int (i / j))) := op_intC op_fdiv h fun _ => .int _
theorem o_pow (h : CPow i j) : Op X T (binaryOp .Pow) (.int i) (.int j) (.im (.int (i ^ j.toNat))) := op_intC op_pow h fun _ => .int _
theorem o_lt : Op X T (compareOp .Lt) (.int i) (.int j) (.im (.bl (decide (i < j)))) := op_int op_lt fun _ => .bl _
theorem o_le : Op X T (compareOp .LtE) (.int i) (.int j) (.im (.bl (decide (i ≤ j)))) := op_int op_le fun _ => .bl _
theorem o_gt : Op X T (compareOp .Gt) (.int i) (.int j) (.im (.bl (decide (j < i)))) := op_int op_gt fun _ => .bl _
theorem o_ge : Op X T (compareOp .GtE) (.int i) (.int j) (.im (.bl (decide (j ≤ i)))) := op_int op_ge fun _ => .bl _
/-! ### == and != of flat things -/
def flat1 : D → Option V
  | .non => some .non | .bl b => some (.bl b) | .int i => some (.int i) | .str x => some (.str x)
  | _ => none
theorem flat1_rp {K : PySem.W.Frag} {A : Hp} {v z : V} (h : flat1 d = some z) (r : Rp K A v d) : v = z := by
  cases r <;> simp [flat1] at h <;> exact h
theorem o_eqF {v1 v2 : V} (h1 : flat1 d1 = some v1) (h2 : flat1 d2 = some v2) (h : scal v1 v2 = true) : Op X T (compareOp .Eq) d1 d2 (.im (.bl (decide (v1 = v2)))) := op_of op_eq fun A H v u s rv ru Q k => by
  rw [flat1_rp h1 rv, flat1_rp h2 ru]
  exact ⟨h, k.now s (.bl _)⟩
theorem o_neF {v1 v2 : V} (h1 : flat1 d1 = some v1) (h2 : flat1 d2 = some v2) (h : scal v1 v2 = true) : Op X T (compareOp .NotEq) d1 d2 (.im (.bl (!decide (v1 = v2)))) := op_of op_ne fun A H v u s rv ru Q k => by
  rw [flat1_rp h1 rv, flat1_rp h2 ru]
  exact ⟨h, k.now s (.bl _)⟩
theorem o_eqI : Op X T (compareOp .Eq) (.int i) (.int j) (.im (.bl (decide (i = j)))) := by
  have h := o_eqF (X := X) (T := T) (d1 := .int i) (d2 := .int j) rfl rfl rfl
  rwa [show decide (V.int i = V.int j) = decide (i = j) by simp] at h
theorem o_neI : Op X T (compareOp .NotEq) (.int i) (.int j) (.im (.bl (!decide (i = j)))) := by
  have h := o_neF (X := X) (T := T) (d1 := .int i) (d2 := .int j) rfl rfl rfl
  rwa [show decide (V.int i = V.int j) = decide (i = j) by simp] at h
theorem o_eqS : Op X T (compareOp .Eq) (.str x) (.str y) (.im (.bl (decide (x = y)))) := by
  have h := o_eqF (X := X) (T := T) (d1 := .str x) (d2 := .str y) rfl rfl rfl
  rwa [show decide (V.str x = V.str y) = decide (x = y) by simp] at h
theorem o_neS : Op X T (compareOp .NotEq) (.str x) (.str y) (.im (.bl (!decide (x = y)))) := by
  have h := o_neF (X := X) (T := T) (d1 := .str x) (d2 := .str y) rfl rfl rfl
  rwa [show decide (V.str x = V.str y) = decide (x = y) by simp] at h
def isNon : D → Bool
  | .non => true
  | _ => false
theorem isNon_rp {K : PySem.W.Frag} {A : Hp} {v : V} (r : Rp K A v d) : decide (v = .non) = isNon d := by
  cases r <;> simp [isNon]
theorem o_isN : Op X T (compareOp .Is) d .non (.im (.bl (isNon d))) := op_of op_isN fun A H v u s rv ru Q k => by
  cases ru
  rw [isNon_rp rv]
  exact ⟨rfl, k.now s (.bl _)⟩
theorem o_notN : Op X T (compareOp .IsNot) d .non (.im (.bl (!isNon d))) := op_of op_notN fun A H v u s rv ru Q k => by
  cases ru
  rw [isNon_rp rv]
  exact ⟨rfl, k.now s (.bl _)⟩
/-! ### texts, lists, tuples joined -/
theorem o_addS (h : x.length + y.length ≤ sizeLine) : Op X T (binaryOp .Add) (.str x) (.str y) (.im (.str (x ++ y))) := op_of op_add_str fun A H v u s rv ru Q k => by
  cases rv; cases ru
  exact ⟨x, y, rfl, rfl, h, k.now s (.str _)⟩
theorem RpL.append {K : PySem.W.Frag} {A : Hp} : ∀ {vs us : List V} {ds es : List D}, RpL K A vs ds → RpL K A us es → RpL K A (vs ++ us) (ds ++ es)
  | _, _, _, _, .nil, q => q
  | _, _, _, _, .cons h r, q => .cons h (RpL.append r q)
theorem RpL.take {K : PySem.W.Frag} {A : Hp} : ∀ {vs : List V} {ds : List D} (n : Nat), RpL K A vs ds → RpL K A (vs.take n) (ds.take n)
  | _, _, 0, _ => .nil
  | _, _, _ + 1, .nil => .nil
  | _, _, n + 1, .cons h r => .cons h (RpL.take n r)
theorem RpL.drop {K : PySem.W.Frag} {A : Hp} : ∀ {vs : List V} {ds : List D} (n : Nat), RpL K A vs ds → RpL K A (vs.drop n) (ds.drop n)
  | _, _, 0, r => r
  | _, _, _ + 1, .nil => .nil
  | _, _, n + 1, .cons _ r => RpL.drop n r
theorem RpL.get {K : PySem.W.Frag} {A : Hp} : ∀ {vs : List V} {ds : List D} {n : Nat} {d : D}, RpL K A vs ds → ds[n]? = some d → ∃ v, vs[n]? = some v ∧ Rp K A v d
  | _, _, _, _, .nil, h => by simp at h
  | _, _, 0, _, .cons h _, q => by
    simp at q; subst q
    exact ⟨_, rfl, h⟩
  | _, _, n + 1, _, .cons _ r, q => by simpa using RpL.get r (by simpa using q)
theorem RpL.of {K : PySem.W.Frag} {A : Hp} : ∀ {vs : List V} {ds : List D} {n : Nat} {v : V}, RpL K A vs ds → vs[n]? = some v → ∃ d, ds[n]? = some d ∧ Rp K A v d
  | _, _, _, _, .nil, h => by simp at h
  | _, _, 0, _, .cons h _, q => by
    simp at q; subst q
    exact ⟨_, rfl, h⟩
  | _, _, n + 1, _, .cons _ r, q => by simpa using RpL.of r (by simpa using q)
theorem o_addL (h : xs.length + ys.length ≤ sizeLine) : Op X T (binaryOp .Add) (.lst xs) (.lst ys) (.ls (xs ++ ys)) := op_of op_cat fun A H v u s rv ru Q k => by
  cases rv with
  | lst e1 r1 =>
    cases ru with
    | lst e2 r2 => exact ⟨_, _, _, _, rfl, rfl, s.s _ _ e1, s.s _ _ e2, by rw [r1.len, r2.len]; exact h, fun p hp => k.ls s hp (r1.append r2)⟩
theorem o_mulL {n : Int} (h : -(2 ^ 63) ≤ n ∧ n < 2 ^ 63 ∧ xs.length * n.toNat ≤ sizeLine) : Op X T (binaryOp .Mult) (.lst xs) (.int n) (.ls (List.replicate n.toNat xs).flatten) := op_of op_rep fun A H v u s rv ru Q k => by
  cases rv with
  | lst e1 r1 =>
    cases ru
    obtain ⟨h1, h2, h3⟩ := h
    refine ⟨_, _, _, rfl, rfl, s.s _ _ e1, h1, h2, by rw [r1.len]; exact h3, fun p hp => ?_⟩
    refine k.ls s hp ?_
    clear h1 h2 h3
    generalize n.toNat = q
    induction q with
    | zero => exact .nil
    | succ q ih => rw [List.replicate_succ, List.replicate_succ, List.flatten_cons, List.flatten_cons]; exact r1.append ih
/-! ### subscripts -/
def Ix (X : Cx) (T : List Addr) (d1 d2 : D) (m : M) : Prop := ∃ r, IxR X r ∧ Dop T X.K r d1 d2 m
theorem me_ix (h1 : Ie X T a ρ d1) (h2 : Ie X T b ρ d2) (h : Ix X T d1 d2 m) (hs : PlainIx b := by exact fun _ _ => rfl) : Me X T (.Subscript a b pos) ρ m := by
  obtain ⟨r, hr, q⟩ := h
  exact me_of (pe_ix hr pe_tw pe_tw hs) (den_op h1 h2 q)
theorem atI_bind {α : Type} {xs : List α} {i : Int} {v : α} {n : Nat} (h1 : ixN xs.length i = some n) (h2 : xs[n]? = some v) : atI xs i = some v := by
  unfold atI
  rw [h1]
  exact h2
theorem at_of {K : PySem.W.Frag} {A : Hp} {vs : List V} (r : RpL K A vs xs) (h : atI xs i = some d) : ∃ v, atI vs i = some v ∧ Rp K A v d := by
  unfold atI at h
  cases q : ixN xs.length i with
  | none => rw [q] at h; cases h
  | some n =>
    rw [q] at h
    obtain ⟨v, h1, h2⟩ := r.get h
    exact ⟨v, atI_bind (by rw [r.len]; exact q) h1, h2⟩
theorem ix_l (h : atI xs i = some d) : Ix X T (.lst xs) (.int i) (.im d) := ⟨_, ix_list, fun A H v u s rv ru Q k => by
  cases rv with
  | lst e1 r1 =>
    cases ru
    obtain ⟨w, h1, h2⟩ := at_of r1 h
    exact ⟨_, _, _, w, rfl, rfl, SqL.of (s.s _ _ e1), h1, k.now s h2⟩⟩
theorem ix_f (h : atI xs i = some d) : Ix X T (.fls xs) (.int i) (.im d) := ⟨_, ix_list, fun A H v u s rv ru Q k => by
  cases rv with
  | fls e1 r1 =>
    cases ru
    obtain ⟨w, h1, h2⟩ := at_of r1 h
    exact ⟨_, _, _, w, rfl, rfl, s.s.seq e1, h1, k.now s h2⟩⟩
theorem ix_t (h : atI xs i = some d) : Ix X T (.tup xs) (.int i) (.im d) := ⟨_, ix_tup, fun A H v u s rv ru Q k => by
  cases rv with
  | tup e1 r1 =>
    cases ru
    obtain ⟨w, h1, h2⟩ := at_of r1 h
    exact ⟨_, _, _, w, rfl, rfl, seqT_mono s.s e1, h1, k.now s h2⟩⟩
theorem ix_s {c : Nat} (hz : x.length ≤ sizeLine) (h : atI x.cps.toList i = some c) : Ix X T (.str x) (.int i) (.im (.str ⟨#[c]⟩)) := ⟨_, ix_str, fun A H v u s rv ru Q k => by
  cases rv; cases ru
  exact ⟨_, _, _, rfl, rfl, hz, h, k.now s (.str _)⟩⟩
/-! ### slices -/
def Sc (X : Cx) (T : List Addr) (d : D) (lo hi : Option Int) (m : M) : Prop := ∃ r, SlR X r ∧ ∀ A H v, Ok T A H → Rp X.K A v d → ∀ Q : VK, KM X.K A H m Q → r v lo hi H Q
def Po (X : Cx) (T : List Addr) (o : Option Expr) (ρ : Rho) (i : Option Int) : Prop := match o, i with
  | none, none => True
  | some e, some i => Ie X T e ρ (.int i)
  | _, _ => False
theorem me_sl {lo hi : Option Expr} {l u : Option Int} {p2 : Pos} (h1 : Ie X T a ρ d1) (hl : Po X T lo ρ l) (hu : Po X T hi ρ u) (h : Sc X T d1 l u m) : Me X T (.Subscript a (.Slice lo hi none p2) pos) ρ m := by
  obtain ⟨r, hr, q⟩ := h
  have part : ∀ {o : Option Expr} {i : Option Int}, Po X T o ρ i → ∃ t : TO, PO X o t ∧ ∀ A H σ, Ok T A H → Sl X.K A H σ ρ → ∀ Q : Option Int → Hp → Prop, (∀ A2 H2, Ex0 A H A2 H2 → Q i H2) → t σ H Q := by
    intro o i h
    cases o with
    | none =>
      cases i with
      | none => exact ⟨_, po_none, fun A H σ s _ Q k => k A H (Ext.refl s)⟩
      | some _ => exact h.elim
    | some e =>
      cases i with
      | none => exact h.elim
      | some i => exact ⟨_, po_some pe_tw, fun A H σ s l Q k => h A H σ s l _ fun v A2 H2 x r => by cases r; exact ⟨i, rfl, k A2 H2 x⟩⟩
  obtain ⟨tl, pl, ql⟩ := part hl
  obtain ⟨tu, pu, qu⟩ := part hu
  exact me_of (pe_slice hr pe_tw pl pu) fun A H σ s l Q k => h1 A H σ s l _ fun v A1 H1 x1 r1 => ql A1 H1 σ (x1.ok s) (l.step x1) _ fun A2 H2 x2 => qu A2 H2 σ (x2.ok (x1.ok s)) ((l.step x1).step x2) _ fun A3 H3 x3 =>
    q A3 H3 v (x3.ok (x2.ok (x1.ok s))) ((r1.mono x2.aa).mono x3.aa) Q (k.back ((x1.tr0 x2).tr0 x3))
def cutD {α : Type} (xs : List α) (lo hi : Option Int) : List α := (xs.drop (HT.sIx xs.length 0 lo)).take (HT.sIx xs.length xs.length hi - HT.sIx xs.length 0 lo)
theorem RpL.cut {K : PySem.W.Frag} {A : Hp} {vs : List V} (r : RpL K A vs xs) (lo hi : Option Int) : RpL K A (cutV vs lo hi) (cutD xs lo hi) := by
  unfold cutV cutD
  rw [r.len]
  exact (r.drop _).take _
theorem sc_l {lo hi : Option Int} : Sc X T (.lst xs) lo hi (.ls (cutD xs lo hi)) := ⟨_, sl_list, fun A H v s rv Q k => by
  cases rv with
  | lst e1 r1 => exact ⟨_, _, rfl, SqL.of (s.s _ _ e1), fun p hp => k.ls s hp (r1.cut lo hi)⟩⟩
theorem sc_s {lo hi : Option Int} (hz : x.length ≤ sizeLine) : Sc X T (.str x) lo hi (.im (.str (cutS x lo hi))) := ⟨_, sl_str, fun A H v s rv Q k => by
  cases rv
  exact ⟨_, rfl, hz, k.now s (.str _)⟩⟩
/-! ### calls of built-ins -/
def Cl (X : Cx) (T : List Addr) (f : Value) (ds : List D) (m : M) : Prop := ∃ r, CallR X f r ∧ ∀ A H vs, Ok T A H → RpL X.K A vs ds → ∀ Q : VK, KM X.K A H m Q → r vs H Q
theorem me_bi {id : String} {x : Str} {p : Pos} (ha : As X T (e :: es) ρ ds) (h : Cl X T (.builtin id) ds m) (hm : X.mg x = none) (hv : bootBuiltins x = some (.builtin id)) (hg : Gl X x := by rfl) (hn : x ≠ "__name__" := by decide)
    (hdb : (x == ("__debug__" : Str)) = false := by decide) (hs : starEach (e :: es) X.env = (false, eval e X.env) :: starEach es X.env := by rfl) (hpl : (backTo pos (starEach es X.env)).any (·.1) = false := by rfl) : Me X T (.Call (.Name x p) (e :: es) [] pos) ρ m := by
  obtain ⟨r, hr, q⟩ := h
  exact me_of (pe_callB hr hg hm hv pa_tw hn hdb hs hpl) fun A H σ s l Q k => ha A H σ s l _ fun vs A1 H1 x1 r1 => q A1 H1 vs (x1.ok s) r1 Q (k.back x1)
theorem me_ty {id : String} {x : Str} {p : Pos} (ha : As X T (e :: es) ρ ds) (h : Cl X T (.type id) ds m) (hm : X.mg x = none) (hv : bootBuiltins x = some (.type id)) (hg : Gl X x := by rfl) (hn : x ≠ "__name__" := by decide)
    (hdb : (x == ("__debug__" : Str)) = false := by decide) (hs : starEach (e :: es) X.env = (false, eval e X.env) :: starEach es X.env := by rfl) (hpl : (backTo pos (starEach es X.env)).any (·.1) = false := by rfl) : Me X T (.Call (.Name x p) (e :: es) [] pos) ρ m := by
  obtain ⟨r, hr, q⟩ := h
  exact me_of (pe_callTy hr hg hm hv pa_tw hn hdb hs hpl) fun A H σ s l Q k => ha A H σ s l _ fun vs A1 H1 x1 r1 => q A1 H1 vs (x1.ok s) r1 Q (k.back x1)
theorem RpL.one {K : PySem.W.Frag} {A : Hp} {vs : List V} (r : RpL K A vs [d]) : ∃ v, vs = [v] ∧ Rp K A v d := by
  cases r with
  | cons h r => cases r; exact ⟨_, rfl, h⟩
theorem cl_lenL : Cl X T (.builtin "len") [.lst xs] (.im (.int xs.length)) := ⟨_, call_len_seq, fun A H vs s r Q k => by
  obtain ⟨v, rfl, r0⟩ := r.one
  cases r0 with
  | lst e1 r1 => exact ⟨_, _, rfl, .inl (SqL.of (s.s _ _ e1)), by rw [r1.len]; exact k.now s (.int _)⟩⟩
theorem cl_lenF : Cl X T (.builtin "len") [.fls xs] (.im (.int xs.length)) := ⟨_, call_len_seq, fun A H vs s r Q k => by
  obtain ⟨v, rfl, r0⟩ := r.one
  cases r0 with
  | fls e1 r1 => exact ⟨_, _, rfl, .inl (s.s.seq e1), by rw [r1.len]; exact k.now s (.int _)⟩⟩
theorem cl_lenT : Cl X T (.builtin "len") [.tup xs] (.im (.int xs.length)) := ⟨_, call_len_seq, fun A H vs s r Q k => by
  obtain ⟨v, rfl, r0⟩ := r.one
  cases r0 with
  | tup e1 r1 => exact ⟨_, _, rfl, .inr (seqT_mono s.s e1), by rw [r1.len]; exact k.now s (.int _)⟩⟩
theorem cl_lenS (h : x.length ≤ sizeLine) : Cl X T (.builtin "len") [.str x] (.im (.int x.length)) := ⟨_, call_len, fun A H vs s r Q k => by
  obtain ⟨v, rfl, r0⟩ := r.one
  cases r0
  exact ⟨_, x.length, rfl, ⟨h, rfl⟩, k.now s (.int _)⟩⟩
theorem cl_int : Cl X T (.type "int") [.int i] (.im (.int i)) := ⟨_, call_int1, fun A H vs s r Q k => by
  obtain ⟨v, rfl, r0⟩ := r.one
  cases r0
  exact .inl ⟨_, rfl, k.now s (.int _)⟩⟩
theorem cl_str (h : i.natAbs.log2 < 1920) : Cl X T (.type "str") [.int i] (.im (.str (toString i))) := ⟨_, call_str_int, fun A H vs s r Q k => by
  obtain ⟨v, rfl, r0⟩ := r.one
  cases r0
  exact ⟨_, rfl, h, k.now s (.str _)⟩⟩
theorem cl_list : Cl X T (.type "list") [.lst xs] (.ls xs) := ⟨_, call_list_of, fun A H vs s r Q k => by
  obtain ⟨v, rfl, r0⟩ := r.one
  cases r0 with
  | lst e1 r1 => exact ⟨_, _, rfl, .inl (SqL.of (s.s _ _ e1)), fun p hp => k.ls s hp r1⟩⟩
theorem cl_tup : Cl X T (.type "tuple") [.lst xs] (.im (.tup xs)) := ⟨_, call_tuple_of, fun A H vs s r Q k => by
  obtain ⟨v, rfl, r0⟩ := r.one
  cases r0 with
  | lst e1 r1 => exact ⟨_, _, rfl, .inl ⟨SqL.of (s.s _ _ e1), fun p hp => k.tup s hp r1⟩⟩⟩
end
end Kf

set_option maxHeartbeats 1000000
/-! Kf: loops, comprehensions, defs and their calls. -/
namespace Kf
open PySem L2

theorem Sls.set0 {K : PySem.W.Frag} {A H : Hp} {σ : L2.St} {ρ : Rhm} {fp : List Addr} {d : D} {i : Nat} (s : Sls K A H σ ρ fp) {v : V} (r : Rp K A v d) (n : fp.Nodup) (hi : i < ρ.length) : ∃ fp', Sls K A H (σ.set i (some v)) (ρ.set i (some (.im d))) fp' ∧ fp'.Nodup ∧ ∀ a ∈ fp', a ∈ fp := by
  obtain ⟨fp', h1, h2, h3⟩ := Sls.set (.im r) i s hi
  exact ⟨fp', h1, h3 List.nodup_nil n fun _ z => (nomatch z), fun a z => (h2 a z).elim (fun w => nomatch w) id⟩
section
variable {c : Fc} {D : Ends} {ρ : Rhm} {e l : Expr} {m : M} {d : Kf.D} {ds : List Kf.D} {body : List Stmt} {pos px : Pos} {i : Nat} {x : Str} {st : Stmt}
theorem Es.seti {A H : Hp} {σ : L2.St} {fp : List Addr} (es : Es c A H σ ρ fp) {v : V} (r : Rp c.X.K A v d) (hi : i < ρ.length) (h0 : c.S0 = none ∨ i ≠ 0) : ∃ fp', Es c A H (σ.set i (some v)) (ρ.set i (some (.im d))) fp' := by
  obtain ⟨fp', h1, h2, h3⟩ := es.sl.set0 r es.nd hi
  exact ⟨fp', es.ok, es.x, h1, h2, fun a z => es.own a (h3 a z), es.pn, fix_set h0 es.fix⟩
theorem Es.pinned {A H : Hp} {σ : L2.St} {fp : List Addr} (es : Es c A H σ ρ fp) : Es (c.pin A) A H σ ρ fp := ⟨es.ok, es.x, es.sl, es.nd, es.own, fun B h => by
  rcases List.mem_cons.mp h with e | e
  · rw [e]; exact Same.refl _
  · exact es.pn B e, es.fix⟩
/-! ### for: W tells what is held ahead of turn j -/
/-- for x in e, e data of a list -/
theorem ss_for (hps : PS c.X st (tFor (iList c.X.K (tw c.X l)) (gName i) (twss c.X body))) (h : Me c.X c.T l ρ (.im (.lst ds)))
    (W : Nat → Rhm → Prop) (w0 : W 0 ρ) (wl : ∀ j ρ', W j ρ' → i < ρ'.length)
    (turn : ∀ B j d ρ', ds[j]? = some d → W j ρ' → ∀ N : L2.St → Hp → Prop, (∀ ρ2, W (j + 1) ρ2 → Nx (c.pin B) N ρ2) → Gs (c.pin B) body { D with nx := N, ct := N, bk := D.nx } (ρ'.set i (some (.im d))))
    (hd : ∀ ρ', W ds.length ρ' → Nx c D.nx ρ') (h0 : c.S0 = none ∨ i ≠ 0 := by first | exact .inl rfl | exact .inr (by decide)) : Ss c st D ρ :=
  ss_of hps fun A H σ fp es => es.ask (ask_h h) fun v A2 H2 p xx ok r f n => by
    have es2 := es.step0 xx
    cases r with
    | im r =>
    cases r with
    | @lst a xs _ e1 r1 =>
    refine ⟨a, rfl, ⟨xs, SqL.of (ok.s _ _ e1)⟩, for_list (xs := xs) (fun j σ H => ∃ ρ' A fp, W j ρ' ∧ Es (c.pin A2) A H σ ρ' fp) ⟨ρ, A2, fp, w0, es2.pinned⟩ ?_ ?_ ?_⟩
    · rintro j σ H _ ⟨ρ', A3, fp, _, es⟩
      exact SqL.of (es.ok.s _ _ (es.pn A2 (List.mem_cons_self ..) _ _ e1))
    · rintro j y σ H hj ⟨ρ', A3, fp, w, es⟩
      obtain ⟨d, hd', rd⟩ := r1.of hj
      obtain ⟨fp', es'⟩ := es.seti (rd.mono (es.pn A2 (List.mem_cons_self ..))) (wl j ρ' w) h0
      exact turn A2 j d ρ' hd' w _ (fun ρ2 w2 A4 H4 σ4 fp4 es4 => ⟨ρ2, A4, fp4, w2, es4⟩) A3 H _ fp' es'
    · rintro σ H ⟨ρ', A3, fp, w, es⟩
      rw [r1.len] at w
      exact hd ρ' w A3 H σ fp es.unpin
/-- .. data of a tuple -/
theorem ss_forT (hps : PS c.X st (tFor (iTup c.X.K (tw c.X l)) (gName i) (twss c.X body))) (h : Me c.X c.T l ρ (.im (.tup ds)))
    (W : Nat → Rhm → Prop) (w0 : W 0 ρ) (wl : ∀ j ρ', W j ρ' → i < ρ'.length)
    (turn : ∀ B j d ρ', ds[j]? = some d → W j ρ' → ∀ N : L2.St → Hp → Prop, (∀ ρ2, W (j + 1) ρ2 → Nx (c.pin B) N ρ2) → Gs (c.pin B) body { D with nx := N, ct := N, bk := D.nx } (ρ'.set i (some (.im d))))
    (hd : ∀ ρ', W ds.length ρ' → Nx c D.nx ρ') (h0 : c.S0 = none ∨ i ≠ 0 := by first | exact .inl rfl | exact .inr (by decide)) : Ss c st D ρ :=
  ss_of hps fun A H σ fp es => es.ask (ask_h h) fun v A2 H2 p xx ok r f n => by
    have es2 := es.step0 xx
    cases r with
    | im r =>
    cases r with
    | @tup a xs _ e1 r1 =>
    refine ⟨a, rfl, ⟨xs, seqT_mono ok.s e1⟩, for_tup (xs := xs) (fun j σ H => ∃ ρ' A fp, W j ρ' ∧ Es (c.pin A2) A H σ ρ' fp) ⟨ρ, A2, fp, w0, es2.pinned⟩ ?_ ?_ ?_⟩
    · rintro j σ H _ ⟨ρ', A3, fp, _, es⟩
      exact seqT_mono es.ok.s (seqT_mono (es.pn A2 (List.mem_cons_self ..)) e1)
    · rintro j y σ H hj ⟨ρ', A3, fp, w, es⟩
      obtain ⟨d, hd', rd⟩ := r1.of hj
      obtain ⟨fp', es'⟩ := es.seti (rd.mono (es.pn A2 (List.mem_cons_self ..))) (wl j ρ' w) h0
      exact turn A2 j d ρ' hd' w _ (fun ρ2 w2 A4 H4 σ4 fp4 es4 => ⟨ρ2, A4, fp4, w2, es4⟩) A3 H _ fp' es'
    · rintro σ H ⟨ρ', A3, fp, w, es⟩
      rw [r1.len] at w
      exact hd ρ' w A3 H σ fp es.unpin
/-- for x in range(n) -/
theorem ss_range {n : Int} (hps : PS c.X st (tFor (iRng1 (twA c.X [e])) (gName i) (twss c.X body))) (h : As c.X c.T [e] ρ [.int n]) (hn : -(2 ^ 62) ≤ n ∧ n < 2 ^ 62)
    (W : Nat → Rhm → Prop) (w0 : W 0 ρ) (wl : ∀ j ρ', W j ρ' → i < ρ'.length)
    (turn : ∀ (j : Nat) ρ', (j : Int) < n → W j ρ' → ∀ N : L2.St → Hp → Prop, (∀ ρ2, W (j + 1) ρ2 → Nx c N ρ2) → Gs c body { D with nx := N, ct := N, bk := D.nx } (ρ'.set i (some (.im (.int j)))))
    (hd : ∀ ρ', W n.toNat ρ' → Nx c D.nx ρ') (h0 : c.S0 = none ∨ i ≠ 0 := by first | exact .inl rfl | exact .inr (by decide)) : Ss c st D ρ :=
  ss_of hps fun A H σ fp es => h A H σ es.ok es.sl.sl _ fun vs A2 H2 xx r => by
    have es2 := es.step0 xx
    obtain ⟨v, rfl, r0⟩ := r.one
    cases r0
    refine ⟨n, rfl, hn.1, hn.2, for_range (lo := 0) (n := n.toNat) (fun j σ H => ∃ ρ' A fp, W j ρ' ∧ Es c A H σ ρ' fp) ⟨ρ, A2, fp, w0, es2⟩ ?_ ?_⟩
    · rintro j σ H hj ⟨ρ', A3, fp, w, es⟩
      obtain ⟨fp', es'⟩ := es.seti (i := i) (d := .int (j : Int)) (.int _) (wl j ρ' w) h0
      show twss c.X body _ (σ.set i (some (.int (0 + (j : Int))))) H
      rw [Int.zero_add]
      exact turn j ρ' (by omega) w _ (fun ρ2 w2 A4 H4 σ4 fp4 es4 => ⟨ρ2, A4, fp4, w2, es4⟩) A3 H _ fp' es'
    · rintro σ H ⟨ρ', A3, fp, w, es⟩
      exact hd ρ' w A3 H σ fp es
/-- for x in e, e a text -/
theorem ss_forS {z : Str} (hps : PS c.X st (tFor (iStr (tw c.X l)) (gName i) (twss c.X body))) (h : Ie c.X c.T l ρ (.str z))
    (W : Nat → Rhm → Prop) (w0 : W 0 ρ) (wl : ∀ j ρ', W j ρ' → i < ρ'.length)
    (turn : ∀ j k ρ', z.cps.toList[j]? = some k → W j ρ' → ∀ N : L2.St → Hp → Prop, (∀ ρ2, W (j + 1) ρ2 → Nx c N ρ2) → Gs c body { D with nx := N, ct := N, bk := D.nx } (ρ'.set i (some (.im (.str ⟨#[k]⟩)))))
    (hd : ∀ ρ', W z.cps.toList.length ρ' → Nx c D.nx ρ') (h0 : c.S0 = none ∨ i ≠ 0 := by first | exact .inl rfl | exact .inr (by decide)) : Ss c st D ρ :=
  ss_of hps fun A H σ fp es => h A H σ es.ok es.sl.sl _ fun v A2 H2 xx r => by
    have es2 := es.step0 xx
    cases r
    refine ⟨z, rfl, fun j m σ H => m = z.cps.toList.length - j ∧ j ≤ z.cps.toList.length ∧ ∃ ρ' A fp, W j ρ' ∧ Es c A H σ ρ' fp, ⟨_, rfl, Nat.zero_le _, ρ, A2, fp, w0, es2⟩, ?_⟩
    rintro j m σ H ⟨rfl, hj, ρ', A3, fp3, w, es⟩
    by_cases hlt : j < z.cps.toList.length
    · refine .inr ⟨?_, fun σ H => ∃ ρ' A fp, W (j + 1) ρ' ∧ Es c A H σ ρ' fp, fun σ' H' q => ⟨z.cps.toList.length - (j + 1), by omega, rfl, hlt, q⟩, ?_⟩
      · show j < z.cps.size
        simpa using hlt
      · rintro y H' hy
        obtain ⟨rfl, k, hk, rfl⟩ := (show H' = H ∧ ∃ k, z.cps[j]? = some k ∧ y = .str ⟨#[k]⟩ from hy)
        obtain ⟨fp', es'⟩ := es.seti (i := i) (d := .str ⟨#[k]⟩) (.str _) (wl j ρ' w) h0
        exact turn j k ρ' (by rw [Array.getElem?_toList]; exact hk) w _ (fun ρ2 w2 A4 H4 σ4 fp4 es4 => ⟨ρ2, A4, fp4, w2, es4⟩) A3 H' _ fp' es'
    · have e : j = z.cps.toList.length := by omega
      subst e
      exact .inl ⟨by show z.cps.size ≤ z.cps.toList.length; simp, hd ρ' w A3 H σ fp3 es⟩
/-! ### xs.append(e), xs an owned name -/
theorem ss_app (hps : PS c.X st (tDrop (tBM c.X.K "list" rAppend (tVar i) (tCons (tw c.X e) tNil)))) (hr : ρ[i]? = some (some (.ls ds))) (h : Asks c ρ e (.im d)) (hz : ds.length < sizeLine) (q : Nx c D.nx (ρ.set i (some (.ls (ds ++ [d]))))) : Ss c st D ρ :=
  ss_of hps fun A H σ fp es => by
    obtain ⟨v, p, h1, h2, h3, h4, h5⟩ := es.alter hr
    have h2' := h2
    cases h2 with
    | @ls a xs _ e1 n1 r1 =>
    refine ⟨_, h1, .inl ⟨rfl, xs, SqL.of e1⟩, es.ask h fun v A2 H2 p x ok r f n => ?_⟩
    cases r with
    | im rd =>
    have e2 := x.same a _ e1 (fun _ z => nomatch z)
    have n2 : A2 a = none := (x.nw a (by rw [e1]; simp)).trans n1
    obtain ⟨v3, p3, g1, g2, g3, g4, g5⟩ := (es.step0 x).alter hr
    rw [h1] at g1
    obtain rfl := Option.some.inj (Option.some.inj g1)
    cases g2 with
    | @ls _ xs3 _ e3 n3 r3 =>
    rw [e2] at e3
    cases e3
    have mx := ext_mut (o' := .lst (xs ++ [v])) ok e2 trivial n2
    obtain ⟨fp', es', _⟩ := g5 A2 _ (.ls (ds ++ [d])) [a] mx (.ls upd_same n2 (r3.append (.cons rd .nil))) (by simp) fun b z => .inl z
    exact ⟨_, _, _, rfl, rfl, e2, by rw [r1.len]; exact hz, q A2 _ σ fp' es'⟩
/-- return xs, xs an owned name -/
theorem ss_retO (hps : PS c.X st (tRet (tVar i))) (hr : ρ[i]? = some (some m)) (hF : c.F = []) (q : Rt c D.rt m) : Ss c st D ρ :=
  ss_of hps fun A H σ fp es => by
    obtain ⟨v, p, h1, h2, h3, h4, _⟩ := es.alter hr
    refine ⟨v, h1, q v A H p es.ok es.x h2 h3 fun a z => ?_⟩
    rcases es.own a (h4 a z) with w | w
    · rw [hF] at w; cases w
    · exact w
end
/-! ### comprehensions -/
def twB (X : Cx) (scope : Scope) (e : Expr) : TE := fun σ H Q => ∀ (s : Shared) (H' : Hp) (C : Addr) (cl : List (Str × Addr)) (fp : List Addr), tw (X.blk s H' scope (compEnvC scope cl C X.env) fp) e σ H Q
theorem pe_twB {X : Cx} {scope : Scope} {e : Expr} (s : Shared) (H' : Hp) (C : Addr) (cl : List (Str × Addr)) (fp : List Addr) : PE (X.blk s H' scope (compEnvC scope cl C X.env) fp) e (twB X scope e) := ⟨fun pins st _ _ _ I h => h s H' C cl fp pins st I⟩
def twBT (X : Cx) (scope : Scope) (e : Expr) : TT := fun σ H Q => ∀ (s : Shared) (H' : Hp) (C : Addr) (cl : List (Str × Addr)) (fp : List Addr), twT (X.blk s H' scope (compEnvC scope cl C X.env) fp) e σ H Q
theorem pt_twB {X : Cx} {scope : Scope} {e : Expr} (s : Shared) (H' : Hp) (C : Addr) (cl : List (Str × Addr)) (fp : List Addr) : PT (X.blk s H' scope (compEnvC scope cl C X.env) fp) e (twBT X scope e) := ⟨fun pins st _ _ _ I h => h s H' C cl fp pins st I⟩
/-- an element's worth in the block of a comprehension -/
def Be (X : Cx) (T : List Addr) (scope : Scope) (e : Expr) (ρ : Rho) (d : D) : Prop := ∀ (s : Shared) (H' : Hp) (C : Addr) (cl : List (Str × Addr)) (fp : List Addr), Ie (X.blk s H' scope (compEnvC scope cl C X.env) fp) T e ρ d
def Bt (X : Cx) (T : List Addr) (scope : Scope) (e : Expr) (ρ : Rho) (b : Bool) : Prop := ∀ (s : Shared) (H' : Hp) (C : Addr) (cl : List (Str × Addr)) (fp : List Addr), Te (X.blk s H' scope (compEnvC scope cl C X.env) fp) T e ρ b
section
variable {X : Cx} {T : List Addr} {ρ : Rho} {m : M} {d : D} {ds : List D} {i : Nat} {scope : Scope} {elt l t : Expr} {e : Expr}
theorem Be.did (h : Be X T scope e ρ d) : Did T X.K (twB X scope e) ρ d := fun A H σ s l Q k s' H' C cl fp => h s' H' C cl fp A H σ s l Q k
theorem Bt.dit {b : Bool} (h : Bt X T scope e ρ b) : Dit T X.K (twBT X scope e) ρ b := fun A H σ s l Q k s' H' C cl fp => h s' H' C cl fp A H σ s l Q k
/-- what has been made so far -/
def Acc (K : PySem.W.Frag) (T : List Addr) (A1 H1 : Hp) (Dl : Addr) (out : List D) (H : Hp) : Prop := ∃ A acc, Ok T A H ∧ Ex0 A1 H1 A H ∧ A Dl = none ∧ H Dl = some (.lst acc) ∧ RpL K A acc out
theorem Acc.first {K : PySem.W.Frag} {A1 H1 : Hp} {Dl : Addr} (s : Ok T A1 H1) (h : H1 Dl = none) : Acc K T A1 H1 Dl [] (upd H1 Dl (.lst [])) :=
  ⟨A1, [], (ext_new s h).ok s, ext_new s h, s.none h, upd_same, .nil⟩
theorem Acc.more {K : PySem.W.Frag} {A1 H1 A H A2 H2 : Hp} {Dl : Addr} {out : List D} {acc : List V} {v : V} (h0 : H1 Dl = none) (x : Ex0 A1 H1 A H) (n : A Dl = none) (h : H Dl = some (.lst acc)) (r : RpL K A acc out)
    (y : Ex0 A H A2 H2) (s : Ok T A2 H2) (rv : Rp K A2 v d) : Acc K T A1 H1 Dl (out ++ [d]) (upd H2 Dl (.lst (acc ++ [v]))) := by
  have e2 := y.same Dl _ h (fun _ z => nomatch z)
  have n2 : A2 Dl = none := (y.nw Dl (by rw [h]; simp)).trans n
  have mx := ext_mut (o' := .lst (acc ++ [v])) s e2 trivial n2
  refine ⟨A2, acc ++ [v], mx.ok s, (x.tr0 y).trans mx fun a z => .inr ?_, n2, upd_same, (r.mono y.aa).append (.cons rv .nil)⟩
  rcases List.mem_cons.mp z with e | e
  · rw [e]; exact h0
  · cases e
theorem Acc.out {K : PySem.W.Frag} {A1 H1 H : Hp} {Dl : Addr} {Q : VK} (h0 : H1 Dl = none) (k : KM K A1 H1 (.ls ds) Q) (h : Acc K T A1 H1 Dl ds H) : Q (.ref Dl) H := by
  obtain ⟨A, acc, s, x, n, e, r⟩ := h
  refine k _ A H [Dl] x (.ls e n r) (fun a z => ?_) (by simp)
  rcases List.mem_cons.mp z with q | q
  · rw [q]; exact h0
  · cases q
theorem Sl.blk {K : PySem.W.Frag} {A H : Hp} {σ : L2.St} {v : V} (l : Sl K A H σ ρ) (r : Rp K A v d) (hi : i < σ.length) : Sl K A H ((wipe σ [i]).set i (some v)) ((ρ.set i none).set i (some (.im d))) := fun j m' h => by
  show ∃ v' fp, ((σ.set i none).set i (some v))[j]? = some (some v') ∧ _
  rw [List.set_set] at h ⊢
  by_cases e : i = j
  · subst e
    rw [List.getElem?_set_self hi]
    by_cases hr : i < ρ.length
    · rw [List.getElem?_set_self hr] at h
      cases h
      exact ⟨v, [], rfl, .im r⟩
    · rw [List.getElem?_eq_none (by rw [List.length_set]; omega)] at h
      cases h
  · rw [List.getElem?_set_ne e] at h ⊢
    exact l j m' h
theorem tyes {σ : L2.St} {H : Hp} {Q : Bool → Hp → Prop} (h : Q true H) : tYes σ H Q := h
/-- [elt for x in l], l data of a list -/
theorem me_lc (hpe : PE X e (tLc (iList X.K (tw X l)) (gName i) tYes (twB X scope elt) [i])) (hl : Ie X T l ρ (.lst ds)) (f : D → D) (hz : ds.length < sizeLine) (hi : i < X.N.length)
    (he : ∀ d ∈ ds, Be X T scope elt ((ρ.set i none).set i (some (.im d))) (f d)) : Me X T e ρ (.ls (ds.map f)) := by
  intro A H σ s l0 Q k pins st I
  have hσ : i < σ.length := by rw [I.len]; exact hi
  refine hpe.run pins st σ H Q I (hl A H σ s l0 _ fun v A1 H1 x1 r1 => ?_)
  cases r1 with
  | @lst a xs _ e1 r1 =>
  refine ⟨a, rfl, ⟨xs, SqL.of ((x1.ok s).s _ _ e1)⟩, fun Dl hD => lc_list (xs := xs) (fun j H => Acc X.K T A1 H1 Dl ((ds.take j).map f) H) (Acc.first (x1.ok s) hD) ?_ ?_ ?_⟩
  · rintro j H _ ⟨A2, acc, ok, x, _⟩
    exact SqL.of (ok.s _ _ (x.aa _ _ e1))
  · rintro j y H hj ⟨A2, acc, ok, x, n, ha, ra⟩
    obtain ⟨d, hd, rd⟩ := r1.of hj
    refine ⟨?_, ?_⟩
    · show ((σ.set i none).set i (some y)).set i none = σ.set i none
      rw [List.set_set, List.set_set]
    · refine tyes ?_
      rw [if_pos rfl]
      refine (he d (List.mem_of_getElem? hd)).did A2 H _ ok (((l0.step x1).step x).blk (rd.mono x.aa) hσ) _ fun v2 A3 H3 x3 r3 => ?_
      refine ⟨acc, x3.same _ _ ha (fun _ z => nomatch z), ?_, ?_⟩
      · rw [ra.len, List.length_map, List.length_take]
        omega
      · have q := Acc.more hD x n ha ra x3 (x3.ok ok) r3
        have e2 : (ds.take (j + 1)).map f = (ds.take j).map f ++ [f d] := by
          rw [List.take_add_one, hd, List.map_append]
          rfl
        rw [e2]
        exact q
  · intro H h
    rw [r1.len, List.take_length] at h
    exact h.out hD (k.back x1)
end
end Kf

set_option maxHeartbeats 1000000
/-! Kf: defs over data, and their calls. -/
namespace Kf
open PySem L2

section
variable {X : Cx} {T : List Addr} {ρ : Rho} {m : M} {d : D} {ds : List D} {i : Nat} {scope : Scope} {elt l t : Expr} {e : Expr}
/-- [elt for x in range(n)] -/
theorem me_lcR {n : Int} (hpe : PE X e (tLc (iRng1 (twA X [l])) (gName i) tYes (twB X scope elt) [i])) (hl : Ie X T l ρ (.int n)) (f : Nat → D) (hn : 0 ≤ n ∧ n < sizeLine) (hi : i < X.N.length)
    (he : ∀ j : Nat, (j : Int) < n → Be X T scope elt ((ρ.set i none).set i (some (.im (.int j)))) (f j)) (hs : starEach [l] X.env = (false, eval l X.env) :: starEach [] X.env := by rfl) : Me X T e ρ (.ls ((List.range n.toNat).map f)) := by
  intro A H σ s l0 Q k pins st I
  have hσ : i < σ.length := by rw [I.len]; exact hi
  refine hpe.run pins st σ H Q I (as_cons hl as_nil hs A H σ s l0 _ fun vs A1 H1 x1 r1 => ?_)
  obtain ⟨v, rfl, r0⟩ := r1.one
  cases r0
  have hb : (sizeLine : Int) < 2 ^ 62 := by rw [show (sizeLine : Nat) = 16777216 from by rw [sizeLine_eq]]; decide
  refine ⟨n, rfl, by omega, by omega, fun Dl hD => lc_range (lo := 0) (n := n.toNat) (fun j H => Acc X.K T A1 H1 Dl ((List.range j).map f) H) (Acc.first (x1.ok s) hD) ?_ ?_⟩
  · rintro j H hj ⟨A2, acc, ok, x, n2, ha, ra⟩
    refine ⟨?_, ?_⟩
    · show ((σ.set i none).set i (some (V.int (0 + (j : Int))))).set i none = σ.set i none
      rw [List.set_set, List.set_set]
    · refine tyes ?_
      rw [if_pos rfl]
      have rj : Rp X.K A2 (V.int (0 + (j : Int))) (.int (j : Int)) := by rw [Int.zero_add]; exact .int _
      refine (he j (by omega)).did A2 H _ ok (((l0.step x1).step x).blk rj hσ) _ fun v2 A3 H3 x3 r3 => ?_
      refine ⟨acc, x3.same _ _ ha (fun _ z => nomatch z), ?_, ?_⟩
      · rw [ra.len, List.length_map, List.length_range]
        omega
      · have q := Acc.more hD x n2 ha ra x3 (x3.ok ok) r3
        rw [List.range_succ, List.map_append]
        exact q
  · intro H h
    exact h.out hD (k.back x1)
/-- [elt for x in l if t], l data of a list -/
theorem me_lcf (hpe : PE X e (tLc (iList X.K (tw X l)) (gName i) (twBT X scope t) (twB X scope elt) [i])) (hl : Ie X T l ρ (.lst ds)) (f : D → D) (g : D → Bool) (hz : ds.length < sizeLine) (hi : i < X.N.length)
    (ht : ∀ d ∈ ds, Bt X T scope t ((ρ.set i none).set i (some (.im d))) (g d)) (he : ∀ d ∈ ds, g d = true → Be X T scope elt ((ρ.set i none).set i (some (.im d))) (f d)) : Me X T e ρ (.ls ((ds.filter g).map f)) := by
  intro A H σ s l0 Q k pins st I
  have hσ : i < σ.length := by rw [I.len]; exact hi
  refine hpe.run pins st σ H Q I (hl A H σ s l0 _ fun v A1 H1 x1 r1 => ?_)
  cases r1 with
  | @lst a xs _ e1 r1 =>
  refine ⟨a, rfl, ⟨xs, SqL.of ((x1.ok s).s _ _ e1)⟩, fun Dl hD => lc_list (xs := xs) (fun j H => Acc X.K T A1 H1 Dl (((ds.take j).filter g).map f) H) (Acc.first (x1.ok s) hD) ?_ ?_ ?_⟩
  · rintro j H _ ⟨A2, acc, ok, x, _⟩
    exact SqL.of (ok.s _ _ (x.aa _ _ e1))
  · rintro j y H hj ⟨A2, acc, ok, x, n, ha, ra⟩
    obtain ⟨d, hd, rd⟩ := r1.of hj
    have e2 : ds.take (j + 1) = ds.take j ++ [d] := by rw [List.take_add_one, hd]; rfl
    refine ⟨?_, ?_⟩
    · show ((σ.set i none).set i (some y)).set i none = σ.set i none
      rw [List.set_set, List.set_set]
    · refine (ht d (List.mem_of_getElem? hd)).dit A2 H _ ok (((l0.step x1).step x).blk (rd.mono x.aa) hσ) _ fun A3 H3 x3 => ?_
      cases hg : g d with
      | false =>
        rw [if_neg Bool.false_ne_true]
        refine ⟨A3, acc, x3.ok ok, x.tr0 x3, (x3.nw Dl (by rw [ha]; simp)).trans n, x3.same _ _ ha (fun _ z => nomatch z), ?_⟩
        rw [e2, List.filter_append, List.filter_cons, if_neg (by rw [hg]; exact Bool.false_ne_true), List.filter_nil, List.append_nil]
        exact ra.mono x3.aa
      | true =>
        rw [if_pos rfl]
        refine (he d (List.mem_of_getElem? hd) hg).did A3 H3 _ (x3.ok ok) ((((l0.step x1).step x).step x3).blk ((rd.mono x.aa).mono x3.aa) hσ) _ fun v2 A4 H4 x4 r4 => ?_
        have ha3 := x3.same _ _ ha (fun _ z => nomatch z)
        refine ⟨acc, x4.same _ _ ha3 (fun _ z => nomatch z), ?_, ?_⟩
        · rw [ra.len, List.length_map]
          have h9 := List.length_filter_le g (ds.take j)
          rw [List.length_take] at h9
          omega
        · have q := Acc.more hD (x.tr0 x3) ((x3.nw Dl (by rw [ha]; simp)).trans n) ha3 (ra.mono x3.aa) x4 (x4.ok (x3.ok ok)) r4
          rw [e2, List.filter_append, List.filter_cons, if_pos hg, List.filter_nil, List.map_append]
          exact q
  · intro H h
    rw [r1.len, List.take_length] at h
    exact h.out hD (k.back x1)
end

/-! ### defs -/
/-- the promise of a def over data: from such data that; the tables T stand -/
def spP (K : PySem.W.Frag) (T : List Addr) (rel : List D → M → Prop) : Sp := fun vs H Q _ => ∃ A ds m, Ok T A H ∧ RpL K A vs ds ∧ rel ds m ∧ KM K A H m Q
/-- what the frame of a def holds ahead of it -/
def begun (N : List Str) (ds : List D) : Rhm := ds.map (fun d => some (.im d)) ++ List.replicate (N.length - ds.length) none
theorem begun_sls {K : PySem.W.Frag} {A H : Hp} : ∀ {vs : List V} {ds : List D} {n : Nat}, RpL K A vs ds → Sls K A H (vs.map some ++ List.replicate n none) (ds.map (fun d => some (.im d)) ++ List.replicate n none) []
  | _, _, 0, .nil => .nil
  | _, _, n + 1, .nil => .any (begun_sls .nil)
  | _, _, n, .cons h r => .val (.im h) (begun_sls r)
section
variable {P : Program} {w : World} {K : PySem.W.Frag} {mg : Str → Option Value} {base : Heap} {T : List Addr} {N ps : List Str} {x qual : Str} {st : Stmt} {f : Addr} {fd : FuncData} {k : Nat} {rel : List D → M → Prop}
/-- THE RULE for a def over data that raises nothing -/
theorem fn_ok (F : FunD K x qual (defArgs st) (defBody st) (defScope st) [] [] f fd) (S : FnScope N ps (defScope st)) (len : ∀ ds m, rel ds m → ds.length = ps.length)
    (hb : ∀ (cdv : Value) (A : Around) (outer : List Env) (s : Shared) (H A0 : Hp) (E : XK), Room k (A.deeper (PyProof.Rows.envOfC qual (defScope st) s.heap.objs.size f cdv)) → PySem.W.codeIn K cdv qual = true → ∀ ds m, rel ds m → ∀ D : Ends,
      Rt ⟨(cxOf CX0 P w K mg base N qual (defScope st) f cdv A outer s H E).nox, T, [], A0, H, [], none⟩ D.rt m →
      (∀ ρ, m = .im .non → Nx ⟨(cxOf CX0 P w K mg base N qual (defScope st) f cdv A outer s H E).nox, T, [], A0, H, [], none⟩ D.nx ρ) →
      Gs ⟨(cxOf CX0 P w K mg base N qual (defScope st) f cdv A outer s H E).nox, T, [], A0, H, [], none⟩ (defBody st) D (begun N ds)) : FnOk P w K mg base CX0 (k + 1) f fd ps (spP K T rel) := by
  have hlen : ∀ vs H Q E, spP K T rel vs H Q E → vs.length = ps.length := fun vs H Q E ⟨A, ds, m, _, r, h, _⟩ => by rw [r.len]; exact len ds m h
  obtain ⟨oc, od, dV, kV, doc, pm, an, cdv0, ct, osl, rfl, lk, hcd, hdV, _⟩ := F.ex
  refine fn_of lk hcd S hlen fun A outer s H vs Q E hr hsp => ?_
  obtain ⟨A0, ds, m, ok, r, h, kk⟩ := hsp
  refine ⟨twss (cxOf CX0 P w K mg base N qual (defScope st) f cdv0 A outer s H E).nox (defBody st), PSs.nox pss_tw, ?_⟩
  refine hb cdv0 A outer s H A0 E hr hcd ds m h { nx := fun _ H' => Q .non H', rt := Q } (fun v A2 H2 fp _ x2 r2 n2 f2 => kk v A2 H2 fp x2 r2 f2 n2) (fun ρ e A2 H2 σ2 fp2 es => ?_) A0 H _ [] ⟨ok, Ext.refl ok, ?_, List.nodup_nil, fun _ z => (nomatch z), fun _ z => (nomatch z), fun _ z => nomatch z⟩
  · subst e
    exact kk.im .non A2 H2 es.x .non
  · unfold L2.start begun
    rw [r.len]
    exact begun_sls r
/-- a def as it stands for its callers -/
structure Fn (P : Program) (w : World) (K : PySem.W.Frag) (mg : Str → Option Value) (base : Heap) (T : List Addr) (x : Str) (k : Nat) (rel : List D → M → Prop) : Prop where
  ex : ∃ f fd ps, FnOk P w K mg base CX0 k f fd ps (spP K T rel) ∧ mg x = some (.ref f) ∧ PySem.W.keepIn K (.ref f) = true ∧ Binds K fd ps []
end
section
variable {X : Cx} {T : List Addr} {ρ : Rho} {m : M} {d : D} {ds : List D} {e o : Expr} {es : List Expr} {k : Nat} {rel : List D → M → Prop} {x : Str} {p pos apos : Pos}
/-- f(e, ..) -/
theorem me_call (G : Fn X.prog X.w X.K X.mg X.base T x k rel) (ha : As X T (e :: es) ρ ds) (h : rel ds m) (hr : Room k X.A) (hg : Gl X x := by rfl) (hd : (x == ("__debug__" : Str)) = false := by decide)
    (hs : starEach (e :: es) X.env = (false, eval e X.env) :: starEach es X.env := by rfl) (hpl : (backTo pos (starEach es X.env)).any (·.1) = false := by rfl) : Me X T (.Call (.Name x p) (e :: es) [] pos) ρ m := by
  obtain ⟨f, fd, ps, F, hm, hk, hb⟩ := G.ex
  exact me_of (pe_call F hr hg hm hk hb .nil pass0 pa_tw hd hs hpl) fun A H σ s l Q q => ha A H σ s l _ fun vs A1 H1 x1 r1 => ⟨A1, ds, m, x1.ok s, by rw [List.append_nil]; exact r1, h, q.back x1⟩
end
end Kf

set_option maxHeartbeats 2000000
/-! Kf: an own error over ValueError whose __init__ says super().__init__(..) and then keeps one field. -/
namespace Kf
open PySem L2
open PySem.W (Frag InstAt Looks kxs_mw)

/-- where such an __init__ runs -/
def cxI (P : Program) (w : World) (K : Frag) (mg : Str → Option Value) (base : Heap) (N : List Str) (qual : Str) (scope : Scope) (f cda cc : Addr) (A : Around) (outer : List Env) (s : Shared) (H : Hp) : Cx where
  prog := P
  w := w
  K := K
  mg := mg
  base := base
  A := A.deeper (PySem.W.envX qual scope s.heap.objs.size f (.ref cda) [("__class__", cc)])
  N := N
  s_0 := s
  H_0 := H
  env := PySem.W.envX qual scope s.heap.objs.size f (.ref cda) [("__class__", cc)]
  outer := outer
  stack := PySem.W.envX qual scope s.heap.objs.size f (.ref cda) [("__class__", cc)] :: outer
  ex := []
  calm := true
  fn := fun _ => false
  pn := []
  xe := fun _ _ => False
/-- what the written part says of the class at C, its __init__ at f, the cell of its name at cc -/
structure XcF (P : Program) (K : Frag) (mg : Str → Option Value) (qual : Str) (params : Arguments) (body : List Stmt) (scope : Scope) (C f cda cc : Addr) (fd : FuncData) : Prop where
  oex : OexC K C
  fdE : ∃ dV kV doc pm an ct, fd = PySem.W.fnX "__init__" qual params body scope [("__class__", cc)] dV kV doc pm an (.ref cda) ct
  lk : ∃ oc od osl, K.lookup f = some ⟨oc, od, .func fd, osl⟩
  code : PySem.W.codeIn K (.ref cda) qual = true
  file : ∃ ccl cdd vs ccs fl tf, K.lookup cda = some ⟨ccl, cdd, .fields vs, ccs⟩ ∧ vs[2]? = some (.str fl tf) ∧ ((P.main.file : Str) == fl) = true
  cell : ∃ cl cld csl, K.lookup cc = some ⟨cl, cld, .cell (some (.ref C)), csl⟩
  sup : PySem.W.ks_superIn K C C "__init__" = some (some (.builtin "ValueError.__init__"))
  third : PySem.W.nsIn K cStatics "thirdparty.any" = some none
  sub : PySem.W.mroIn K C (.ref C) = some true
  ve : PySem.W.subIn K (.ref C) (.type "ValueError") = some true
  free : mg "super" = none
  top : (P.main.scope.names.lookup ("super" : Str)).isSome = false
/-- the scope of such an __init__: self, one parameter; super global, __class__ captured -/
structure XcS (N : List Str) (scope : Scope) (a : Str) : Prop where
  eN : N = [("self" : Str), a]
  kind : scope.kind = .function
  co : scope.isCoroutine = false
  gen : scope.isGenerator = false
  nd : N.Nodup
  ps : scope.names.lookup ("self" : Str) = some .local
  pa : scope.names.lookup a = some .local
  sup : scope.names.lookup ("super" : Str) = some .globalImplicit
  cls : scope.names.lookup ("__class__" : Str) = some .free
  only : ∀ y ∈ scope.names, y.2 = .free ∨ y.2 = .cell → y.1 = "__class__"
  noc : ∀ y ∈ scope.names, y.2 ≠ .cell

theorem lookup_one {α : Type} {x k : Str} {v c : α} (h : [(k, v)].lookup x = some c) : x = k ∧ c = v := by
  rw [List.lookup_cons] at h
  cases e : x == k with
  | true =>
    rw [e] at h
    exact ⟨by simpa using e, (Option.some.inj h).symm⟩
  | false => rw [e] at h; cases h

section
variable {P : Program} {w : World} {K : Frag} {mg : Str → Option Value} {base : Heap} {qual a : Str} {params : Arguments} {body : List Stmt} {scope : Scope} {C f cda cc : Addr} {fd : FuncData} {N : List Str} {A : Around} {outer : List Env} {s s1 : Shared} {H : Hp}
theorem inv_init (S : XcS N scope a) (F : XcF P K mg qual params body scope C f cda cc fd) (hd : A.handled = none) (e0 : Env0 P w K mg base A outer s H) {v1 v2 : V} {u1 u2 : Value} (r1 : RelV v1 u1) (r2 : RelV v2 u2) {h1 : Heap} {tk : Nat}
    (ns : h1.Ns s.heap.objs.size fun x => [(("self" : Str), u1), (a, u2)].reverse.lookup x) (hk : ∀ b o, s.heap.get? b = some o → h1.get? b = some o) :
    Inv (cxI P w K mg base N qual scope f cda cc A outer s H) [] [some v1, some v2] H { s with heap := h1, toks := tk } := by
  have KX : K.In s.heap := e0.mod.kin.keeps fun b o e => (e0.bs b o e).1
  obtain ⟨cl, cld, csl, hcell⟩ := F.cell
  have hcc : s.heap.get? cc = some ⟨cl, cld, .cell (some (.ref C)), csl⟩ := KX _ _ hcell
  have hbc : base.get? cc = some ⟨cl, cld, .cell (some (.ref C)), csl⟩ := e0.mod.kin _ _ hcell
  have oneC : ∀ {x : Str} {c : Addr}, (cxI P w K mg base N qual scope f cda cc A outer s H).env.cells.lookup x = some c → x = "__class__" ∧ c = cc := fun h => lookup_one h
  have nil : ∀ b : Addr, b ∉ (cxI P w K mg base N qual scope f cda cc A outer s H).ex := fun b z => nomatch (show b ∈ ([] : List Addr) from z)
  have okk : (cxI P w K mg base N qual scope f cda cc A outer s H).Ok := {
    mod := e0.mod
    kind := S.kind
    glob := rfl
    blt := rfl
    above := Nat.le_refl _
    inj := fun x y c h1 h2 => (oneC h1).1.trans (oneC h2).1.symm
    has := fun x hx => by
      have hx' : scope.names.lookup x = some .cell ∨ scope.names.lookup x = some .free := hx
      have e : x = "__class__" := by
        rcases hx' with h | h
        · exact S.only _ (PySem.mem_of_lookup h) (.inr rfl)
        · exact S.only _ (PySem.mem_of_lookup h) (.inl rfl)
      rw [e]
      exact ⟨cc, rfl⟩
    cab := fun x c h => nomatch (show false = true from h)
    hd := fun _ => hd
    frames := Around.frames_deeper e0.frames
    stk := .inr ⟨rfl, rfl⟩
    exf := fun b z => absurd z (nil b)
    bs := e0.bs
    bsz := e0.bsz
    noex := fun b _ _ => nil b
    exfs := fun b z => absurd z (nil b)
    funs := e0.funs
    frf := e0.frf }
  refine ⟨okk, rfl, e0.bare, Un.kept hk, ⟨_, ns, fun i y v g1 g2 g3 => ?_⟩, fun x c h => ?_, e0.hok.fresh (Nat.le_refl _), fun x c h => ?_, fun p hp => ?_, e0.hok.kept hk, ?_⟩
  · have g1' : N[i]? = some y := g1
    rw [S.eN] at g1'
    have nda : ("self" : Str) ≠ a := by
      have q := S.nd
      rw [S.eN] at q
      intro e
      rw [e] at q
      simp at q
    match i, g1', g2 with
    | 0, g1', g2 =>
      have e1 : "self" = y := by simpa using g1'
      have e2 : v1 = v := by simpa using g2
      subst e1 e2
      refine ⟨u1, r1, .inl ⟨S.ps, ?_⟩⟩
      show List.lookup ("self" : Str) [(a, u2), ("self", u1)] = some u1
      have ne : (("self" : Str) == a) = false := by simpa using nda
      rw [List.lookup_cons, ne, List.lookup_cons, beq_self_eq_true]
    | 1, g1', g2 =>
      have e1 : a = y := by simpa using g1'
      have e2 : v2 = v := by simpa using g2
      subst e1 e2
      refine ⟨u2, r2, .inl ⟨S.pa, ?_⟩⟩
      show List.lookup a [(a, u2), ("self", u1)] = some u2
      rw [List.lookup_cons, beq_self_eq_true]
    | n + 2, g1', g2 => simp at g1'
  · obtain ⟨_, rfl⟩ := oneC h
    exact ⟨_, _, hk _ _ hcc, rfl⟩
  · obtain ⟨_, rfl⟩ := oneC h
    exact (e0.bs _ _ hbc).2
  · exact nomatch (show p ∈ ([] : List (Addr × Obj)) from hp)
  · show 2 = N.length
    rw [S.eN]
    rfl
end

section
variable {X : Cx} {pins : List (Addr × Obj)} {σ : L2.St} {H : Hp} {s : Shared} {a C u : Addr}
/-- the bound ValueError.__init__ called: the exception's args are laid anew -/
theorem mw_call {us : List Value} {Q : Value → Shared → Prop} {A : Around} (T : OexC X.K C) (I : Inv X pins σ H s) (e : H a = some (exo a C none)) (hu : s.heap.get? u = some (kxs_mw "ValueError.__init__" a)) (hl : us.length ≤ sizeLine)
    (h : ∀ s', Inv X pins σ H s' → Q .none s') : wpAny (model X.prog X.w) A (call (.ref u) us) Q X.xe s := by
  obtain ⟨nm, q, N, bs, bm, sn, sub, ab, col, dd, k0, k1, k2, k3, k5, hC, hbm⟩ := T.cls
  obtain ⟨t1, ho⟩ := exo_at I.hok e
  obtain ⟨hp, g, d, t, os⟩ := s
  refine wpAny_call (codeAny_of_tree ?_)
  show wpAny _ A.in1 (callAny (.ref u) ⟨us, []⟩) _ _ _
  simp only [callAny]
  refine wpAny_bind (wpAny_load hu ?_)
  simp only [kxs_mw, show (Value.type "method-wrapper" == Value.type "method" || Value.type "method-wrapper" == Value.type "builtin_function_or_method" || Value.type "method-wrapper" == Value.type "method-wrapper") = true by decide, if_true]
  refine W.KFB.if_so (by decide) (wpAny_bind (ESX.check_bound F.excBase_ValueError (I.kIn _ _ hC) ho rfl (wpAny_bind (wpAny_pure (wpAny_pure ?_)))))
  refine ⟨Code.quiet_builtin _ (by decide +kernel), codeAny_builtin F.excBase_ValueError.initEntry ?_⟩
  rw [Around.under_plainId F.excBase_ValueError.init.plain _]
  wp_walk
  have fin : ∀ h' t2, (∀ b o, b ≠ a → hp.get? b = some o → h'.get? b = some o) → h'.get? a = some ({ cls := .ref C, data := .fields #[.ref t2, .none, .none, .none, .bool false, .none] } : Obj) → Q .none ⟨h', g, d, t, os⟩ := fun h' t2 k hx => by
    have J := I.write (t' := t) (x := a) (e := a) (o := exo a C none) (by rw [e]; trivial) (.inl rfl) k ⟨_, hx⟩ (exo_ok hx)
    have eu : upd H a (exo a C none) = H := by
      funext b
      by_cases hb : b = a
      · rw [hb, upd_same, e]
      · rw [upd_ne hb]
    rw [eu] at J
    exact h _ J
  refine fin _ hp.objs.size (fun b o hb ho' => ?_) ?_
  · rw [Heap.get?_update_other _ _ (Ne.symm hb)]
    exact Heap.get?_push_of_some _ ho'
  · rw [Heap.get?_update_self _ (Heap.get?_push_of_some _ ho) rfl]
    rfl
end

/-- the promise of such an __init__: the exception at e gets its dict, which holds the field -/
def spXI (okv : V → Prop) (C : Addr) (fld : Str) : Sp := fun vs H Q _ => ∃ (e : Addr) (v : V), vs = [.ref e, v] ∧ okv v ∧ H e = some (exo e C none) ∧ ∀ dx, H dx = none → dx ≠ e → Q .non (upd (upd H dx (exd dx [(fld, v)])) e (exo e C (some dx)))
section
variable {P : Program} {w : World} {K : Frag} {mg : Str → Option Value} {base : Heap} {qual a fld : Str} {params : Arguments} {scope : Scope} {C f cda cc : Addr} {fd : FuncData} {N : List Str} {arg : Expr} {p0 p1 pa pc pe q1 q2 q3 q4 : Pos} {okv : V → Prop}
theorem xinit_ok (S : XcS N scope a) (F : XcF P K mg qual params [.Expr (.Call (.Attribute (.Call (.Name "super" p0) [] [] p1) "__init__" pa) [arg] [] pc) pe, .Assign [.Attribute (.Name "self" q1) fld q2] (.Name a q3) q4] scope C f cda cc fd)
    (hno : PySem.W.findIn K (.ref C) fld = some none) (hpar : ∃ ar, (params.posonlyargs ++ params.args).head? = some ar ∧ ar.arg = "self")
    (hA : ∀ (A : Around) (outer : List Env) (s : Shared) (H : Hp) (v : V), okv v → A.units + 64 < cLine → ∃ ta, PA (cxI P w K mg base N qual scope f cda cc A outer s H) [arg] ta ∧ ∀ (e : Addr) (H' : Hp) (Q : List V → Hp → Prop), (∀ x, Q [x] H') → ta [some (.ref e), some v] H' Q)
    (hw : ∀ (env : Env), env.scope = scope → swapsWith (.Call (.Attribute (.Call (.Name "super" p0) [] [] p1) "__init__" pa) [arg] [] pc) none pe.line env = pure false)
    (hw2 : ∀ (env : Env), env.scope = scope → swapsWith (.Name a q3) (some (.Attribute (.Name "self" q1) fld q2)) q4.line env = pure false)
    (he : ∀ (env : Env), env.scope = scope → ∃ pl, eval (.Call (.Attribute (.Call (.Name "super" p0) [] [] p1) "__init__" pa) [arg] [] pc) env = (do
      let ov ← attributeBase (.Call (.Name "super" p0) [] [] p1) "__init__" env (eval (.Call (.Name "super" p0) [] [] p1) env)
      standAt pa.atName
      let (f, first) ← holding [ov] (getMethod ov "__init__" pl)
      callWith pc f first (backTo pc (starEach [arg] env)) []))
    (hs : ∀ (env : Env), starEach [arg] env = (false, eval arg env) :: starEach [] env)
    (hadb : (a == ("__debug__" : Str)) = false) (hacd : (a == ("__classdict__" : Str)) = false) : FnOk P w K mg base CX0 1 f fd N (spXI okv C fld) := by
  obtain ⟨dV, kV, doc, pm, an, ct, rfl⟩ := F.fdE
  refine ⟨fun vs H Q E ⟨e, v, h, _⟩ => by rw [h, S.eN]; rfl, fun A outer s H args us vs Q E hr e0 hb r hsp => ?_⟩
  obtain ⟨e, v, rfl, hv, he0, hQ⟩ := hsp
  obtain ⟨oc, od, osl, lk⟩ := F.lk
  have KX : K.In s.heap := e0.mod.kin.keeps fun b o e => (e0.bs b o e).1
  have lim : s.heap.NoLimit := e0.mod.nolimit.keeps fun b o e => (e0.bs b o e).1
  cases r with
  | @cons _ u1 _ us' r1 r' =>
  cases r' with
  | @cons _ u2 _ us'' r2 r'' =>
  cases r''
  have hb' : BindsTo s (PySem.W.fnX "__init__" qual params [.Expr (.Call (.Attribute (.Call (.Name "super" p0) [] [] p1) "__init__" pa) [arg] [] pc) pe, .Assign [.Attribute (.Name "self" q1) fld q2] (.Name a q3) q4] scope [("__class__", cc)] dV kV doc pm an (.ref cda) ct) args [(("self" : Str), u1), (a, u2)] := by
    rw [S.eN] at hb
    exact hb
  refine PySem.ks_codeAny_call_defAt hr.depth (KX _ _ lk) rfl lim (PySem.W.codeRec_of KX F.code) rfl hb' S.noc (fun y hy => ?_) (fun h1 ns hk => ?_) S.co S.gen S.kind
  · rcases List.mem_cons.mp hy with z | hy
    · rw [z]; exact S.ps
    · rcases List.mem_cons.mp hy with z | hy
      · rw [z]; exact S.pa
      · cases hy
  have I0 := inv_init (tk := s.toks + 2) S F hr.hd e0 r1 r2 ns hk
  have KX1 : K.In h1 := KX.keeps hk
  obtain ⟨ar, hpar1, hpar2⟩ := hpar
  obtain ⟨ccl, cdd, fvs, ccs, fl, tf, hcode, hvs, hfile⟩ := F.file
  obtain ⟨cl, cld, csl, hcell⟩ := F.cell
  obtain ⟨nm, q, Nc, bs, bm, sn, sub, ab, col, dd, k0, k1, k2, k3, k5, hC, hbm⟩ := F.oex.cls
  have hcl : PySem.W.clsIn K C = some { name := nm, bases := bs, mro := .ref C :: bm, ns := Nc, qualname := q, hasDict := true, slotNames := sn, subclasses := sub, abstract := ab, collection := col, hasDel := false } := by unfold PySem.W.clsIn; rw [hC] <;> rfl
  have hsup : PySem.W.alongIn K "__init__" (((Value.ref C :: bm).dropWhile (· != .ref C)).drop 1) = some (some (.builtin "ValueError.__init__")) := by
    have z := F.sup
    unfold PySem.W.ks_superIn at z
    rw [hcl] at z
    exact z
  have eu1 : u1 = Value.ref e := r1
  subst eu1
  obtain ⟨pl, hev⟩ := he (PySem.W.envX qual scope s.heap.objs.size f (.ref cda) [("__class__", cc)]) rfl
  obtain ⟨ta, hta, qta⟩ := hA A outer s H v hv hr.units
  obtain ⟨mb, hmb1, hmb2⟩ := e0.mod.blt
  have kb : ∀ b o, base.get? b = some o → h1.get? b = some o := fun b o z => hk b o (e0.bs b o z).1
  refine PySem.ks_wpAt_execs_cons (PySem.ks_wpAt_Expr_any (PySem.ks_wpAt_MethodCall (pl := pl) ?_ hev) (by simp [interactive, PySem.callEnv, PySem.newEnv, S.kind]) (hw _ rfl))
  refine PySem.ks_wpAt_super_base (ar := ar) S.sup S.cls (by decide) rfl (KX1 _ _ lk) rfl hpar1 rfl (KX1 _ _ hcode) rfl hvs hfile F.top ?_
  refine PySem.W.ks_loadName_global S.kind S.sup (Calls.loadGlobal_builtin (e0.mod.glob.keeps kb) F.free (hmb1.keeps kb) ((hmb2 _ (by decide)).trans (by decide +kernel)) ⟨rfl, ?_⟩)
  refine wpAny_loadName_free S.kind S.cls rfl ⟨_, KX1 _ _ hcell, rfl⟩ ?_
  rw [hpar2]
  have hself : ([(("self" : Str), Value.ref e), (a, u2)].reverse.lookup ("self" : Str)) = some (.ref e) := by
    have nda : ("self" : Str) ≠ a := by
      have q := S.nd
      rw [S.eN] at q
      intro e
      rw [e] at q
      simp at q
    show List.lookup ("self" : Str) [(a, u2), ("self", Value.ref e)] = _
    rw [List.lookup_cons, show (("self" : Str) == a) = false by simpa using nda, List.lookup_cons, beq_self_eq_true]
  refine wpAny_loadName_local S.kind S.ps ns hself ?_
  refine PySem.ks_wpAny_isType_cls (KX1 _ _ hC) rfl ⟨rfl, ?_⟩
  obtain ⟨t1, hx⟩ := exo_at I0.hok he0
  refine PySem.ks_wpAny_call_super (KX1 _ _ hC) rfl hx rfl (fun c z => by cases z) (PySem.W.looks_mroIn KX1 F.sub) fun h2 eso k2 => ?_
  have I1 : Inv (cxI P w K mg base N qual scope f cda cc A outer s H) [] [some (.ref e), some v] H { s with heap := h2, toks := s.toks + 2 } := I0.kept k2
  have KX2 : K.In h2 := KX1.keeps k2
  have J2 : PySem.W.InstAt h2 e { cls := .ref C, dict := none, data := .fields #[.ref t1, .none, .none, .none, .bool false, .none] } C none := ⟨k2 _ _ hx, rfl, rfl, trivial⟩
  refine PySem.W.kxs_getMethod PySem.W.kxs_ValueError eso (PySem.W.looks_opaque KX2 F.third) (l₀ := Value.ref C :: bm) (fun A Q E s k q => wpAny_bind ((PySem.W.looks_clsIn KX2 hcl) A _ E s k (wpAny_pure q))) rfl KX2 hsup (J2.type.andThen (PySem.W.looks_subIn KX2 F.ve)) (PySem.W.ks_ne KX2 J2 hcl) (by decide) ?_
  have I2 : Inv (cxI P w K mg base N qual scope f cda cc A outer s H) [] [some (.ref e), some v] H { s with heap := h2.push (kxs_mw "ValueError.__init__" e), toks := s.toks + 2 + 1 } := I1.kept fun b o z => Heap.get?_push_of_some _ z
  have hu0 : (h2.push (kxs_mw "ValueError.__init__" e)).get? h2.objs.size = some (kxs_mw "ValueError.__init__" e) := Heap.get?_push_size _ rfl
  have I3 := I2.pinned (fp := [h2.objs.size]) (fun b hb => by
    rcases List.mem_cons.mp hb with z | z
    · rw [z]
      exact I1.fpOk (Nat.le_refl _) (I1.hok.fresh (Nat.le_refl _))
    · cases z) (fun b hb => by
    rcases List.mem_cons.mp hb with z | z
    · rw [z]
      exact ⟨_, hu0, fun v z => by cases z⟩
    · cases z)
  have hrun := hta.run pc _ _ _ H (fun vs H' => ∃ x, vs = [x] ∧ H' = H) I3 (qta e H _ fun x => ⟨x, rfl, rfl⟩)
  have hse := hs (PySem.W.envX qual scope s.heap.objs.size f (.ref cda) [("__class__", cc)])
  show wpAny (model P w) _ (callWith pc (.ref h2.objs.size) [] (backTo pc (starEach [arg] (PySem.W.envX qual scope s.heap.objs.size f (.ref cda) [("__class__", cc)]))) []) _ _ _
  have hrun' : wpAny (model P w) (A.deeper (PySem.W.envX qual scope s.heap.objs.size f (.ref cda) [("__class__", cc)])) (spliced (backTo pc (starEach [arg] (PySem.W.envX qual scope s.heap.objs.size f (.ref cda) [("__class__", cc)])))) _ _ _ := hrun
  rw [hse] at hrun' ⊢
  refine PySem.W.kxs_callWith (i := "ValueError.__init__") (x := e) rfl (Calls.evalArgs_plain (wpAny_mono hrun' (fun us3 s3 hq3 => ?_) fun _ _ z => (show False from z).elim))
  obtain ⟨vs3, H3, I4, rv3, x3, rfl, rfl⟩ := hq3
  have hu4 : s3.heap.get? h2.objs.size = some (kxs_mw "ValueError.__init__" e) := (I4.pin (h2.objs.size, kxs_mw "ValueError.__init__" e) (List.mem_append_right _ (List.mem_append_right _ (mem_pinsAt (List.mem_cons_self ..) hu0)))).1
  refine ⟨hu4, ?_⟩
  have hl3 : us3.length ≤ sizeLine := by
    rw [← Paired.length rv3, sizeLine_eq]
    show 1 ≤ 16777216
    decide
  refine wpAny_mono (mw_call F.oex I4 he0 hu4 hl3 (Q := fun u s' => Inv (cxI P w K mg base N qual scope f cda cc A outer s H3) ([] ++ pinsAt [h2.objs.size] (h2.push (kxs_mw "ValueError.__init__" e))) [some (.ref e), some v] H3 s') fun s' J => J) (fun u s5 I5 => ?_) fun _ _ z => (show False from z).elim
  have I6 := I5.unpinned
  refine wpAt_of_wpAny ?_
  have hN0 : (cxI P w K mg base N qual scope f cda cc A outer s H3).N[0]? = some ("self" : Str) := by show N[0]? = _; rw [S.eN]; rfl
  have hN1 : (cxI P w K mg base N qual scope f cda cc A outer s H3).N[1]? = some a := by show N[1]? = _; rw [S.eN]; rfl
  have hst : PSs (cxI P w K mg base N qual scope f cda cc A outer s H3) [.Assign [.Attribute (.Name "self" q1) fld q2] (.Name a q3) q4] (tOst K fld (tVar 0) (tVar 1)) :=
    pss_one (ps_ost (pe_var (i := 0) hN0 (.inl S.ps)) (pe_var (i := 1) hN1 (.inl S.pa) hadb hacd) (hw2 _ rfl))
  refine wpAny_mono (hst.run [] s5 _ H3 { nx := fun _ H' => Q .non H', rt := fun _ _ => False } I6 ?_) (fun fl s6 hf => ?_) fun _ _ z => (show False from z).elim
  · exact ⟨v, rfl, .ref e, rfl, e, C, rfl, F.oex, hno, .inl ⟨he0, fun dx n ne => hQ dx n ne⟩⟩
  · have fin : ∀ {σ' : L2.St} {H' : Hp}, Inv (cxI P w K mg base N qual scope f cda cc A outer s H3) [] σ' H' s6 → Q .non H' → CE outer P w H3 s Q .none s6 := fun {σ' H'} J q => ⟨.non, H', J.os, J.bare, J.base, J.hok, rfl, q⟩
    cases fl with
    | next =>
      obtain ⟨σ', H', J, q⟩ := hf
      exact fin J q
    | brk =>
      obtain ⟨_, _, _, q⟩ := hf
      exact q.elim
    | cont =>
      obtain ⟨_, _, _, q⟩ := hf
      exact q.elim
    | ret u =>
      obtain ⟨_, _, _, _, _, q⟩ := hf
      exact q.elim
end
end Kf

set_option maxHeartbeats 1000000
/-! Kf: calls that change what the frame holds, or raise. -/
namespace Kf
open PySem L2

/-! ### expressions that change what is held -/
inductive Oc where
  | ret (m : M) (ρ : Rhm)
  | exc (C : Addr) (f : Str) (d : D) (ρ : Rhm)
/-- what must follow at the end of an expression -/
def After (c : Fc) (W : WX) (A : Hp) (σ : L2.St) (Q : VK) : Oc → Prop
  | .ret m ρ => ∀ v A2 H2 q fp, Es c A2 H2 σ ρ fp → Same A A2 → RM c.X.K A2 H2 v m q → q.Nodup → (∀ a ∈ q, a ∉ fp ∧ c.H0 a = none) → Q v H2
  | .exc C f d ρ => ∀ A2 H2 fp e v, Es c A2 H2 σ ρ fp → Same A A2 → H2 e = some (.xd [(f, v)]) → Rp c.X.K A2 v d → W (.ref C) (some e) σ H2
def Eo (c : Fc) (W : WX) (e : Expr) (ρ : Rhm) (o : Oc) : Prop := ∀ A H σ fp, Es c A H σ ρ fp → ∀ Q : VK, After c W A σ Q o → tw c.X e σ H Q
/-- a test that changes what is held -/
def Et (c : Fc) (e : Expr) (ρ : Rhm) (k : Bool) (ρ' : Rhm) : Prop := ∀ A H σ fp, Es c A H σ ρ fp → ∀ Q : Bool → Hp → Prop, (∀ A2 H2 fp', Es c A2 H2 σ ρ' fp' → Same A A2 → Q k H2) → twT c.X e σ H Q
def Ew (c : Fc) (e : Expr) (ρ : Rhm) (k : Bool) (ρ' : Rhm) : Prop := ∀ A H σ fp, Es c A H σ ρ fp → ∀ Q : Bool → Hp → Prop, (∀ A2 H2 fp', Es c A2 H2 σ ρ' fp' → Same A A2 → Q k H2) → twW c.X e σ H Q
section
variable {c : Fc} {W : WX} {D : Ends} {ρ ρ' ρ1 ρ2 : Rhm} {e a b t : Expr} {m : M} {d d1 d2 : Kf.D} {k k1 k2 : Bool} {pos : Pos} {st : Stmt} {i : Nat} {o : Oc} {es : List Expr} {ds : List Kf.D}
theorem eo_of (h : Asks c ρ e m) : Eo c W e ρ (.ret m ρ) := fun A H σ fp es Q q => es.ask h fun v A2 H2 p x ok r f n => by
  have es2 := es.step0 x
  exact q v A2 H2 p fp es2 x.aa r n fun a z => ⟨fun w => es.live a w (f a z), fresh_back es.x f a z⟩
theorem et_of (h : Te c.X c.T e ρ k) : Et c e ρ k ρ := fun A H σ fp es Q q => es.askT h fun A2 H2 x _ => q A2 H2 fp (es.step0 x) x.aa
theorem et_cmp {op : CmpOp} (h1 : Eo c W a ρ (.ret (.im d1) ρ1)) (h2 : Eo c W b ρ1 (.ret (.im d2) ρ2)) (ho : Op c.X c.T (compareOp op) d1 d2 (.im (.bl k))) (hm : behindInMarks op b = false := by first | rfl | exact nomark _) : Et c (.Compare a [op] [b] pos) ρ k ρ2 := fun A H σ fp es Q q pins s I => by
  refine (pt_cmpR (pos := pos) op_tw pe_tw pe_tw hm).run pins s σ H Q I (h1 A H σ fp es _ fun v A1 H1 q1 fp1 es1 s1 r1 _ _ => h2 A1 H1 σ fp1 es1 _ fun u A2 H2 q2 fp2 es2 s2 r2 _ _ => ?_)
  cases r1 with
  | im r1 =>
  cases r2 with
  | im r2 =>
  refine ho A2 H2 v u es2.ok (r1.mono s2) r2 _ fun z A3 H3 p x r _ _ => ?_
  cases r with
  | im r =>
  cases r
  exact ⟨k, rfl, q A3 H3 fp2 (es2.step0 x) ((s1.trans s2).trans x.aa)⟩
theorem et_val (h : Eo c W e ρ (.ret (.im (.bl k)) ρ')) (he : ∀ whole, isTrue e c.X.env whole = (do let v ← whole; standAt e.pos; holding [v] (truthy v)) := by intro _; rfl) : Et c e ρ k ρ' := fun A H σ fp es Q q pins s I => by
  refine (pt_val pe_tw he).run pins s σ H Q I (h A H σ fp es _ fun v A1 H1 q1 fp1 es1 s1 r1 _ _ => ?_)
  cases r1 with
  | im r1 =>
  cases r1
  exact ⟨k, rfl, q A1 H1 fp1 es1 s1⟩
theorem et_not (h : Et c e ρ k ρ') : Et c (.UnaryOp .Not e pos) ρ (!k) ρ' := fun A H σ fp es Q q pins s I => (pt_not pt_tw).run pins s σ H Q I (h A H σ fp es _ q)
theorem et_w (h : Ew c e ρ k ρ') : Et c e ρ k ρ' := fun A H σ fp es Q q pins s I => (pw_tw.pt).run pins s σ H Q I (h A H σ fp es _ q)
theorem ew_and1 (h : Et c a ρ k ρ') : Ew c (.BoolOp .And [a] pos) ρ k ρ' := fun A H σ fp es Q q wh pins s I => (pw_and1 pt_tw).run wh pins s σ H Q I (h A H σ fp es _ q)
theorem ew_or1 (h : Et c a ρ k ρ') : Ew c (.BoolOp .Or [a] pos) ρ k ρ' := fun A H σ fp es Q q wh pins s I => (pw_or1 pt_tw).run wh pins s σ H Q I (h A H σ fp es _ q)
theorem ew_and {rest : List Expr} (h : Et c a ρ k1 ρ1) (hr : k1 = true → Ew c (.BoolOp .And (b :: rest) pos) ρ1 k2 ρ2) (e0 : k1 = false → k = false ∧ ρ' = ρ1) (e1 : k1 = true → k = k2 ∧ ρ' = ρ2) : Ew c (.BoolOp .And (a :: b :: rest) pos) ρ k ρ' := fun A H σ fp es Q q wh pins s I =>
  (pw_and pt_tw pw_tw).run wh pins s σ H Q I (h A H σ fp es _ fun A1 H1 fp1 es1 s1 => by
    cases k1 with
    | true =>
      obtain ⟨rfl, rfl⟩ := e1 rfl
      exact iteT (hr rfl A1 H1 σ fp1 es1 _ fun A2 H2 fp2 es2 s2 => q A2 H2 fp2 es2 (s1.trans s2))
    | false =>
      obtain ⟨rfl, rfl⟩ := e0 rfl
      exact iteF (q A1 H1 fp1 es1 s1))
theorem ew_or {rest : List Expr} (h : Et c a ρ k1 ρ1) (hr : k1 = false → Ew c (.BoolOp .Or (b :: rest) pos) ρ1 k2 ρ2) (e0 : k1 = true → k = true ∧ ρ' = ρ1) (e1 : k1 = false → k = k2 ∧ ρ' = ρ2) : Ew c (.BoolOp .Or (a :: b :: rest) pos) ρ k ρ' := fun A H σ fp es Q q wh pins s I =>
  (pw_or pt_tw pw_tw).run wh pins s σ H Q I (h A H σ fp es _ fun A1 H1 fp1 es1 s1 => by
    cases k1 with
    | false =>
      obtain ⟨rfl, rfl⟩ := e1 rfl
      exact iteF (hr rfl A1 H1 σ fp1 es1 _ fun A2 H2 fp2 es2 s2 => q A2 H2 fp2 es2 (s1.trans s2))
    | true =>
      obtain ⟨rfl, rfl⟩ := e0 rfl
      exact iteT (q A1 H1 fp1 es1 s1))
/-! ### statements over them -/
/-- what follows an error that has come -/
def Xx (c : Fc) (W : WX) (C : Addr) (f : Str) (d : Kf.D) (ρ : Rhm) : Prop := ∀ A H σ fp e v, Es c A H σ ρ fp → H e = some (.xd [(f, v)]) → Rp c.X.K A v d → W (.ref C) (some e) σ H
def Then (c : Fc) (W : WX) (K : M → Rhm → Prop) : Oc → Prop
  | .ret m ρ => K m ρ
  | .exc C f d ρ => Xx c W C f d ρ
theorem ss_ifE {t : Expr} {x y : List Stmt} (h : Et c t ρ k ρ') (ha : k = true → Gs c x D ρ') (hb : k = false → Gs c y D ρ') : Ss c (.If t x y pos) D ρ :=
  ss_of (ps_if pt_tw pss_tw pss_tw) fun A H σ fp es => h A H σ fp es _ fun A2 H2 fp' es' _ => by
    cases k with
    | true => exact (iteT (ha rfl A2 H2 σ fp' es'))
    | false => exact (iteF (hb rfl A2 H2 σ fp' es'))
theorem Es.put2 {A H : Hp} {σ : L2.St} {fp : List Addr} (es : Es c A H σ ρ fp) {v : V} {p : List Addr} (r : RM c.X.K A H v m p) (n : p.Nodup) (f : ∀ a ∈ p, a ∉ fp ∧ c.H0 a = none) (hi : i < ρ.length) (h0 : c.S0 = none ∨ i ≠ 0) : ∃ fp', Es c A H (σ.set i (some v)) (ρ.set i (some m)) fp' := by
  obtain ⟨fp', h1, h2, h3⟩ := Sls.set r i es.sl hi
  refine ⟨fp', es.ok, es.x, h1, h3 n es.nd fun a z => (f a z).1, fun a z => ?_, es.pn, fix_set h0 es.fix⟩
  rcases h2 a z with w | w
  · exact .inr (f a w).2
  · exact es.own a w
theorem ss_setE {x : Str} {pos' : Pos} (h : Eo c W e ρ o) (hN : c.X.N.Nodup) (hi : c.X.N[i]? = some x) (hx : Loc c.X.env.scope x) (q : Then c W (fun m ρ' => i < ρ'.length ∧ Nx c D.nx (ρ'.set i (some m))) o) (h0 : c.S0 = none ∨ i ≠ 0 := by first | exact .inl rfl | exact .inr (by decide))
    (hw : swapsWith e (some (.Name x pos')) pos.line c.X.env = pure false := by rfl) (hf : c.X.fn x = true ∨ c.X.env.scope.names.lookup x = some .local := by first | exact .inl rfl | exact .inr rfl) : Ss c (.Assign [.Name x pos'] e pos) D ρ :=
  ss_of (L2.ps_set hN hi hx pe_tw hw hf) fun A H σ fp es => by
    cases o with
    | ret m ρ' =>
      refine h A H σ fp es _ fun v A2 H2 p fp' es' _ r n f => ?_
      obtain ⟨fp2, es2⟩ := es'.put2 r n f q.1 h0
      exact q.2 A2 H2 _ fp2 es2
    | exc C f d ρ' => exact h A H σ fp es _ fun A2 H2 fp' e v es' _ he r => q A2 H2 σ fp' e v es' he r
theorem ss_dropE (h : Eo c W e ρ o) (q : Then c W (fun m ρ' => Nx c D.nx ρ') o) (hw : swapsWith e none pos.line c.X.env = pure false := by rfl) : Ss c (.Expr e pos) D ρ :=
  ss_of (ps_expr pe_tw hw) fun A H σ fp es => by
    cases o with
    | ret m ρ' => exact h A H σ fp es _ fun v A2 H2 p fp' es' _ r n f => q A2 H2 σ fp' es'
    | exc C f d ρ' => exact h A H σ fp es _ fun A2 H2 fp' e v es' _ he r => q A2 H2 σ fp' e v es' he r
/-- what follows a value handed back, with what is held -/
def Rh (c : Fc) (R : VK) (m : M) (ρ : Rhm) : Prop := ∀ v A H σ q fp, Es c A H σ ρ fp → RM c.X.K A H v m q → q.Nodup → (∀ a ∈ q, a ∉ fp ∧ c.H0 a = none) → R v H
theorem ss_retE (h : Eo c W e ρ o) (q : Then c W (fun m ρ' => Rh c D.rt m ρ') o) : Ss c (.Return (some e) pos) D ρ :=
  ss_of (ps_ret pe_tw) fun A H σ fp es => by
    cases o with
    | ret m ρ' => exact h A H σ fp es _ fun v A2 H2 p fp' es' _ r n f => q v A2 H2 σ p fp' es' r n f
    | exc C f d ρ' => exact h A H σ fp es _ fun A2 H2 fp' e v es' _ he r => q A2 H2 σ fp' e v es' he r
theorem rh_of {R : VK} (q : Rt c R m) : Rh c R m ρ := fun v A H σ p fp es r n f => q v A H p es.ok es.x r n fun a z => (f a z).2
end
end Kf

set_option maxHeartbeats 1000000
/-! Kf: defs whose first argument may change, that may raise; objects made; fields. -/
namespace Kf
open PySem L2

/-! ### fields -/
def putM (f : Str) (m : M) : List (Str × M) → List (Str × M)
  | [] => [(f, m)]
  | (g, x) :: r => if g = f then (g, m) :: r else (g, x) :: putM f m r
theorem RMs.look {K : PySem.W.Frag} {A H : Hp} {f : Str} : ∀ {fs : List (Str × V)} {ms : List (Str × M)} {fp : List Addr}, RMs K A H Str fs ms fp → (ms.lookup f = none → fs.lookup f = none) ∧ ∀ m, ms.lookup f = some m → ∃ v p, fs.lookup f = some v ∧ RM K A H v m p ∧ ∀ a ∈ p, a ∈ fp
  | _, _, _, .nil => ⟨fun _ => rfl, fun m h => by cases h⟩
  | _, _, _, .cons (k := k) (p := p) h r => by
    have ih := RMs.look (f := f) r
    refine ⟨fun z => ?_, fun m z => ?_⟩
    · rw [List.lookup_cons] at z ⊢
      cases e : f == k with
      | true => rw [e] at z; cases z
      | false =>
        rw [e] at z
        exact ih.1 z
    · rw [List.lookup_cons] at z
      rw [List.lookup_cons]
      cases e : f == k with
      | true =>
        rw [e] at z
        cases z
        exact ⟨_, _, rfl, h, fun a w => List.mem_append_left _ w⟩
      | false =>
        rw [e] at z
        obtain ⟨v, p2, h1, h2, h3⟩ := ih.2 m z
        exact ⟨v, p2, h1, h2, fun a w => List.mem_append_right _ (h3 a w)⟩
theorem RMs.put {K : PySem.W.Frag} {A H : Hp} {f : Str} {v : V} {m : M} {p : List Addr} (h0 : RM K A H v m p) : ∀ {fs : List (Str × V)} {ms : List (Str × M)} {fp : List Addr}, RMs K A H Str fs ms fp → p.Nodup → fp.Nodup → (∀ a ∈ p, a ∉ fp) →
    ∃ fp', RMs K A H Str (putF f v fs) (putM f m ms) fp' ∧ fp'.Nodup ∧ ∀ a ∈ fp', a ∈ p ∨ a ∈ fp
  | _, _, _, .nil, n, _, _ => ⟨p ++ [], .cons h0 .nil, by rw [List.append_nil]; exact n, fun a z => .inl (by rw [List.append_nil] at z; exact z)⟩
  | _, _, _, .cons (k := k) (p := q) (q := fp) h r, n, n2, d => by
    obtain ⟨n3, n4, n5⟩ := List.nodup_append.mp n2
    unfold putF putM
    by_cases e : k = f
    · rw [if_pos e, if_pos e]
      exact ⟨p ++ fp, .cons h0 r, List.nodup_append.mpr ⟨n, n4, fun a ha b hb z => d a ha (List.mem_append_right _ (z ▸ hb))⟩, fun a z => (List.mem_append.mp z).imp id fun w => List.mem_append_right _ w⟩
    · rw [if_neg e, if_neg e]
      obtain ⟨fp', h1, h2, h3⟩ := RMs.put h0 r n n4 fun a ha z => d a ha (List.mem_append_right _ z)
      refine ⟨q ++ fp', .cons h h1, List.nodup_append.mpr ⟨n3, h2, fun a ha b hb z => ?_⟩, fun a z => ?_⟩
      · subst z
        rcases h3 a hb with w | w
        · exact d a w (List.mem_append_left _ ha)
        · exact n5 a ha a w rfl
      · rcases List.mem_append.mp z with w | w
        · exact .inr (List.mem_append_left _ w)
        · exact (h3 a w).imp id fun u => List.mem_append_right _ u
theorem RMs.length {K : PySem.W.Frag} {A H : Hp} {κ : Type} : ∀ {fs : List (κ × V)} {ms : List (κ × M)} {fp : List Addr}, RMs K A H κ fs ms fp → fs.length = ms.length
  | _, _, _, .nil => rfl
  | _, _, _, .cons _ r => by simp [RMs.length r]
theorem RpM.look {K : PySem.W.Frag} {A : Hp} {f : Str} {d : D} : ∀ {fs : List (Str × V)} {ds : List (Str × D)}, RpM K A Str fs ds → ds.lookup f = some d → ∃ v, fs.lookup f = some v ∧ Rp K A v d
  | _, _, .nil, h => by cases h
  | _, _, .cons (k := k) h r, z => by
    rw [List.lookup_cons] at z ⊢
    cases e : f == k with
    | true =>
      rw [e] at z
      cases z
      exact ⟨_, rfl, h⟩
    | false =>
      rw [e] at z
      exact RpM.look r z
theorem RpM.lookN {K : PySem.W.Frag} {A : Hp} {f : Str} : ∀ {fs : List (Str × V)} {ds : List (Str × D)}, RpM K A Str fs ds → ds.lookup f = none → fs.lookup f = none
  | _, _, .nil, _ => rfl
  | _, _, .cons (k := k) h r, z => by
    rw [List.lookup_cons] at z ⊢
    cases e : f == k with
    | true => rw [e] at z; cases z
    | false =>
      rw [e] at z
      exact RpM.lookN r z
section
variable {X : Cx} {T : List Addr} {ρ : Rho} {o : Expr} {f : Str} {C : Addr} {fs : List (Str × D)} {d : D} {pos : Pos}
/-- o.f, o data of an instance -/
theorem ie_fld (h : Ie X T o ρ (.ins C fs)) (hl : fs.lookup f = some d) (hc : Cls X.K C) (hn : NoAttr X.K C f) (hb : attributeBase o f X.env (eval o X.env) = eval o X.env := by rfl) : Ie X T (.Attribute o f pos) ρ d :=
  ie_of (pe_fld pe_tw hb) fun A H σ s l Q k => h A H σ s l _ fun v A1 H1 x1 r1 => by
    cases r1 with
    | ins e1 r1 =>
    obtain ⟨v, h1, h2⟩ := r1.look hl
    exact ⟨_, C, _, _, v, rfl, (x1.ok s).s _ _ e1, hc, hn, h1, k v A1 H1 x1 h2⟩
end

/-! ### promises -/
inductive Om where
  | ret (r : M) (m : M)
  | exc (C : Addr) (f : Str) (d : D) (m : M)
def Om.oc (i : Nat) (ρ : Rhm) : Om → Oc
  | .ret r m => .ret r (ρ.set i (some m))
  | .exc C f d m => .exc C f d (ρ.set i (some m))
/-- what must follow the call, by its outcome -/
def Ret (K : PySem.W.Frag) (T : List Addr) (A H : Hp) (v0 : V) (p : List Addr) (Q : VK) (E : XK) : Om → Prop
  | .ret r m => ∀ v A2 H2 q p', Ok T A2 H2 → Ext p A H A2 H2 → RM K A2 H2 v r q → RM K A2 H2 v0 m p' → (q ++ p').Nodup → Fresh H q → (∀ a ∈ p', a ∈ p ∨ H a = none) → Q v H2
  | .exc C f d m => ∀ A2 H2 e v p', Ok T A2 H2 → Ext p A H A2 H2 → RM K A2 H2 v0 m p' → p'.Nodup → (∀ a ∈ p', a ∈ p ∨ H a = none) → H2 e = some (.xd [(f, v)]) → Rp K A2 v d → E (.ref C) (some e) H2
/-- the promise of a def: from its first argument, which may change, and further data -/
def spM (K : PySem.W.Frag) (T : List Addr) (rel : M → List D → Om → Prop) : Sp := fun vs H Q E => ∃ A v0 vs' m ds p o, vs = v0 :: vs' ∧ Ok T A H ∧ RM K A H v0 m p ∧ p.Nodup ∧ RpL K A vs' ds ∧ rel m ds o ∧ Ret K T A H v0 p Q E o
def begunM (N : List Str) (m : M) (ds : List D) : Rhm := some m :: (ds.map (fun d => some (.im d)) ++ List.replicate (N.length - 1 - ds.length) none)
/-- what a body must come to -/
def EndM (c : Fc) (W : WX) (Z : Ends) : Om → Prop
  | .ret r m => (∀ ρ, ρ[0]? = some (some m) → Rh c Z.rt r ρ) ∧ (r = .im .non → ∀ ρ, ρ[0]? = some (some m) → Nx c Z.nx ρ)
  | .exc C f d m => ∀ ρ, ρ[0]? = some (some m) → Xx c W C f d ρ
abbrev cxM (P : Program) (w : World) (K : PySem.W.Frag) (mg : Str → Option Value) (base : Heap) (N : List Str) (qual : Str) (scope : Scope) (f : Addr) (cd : Value) (A : Around) (outer : List Env) (s : Shared) (H : Hp) (E : XK) : Cx :=
  cxOf (L2.CX P w) P w K mg base N qual scope f cd A outer s H E
section
variable {P : Program} {w : World} {K : PySem.W.Frag} {mg : Str → Option Value} {base : Heap} {T : List Addr} {N ps : List Str} {x qual : Str} {st : Stmt} {f : Addr} {fd : FuncData} {k : Nat} {rel : M → List D → Om → Prop}
theorem fn_okM (F : FunD K x qual (defArgs st) (defBody st) (defScope st) [] [] f fd) (S : FnScope N ps (defScope st)) (len : ∀ m ds o, rel m ds o → ds.length + 1 = ps.length)
    (hb : ∀ (cdv : Value) (A : Around) (outer : List Env) (s : Shared) (H A0 : Hp) (E : XK) (v0 : V) (p : List Addr), Room k (A.deeper (PyProof.Rows.envOfC qual (defScope st) s.heap.objs.size f cdv)) → PySem.W.codeIn K cdv qual = true → ∀ m ds o, rel m ds o → ∀ Z : Ends,
      Takes (cxM P w K mg base N qual (defScope st) f cdv A outer s H E) (fun cls d _ H => E cls d H) → PassesOwn (model P w) (A.deeper (PyProof.Rows.envOfC qual (defScope st) s.heap.objs.size f cdv)) (PyProof.Rows.envOfC qual (defScope st) s.heap.objs.size f cdv) (cxM P w K mg base N qual (defScope st) f cdv A outer s H E).xe →
      EndM ⟨cxM P w K mg base N qual (defScope st) f cdv A outer s H E, T, p, A0, H, [], some v0⟩ (fun cls d _ H => E cls d H) Z o →
      Gs ⟨cxM P w K mg base N qual (defScope st) f cdv A outer s H E, T, p, A0, H, [], some v0⟩ (defBody st) Z (begunM N m ds)) : FnOk P w K mg base (L2.CX P w) (k + 1) f fd ps (spM K T rel) := by
  have hlen : ∀ vs H Q E, spM K T rel vs H Q E → vs.length = ps.length := fun vs H Q E ⟨A, v0, vs', m, ds, p, o, e, _, _, _, r, h, _⟩ => by
    rw [e, List.length_cons, r.len]
    exact len m ds o h
  obtain ⟨oc, od, dV, kV, doc, pm, an, cdv0, ct, osl, rfl, lk, hcd, hdV, _⟩ := F.ex
  refine fn_of lk hcd S hlen fun A outer s H vs Q E hr hsp => ?_
  obtain ⟨A0, v0, vs', m, ds, p, o, rfl, ok, r0, n0, r, h, kk⟩ := hsp
  refine ⟨twss (cxM P w K mg base N qual (defScope st) f cdv0 A outer s H E) (defBody st), pss_tw, ?_⟩
  refine hb cdv0 A outer s H A0 E v0 p hr hcd m ds o h { nx := fun _ H' => Q .non H', rt := Q } (takes_of rfl rfl rfl rfl) (passes_of rfl) ?_ A0 H _ p ⟨ok, Ext.refl ok, ?_, n0, fun a z => .inl z, fun _ z => (nomatch z), fun v e => ?_⟩
  · have at0 : ∀ {A2 H2 : Hp} {σ : L2.St} {ρ : Rhm} {fp : List Addr} {m' : M}, Es ⟨cxM P w K mg base N qual (defScope st) f cdv0 A outer s H E, T, p, A0, H, [], some v0⟩ A2 H2 σ ρ fp → ρ[0]? = some (some m') → ∃ p', RM K A2 H2 v0 m' p' ∧ p'.Nodup ∧ ∀ a ∈ p', a ∈ fp := fun es e => by
      obtain ⟨v, p', h1, h2, h3, h4, _⟩ := es.alter e
      have q := es.fix v0 rfl
      rw [h1] at q
      obtain rfl := Option.some.inj (Option.some.inj q)
      exact ⟨p', h2, h3, h4⟩
    cases o with
    | ret r m' =>
      refine ⟨fun ρ e v A2 H2 σ q fp es rv n f => ?_, fun e0 ρ e A2 H2 σ fp es => ?_⟩
      · obtain ⟨p', h2, h3, h4⟩ := at0 es e
        exact kk v A2 H2 q p' es.ok es.x rv h2 (List.nodup_append.mpr ⟨n, h3, fun a ha b hb z => (f a ha).1 (z ▸ h4 b hb)⟩) (fun a z => (f a z).2) fun a z => es.own a (h4 a z)
      · subst e0
        obtain ⟨p', h2, h3, h4⟩ := at0 es e
        exact kk .non A2 H2 [] p' es.ok es.x (.im .non) h2 (by simpa using h3) (fun _ z => nomatch z) fun a z => es.own a (h4 a z)
    | exc C g d m' =>
      intro ρ e A2 H2 σ fp ea v es he rd
      obtain ⟨p', h2, h3, h4⟩ := at0 es e
      exact kk A2 H2 ea v p' es.ok es.x h2 h3 (fun a z => es.own a (h4 a z)) he rd
  · unfold L2.start begunM
    rw [List.length_cons, r.len]
    have e1 : N.length - (ds.length + 1) = N.length - 1 - ds.length := by omega
    rw [e1]
    have q := Sls.val r0 (begun_sls (n := N.length - 1 - ds.length) (H := H) r)
    rw [List.append_nil] at q
    exact q
  · have e' : v0 = v := Option.some.inj e
    rw [← e']
    rfl
structure FnM (P : Program) (w : World) (K : PySem.W.Frag) (mg : Str → Option Value) (base : Heap) (T : List Addr) (x : Str) (k : Nat) (rel : M → List D → Om → Prop) : Prop where
  ex : ∃ f fd ps, FnOk P w K mg base (L2.CX P w) k f fd ps (spM K T rel) ∧ mg x = some (.ref f) ∧ PySem.W.keepIn K (.ref f) = true ∧ Binds K fd ps []
structure MtM (P : Program) (w : World) (K : PySem.W.Frag) (mg : Str → Option Value) (base : Heap) (T : List Addr) (C : Addr) (x : Str) (k : Nat) (rel : M → List D → Om → Prop) : Prop where
  ex : ∃ f fd ps, FnOk P w K mg base (L2.CX P w) k f fd ps (spM K T rel) ∧ Cls K C ∧ Meth K C x f ∧ Binds K fd ps []
/-- a class as it is made: x its name, C its place -/
structure MkM (P : Program) (w : World) (K : PySem.W.Frag) (mg : Str → Option Value) (base : Heap) (T : List Addr) (x : Str) (C : Addr) (k : Nat) (rel : M → List D → Om → Prop) : Prop where
  ex : ∃ f fd ps, FnOk P w K mg base (L2.CX P w) k f fd ps (spM K T rel) ∧ mg x = some (.ref C) ∧ Mk K C f ∧ Binds K fd ps []
end
/-! ### calls -/
def tMethW (C : Addr) (m : Str) (sp : Sp) (W : WX) (ta : TE) (t : TA) : TE := fun σ H Q => ta σ H fun x H1 => ∃ a dx fs, x = .ref a ∧ H1 a = some (.ins C dx fs) ∧ fs.lookup m = none ∧ t σ H1 fun vs H2 => sp (x :: vs) H2 Q (WE W σ)
section
variable {X : Cx} {k : Nat} {f C : Addr} {fd : FuncData} {ps : List Str} {sp : Sp} {W : WX} {m : Str} {pos apos : Pos} {e o : Expr} {es : List Expr} {ta : TE} {t : TA}
theorem pe_methW {pl : Sem Bool} (tk : Takes X W) (he : PE X o ta) (c : Cls X.K C) (hm : Meth X.K C m f) (F : FnOk X.prog X.w X.K X.mg X.base (L2.CX X.prog X.w) k f fd ps sp) (hr : Room k X.A) (hb : Binds X.K fd ps []) (ha : PA X (e :: es) t)
    (hst : starEach (e :: es) X.env = (false, eval e X.env) :: starEach es X.env := by rfl) (hpl : (backTo pos (starEach es X.env)).any (·.1) = false := by rfl)
    (ht : eval (.Call (.Attribute o m apos) (e :: es) [] pos) X.env = (do
      let ov ← eval o X.env
      standAt apos.atName
      let (f, first) ← holding [ov] (getMethod ov m pl)
      callWith pos f first (backTo pos (starEach (e :: es) X.env)) (backToKw pos (keywordEach [] X.env))) := by rfl) : PE X (.Call (.Attribute o m apos) (e :: es) [] pos) (tMethW C m sp W ta t) := by
  constructor
  intro pins s σ H Q I h
  refine PySem.W.methodCall_KW (pl := pl) (thn (he.run pins s σ H _ I h) fun u s1 hu => ?_) ht
  obtain ⟨x, H1, I1, rx, a, dx, fs, rfl, ea, l, q⟩ := hu
  have eu : u = Value.ref a := rx
  subst eu
  refine getmeth_ok I1 ea c hm l (PySem.W.callWith_K (first := [.ref a]) (h₀ := X.base) I.ok.mod.kin hm.kp (thn (ha.run pos pins s1 σ H1 _ I1 q) fun us s2 hq => ?_) hst hpl)
  obtain ⟨vs, H2, I2, r, q2⟩ := hq
  exact ⟨I2.kIn, run_fnS (us := .ref a :: us) (vs := .ref a :: vs) F hr hb (passAt tk σ) I2 (.cons rfl r) q2⟩
theorem pe_methW0 {pl : Sem Bool} (tk : Takes X W) (he : PE X o ta) (c : Cls X.K C) (hm : Meth X.K C m f) (F : FnOk X.prog X.w X.K X.mg X.base (L2.CX X.prog X.w) k f fd ps sp) (hr : Room k X.A) (hb : Binds X.K fd ps [])
    (ht : eval (.Call (.Attribute o m apos) [] [] pos) X.env = (do
      let ov ← eval o X.env
      standAt apos.atName
      let (f, first) ← holding [ov] (getMethod ov m pl)
      callWith pos f first (backTo pos (starEach [] X.env)) (backToKw pos (keywordEach [] X.env))) := by rfl) : PE X (.Call (.Attribute o m apos) [] [] pos) (tMethW C m sp W ta tNil) := by
  constructor
  intro pins s σ H Q I h
  refine PySem.W.methodCall_KW (pl := pl) (thn (he.run pins s σ H _ I h) fun u s1 hu => ?_) ht
  obtain ⟨x, H1, I1, rx, a, dx, fs, rfl, ea, l, q⟩ := hu
  have eu : u = Value.ref a := rx
  subst eu
  exact getmeth_ok I1 ea c hm l (PySem.W.callWith_K0 (first := [.ref a]) I1.kIn hm.kp (run_fnS (us := [.ref a]) (vs := [.ref a]) F hr hb (passAt tk σ) I1 (.cons rfl .nil) q))
end
/-- the class and the attributes' names of what may be called -/
def insOf : M → Option (Addr × List Str)
  | .ob C ms => some (C, ms.map (·.1))
  | .im (.ins C fs) => some (C, fs.map (·.1))
  | _ => none
theorem lookup_keys {α : Type} {f : Str} : ∀ {l : List (Str × α)}, f ∉ l.map (·.1) → l.lookup f = none
  | [], _ => rfl
  | (k, v) :: r, h => by
    rw [List.lookup_cons]
    have h1 : f ≠ k := fun e => h (by rw [e]; exact List.mem_cons_self ..)
    rw [show (f == k) = false by simpa using h1]
    exact lookup_keys fun z => h (List.mem_cons_of_mem _ z)
theorem RM.ins {K : PySem.W.Frag} {A H : Hp} {v : V} {m : M} {p : List Addr} {C : Addr} {ns : List Str} {f : Str} (r : RM K A H v m p) (s : Same A H) (h : insOf m = some (C, ns)) (hn : f ∉ ns) : ∃ a dx fs, v = .ref a ∧ H a = some (.ins C dx fs) ∧ fs.lookup f = none := by
  cases r with
  | im r =>
    cases r <;> simp [insOf] at h
    next e r =>
      obtain ⟨rfl, rfl⟩ := h
      exact ⟨_, _, _, rfl, s _ _ e, r.lookN (lookup_keys hn)⟩
  | ls => simp [insOf] at h
  | dc => simp [insOf] at h
  | ob e n r =>
    simp [insOf] at h
    obtain ⟨rfl, rfl⟩ := h
    exact ⟨_, _, _, rfl, e, (r.look).1 (lookup_keys hn)⟩
section
variable {c : Fc} {W : WX} {D : Ends} {ρ : Rhm} {e : Expr} {es : List Expr} {m : M} {d : Kf.D} {ds : List Kf.D} {i k : Nat} {x y mn : Str} {p py pos apos : Pos} {rel : M → List Kf.D → Om → Prop} {o : Om} {C : Addr} {ns : List Str} {st : Stmt}
/-- the arguments -/
abbrev AskA (c : Fc) (ρ : Rhm) (es : List Expr) (ds : List Kf.D) : Prop := As c.X c.T es ρ ds
theorem aska_h (h : As c.X c.T es ρ ds) : AskA c ρ es ds := h
theorem aska_f (h : As c.X c.T es (frzR ρ) ds) (s : flatDs ds = true) : AskA c ρ es ds := as_fz h s
theorem Es.askA {A H : Hp} {σ : L2.St} {fp : List Addr} {R : List V → Hp → Prop} (es' : Es c A H σ ρ fp) (h : AskA c ρ es ds) (q : ∀ vs A2 H2, Ex0 A H A2 H2 → Ok c.T A2 H2 → RpL c.X.K A2 vs ds → R vs H2) : twA c.X es σ H R :=
  h A H σ es'.ok es'.sl.sl R fun vs A2 H2 x r => q vs A2 H2 x (x.ok es'.ok) r
/-- behind a call on slot i -/
theorem after_call {A H A1 H1 : Hp} {σ : L2.St} {fp : List Addr} {v0 : V} {Q : VK} (es : Es c A H σ ρ fp) (x1 : Ex0 A H A1 H1) (hi : ρ[i]? = some (some m)) (h1 : σ[i]? = some (some v0)) (q : After c W A σ Q (o.oc i ρ)) :
    ∃ p, RM c.X.K A1 H1 v0 m p ∧ p.Nodup ∧ Ret c.X.K c.T A1 H1 v0 p Q (WE W σ) o := by
  have es1 := es.step0 x1
  obtain ⟨v, p, g1, g2, g3, g4, g5⟩ := es1.alter hi
  rw [h1] at g1
  obtain rfl := Option.some.inj (Option.some.inj g1)
  refine ⟨p, g2, g3, ?_⟩
  cases o with
  | ret r m' =>
    intro v A2 H2 q2 p' ok x r1 r2 n f1 f2
    obtain ⟨n1, n2, n3⟩ := List.nodup_append.mp n
    obtain ⟨fp', es2, g6⟩ := g5 A2 H2 m' p' x r2 n2 f2
    refine q v A2 H2 q2 fp' es2 (x1.aa.trans x.aa) r1 n1 fun a z => ⟨fun w => ?_, fresh_back es1.x f1 a z⟩
    rcases g6 a w with u | u
    · exact n3 a z a u rfl
    · exact es1.live a u (f1 a z)
  | exc C f d m' =>
    intro A2 H2 e v p' ok x r2 n f2 he rd
    obtain ⟨fp', es2, _⟩ := g5 A2 H2 m' p' x r2 n f2
    exact q A2 H2 fp' e v es2 (x1.aa.trans x.aa) he rd
/-- o.m(e, ..), o the name of slot i -/
theorem eo_meth {e : Expr} {pl : Sem Bool} (G : MtM c.X.prog c.X.w c.X.K c.X.mg c.X.base c.T C mn k rel) (tk : Takes c.X W) (hv : PE c.X (.Name y py) (tVar i)) (hi : ρ[i]? = some (some m)) (hc : insOf m = some (C, ns)) (hn : mn ∉ ns) (ha : AskA c ρ (e :: es) ds) (h : rel m ds o) (hr : Room k c.X.A)
    (hst : starEach (e :: es) c.X.env = (false, eval e c.X.env) :: starEach es c.X.env := by rfl) (hpl : (backTo pos (starEach es c.X.env)).any (·.1) = false := by rfl)
    (ht : eval (.Call (.Attribute (.Name y py) mn apos) (e :: es) [] pos) c.X.env = (do
      let ov ← eval (.Name y py) c.X.env
      standAt apos.atName
      let (f, first) ← holding [ov] (getMethod ov mn pl)
      callWith pos f first (backTo pos (starEach (e :: es) c.X.env)) (backToKw pos (keywordEach [] c.X.env))) := by rfl) : Eo c W (.Call (.Attribute (.Name y py) mn apos) (e :: es) [] pos) ρ (o.oc i ρ) := fun A H σ fp es0 Q q pins s I => by
  obtain ⟨f, fd, ps, F, hcl, hm, hb⟩ := G.ex
  obtain ⟨v0, p, g1, g2, _⟩ := es0.alter hi
  obtain ⟨a, dx, fs, rfl, ea, el⟩ := g2.ins es0.ok.s hc hn
  refine (pe_methW tk hv hcl hm F hr hb pa_tw hst hpl ht).run pins s σ H Q I ⟨_, g1, a, dx, fs, rfl, ea, el, es0.askA ha fun vs A2 H2 x ok r => ?_⟩
  obtain ⟨p, r0, n0, k0⟩ := after_call es0 x hi g1 q
  exact ⟨A2, .ref a, vs, m, ds, p, o, rfl, ok, r0, n0, r, h, k0⟩
theorem eo_meth0 {pl : Sem Bool} (G : MtM c.X.prog c.X.w c.X.K c.X.mg c.X.base c.T C mn k rel) (tk : Takes c.X W) (hv : PE c.X (.Name y py) (tVar i)) (hi : ρ[i]? = some (some m)) (hc : insOf m = some (C, ns)) (hn : mn ∉ ns) (h : rel m [] o) (hr : Room k c.X.A)
    (ht : eval (.Call (.Attribute (.Name y py) mn apos) [] [] pos) c.X.env = (do
      let ov ← eval (.Name y py) c.X.env
      standAt apos.atName
      let (f, first) ← holding [ov] (getMethod ov mn pl)
      callWith pos f first (backTo pos (starEach [] c.X.env)) (backToKw pos (keywordEach [] c.X.env))) := by rfl) : Eo c W (.Call (.Attribute (.Name y py) mn apos) [] [] pos) ρ (o.oc i ρ) := fun A H σ fp es0 Q q pins s I => by
  obtain ⟨f, fd, ps, F, hcl, hm, hb⟩ := G.ex
  obtain ⟨v0, p, g1, g2, _⟩ := es0.alter hi
  obtain ⟨a, dx, fs, rfl, ea, el⟩ := g2.ins es0.ok.s hc hn
  refine (pe_methW0 tk hv hcl hm F hr hb ht).run pins s σ H Q I ⟨_, g1, a, dx, fs, rfl, ea, el, ?_⟩
  obtain ⟨p, r0, n0, k0⟩ := after_call es0 (Ext.refl es0.ok) hi g1 q
  exact ⟨A, .ref a, [], m, [], p, o, rfl, es0.ok, r0, n0, .nil, h, k0⟩
/-- f(x, e, ..), x the name of slot i -/
theorem eo_call {p0 : Pos} (G : FnM c.X.prog c.X.w c.X.K c.X.mg c.X.base c.T x k rel) (tk : Takes c.X W) (hv : PE c.X (.Name y py) (tVar i)) (hi : ρ[i]? = some (some m)) (ha : AskA c ρ es ds) (h : rel m ds o) (hr : Room k c.X.A) (hg : Gl c.X x := by rfl) (hd : (x == ("__debug__" : Str)) = false := by decide)
    (hs : starEach (.Name y py :: es) c.X.env = (false, eval (.Name y py) c.X.env) :: starEach es c.X.env := by rfl) (hpl : (backTo pos (starEach es c.X.env)).any (·.1) = false := by rfl) : Eo c W (.Call (.Name x p0) (.Name y py :: es) [] pos) ρ (o.oc i ρ) := fun A H σ fp es0 Q q pins s I => by
  obtain ⟨f, fd, ps, F, hm, hk, hb⟩ := G.ex
  obtain ⟨v0, p, g1, g2, _⟩ := es0.alter hi
  refine (pe_callS F hr hg hm hk hb (fun σ => passAt tk σ) (pa_cons hv pa_tw hs) hd hs hpl).run pins s σ H Q I ⟨_, g1, es0.askA ha fun vs A2 H2 x ok r => ?_⟩
  obtain ⟨p, r0, n0, k0⟩ := after_call es0 x hi g1 q
  exact ⟨A2, v0, vs, m, ds, p, o, rfl, ok, r0, n0, r, h, k0⟩
/-- C(e, ..) -/
theorem passes_no {P : Program} {w : World} {X : Cx} : Passes (L2.CX P w) X (fun _ _ _ => False) := fun _ _ _ _ _ _ _ h => by
  obtain ⟨_, _, _, _, _, _, _, _, _, _, _, _, z⟩ := h
  exact z.elim
theorem made {K : PySem.W.Frag} {T : List Addr} {A H : Hp} {vs : List V} {Q : VK} {m' : M} {E : XK} (ok : Ok T A H) (r : RpL K A vs ds) (h : rel (.ob C []) ds (.ret (.im .non) m')) (q : KM K A H m' Q) (a dx : Addr) (na : H a = none) (nd : H dx = none) (ne : dx ≠ a) :
    spM K T rel (.ref a :: vs) (upd (upd H dx (.own a)) a (.ins C dx [])) (fun v H2 => v = .non ∧ Q (.ref a) H2) E := by
  have x1 := ext_new (o := .own a) ok nd
  have na1 : upd H dx (.own a) a = none := by rw [upd_ne (Ne.symm ne)]; exact na
  have x2 := ext_new (o := .ins C dx []) (x1.ok ok) na1
  have xx := x1.tr0 x2
  refine ⟨A, .ref a, vs, .ob C [], ds, [a], .ret (.im .non) m', rfl, xx.ok ok, .ob upd_same (ok.none na) .nil, by simp, r, h, fun v A2 H2 q2 p' ok2 x3 r1 r2 n f1 f2 => ?_⟩
  cases r1 with
  | im r1 =>
  cases r1
  have fr : ∀ b ∈ p', H b = none := fun b hb => by
    rcases f2 b hb with z | z
    · rcases List.mem_cons.mp z with e | e
      · rw [e]; exact na
      · cases e
    · cases e : H b with
      | none => rfl
      | some o => exact absurd z (xx.dm b (by rw [e]; simp))
  refine ⟨rfl, q _ A2 H2 p' (xx.trans x3 fun b hb => ?_) r2 fr (by simpa using n)⟩
  rcases List.mem_cons.mp hb with e | e
  · rw [e]; exact .inr na
  · cases e
end
section
variable {X : Cx} {T : List Addr} {ρ : Rho} {e : Expr} {es : List Expr} {ds : List D} {k : Nat} {x : Str} {C : Addr} {rel : M → List D → Om → Prop} {m' : M} {p pos : Pos}
theorem me_make (G : MkM X.prog X.w X.K X.mg X.base T x C k rel) (ha : As X T (e :: es) ρ ds) (h : rel (.ob C []) ds (.ret (.im .non) m')) (hr : Room (k + 1) X.A) (hg : Gl X x := by rfl) (hd : (x == ("__debug__" : Str)) = false := by decide)
    (hs : starEach (e :: es) X.env = (false, eval e X.env) :: starEach es X.env := by rfl) (hpl : (backTo pos (starEach es X.env)).any (·.1) = false := by rfl) : Me X T (.Call (.Name x p) (e :: es) [] pos) ρ m' := by
  obtain ⟨f, fd, ps, F, hm, hk, hb⟩ := G.ex
  exact me_of (pe_make hk F hr hg hm hb .nil passes_no pa_tw hd hs hpl) fun A H σ s l Q q => ha A H σ s l _ fun vs A1 H1 x1 r1 a dx na nd ne => by
    rw [List.append_nil]
    exact made (x1.ok s) r1 h (q.back x1) a dx na nd ne
theorem me_make0 (G : MkM X.prog X.w X.K X.mg X.base T x C k rel) (h : rel (.ob C []) [] (.ret (.im .non) m')) (hr : Room (k + 1) X.A) (hg : Gl X x := by rfl) (hd : (x == ("__debug__" : Str)) = false := by decide) : Me X T (.Call (.Name x p) [] [] pos) ρ m' := by
  obtain ⟨f, fd, ps, F, hm, hk, hb⟩ := G.ex
  exact me_of (pe_make0 hk F hr hg hm hb .nil passes_no hd) fun A H σ s l Q q a dx na nd ne => made s .nil h q a dx na nd ne
end
section
variable {c : Fc} {W : WX} {D : Ends} {ρ : Rhm} {e : Expr} {m : M} {i : Nat} {f : Str} {C : Addr} {ms : List (Str × M)} {st : Stmt} {tv : TE}
/-- x.f = e, x the name of slot i -/
theorem ss_fld (hps : PS c.X st (sFld c.X.K (tVar i) (tw c.X e) f)) (h : Asks c ρ e m) (hi : ρ[i]? = some (some (.ob C ms))) (hc : Cls c.X.K C) (hn : NoAttr c.X.K C f) (hl : ms.length < 1000) (q : Nx c D.nx (ρ.set i (some (.ob C (putM f m ms))))) : Ss c st D ρ :=
  ss_of hps fun A H σ fp es => es.ask h fun y A2 H2 p x ok r fr n => by
    obtain ⟨v0, p0, g1, g2, g3, g4, g5⟩ := es.alter hi
    cases g2 with
    | @ob a _ dx fs _ fp0 e1 n1 r1 =>
    obtain ⟨n3, n4⟩ := List.nodup_cons.mp g3
    have lv := es.live
    have dis : ∀ b ∈ p, b ∉ a :: fp0 := fun b hb z => lv b (g4 b z) (fr b hb)
    have la : H a ≠ none := lv a (g4 a (List.mem_cons_self ..))
    have e2 : H2 a = some (.ins C dx fs) := x.hh a _ e1 (mut_noTab trivial) fun z => nomatch z
    have n2a : A2 a = none := (x.nw a la).trans n1
    have r1' : RMs c.X.K A2 H2 Str fs ms fp0 := RMs.mono x.aa r1 (fun b hb => by
      obtain ⟨_, t2⟩ := RMs.there r1 b hb
      cases q0 : H b with
      | none => rw [q0] at t2; exact t2.elim
      | some o0 =>
        rw [q0] at t2
        exact x.hh b o0 q0 (mut_noTab t2) fun z => nomatch z) fun b hb => (x.nw b (lv b (g4 b (List.mem_cons_of_mem _ hb)))).trans (RMs.there r1 b hb).1
    obtain ⟨fp', r2, n2, f2⟩ := RMs.put (f := f) r r1' n n4 fun b hb z => dis b hb (List.mem_cons_of_mem _ z)
    have na' : ∀ b ∈ fp', b ≠ a := fun b hb z => by
      subst z
      rcases f2 b hb with w | w
      · exact dis b w (List.mem_cons_self ..)
      · exact n3 w
    have mx := ext_mut (o' := .ins C dx (putF f y fs)) ok e2 trivial n2a
    have r3 : RMs c.X.K A2 (upd H2 a (.ins C dx (putF f y fs))) Str (putF f y fs) (putM f m ms) fp' := RMs.mono (Same.refl _) r2 (fun b hb => upd_ne (na' b hb)) fun b hb => (RMs.there r2 b hb).1
    have xm : Ext (a :: fp0) A H A2 (upd H2 a (.ins C dx (putF f y fs))) := Ext.trans ⟨x.aa, fun b o z w u => x.hh b o z w fun q => (nomatch q), x.ah, x.nt, x.nw, x.dm, x.tb⟩ mx fun b hb => by
      rcases List.mem_cons.mp hb with e | e
      · exact .inl (e ▸ List.mem_cons_self ..)
      · cases e
    obtain ⟨fp2, es3, _⟩ := g5 A2 _ (.ob C (putM f m ms)) (a :: fp') xm (.ob upd_same n2a r3) (List.nodup_cons.mpr ⟨fun z => na' a z rfl, n2⟩) fun b hb => by
        rcases List.mem_cons.mp hb with w | w
        · exact .inl (w ▸ List.mem_cons_self ..)
        · rcases f2 b w with u | u
          · exact .inr (fr b u)
          · exact .inl (List.mem_cons_of_mem _ u)
    exact ⟨_, g1, a, C, dx, fs, rfl, e2, hc, hn, by rw [r1.length]; exact hl, q A2 _ σ fp2 es3⟩
end
end Kf

set_option maxHeartbeats 1000000
/-! Kf: methods that only look; raise, try; targets of tuples; == of data. -/
namespace Kf
open PySem L2

/-! ### methods that only look -/
structure Mt (P : Program) (w : World) (K : PySem.W.Frag) (mg : Str → Option Value) (base : Heap) (T : List Addr) (C : Addr) (x : Str) (k : Nat) (rel : List D → M → Prop) : Prop where
  ex : ∃ f fd ps, FnOk P w K mg base CX0 k f fd ps (spP K T rel) ∧ Cls K C ∧ Meth K C x f ∧ Binds K fd ps []
section
variable {X : Cx} {T : List Addr} {ρ : Rho} {m : M} {d : D} {ds : List D} {e o : Expr} {es : List Expr} {k : Nat} {rel : List D → M → Prop} {x mn : Str} {C : Addr} {fs : List (Str × D)} {p pos apos : Pos}
theorem me_meth {pl : Sem Bool} (G : Mt X.prog X.w X.K X.mg X.base T C mn k rel) (ho : Ie X T o ρ (.ins C fs)) (hn : mn ∉ fs.map (·.1)) (ha : As X T (e :: es) ρ ds) (h : rel (.ins C fs :: ds) m) (hr : Room k X.A)
    (hst : starEach (e :: es) X.env = (false, eval e X.env) :: starEach es X.env := by rfl) (hpl : (backTo pos (starEach es X.env)).any (·.1) = false := by rfl)
    (ht : eval (.Call (.Attribute o mn apos) (e :: es) [] pos) X.env = (do
      let ov ← eval o X.env
      standAt apos.atName
      let (f, first) ← holding [ov] (getMethod ov mn pl)
      callWith pos f first (backTo pos (starEach (e :: es) X.env)) (backToKw pos (keywordEach [] X.env))) := by rfl) : Me X T (.Call (.Attribute o mn apos) (e :: es) [] pos) ρ m := by
  obtain ⟨f, fd, ps, F, hcl, hm, hb⟩ := G.ex
  refine me_of (pe_meth pe_tw hcl hm F hr hb .nil pass0 pa_tw hst hpl ht) fun A H σ s l Q q => ho A H σ s l _ fun v A1 H1 x1 r1 => ?_
  have r1' := r1
  cases r1 with
  | ins e1 r1 =>
  exact ⟨_, _, _, rfl, (x1.ok s).s _ _ e1, r1.lookN (lookup_keys hn), ha A1 H1 σ (x1.ok s) (l.step x1) _ fun vs A2 H2 x2 r2 => ⟨A2, .ins C fs :: ds, m, x2.ok (x1.ok s), by rw [List.append_nil]; exact .cons (r1'.mono x2.aa) r2, h, q.back (x1.tr0 x2)⟩⟩
theorem me_meth0 {pl : Sem Bool} (G : Mt X.prog X.w X.K X.mg X.base T C mn k rel) (ho : Ie X T o ρ (.ins C fs)) (hn : mn ∉ fs.map (·.1)) (h : rel [.ins C fs] m) (hr : Room k X.A)
    (ht : eval (.Call (.Attribute o mn apos) [] [] pos) X.env = (do
      let ov ← eval o X.env
      standAt apos.atName
      let (f, first) ← holding [ov] (getMethod ov mn pl)
      callWith pos f first (backTo pos (starEach [] X.env)) (backToKw pos (keywordEach [] X.env))) := by rfl) : Me X T (.Call (.Attribute o mn apos) [] [] pos) ρ m := by
  obtain ⟨f, fd, ps, F, hcl, hm, hb⟩ := G.ex
  refine me_of (pe_meth0 pe_tw hcl hm F hr hb .nil pass0 ht) fun A H σ s l Q q => ho A H σ s l _ fun v A1 H1 x1 r1 => ?_
  have r1' := r1
  cases r1 with
  | ins e1 r1 =>
  exact ⟨_, _, _, rfl, (x1.ok s).s _ _ e1, r1.lookN (lookup_keys hn), ⟨A1, [.ins C fs], m, x1.ok s, .cons r1' .nil, h, q.back x1⟩⟩
end

/-! ### raise -/
/-- an own error class as it stands for those who raise it -/
structure XcM (P : Program) (w : World) (K : PySem.W.Frag) (mg : Str → Option Value) (base : Heap) (x : Str) (C : Addr) (fld : Str) (okv : V → Prop) : Prop where
  oex : OexC K C
  mgx : mg x = some (.ref C)
  ex : ∃ f fd ps, FnOk P w K mg base CX0 1 f fd ps (spXI okv C fld) ∧ Binds K fd ps [] ∧ PySem.W.findIn K (.ref C) "__init__" = some (some (.ref f)) ∧ PySem.W.typeIn K (.ref f) = some (.type "function")
section
variable {c : Fc} {W : WX} {D : Ends} {ρ : Rhm} {e : Expr} {m : M} {d : Kf.D} {i : Nat} {x fld : Str} {C : Addr} {okv : V → Prop} {p p2 pos : Pos}
theorem upd_over {H : Hp} {a b : Addr} {o1 o2 o3 o4 : HO} (na : H a = none) (ne : b ≠ a) : upd (del (upd (upd (upd H a o1) b o2) a o3) a) b o4 = upd H b o4 := by
  funext z
  by_cases h : z = b
  · rw [h, upd_same, upd_same]
  · rw [upd_ne h, upd_ne h]
    by_cases h2 : z = a
    · rw [h2, del_same, na]
    · rw [del_ne h2, upd_ne h2, upd_ne h, upd_ne h2]
theorem ss_raise (G : XcM c.X.prog c.X.w c.X.K c.X.mg c.X.base x C fld okv) (hc : c.X.calm = true) (tk : Takes c.X W) (h : AskA c ρ [e] [d]) (hok : ∀ A v, Rp c.X.K A v d → okv v) (q : Xx c W C fld d ρ) (hr : Room 2 c.X.A) (hg : Gl c.X x := by rfl) (hd : (x == ("__debug__" : Str)) = false := by decide)
    (he : starEach [e] c.X.env = (false, eval e c.X.env) :: starEach [] c.X.env := by rfl) : Ss c (.Raise (some (.Call (.Name x p) [e] [] p2)) none pos) D ρ := by
  obtain ⟨f, fd, ps, F, hb, i1, i2⟩ := G.ex
  refine ss_of (ps_raise hc tk (pmk_oex G.oex i1 i2 F hr hb .nil pass0 hg G.mgx pa_tw hd he rfl)) fun A H σ fp es => ?_
  show twA c.X [e] σ H _
  refine es.askA h fun vs A2 H2 x2 ok r => ?_
  obtain ⟨v, rfl, r0⟩ := r.one
  refine ⟨(by simp : [v].length ≤ 1000), fun a na => ⟨a, v, rfl, hok _ _ r0, upd_same, fun dx nd ne => ⟨rfl, dx, [(fld, v)], upd_same, by rw [upd_ne ne, upd_same], ?_, ?_⟩⟩⟩
  · rw [upd_ne ne] at nd; exact nd
  · rw [upd_ne ne] at nd
    rw [upd_over na ne]
    have x3 := ext_new (o := .xd [(fld, v)]) ok nd
    exact q A2 _ σ fp dx v ((es.step0 x2).step0 x3) upd_same r0
end

/-! ### try -/
abbrev Fc.at (c : Fc) (X : Cx) : Fc := { c with X := X }
theorem Es.to {c : Fc} {X : Cx} {A H : Hp} {σ : L2.St} {ρ : Rhm} {fp : List Addr} (es : Es c A H σ ρ fp) (hK : X.K = c.X.K := by rfl) : Es (c.at X) A H σ ρ fp := ⟨es.ok, es.x, by show Sls X.K A H σ ρ fp; rw [hK]; exact es.sl, es.nd, es.own, es.pn, es.fix⟩
theorem Es.fro {c : Fc} {X : Cx} {A H : Hp} {σ : L2.St} {ρ : Rhm} {fp : List Addr} (es : Es (c.at X) A H σ ρ fp) (hK : X.K = c.X.K := by rfl) : Es c A H σ ρ fp := ⟨es.ok, es.x, by have h : Sls X.K A H σ ρ fp := es.sl; rw [hK] at h; exact h, es.nd, es.own, es.pn, es.fix⟩
def twTry (X : Cx) (sts : List Stmt) (W : WX) : TS := fun D σ H => ∀ (pn : List (Addr × Obj)) (xe : Value → Shared → Prop), Takes (X.tr pn xe) W → PassesOwn (model X.prog X.w) X.A X.env xe → twss (X.tr pn xe) sts D σ H
def twSui (X : Cx) (sts : List Stmt) (a : Addr) (cls : Value) (d : Option Addr) : TS := fun D σ H => ∀ (oe : Obj) (pn : List (Addr × Obj)), Zc cls d oe → (∃ vs, oe.data = .fields vs) → twss (X.suite a ((a, oe) :: pn)) sts D σ H
/-- the ends of a suite: the error's name goes -/
def sEnds (D : Ends) (i : Nat) : Ends := { nx := fun σ' H' => D.nx (σ'.set i none) H', rt := D.rt, bk := fun σ' H' => D.bk (σ'.set i none) H', ct := fun σ' H' => D.ct (σ'.set i none) H' }
/-- what an except suite comes to: from an error of the class at C, held by slot i -/
def Cau (c : Fc) (i : Nat) (b : List Stmt) (D : Ends) (C : Addr) (f : Str) (d : Kf.D) (ρ : Rhm) : Prop :=
  ∀ A H σ fp a e v, Es c A H σ ρ fp → H a = none → H e = some (.xd [(f, v)]) → Rp c.X.K A v d → twSui c.X b a (.ref C) (some e) (sEnds D i) (σ.set i (some (.ref a))) H
def CauO (c : Fc) (b : List Stmt) (D : Ends) (C : Addr) (f : Str) (d : Kf.D) (ρ : Rhm) : Prop :=
  ∀ A H σ fp a e v, Es c A H σ ρ fp → H a = none → H e = some (.xd [(f, v)]) → Rp c.X.K A v d → twSui c.X b a (.ref C) (some e) D σ H
section
variable {c : Fc} {W : WX} {D : Ends} {ρ : Rhm} {e : Expr} {m : M} {d : Kf.D} {i : Nat} {x n f : Str} {C : Addr} {cc : Value} {body suite : List Stmt} {b₀ : Stmt} {np pos pos' : Pos}
theorem ss_tryAs (HX : Addr → Str → Kf.D → Rhm → Prop) (hs : c.X.stack = c.X.env :: c.X.outer) (hf : c.X.env.frame = some c.X.env.locals) (hN : c.X.N.Nodup) (hi : c.X.N[i]? = some n) (hln : c.X.env.kindOf n = some .local) (hc : Names c.X x cc) (tk : Takes c.X W)
    (hb : ∀ (W' : WX) (pn : List (Addr × Obj)) (xe : Value → Shared → Prop), Takes (c.X.tr pn xe) W' → PassesOwn (model c.X.prog c.X.w) c.X.A c.X.env xe → (∀ C f d ρ', HX C f d ρ' → Xx (c.at (c.X.tr pn xe)) W' C f d ρ') → Gs (c.at (c.X.tr pn xe)) body D ρ)
    (hx : ∀ C f d ρ', HX C f d ρ' → (PySem.W.exmOne c.X.K (.ref C) cc = some true ∧ Cau c i (b₀ :: suite) D C f d ρ') ∨ (PySem.W.exmOne c.X.K (.ref C) cc = some false ∧ Xx c W C f d ρ')) :
    Ss c (.Try body [.ExceptHandler (some (.Name x np)) (some n) (b₀ :: suite) pos'] [] [] pos) D ρ := by
  refine ss_of (ps_try_as (tb := twTry c.X body) (ts := twSui c.X (b₀ :: suite)) hs hf hN hi hln hc tk (fun W' pn xe tk' pa => ⟨fun pins s σ H D' I h => h pn xe tk' pa pins s I⟩) fun a oe cls dd pn hz hv => ⟨fun pins s σ H D' I h => h oe pn hz hv pins s I⟩) fun A H σ fp es => ?_
  intro pn xe tk' pa
  refine hb _ pn xe tk' pa (fun C f d ρ' hX A2 H2 σ2 fp2 ea v es2 he rd => ?_) A H σ fp es.to
  rcases hx C f d ρ' hX with ⟨h1, h2⟩ | ⟨h1, h2⟩
  · exact ⟨true, h1, fun _ a na => h2 A2 H2 σ2 fp2 a ea v es2.fro na he rd, fun z => nomatch z⟩
  · exact ⟨false, h1, fun z => (nomatch z), fun _ => h2 A2 H2 σ2 fp2 ea v es2.fro he rd⟩
theorem ss_tryO (HX : Addr → Str → Kf.D → Rhm → Prop) (hs : c.X.stack = c.X.env :: c.X.outer) (hf : c.X.env.frame = some c.X.env.locals) (hc : Names c.X x cc) (tk : Takes c.X W)
    (hb : ∀ (W' : WX) (pn : List (Addr × Obj)) (xe : Value → Shared → Prop), Takes (c.X.tr pn xe) W' → PassesOwn (model c.X.prog c.X.w) c.X.A c.X.env xe → (∀ C f d ρ', HX C f d ρ' → Xx (c.at (c.X.tr pn xe)) W' C f d ρ') → Gs (c.at (c.X.tr pn xe)) body D ρ)
    (hx : ∀ C f d ρ', HX C f d ρ' → (PySem.W.exmOne c.X.K (.ref C) cc = some true ∧ CauO c (b₀ :: suite) D C f d ρ') ∨ (PySem.W.exmOne c.X.K (.ref C) cc = some false ∧ Xx c W C f d ρ')) :
    Ss c (.Try body [.ExceptHandler (some (.Name x np)) none (b₀ :: suite) pos'] [] [] pos) D ρ := by
  refine ss_of (ps_try_only (tb := twTry c.X body) (ts := twSui c.X (b₀ :: suite)) hs hf hc tk (fun W' pn xe tk' pa => ⟨fun pins s σ H D' I h => h pn xe tk' pa pins s I⟩) fun a oe cls dd pn hz hv => ⟨fun pins s σ H D' I h => h oe pn hz hv pins s I⟩) fun A H σ fp es => ?_
  intro pn xe tk' pa
  refine hb _ pn xe tk' pa (fun C f d ρ' hX A2 H2 σ2 fp2 ea v es2 he rd => ?_) A H σ fp es.to
  rcases hx C f d ρ' hX with ⟨h1, h2⟩ | ⟨h1, h2⟩
  · exact ⟨true, h1, fun _ a na => h2 A2 H2 σ2 fp2 a ea v es2.fro na he rd, fun z => nomatch z⟩
  · exact ⟨false, h1, fun z => (nomatch z), fun _ => h2 A2 H2 σ2 fp2 ea v es2.fro he rd⟩
/-- a wish that can't be met: nothing is raised -/
def wNo : WX := fun _ _ _ _ => False
theorem takes_no {X : Cx} : Takes X wNo := fun u s' ⟨_, _, _, _, _, _, _, _, _, _, _, _, _, _, _, _, z⟩ => z.elim
/-- return e.f, in a suite -/
theorem cau_ret {p1 p2 p3 : Pos} (T : XfC c.X.K C) (hno : PySem.W.findIn c.X.K (.ref C) f = some none) (hN : c.X.N[i]? = some n) (hl : Vis c.X.env.scope n) (hdb : (n == ("__debug__" : Str)) = false := by decide) (hdc : (n == ("__classdict__" : Str)) = false := by decide) (hi : i < ρ.length) (q : Rh c D.rt (.im d) ρ) :
    Cau c i [.Return (some (.Attribute (.Name n p1) f p2)) p3] D C f d ρ := fun A H σ fp a e v es na he rd oe pn hz hv => by
  refine fun pins s I => (pss_one (ps_ret (pe_xf (d := some e) T hno hz hv (pe_var (i := i) hN hl hdb hdc)))).run pins s _ H _ I ?_
  have hs : i < σ.length := by rw [es.sl.len]; exact hi
  exact ⟨.ref a, by rw [List.getElem?_set_self hs], rfl, rfl, e, _, v, rfl, he, by rw [List.lookup_cons, beq_self_eq_true], q v A H σ [] fp es (.im rd) List.nodup_nil fun _ z => nomatch z⟩
end

/-! ### a, b, .. = e, e a tuple -/
def gNames : List Nat → TGs
  | [] => gNil
  | i :: r => gCons (gName i) (gNames r)
def setAll (ρ : Rhm) : List Nat → List Kf.D → Rhm
  | i :: is, d :: ds => setAll (ρ.set i (some (.im d))) is ds
  | _, _ => ρ
section
variable {c : Fc} {D : Ends} {ρ : Rhm} {e : Expr} {m : M} {d : Kf.D} {ds : List Kf.D} {is : List Nat} {st : Stmt} {n : Nat}
theorem es_setAll {K : PySem.W.Frag} : ∀ (is : List Nat) (ds : List Kf.D) (vs : List V) {ρ : Rhm} {A H : Hp} {σ : L2.St} {fp : List Addr}, Es c A H σ ρ fp → RpL c.X.K A vs ds → is.length = ds.length → (∀ i ∈ is, i < ρ.length ∧ (c.S0 = none ∨ i ≠ 0)) → ∀ {Q : L2.St → Hp → Prop}, (∀ σ' fp', Es c A H σ' (setAll ρ is ds) fp' → Q σ' H) → gNames is vs σ H Q
  | [], [], _, _, _, _, _, _, es, .nil, _, _, _, q => ⟨rfl, q _ _ es⟩
  | i :: is, d :: ds, _, ρ, A, H, σ, fp, es, .cons (v := v) h r, l, b, Q, q => by
    obtain ⟨fp', es'⟩ := es.seti h (b i (List.mem_cons_self ..)).1 (b i (List.mem_cons_self ..)).2
    exact ⟨v, _, rfl, es_setAll (K := K) is ds _ es' r (by simpa using l) (fun j hj => ⟨by rw [List.length_set]; exact (b j (List.mem_cons_of_mem _ hj)).1, (b j (List.mem_cons_of_mem _ hj)).2⟩) q⟩
theorem ss_unp (hps : PS c.X st (tAsg (tw c.X e) (gTup c.X.K n (gNames is)))) (h : Asks c ρ e (.im (.tup ds))) (hl : ds.length = n) (hn : is.length = n) (hi : ∀ i ∈ is, i < ρ.length ∧ (c.S0 = none ∨ i ≠ 0)) (q : Nx c D.nx (setAll ρ is ds)) : Ss c st D ρ :=
  ss_of hps fun A H σ fp es => es.ask h fun v A2 H2 p x ok r f nd => by
    have es2 := es.step0 x
    cases r with
    | im r =>
    cases r with
    | @tup a xs _ e1 r1 =>
    exact ⟨a, xs, rfl, seqT_mono ok.s e1, by rw [r1.len]; exact hl, es_setAll (K := c.X.K) is ds xs es2 r1 (by rw [hl, hn]) hi fun σ' fp' es' => q A2 H2 σ' fp' es'⟩
end

/-! ### == of data -/
mutual
def py : D → PyData
  | .non => .none
  | .bl b => .bool b
  | .int i => .int i
  | .str x => .str x
  | .lst ds => .list (pys ds)
  | .fls ds => .list (pys ds)
  | .tup ds => .tuple (pys ds)
  | .dic _ => .none
  | .ins _ _ => .none
def pys : List D → List PyData
  | [] => []
  | d :: ds => py d :: pys ds
end
mutual
/-- no dict, no instance -/
def pyb : D → Bool
  | .lst ds => pybs ds
  | .fls ds => pybs ds
  | .tup ds => pybs ds
  | .dic _ => false
  | .ins _ _ => false
  | _ => true
def pybs : List D → Bool
  | [] => true
  | d :: ds => pyb d && pybs ds
end
mutual
theorem Rp.dp {K : PySem.W.Frag} {A H : Hp} (s : Same A H) : ∀ {v : V} {d : D}, Rp K A v d → pyb d = true → Dp K H v (py d)
  | _, _, .non, _ => by rw [py]; exact .non
  | _, _, .bl b, _ => by rw [py]; exact .bl b
  | _, _, .int i, _ => by rw [py]; exact .int i
  | _, _, .str x, _ => by rw [py]; exact .str x
  | _, _, .lst h r, z => by rw [py]; rw [pyb] at z; exact .lst (SqL.of (s _ _ h)) (RpL.dp s r z)
  | _, _, .fls h r, z => by rw [py]; rw [pyb] at z; exact .lst (s.seq h) (RpL.dp s r z)
  | _, _, .tup h r, z => by rw [py]; rw [pyb] at z; exact .tup (seqT_mono s h) (RpL.dp s r z)
  | _, _, .dic h r, z => by rw [pyb] at z; cases z
  | _, _, .ins h r, z => by rw [pyb] at z; cases z
theorem RpL.dp {K : PySem.W.Frag} {A H : Hp} (s : Same A H) : ∀ {vs : List V} {ds : List D}, RpL K A vs ds → pybs ds = true → DpAll K H vs (pys ds)
  | _, _, .nil, _ => by rw [pys]; exact .nil
  | _, _, .cons h r, z => by
    rw [pys]
    rw [pybs, Bool.and_eq_true] at z
    exact .cons (Rp.dp s h z.1) (RpL.dp s r z.2)
end
/-- may be compared -/
def cmpD (d : D) : Bool := pyb d && SeqAt.shaped (py d)
def eqD (d e : D) : Bool := PyData.eqv (py d) (py e)
section
variable {X : Cx} {T : List Addr} {d1 d2 : D}
theorem o_eqD (h1 : cmpD d1 = true) (h2 : cmpD d2 = true) (hu : X.A.units + 64 < cLine) : Op X T (compareOp .Eq) d1 d2 (.im (.bl (eqD d1 d2))) := op_of (op_eqD hu) fun A H v u s rv ru Q k => by
  obtain ⟨a1, a2⟩ := (Bool.and_eq_true _ _).mp h1
  obtain ⟨b1, b2⟩ := (Bool.and_eq_true _ _).mp h2
  exact ⟨_, _, rv.dp s.s a1, ru.dp s.s b1, a2, b2, k.now s (.bl _)⟩
theorem o_neD (h1 : cmpD d1 = true) (h2 : cmpD d2 = true) (hu : X.A.units + 64 < cLine) : Op X T (compareOp .NotEq) d1 d2 (.im (.bl (!eqD d1 d2))) := op_of (op_neD hu) fun A H v u s rv ru Q k => by
  obtain ⟨a1, a2⟩ := (Bool.and_eq_true _ _).mp h1
  obtain ⟨b1, b2⟩ := (Bool.and_eq_true _ _).mp h2
  exact ⟨_, _, rv.dp s.s a1, ru.dp s.s b1, a2, b2, k.now s (.bl _)⟩
theorem eqD_refl {d : D} (h : cmpD d = true) : eqD d d = true := PySem.SeqAt.eqv_refl _ (SeqAt.canLay_of_shaped ((Bool.and_eq_true _ _).mp h).2)
end
end Kf

set_option maxHeartbeats 1000000
/-! Kf: comprehensions over tuples; small rules. -/
namespace Kf
open PySem L2
section
variable {X : Cx} {T : List Addr} {ρ : Rho} {m : M} {d : D} {ds : List D} {i : Nat} {scope : Scope} {elt l t : Expr} {e : Expr}
/-- [elt for x in l], l data of a tuple -/
theorem me_lcT (hpe : PE X e (tLc (iTup X.K (tw X l)) (gName i) tYes (twB X scope elt) [i])) (hl : Ie X T l ρ (.tup ds)) (f : D → D) (hz : ds.length < sizeLine) (hi : i < X.N.length)
    (he : ∀ d ∈ ds, Be X T scope elt ((ρ.set i none).set i (some (.im d))) (f d)) : Me X T e ρ (.ls (ds.map f)) := by
  intro A H σ s l0 Q k pins st I
  have hσ : i < σ.length := by rw [I.len]; exact hi
  refine hpe.run pins st σ H Q I (hl A H σ s l0 _ fun v A1 H1 x1 r1 => ?_)
  cases r1 with
  | @tup a xs _ e1 r1 =>
  refine ⟨a, rfl, ⟨xs, seqT_mono (x1.ok s).s e1⟩, fun Dl hD => lc_tup (xs := xs) (fun j H => Acc X.K T A1 H1 Dl ((ds.take j).map f) H) (Acc.first (x1.ok s) hD) ?_ ?_ ?_⟩
  · rintro j H _ ⟨A2, acc, ok, x, _⟩
    exact seqT_mono ok.s (seqT_mono x.aa e1)
  · rintro j y H hj ⟨A2, acc, ok, x, n, ha, ra⟩
    obtain ⟨d, hd, rd⟩ := r1.of hj
    refine ⟨?_, ?_⟩
    · show ((σ.set i none).set i (some y)).set i none = σ.set i none
      rw [List.set_set, List.set_set]
    · refine tyes ?_
      rw [if_pos rfl]
      refine (he d (List.mem_of_getElem? hd)).did A2 H _ ok (((l0.step x1).step x).blk (rd.mono x.aa) hσ) _ fun v2 A3 H3 x3 r3 => ?_
      refine ⟨acc, x3.same _ _ ha (fun _ z => nomatch z), ?_, ?_⟩
      · rw [ra.len, List.length_map, List.length_take]
        omega
      · have q := Acc.more hD x n ha ra x3 (x3.ok ok) r3
        have e2 : (ds.take (j + 1)).map f = (ds.take j).map f ++ [f d] := by
          rw [List.take_add_one, hd, List.map_append]
          rfl
        rw [e2]
        exact q
  · intro H h
    rw [r1.len, List.take_length] at h
    exact h.out hD (k.back x1)
/-- [elt for x in l if t], l data of a tuple -/
theorem me_lcfT (hpe : PE X e (tLc (iTup X.K (tw X l)) (gName i) (twBT X scope t) (twB X scope elt) [i])) (hl : Ie X T l ρ (.tup ds)) (f : D → D) (g : D → Bool) (hz : ds.length < sizeLine) (hi : i < X.N.length)
    (ht : ∀ d ∈ ds, Bt X T scope t ((ρ.set i none).set i (some (.im d))) (g d)) (he : ∀ d ∈ ds, g d = true → Be X T scope elt ((ρ.set i none).set i (some (.im d))) (f d)) : Me X T e ρ (.ls ((ds.filter g).map f)) := by
  intro A H σ s l0 Q k pins st I
  have hσ : i < σ.length := by rw [I.len]; exact hi
  refine hpe.run pins st σ H Q I (hl A H σ s l0 _ fun v A1 H1 x1 r1 => ?_)
  cases r1 with
  | @tup a xs _ e1 r1 =>
  refine ⟨a, rfl, ⟨xs, seqT_mono (x1.ok s).s e1⟩, fun Dl hD => lc_tup (xs := xs) (fun j H => Acc X.K T A1 H1 Dl (((ds.take j).filter g).map f) H) (Acc.first (x1.ok s) hD) ?_ ?_ ?_⟩
  · rintro j H _ ⟨A2, acc, ok, x, _⟩
    exact seqT_mono ok.s (seqT_mono x.aa e1)
  · rintro j y H hj ⟨A2, acc, ok, x, n, ha, ra⟩
    obtain ⟨d, hd, rd⟩ := r1.of hj
    have e2 : ds.take (j + 1) = ds.take j ++ [d] := by rw [List.take_add_one, hd]; rfl
    refine ⟨?_, ?_⟩
    · show ((σ.set i none).set i (some y)).set i none = σ.set i none
      rw [List.set_set, List.set_set]
    · refine (ht d (List.mem_of_getElem? hd)).dit A2 H _ ok (((l0.step x1).step x).blk (rd.mono x.aa) hσ) _ fun A3 H3 x3 => ?_
      cases hg : g d with
      | false =>
        rw [if_neg Bool.false_ne_true]
        refine ⟨A3, acc, x3.ok ok, x.tr0 x3, (x3.nw Dl (by rw [ha]; simp)).trans n, x3.same _ _ ha (fun _ z => nomatch z), ?_⟩
        rw [e2, List.filter_append, List.filter_cons, if_neg (by rw [hg]; exact Bool.false_ne_true), List.filter_nil, List.append_nil]
        exact ra.mono x3.aa
      | true =>
        rw [if_pos rfl]
        refine (he d (List.mem_of_getElem? hd) hg).did A3 H3 _ (x3.ok ok) ((((l0.step x1).step x).step x3).blk ((rd.mono x.aa).mono x3.aa) hσ) _ fun v2 A4 H4 x4 r4 => ?_
        have ha3 := x3.same _ _ ha (fun _ z => nomatch z)
        refine ⟨acc, x4.same _ _ ha3 (fun _ z => nomatch z), ?_, ?_⟩
        · rw [ra.len, List.length_map]
          have h9 := List.length_filter_le g (ds.take j)
          rw [List.length_take] at h9
          omega
        · have q := Acc.more hD (x.tr0 x3) ((x3.nw Dl (by rw [ha]; simp)).trans n) ha3 (ra.mono x3.aa) x4 (x4.ok (x3.ok ok)) r4
          rw [e2, List.filter_append, List.filter_cons, if_pos hg, List.filter_nil, List.map_append]
          exact q
  · intro H h
    rw [r1.len, List.take_length] at h
    exact h.out hD (k.back x1)
/-- a reading's worth where slot i is at hand -/
def Dln (T : List Addr) (K : PySem.W.Frag) (i : Nat) (te : TE) (ρ : Rho) (m : M) : Prop := ∀ A H σ, Ok T A H → Sl K A H σ ρ → i < σ.length → ∀ Q : VK, KM K A H m Q → te σ H Q
theorem den_lc (hl : Ie X T l ρ (.lst ds)) (f : D → D) (hz : ds.length < sizeLine)     (he : ∀ d ∈ ds, Be X T scope elt ((ρ.set i none).set i (some (.im d))) (f d)) : Dln T X.K i (tLc (iList X.K (tw X l)) (gName i) tYes (twB X scope elt) [i]) ρ (.ls (ds.map f)) := by
  intro A H σ s l0 hσ Q k
  refine (hl A H σ s l0 _ fun v A1 H1 x1 r1 => ?_)
  cases r1 with
  | @lst a xs _ e1 r1 =>
  refine ⟨a, rfl, ⟨xs, SqL.of ((x1.ok s).s _ _ e1)⟩, fun Dl hD => lc_list (xs := xs) (fun j H => Acc X.K T A1 H1 Dl ((ds.take j).map f) H) (Acc.first (x1.ok s) hD) ?_ ?_ ?_⟩
  · rintro j H _ ⟨A2, acc, ok, x, _⟩
    exact SqL.of (ok.s _ _ (x.aa _ _ e1))
  · rintro j y H hj ⟨A2, acc, ok, x, n, ha, ra⟩
    obtain ⟨d, hd, rd⟩ := r1.of hj
    refine ⟨?_, ?_⟩
    · show ((σ.set i none).set i (some y)).set i none = σ.set i none
      rw [List.set_set, List.set_set]
    · refine tyes ?_
      rw [if_pos rfl]
      refine (he d (List.mem_of_getElem? hd)).did A2 H _ ok (((l0.step x1).step x).blk (rd.mono x.aa) hσ) _ fun v2 A3 H3 x3 r3 => ?_
      refine ⟨acc, x3.same _ _ ha (fun _ z => nomatch z), ?_, ?_⟩
      · rw [ra.len, List.length_map, List.length_take]
        omega
      · have q := Acc.more hD x n ha ra x3 (x3.ok ok) r3
        have e2 : (ds.take (j + 1)).map f = (ds.take j).map f ++ [f d] := by
          rw [List.take_add_one, hd, List.map_append]
          rfl
        rw [e2]
        exact q
  · intro H h
    rw [r1.len, List.take_length] at h
    exact h.out hD (k.back x1)
theorem den_lcf (hl : Ie X T l ρ (.lst ds)) (f : D → D) (g : D → Bool) (hz : ds.length < sizeLine)     (ht : ∀ d ∈ ds, Bt X T scope t ((ρ.set i none).set i (some (.im d))) (g d)) (he : ∀ d ∈ ds, g d = true → Be X T scope elt ((ρ.set i none).set i (some (.im d))) (f d)) : Dln T X.K i (tLc (iList X.K (tw X l)) (gName i) (twBT X scope t) (twB X scope elt) [i]) ρ (.ls ((ds.filter g).map f)) := by
  intro A H σ s l0 hσ Q k
  refine (hl A H σ s l0 _ fun v A1 H1 x1 r1 => ?_)
  cases r1 with
  | @lst a xs _ e1 r1 =>
  refine ⟨a, rfl, ⟨xs, SqL.of ((x1.ok s).s _ _ e1)⟩, fun Dl hD => lc_list (xs := xs) (fun j H => Acc X.K T A1 H1 Dl (((ds.take j).filter g).map f) H) (Acc.first (x1.ok s) hD) ?_ ?_ ?_⟩
  · rintro j H _ ⟨A2, acc, ok, x, _⟩
    exact SqL.of (ok.s _ _ (x.aa _ _ e1))
  · rintro j y H hj ⟨A2, acc, ok, x, n, ha, ra⟩
    obtain ⟨d, hd, rd⟩ := r1.of hj
    have e2 : ds.take (j + 1) = ds.take j ++ [d] := by rw [List.take_add_one, hd]; rfl
    refine ⟨?_, ?_⟩
    · show ((σ.set i none).set i (some y)).set i none = σ.set i none
      rw [List.set_set, List.set_set]
    · refine (ht d (List.mem_of_getElem? hd)).dit A2 H _ ok (((l0.step x1).step x).blk (rd.mono x.aa) hσ) _ fun A3 H3 x3 => ?_
      cases hg : g d with
      | false =>
        rw [if_neg Bool.false_ne_true]
        refine ⟨A3, acc, x3.ok ok, x.tr0 x3, (x3.nw Dl (by rw [ha]; simp)).trans n, x3.same _ _ ha (fun _ z => nomatch z), ?_⟩
        rw [e2, List.filter_append, List.filter_cons, if_neg (by rw [hg]; exact Bool.false_ne_true), List.filter_nil, List.append_nil]
        exact ra.mono x3.aa
      | true =>
        rw [if_pos rfl]
        refine (he d (List.mem_of_getElem? hd) hg).did A3 H3 _ (x3.ok ok) ((((l0.step x1).step x).step x3).blk ((rd.mono x.aa).mono x3.aa) hσ) _ fun v2 A4 H4 x4 r4 => ?_
        have ha3 := x3.same _ _ ha (fun _ z => nomatch z)
        refine ⟨acc, x4.same _ _ ha3 (fun _ z => nomatch z), ?_, ?_⟩
        · rw [ra.len, List.length_map]
          have h9 := List.length_filter_le g (ds.take j)
          rw [List.length_take] at h9
          omega
        · have q := Acc.more hD (x.tr0 x3) ((x3.nw Dl (by rw [ha]; simp)).trans n) ha3 (ra.mono x3.aa) x4 (x4.ok (x3.ok ok)) r4
          rw [e2, List.filter_append, List.filter_cons, if_pos hg, List.filter_nil, List.map_append]
          exact q
  · intro H h
    rw [r1.len, List.take_length] at h
    exact h.out hD (k.back x1)
theorem den_lcR {n : Int} (hl : Ie X T l ρ (.int n)) (f : Nat → D) (hn : 0 ≤ n ∧ n < sizeLine)     (he : ∀ j : Nat, (j : Int) < n → Be X T scope elt ((ρ.set i none).set i (some (.im (.int j)))) (f j)) (hs : starEach [l] X.env = (false, eval l X.env) :: starEach [] X.env := by rfl) : Dln T X.K i (tLc (iRng1 (twA X [l])) (gName i) tYes (twB X scope elt) [i]) ρ (.ls ((List.range n.toNat).map f)) := by
  intro A H σ s l0 hσ Q k
  refine (as_cons hl as_nil hs A H σ s l0 _ fun vs A1 H1 x1 r1 => ?_)
  obtain ⟨v, rfl, r0⟩ := r1.one
  cases r0
  have hb : (sizeLine : Int) < 2 ^ 62 := by rw [show (sizeLine : Nat) = 16777216 from by rw [sizeLine_eq]]; decide
  refine ⟨n, rfl, by omega, by omega, fun Dl hD => lc_range (lo := 0) (n := n.toNat) (fun j H => Acc X.K T A1 H1 Dl ((List.range j).map f) H) (Acc.first (x1.ok s) hD) ?_ ?_⟩
  · rintro j H hj ⟨A2, acc, ok, x, n2, ha, ra⟩
    refine ⟨?_, ?_⟩
    · show ((σ.set i none).set i (some (V.int (0 + (j : Int))))).set i none = σ.set i none
      rw [List.set_set, List.set_set]
    · refine tyes ?_
      rw [if_pos rfl]
      have rj : Rp X.K A2 (V.int (0 + (j : Int))) (.int (j : Int)) := by rw [Int.zero_add]; exact .int _
      refine (he j (by omega)).did A2 H _ ok (((l0.step x1).step x).blk rj hσ) _ fun v2 A3 H3 x3 r3 => ?_
      refine ⟨acc, x3.same _ _ ha (fun _ z => nomatch z), ?_, ?_⟩
      · rw [ra.len, List.length_map, List.length_range]
        omega
      · have q := Acc.more hD x n2 ha ra x3 (x3.ok ok) r3
        rw [List.range_succ, List.map_append]
        exact q
  · intro H h
    exact h.out hD (k.back x1)

theorem den_lcT (hl : Ie X T l ρ (.tup ds)) (f : D → D) (hz : ds.length < sizeLine)     (he : ∀ d ∈ ds, Be X T scope elt ((ρ.set i none).set i (some (.im d))) (f d)) : Dln T X.K i (tLc (iTup X.K (tw X l)) (gName i) tYes (twB X scope elt) [i]) ρ (.ls (ds.map f)) := by
  intro A H σ s l0 hσ Q k
  refine (hl A H σ s l0 _ fun v A1 H1 x1 r1 => ?_)
  cases r1 with
  | @tup a xs _ e1 r1 =>
  refine ⟨a, rfl, ⟨xs, seqT_mono (x1.ok s).s e1⟩, fun Dl hD => lc_tup (xs := xs) (fun j H => Acc X.K T A1 H1 Dl ((ds.take j).map f) H) (Acc.first (x1.ok s) hD) ?_ ?_ ?_⟩
  · rintro j H _ ⟨A2, acc, ok, x, _⟩
    exact seqT_mono ok.s (seqT_mono x.aa e1)
  · rintro j y H hj ⟨A2, acc, ok, x, n, ha, ra⟩
    obtain ⟨d, hd, rd⟩ := r1.of hj
    refine ⟨?_, ?_⟩
    · show ((σ.set i none).set i (some y)).set i none = σ.set i none
      rw [List.set_set, List.set_set]
    · refine tyes ?_
      rw [if_pos rfl]
      refine (he d (List.mem_of_getElem? hd)).did A2 H _ ok (((l0.step x1).step x).blk (rd.mono x.aa) hσ) _ fun v2 A3 H3 x3 r3 => ?_
      refine ⟨acc, x3.same _ _ ha (fun _ z => nomatch z), ?_, ?_⟩
      · rw [ra.len, List.length_map, List.length_take]
        omega
      · have q := Acc.more hD x n ha ra x3 (x3.ok ok) r3
        have e2 : (ds.take (j + 1)).map f = (ds.take j).map f ++ [f d] := by
          rw [List.take_add_one, hd, List.map_append]
          rfl
        rw [e2]
        exact q
  · intro H h
    rw [r1.len, List.take_length] at h
    exact h.out hD (k.back x1)
theorem den_lcfT (hl : Ie X T l ρ (.tup ds)) (f : D → D) (g : D → Bool) (hz : ds.length < sizeLine)     (ht : ∀ d ∈ ds, Bt X T scope t ((ρ.set i none).set i (some (.im d))) (g d)) (he : ∀ d ∈ ds, g d = true → Be X T scope elt ((ρ.set i none).set i (some (.im d))) (f d)) : Dln T X.K i (tLc (iTup X.K (tw X l)) (gName i) (twBT X scope t) (twB X scope elt) [i]) ρ (.ls ((ds.filter g).map f)) := by
  intro A H σ s l0 hσ Q k
  refine (hl A H σ s l0 _ fun v A1 H1 x1 r1 => ?_)
  cases r1 with
  | @tup a xs _ e1 r1 =>
  refine ⟨a, rfl, ⟨xs, seqT_mono (x1.ok s).s e1⟩, fun Dl hD => lc_tup (xs := xs) (fun j H => Acc X.K T A1 H1 Dl (((ds.take j).filter g).map f) H) (Acc.first (x1.ok s) hD) ?_ ?_ ?_⟩
  · rintro j H _ ⟨A2, acc, ok, x, _⟩
    exact seqT_mono ok.s (seqT_mono x.aa e1)
  · rintro j y H hj ⟨A2, acc, ok, x, n, ha, ra⟩
    obtain ⟨d, hd, rd⟩ := r1.of hj
    have e2 : ds.take (j + 1) = ds.take j ++ [d] := by rw [List.take_add_one, hd]; rfl
    refine ⟨?_, ?_⟩
    · show ((σ.set i none).set i (some y)).set i none = σ.set i none
      rw [List.set_set, List.set_set]
    · refine (ht d (List.mem_of_getElem? hd)).dit A2 H _ ok (((l0.step x1).step x).blk (rd.mono x.aa) hσ) _ fun A3 H3 x3 => ?_
      cases hg : g d with
      | false =>
        rw [if_neg Bool.false_ne_true]
        refine ⟨A3, acc, x3.ok ok, x.tr0 x3, (x3.nw Dl (by rw [ha]; simp)).trans n, x3.same _ _ ha (fun _ z => nomatch z), ?_⟩
        rw [e2, List.filter_append, List.filter_cons, if_neg (by rw [hg]; exact Bool.false_ne_true), List.filter_nil, List.append_nil]
        exact ra.mono x3.aa
      | true =>
        rw [if_pos rfl]
        refine (he d (List.mem_of_getElem? hd) hg).did A3 H3 _ (x3.ok ok) ((((l0.step x1).step x).step x3).blk ((rd.mono x.aa).mono x3.aa) hσ) _ fun v2 A4 H4 x4 r4 => ?_
        have ha3 := x3.same _ _ ha (fun _ z => nomatch z)
        refine ⟨acc, x4.same _ _ ha3 (fun _ z => nomatch z), ?_, ?_⟩
        · rw [ra.len, List.length_map]
          have h9 := List.length_filter_le g (ds.take j)
          rw [List.length_take] at h9
          omega
        · have q := Acc.more hD (x.tr0 x3) ((x3.nw Dl (by rw [ha]; simp)).trans n) ha3 (ra.mono x3.aa) x4 (x4.ok (x3.ok ok)) r4
          rw [e2, List.filter_append, List.filter_cons, if_pos hg, List.filter_nil, List.map_append]
          exact q
  · intro H h
    rw [r1.len, List.take_length] at h
    exact h.out hD (k.back x1)
end
section
variable {c : Fc} {D : Ends} {ρ : Rhm} {m : M} {st : Stmt} {A H : Hp} {σ : L2.St} {fp : List Addr}
theorem dln_fz {X : Cx} {T : List Addr} {te : TE} {i : Nat} {ρ : Rho} (h : Dln T X.K i te (frzR ρ) m) (hs : safe m = true) : Dln T X.K i te ρ m := fun A H σ s l hi Q q => by
  refine h (glueP A H) H σ (glueP_ok s).2 (l.frz s) hi Q fun v A2 H2 fp x r f n => ?_
  obtain ⟨B, xx, b1, b2, n2⟩ := unglue s x
  refine q v B H2 fp xx (r.safe (fun a o w nm => ?_) hs fun a z => ?_) f n
  · rw [b2 a fun z => nm (by rw [← w, n2 a z]; exact z.2)]
    exact w
  · by_cases w : A a = none ∧ Mut (H a)
    · exact b1 a w
    · rw [b2 a w]; exact (r.there a z).1
theorem Es.askL {te : TE} {i : Nat} {R : V → Hp → Prop} (es : Es c A H σ ρ fp) (h : Dln c.T c.X.K i te ρ m) (hi : i < ρ.length)
    (q : ∀ v A2 H2 p, Ex0 A H A2 H2 → Ok c.T A2 H2 → RM c.X.K A2 H2 v m p → Fresh H p → p.Nodup → R v H2) : te σ H R :=
  h A H σ es.ok es.sl.sl (by rw [es.sl.len]; exact hi) R fun v A2 H2 p x r f n => q v A2 H2 p x (x.ok es.ok) r f n

/-- name = [.. for ..] -/
theorem ss_setL {te : TE} {i j : Nat} (hps : PS c.X st (tAsg te (gName i))) (h : Dln c.T c.X.K j te ρ m) (hj : j < ρ.length) (hi : i < ρ.length) (q : Nx c D.nx (ρ.set i (some m))) (h0 : c.S0 = none ∨ i ≠ 0 := by first | exact .inl rfl | exact .inr (by decide)) : Ss c st D ρ :=
  ss_of hps fun A H σ fp es => es.askL h hj fun v A2 H2 p x _ r f n => by
    obtain ⟨fp', es'⟩ := es.put x r f n hi h0
    exact q A2 H2 _ fp' es'
end
section
variable {X : Cx} {T : List Addr} {ρ : Rho} {d : D} {x : Str} {pos : Pos}
/-- constants of the module -/
theorem ie_gI {i : Int} (hm : ∃ t, X.mg x = some (.int i t)) (hg : Gl X x := by rfl) (hd : (x == ("__debug__" : Str)) = false := by decide) : Ie X T (.Name x pos) ρ (.int i) := by
  obtain ⟨t, hm⟩ := hm
  exact ie_c (pe_glob hg hm (v := .int i) ⟨t, rfl⟩ hd) fun _ => .int i
theorem ie_gS {y : Str} (hm : ∃ t, X.mg x = some (.str y t)) (hg : Gl X x := by rfl) (hd : (x == ("__debug__" : Str)) = false := by decide) : Ie X T (.Name x pos) ρ (.str y) := by
  obtain ⟨t, hm⟩ := hm
  exact ie_c (pe_glob hg hm (v := .str y) ⟨t, rfl⟩ hd) fun _ => .str y
end
section
variable {c : Fc} {D : Ends} {ρ : Rhm} {m : M} {pos : Pos} {st : Stmt}
theorem ss_retNh (q : Rh c D.rt (.im .non) ρ) : Ss c (.Return none pos) D ρ := ss_of ps_retN fun A H σ fp es => q .non A H σ [] fp es (.im .non) List.nodup_nil fun _ z => nomatch z
/-- return e, where what is held counts -/
theorem ss_reth {e : Expr} (h : Asks c ρ e m) (q : Rh c D.rt m ρ) : Ss c (.Return (some e) pos) D ρ := ss_of (ps_ret pe_tw) fun A H σ fp es => es.ask h fun v A2 H2 p x ok r f n => by
  have es2 := es.step0 x
  exact q v A2 H2 σ p fp es2 r n fun a z => ⟨fun w => es.live a w (f a z), fresh_back es.x f a z⟩
end
theorem flatDs_str : ∀ xs : List Str, flatDs (xs.map D.str) = true
  | [] => rfl
  | x :: xs => by rw [List.map_cons, flatDs, flatDs_str xs]; rfl
theorem flatDs_int : ∀ xs : List Int, flatDs (xs.map D.int) = true
  | [] => rfl
  | x :: xs => by rw [List.map_cons, flatDs, flatDs_int xs]; rfl
theorem safe_strs (xs : List Str) : safe (.ls (xs.map D.str)) = true := by rw [safe]; exact flatDs_str xs
/-! ### the scope of a comprehension -/
def blkB (N : List Str) (sc scope : Scope) (own : List (Str × Nat)) : Bool :=
  (match scope.kind with | .function => true | _ => false) && scope.names.all (fun y => decide (scope.names.lookup y.1 = some y.2)) && own.all (fun p => decide (N[p.2]? = some p.1)) && scope.names.all (fun y => decide (y.2 ≠ .free) || decide (sc.names.lookup y.1 = some .cell) || decide (sc.names.lookup y.1 = some .free)) &&
    scope.names.all fun y => !(decide (y.2 = .local) || decide (y.2 = .cell)) || decide (y.1 ∈ own.map (·.1)) || decide (y.1 ∉ N)
theorem blk {N : List Str} {sc scope : Scope} {own : List (Str × Nat)} (h : blkB N sc scope own = true) : BlkOk N sc scope own := by
  unfold blkB at h
  simp only [Bool.and_eq_true, List.all_eq_true, Bool.or_eq_true, decide_eq_true_eq, Bool.not_eq_true', Bool.or_eq_false_iff, decide_eq_false_iff_not] at h
  obtain ⟨⟨⟨⟨h1, h2⟩, h3⟩, h4⟩, h5⟩ := h
  refine ⟨?_, h2, h3, fun y hy e => ?_, fun y hy e => ?_⟩
  · revert h1; cases scope.kind <;> simp
  · rcases h4 y hy with (h | h) | h
    · exact absurd e h
    · exact .inl h
    · exact .inr h
  · rcases h5 y hy with (h | h) | h
    · rcases e with e | e
      · exact absurd e h.1
      · exact absurd e h.2
    · exact .inl h
    · exact .inr h
section
variable {X : Cx} {T : List Addr} {d : D} {c : Fc} {D : Ends} {st : Stmt} {ρ : Rhm}
theorem o_neR (h : cmpD d = true) (hu : X.A.units + 64 < cLine) : Op X T (compareOp .NotEq) d d (.im (.bl false)) := by
  have q := o_neD (X := X) (T := T) h h hu
  rw [eqD_refl h] at q
  exact q
theorem o_eqR (h : cmpD d = true) (hu : X.A.units + 64 < cLine) : Op X T (compareOp .Eq) d d (.im (.bl true)) := by
  have q := o_eqD (X := X) (T := T) h h hu
  rw [eqD_refl h] at q
  exact q
/-- what is behind a statement, said once -/
theorem ss_then (P : Rhm → Prop) (q : ∀ ρ', P ρ' → Nx c D.nx ρ') (h : (∀ ρ', P ρ' → Nx c D.nx ρ') → Ss c st D ρ) : Ss c st D ρ := h q
end
theorem app_len (x y : Str) : (x ++ y).length = x.length + y.length := Array.size_append
/-! ### texts that may be compared -/
theorem strOk_of (s : String) : PyData.strOk (Str.ofString s) = true := by
  rw [Str.ofString_eq_toList]
  unfold PyData.strOk
  rw [List.all_toArray]
  refine List.all_eq_true.mpr fun n hn => ?_
  obtain ⟨ch, _, rfl⟩ := List.mem_map.mp hn
  have h := ch.valid
  have ht : ch.toNat = ch.val.toNat := rfl
  rw [ht]
  refine decide_eq_true ?_
  simp only [UInt32.isValidChar, Nat.isValidChar] at h
  omega
theorem strOk_app {x y : Str} (h1 : PyData.strOk x = true) (h2 : PyData.strOk y = true) : PyData.strOk (x ++ y) = true := by
  show Array.all (x.cps ++ y.cps) _ = true
  rw [Array.all_append]
  exact Bool.and_eq_true_iff.mpr ⟨h1, h2⟩
theorem pys_str : ∀ xs : List Str, pys (xs.map D.str) = xs.map PyData.str
  | [] => rfl
  | x :: xs => by rw [List.map_cons, pys, pys_str xs, py]; rfl
theorem pybs_str : ∀ xs : List Str, pybs (xs.map D.str) = true
  | [] => rfl
  | x :: xs => by rw [List.map_cons, pybs, pybs_str xs, pyb] <;> simp
theorem depthAll_str : ∀ xs : List Str, PyData.depthAll (xs.map PyData.str) = 0
  | [] => rfl
  | x :: xs => by rw [List.map_cons, PyData.depthAll, depthAll_str xs]; rfl
theorem canLayAll_str : ∀ xs : List Str, (∀ x ∈ xs, PyData.strOk x = true) → PyData.canLayAll0 (xs.map PyData.str) = true
  | [], _ => rfl
  | x :: xs, h => by
    rw [List.map_cons, PyData.canLayAll0, canLayAll_str xs fun y hy => h y (List.mem_cons_of_mem _ hy), Bool.and_true]
    show PyData.canLay0 (.str x) = true
    rw [PyData.canLay0]
    exact h x (List.mem_cons_self ..)
theorem cmp_strs {xs : List Str} (h : ∀ x ∈ xs, PyData.strOk x = true) : cmpD (.lst (xs.map D.str)) = true := by
  unfold cmpD SeqAt.shaped
  rw [pyb, pybs_str, py, pys_str, PyData.canLay0, canLayAll_str xs h, PyData.depth, depthAll_str]
  rfl
theorem cmp_str {x : Str} (h : PyData.strOk x = true) : cmpD (.str x) = true := by
  unfold cmpD SeqAt.shaped
  rw [pyb, py, PyData.canLay0, h, PyData.depth] <;> simp
/-- two numbers by a test -/
theorem at2 {a b : Int} (x : Int) : atI [D.int a, D.int b] (x % 2) = some (D.int (if x % 2 = 0 then a else b)) := by
  rcases Int.emod_two_eq x with h | h <;> rw [h] <;> rfl
theorem len_int : ∀ k : Fin 1000, (Str.ofString (toString ((k.val : Nat) : Int))).length ≤ 10 := by decide +kernel
theorem len_nat {k : Nat} (h : k < 1000) : (Str.ofString (toString (k : Int))).length ≤ 10 := len_int ⟨k, h⟩
theorem log_nat {k : Nat} (h : k < 2 ^ 64) : ((k : Nat) : Int).natAbs.log2 < 1920 := by
  rw [Int.natAbs_natCast]
  by_cases z : k = 0
  · subst z; decide
  · exact Nat.lt_of_lt_of_le ((Nat.log2_lt z).mpr h) (by decide)
end Kf

set_option maxHeartbeats 1000000
/-! the laws' own cell and draws as plain functions -/
namespace Kf.L
open PySem L2
theorem bt_int : bootBuiltins "int" = some (.type "int") := by decide +kernel
theorem bt_str : bootBuiltins "str" = some (.type "str") := by decide +kernel
theorem bt_list : bootBuiltins "list" = some (.type "list") := by decide +kernel
theorem bt_tuple : bootBuiltins "tuple" = some (.type "tuple") := by decide +kernel
def cellZ (ns : List Int) (k : Nat) : Int := ns.getD k 0
def r_cell : List D → M → Prop := fun ds m => ∃ (ns : List Int) (k : Nat), ds = [.fls (ns.map D.int), .int k] ∧ m = .im (.int (cellZ ns k))
theorem ixN_nat' {n j : Nat} (hj : j < n) : ixN n (j : Int) = some j := by
  unfold ixN
  rw [if_pos (by omega), if_pos (by omega)]
  simp
theorem cell_at {ns : List Int} {k : Nat} (h : k < ns.length) : atI (ns.map D.int) (k : Int) = some (.int (cellZ ns k)) := by
  refine atI_bind (n := k) ?_ ?_
  · rw [List.length_map]; exact ixN_nat' h
  · rw [List.getElem?_map, List.getElem?_eq_getElem h]
    unfold cellZ
    rw [List.getD_eq_getElem?_getD, List.getElem?_eq_getElem h]
    rfl
theorem cell_no {ns : List Int} {k : Nat} (h : ns.length ≤ k) : cellZ ns k = 0 := by
  unfold cellZ
  rw [List.getD_eq_getElem?_getD, List.getElem?_eq_none h]
  rfl
def wideZ (z : Int) : Bool := decide ((10 : Int) ^ (18 : Int).toNat ≤ z)
/-- the cell behind j turns -/
def drawZ (z : Int) : Nat → Int
  | 0 => z
  | j + 1 => if wideZ z = true then drawZ z j / 1009 else z
def mixZ (z : Int) (j : Nat) : Int := (z * 48271 + (j : Int) * 69621) % 2147483647
def drawn (z : Int) (j : Nat) : Int := if wideZ z = true then drawZ z j % 1009 else (mixZ z j * mixZ z j + z * 31 + (j : Int)) % 1000003
def draws (z : Int) (n : Nat) : List Int := (List.range n).map (drawn z)
def r_draws : List D → M → Prop := fun ds m => ∃ (z n : Int), ds = [.int z, .int n] ∧ (0 ≤ n ∧ n ≤ 1000) ∧ m = .ls ((draws z n.toNat).map D.int)
theorem draws_len (z : Int) (n : Nat) : (draws z n).length = n := by simp [draws]
theorem draws_succ (z : Int) (j : Nat) : draws z (j + 1) = draws z j ++ [drawn z j] := by simp [draws, List.range_succ]
theorem drawZ_wide {z : Int} {j : Nat} (q : wideZ z = true) : drawZ z (j + 1) = drawZ z j / 1009 := by simp [drawZ, q]
theorem drawZ_no {z : Int} (q : wideZ z = false) : ∀ j, drawZ z j = z
  | 0 => rfl
  | j + 1 => by simp [drawZ, q]
theorem drawZ_thin {z : Int} {j : Nat} (q : wideZ z = false) : drawZ z (j + 1) = drawZ z j := by rw [drawZ_no q, drawZ_no q]
theorem draws_wide {z : Int} {j : Nat} (q : wideZ z = true) : draws z (j + 1) = draws z j ++ [drawZ z j % 1009] := by rw [draws_succ]; simp [drawn, q]
theorem draws_thin {z : Int} {j : Nat} (q : wideZ z = false) : draws z (j + 1) = draws z j ++ [(mixZ (drawZ z j) j * mixZ (drawZ z j) j + drawZ z j * 31 + (j : Int)) % 1000003] := by rw [draws_succ, drawZ_no q]; simp [drawn, q]
theorem mix_small (x : Int) : -(2 ^ 64) < x % 2147483647 ∧ x % 2147483647 < 2 ^ 64 := by omega
theorem drawn_bound (z : Int) (j : Nat) : 0 ≤ drawn z j ∧ drawn z j < 1000003 := by
  unfold drawn
  split <;> omega
theorem draws_at {z : Int} {n j : Nat} (h : j < n) : atI ((draws z n).map D.int) (j : Int) = some (.int (drawn z j)) := by
  refine atI_bind (n := j) ?_ ?_
  · rw [List.length_map, draws_len]; exact ixN_nat' h
  · simp [draws, h]
section
variable {X : Cx} {T : List Addr} {ρ : Rho} {e : Expr} {z : Int} {n j : Nat} {p p2 p3 p4 : Pos} {q : Nat}
/-- int(d[j]), d the draws of a cell -/
theorem ie_draw (h : Ie X T e ρ (.lst ((draws z n).map D.int))) (hint : X.mg "int" = none) (hj : j < n) (hg : Gl X "int" := by rfl) : Ie X T (.Call (.Name "int" p) [.Subscript e (.Constant (.int (j : Int)) q p2) p3] [] p4) ρ (.int (drawn z j)) :=
  ie_im (me_ty (as_cons (ie_im (me_ix h ie_int (ix_l (draws_at hj)))) as_nil) cl_int hint bt_int hg)
/-- d[j], d the draws of a cell -/
theorem ie_drw (h : Ie X T e ρ (.lst ((draws z n).map D.int))) (hj : j < n) : Ie X T (.Subscript e (.Constant (.int (j : Int)) q p2) p3) ρ (.int (drawn z j)) := ie_im (me_ix h ie_int (ix_l (draws_at hj)))
end
end Kf.L

set_option maxHeartbeats 2000000
/-! Kf: the head of a law, with own error classes; a law's end. -/
namespace Kf
open PySem L2
open He (Fa DefD AlD SaysD obsD valD frT asD frG ga ma fAd ba Defn cT tabsB emptyTab emptyTab_eq frT_none frT_in codeOf tabOf)

/-! ### own error classes as they are found -/
/-- an own error class: its name, the names and texts of its __init__, its field -/
structure XD where
  x : Str
  qual : Str
  params : Arguments
  body : List Stmt
  scope : Scope
  fld : Str
abbrev FnX : Type := Option (Str × Str × Arguments × FuncBody × Scope × Addr × List Str × Addr)
def fnXo (K : PySem.W.Frag) (x : Str) : FnX := match K.lookup (ma K (ga K x) "__init__") with
  | some ⟨_, _, .func fd, _⟩ => some (fd.name, fd.qualname, fd.params, fd.body, fd.scope, fd.globals, fd.closure.map (·.1), fd.builtins)
  | _ => none
def XD.val (d : XD) : FnX := some ("__init__", d.qual, d.params, .stmts d.body, d.scope, mainGlobals, ["__class__"], builtinsNs)
def oexB (K : PySem.W.Frag) (C : Addr) : Bool := match K.lookup C with
  | some ⟨.type t, _, .cls cd, sl⟩ => (match cd.mro, sl.toList with
    | .ref C' :: bm, [_, _, _, _, some (.builtin n), _] => decide (t = "type") && (decide (C' = C) && (decide (n = "ValueError.__new__") && (!cd.hasDel && (cd.hasDict && PySem.HandSPX.refsVE bm))))
    | _, _ => false)
  | _ => false
def oexF (K : PySem.W.Frag) (C : Addr) : Bool := oexB K C && (decide (PySem.W.findIn K (.ref C) "__setattr__" = some (some (.builtin "object.__setattr__"))) && (decide (PySem.W.subIn K (.ref C) (.type "BaseException") = some true) && (decide (PySem.W.typeIn K (.ref C) = some (.type "type")) && PySem.W.keepIn K (.ref C))))
theorem oexF_ok {K : PySem.W.Frag} {C : Addr} (h : oexF K C = true) : OexC K C := by
  obtain ⟨h0, h⟩ := ba h
  obtain ⟨h1, h⟩ := ba h
  obtain ⟨h2, h⟩ := ba h
  obtain ⟨h3, h4⟩ := ba h
  refine ⟨?_, of_decide_eq_true h1, of_decide_eq_true h2, of_decide_eq_true h3, h4⟩
  unfold oexB at h0
  split at h0
  · rename_i t dd cd sl ho
    split at h0
    · rename_i C' bm k0 k1 k2 k3 n k5 hm hs
      simp only [Bool.and_eq_true, decide_eq_true_eq, Bool.not_eq_true'] at h0
      obtain ⟨rfl, rfl, rfl, e3, e4, g0⟩ := h0
      obtain ⟨nm, bs, mro, ns, qn, hd, sn, sub, ab, col, del⟩ := cd
      dsimp only at hm e3 e4
      subst hm e3 e4
      have hsl : sl = #[k0, k1, k2, k3, some (.builtin "ValueError.__new__"), k5] := by
        obtain ⟨l⟩ := sl
        simp only at hs
        rw [hs]
      subst hsl
      exact ⟨nm, qn, ns, bs, bm, sn, sub, ab, col, dd, k0, k1, k2, k3, k5, ho, g0⟩
    · cases h0
  · cases h0
/-- the __init__'s own: its code, the file, the cell of the class -/
def xiB (K : PySem.W.Frag) (file : Str) (qual : Str) (C f : Addr) : Bool := match K.lookup f with
  | some ⟨_, _, .func fd, _⟩ => (match fd.closure, fd.code, fd.defaults with
    | [(_, cc)], .ref cda, .none => PySem.W.codeIn K (.ref cda) qual && ((match K.lookup cda with
      | some ⟨_, _, .fields vs, _⟩ => (match (vs[2]? : Option Value) with
        | some (Value.str fl _) => file == fl
        | _ => false)
      | _ => false) && (match K.lookup cc with
      | some ⟨_, _, .cell (some (.ref D)), _⟩ => decide (D = C)
      | _ => false))
    | _, _, _ => false)
  | _ => false
def xcB (K : PySem.W.Frag) (file : Str) (d : XD) : Bool :=
  oexF K (ga K d.x) && (xfB K (ga K d.x) && (xiB K file d.qual (ga K d.x) (ma K (ga K d.x) "__init__") && (decide (PySem.W.ks_superIn K (ga K d.x) (ga K d.x) "__init__" = some (some (.builtin "ValueError.__init__"))) && (decide (PySem.W.nsIn K cStatics "thirdparty.any" = some none) &&
    (decide (PySem.W.mroIn K (ga K d.x) (.ref (ga K d.x)) = some true) && (decide (PySem.W.subIn K (.ref (ga K d.x)) (.type "ValueError") = some true) && (decide (PySem.W.findIn K (.ref (ga K d.x)) d.fld = some none) &&
    (decide (PySem.W.findIn K (.ref (ga K d.x)) "__init__" = some (some (.ref (ma K (ga K d.x) "__init__")))) && decide (PySem.W.typeIn K (.ref (ma K (ga K d.x) "__init__")) = some (.type "function"))))))))))
structure XcAll (P : Program) (K : PySem.W.Frag) (mg : Str → Option Value) (d : XD) (f : Addr) (fd : FuncData) : Prop where
  xf : XfC K (ga K d.x)
  fld : PySem.W.findIn K (.ref (ga K d.x)) d.fld = some none
  ini : PySem.W.findIn K (.ref (ga K d.x)) "__init__" = some (some (.ref f))
  ty : PySem.W.typeIn K (.ref f) = some (.type "function")
  F : ∃ cda cc, XcF P K mg d.qual d.params d.body d.scope (ga K d.x) f cda cc fd
  dfl : fd.defaults = .none
theorem xc_all {P : Program} {K : PySem.W.Frag} {mg : Str → Option Value} {d : XD} (e : fnXo K d.x = d.val) (h : xcB K P.main.file d = true) (fr : mg "super" = none) (top : (P.main.scope.names.lookup ("super" : Str)).isSome = false) : ∃ f fd, XcAll P K mg d f fd := by
  obtain ⟨a1, h⟩ := ba h
  obtain ⟨a2, h⟩ := ba h
  obtain ⟨a3, h⟩ := ba h
  obtain ⟨a4, h⟩ := ba h
  obtain ⟨a5, h⟩ := ba h
  obtain ⟨a6, h⟩ := ba h
  obtain ⟨a7, h⟩ := ba h
  obtain ⟨a8, h⟩ := ba h
  obtain ⟨a9, a10⟩ := ba h
  have b4 := of_decide_eq_true a4
  have b5 := of_decide_eq_true a5
  have b6 := of_decide_eq_true a6
  have b7 := of_decide_eq_true a7
  have b8 := of_decide_eq_true a8
  have b9 := of_decide_eq_true a9
  have b10 := of_decide_eq_true a10
  unfold fnXo at e
  unfold xiB at a3
  split at a3
  · rename_i oc od fd osl lk
    rw [lk] at e
    split at a3
    · rename_i nm cc cda hcl hco hdf
      obtain ⟨c1, a3⟩ := ba a3
      obtain ⟨c2, c3⟩ := ba a3
      obtain ⟨n1, n2, n3, n4, n5, n6, n7, n8, n9, n10, n11, n12, n13, n14, n15⟩ := fd
      dsimp only at hcl hco hdf
      subst hcl hco hdf
      have e2 : (some (n1, n2, n3, n4, n5, n6, [nm], n15) : FnX) = some (("__init__" : Str), d.qual, d.params, FuncBody.stmts d.body, d.scope, mainGlobals, [("__class__" : Str)], builtinsNs) := e
      simp only [Option.some.injEq, Prod.mk.injEq, List.cons.injEq, and_true] at e2
      obtain ⟨h1, h2, h3, h4, h5, h6, h7, h8⟩ := e2
      subst h1 h2 h3 h4 h5 h6 h7 h8
      refine ⟨_, _, ⟨xfB_ok a2, b8, b9, b10, ⟨cda, cc, ⟨oexF_ok a1, ⟨_, _, _, _, _, _, rfl⟩, ⟨_, _, _, lk⟩, c1, ?_, ?_, b4, b5, b6, b7, fr, top⟩⟩, rfl⟩⟩
      · split at c2
        · rename_i ccl cdd vs ccs lc
          split at c2
          · rename_i fl tf hv
            exact ⟨_, _, _, _, _, _, lc, hv, c2⟩
          · cases c2
        · cases c2
      · split at c3
        · rename_i cl cld D csl lc
          have c3 := of_decide_eq_true c3
          subst c3
          exact ⟨_, _, _, lc⟩
        · cases c3
    · cases a3
  · cases a3
/-! ### the Hook -/
abbrev AlK : Type := AlD × (List FnX × Bool)
def asK (g : Addr → Option Obj) (n : Nat) : List Addr := asD g n ++ [cStatics]
def obsK (n : Nat) (file : Str) (fa : List Fa) (fn : List DefD) (xs : List XD) (tf : List Defn) (ex : PySem.W.Frag → Bool) (g : Addr → Option Obj) : AlK :=
  (obsD fa fn (frT g (asK g n)), (xs.map (fun d => fnXo (frT g (asK g n)) d.x), (xs.all fun d => xcB (frT g (asK g n)) file d) && (ex (frT g (asK g n)) && tabsB g tf (frT g (asK g n)))))
def valK (fn : List DefD) (xs : List XD) : AlK := (valD fn, (xs.map XD.val, true))
structure SaysK (file : Str) (fa : List Fa) (fn : List DefD) (xs : List XD) (tf : List Defn) (ex : PySem.W.Frag → Bool) (h : Heap) (K : PySem.W.Frag) : Prop where
  d : SaysD fa fn K
  x : ∀ d ∈ xs, fnXo K d.x = d.val ∧ xcB K file d = true
  more : ex K = true
  hd : ∀ p ∈ tf, PySem.W.codeHdIn K (cT K p).1 (cT K p).2 = true
  out : ∀ p ∈ tf, K.lookup (cT K p).2 = none
  empty : ∀ p ∈ tf, h.get? (cT K p).2 = some { cls := .none, data := .fields #[] }
theorem map_eq_mem {α β : Type} {f g : α → β} : ∀ {l : List α}, l.map f = l.map g → ∀ x ∈ l, f x = g x
  | [], _, _, h => nomatch h
  | y :: l, e, x, h => by
    obtain ⟨e1, e2⟩ := List.cons.inj e
    rcases List.mem_cons.mp h with z | z
    · rw [z]; exact e1
    · exact map_eq_mem e2 x z
theorem saysK_of {n : Nat} {file : Str} {fa : List Fa} {fn : List DefD} {xs : List XD} {tf : List Defn} {ex : PySem.W.Frag → Bool} {h : Heap} (e : obsK n file fa fn xs tf ex h.get? = valK fn xs) : SaysK file fa fn xs tf ex h (frT h.get? (asK h.get? n)) := by
  have e1 : obsD fa fn (frT h.get? (asK h.get? n)) = valD fn := congrArg (fun z : AlK => z.1) e
  have e2 : xs.map (fun d => fnXo (frT h.get? (asK h.get? n)) d.x) = xs.map XD.val := congrArg (fun z : AlK => z.2.1) e
  have e3 : ((xs.all fun d => xcB (frT h.get? (asK h.get? n)) file d) && (ex (frT h.get? (asK h.get? n)) && tabsB h.get? tf (frT h.get? (asK h.get? n)))) = true := congrArg (fun z : AlK => z.2.2) e
  obtain ⟨h0, h1⟩ := ba e3
  obtain ⟨h1, h2⟩ := ba h1
  have key : ∀ p ∈ tf, PySem.W.codeHdIn (frT h.get? (asK h.get? n)) (cT (frT h.get? (asK h.get? n)) p).1 (cT (frT h.get? (asK h.get? n)) p).2 = true ∧ ∃ o, h.get? (cT (frT h.get? (asK h.get? n)) p).2 = some o ∧ emptyTab o = true := fun p hp => by
    obtain ⟨h3, h4⟩ := ba (List.all_eq_true.mp h2 p hp)
    refine ⟨h3, ?_⟩
    cases q : h.get? (cT (frT h.get? (asK h.get? n)) p).2 with
    | none => rw [q] at h4; cases h4
    | some o => rw [q] at h4; exact ⟨o, rfl, h4⟩
  exact ⟨e1, fun d hd => ⟨map_eq_mem e2 d hd, List.all_eq_true.mp h0 d hd⟩, h1, fun p hp => (key p hp).1, fun p hp => by
    obtain ⟨_, o, q, z⟩ := key p hp
    exact frT_none q z, fun p hp => by
    obtain ⟨_, o, q, z⟩ := key p hp
    rw [q, emptyTab_eq z]⟩
def hookK (n : Nat) (file : Str) (fa : List Fa) (fn : List DefD) (xs : List XD) (tf : List Defn) (ex : PySem.W.Frag → Bool) : PySem.W.Hook where
  α := AlK
  obs := fun s => obsK n file fa fn xs tf ex s.heap.get?
  val := fun _ => valK fn xs
  says := fun _ h => ∃ K : PySem.W.Frag, K.In h ∧ SaysK file fa fn xs tf ex h K
  of := fun _ _ e => ⟨_, frT_in, saysK_of e⟩
  keeps := fun _ _ _ ⟨K, hK, c⟩ k => ⟨K, PySem.W.Frag.In.keeps hK k, ⟨c.d, c.x, c.more, c.hd, c.out, fun p hp => k _ _ (c.empty p hp)⟩⟩
theorem obsK_eq {n : Nat} {file : Str} {fa : List Fa} {fn : List DefD} {xs : List XD} {tf : List Defn} {ex : PySem.W.Frag → Bool} {g : Addr → Option Obj} {s : Shared} (h : ∀ a, g a = s.heap.get? a) : obsK n file fa fn xs tf ex g = (hookK n file fa fn xs tf ex).obs s := by
  have e : g = s.heap.get? := funext h
  rw [e] <;> rfl
/-! ### an own error class for those who raise it -/
theorem xcM_of {P : Program} {w : World} {K : PySem.W.Frag} {mg : Str → Option Value} {base : Heap} {d : XD} {f : Addr} {fd : FuncData} {okv : V → Prop} {N : List Str} (A : XcAll P K mg d f fd) (mgx : mg d.x = some (.ref (ga K d.x)))
    (FX : FnOk P w K mg base CX0 1 f fd N (spXI okv (ga K d.x) d.fld)) (hb : ∀ (kV doc pm : Value) (an : Option Addr) (cdv ct : Value) (cl : List (Str × Addr)) (us : List Value), us.length = N.length → bindArgs (PySem.W.fnX "__init__" d.qual d.params d.body d.scope cl .none kV doc pm an cdv ct) ⟨us, []⟩ = pure (N.zip us)) : XcM P w K mg base d.x (ga K d.x) d.fld okv := by
  obtain ⟨cda, cc, F⟩ := A.F
  refine ⟨F.oex, mgx, f, fd, N, FX, .all fun us hl => ?_, A.ini, A.ty⟩
  have hd := A.dfl
  obtain ⟨dV, kV, doc, pm, an, ct, rfl⟩ := F.fdE
  have e : dV = .none := hd
  subst e
  exact hb kV doc pm an _ ct _ us hl
/-! ### the end -/
def rLaw : List D → M → Prop := fun ds m => ∃ zs : List Int, zs.length ≤ 63 ∧ (∀ z ∈ zs, Builtin.Int.intBits z ≤ 1048576) ∧ ds = [.fls (zs.map D.int)] ∧ m = .im (.bl true)
theorem rpl_ints {K : PySem.W.Frag} {A : Hp} : ∀ ns : List Int, RpL K A (ns.map V.int) (ns.map D.int)
  | [] => .nil
  | n :: ns => .cons (.int n) (rpl_ints ns)
theorem sp_law {K : PySem.W.Frag} {cs : List Addr} {H : Hp} {a : Addr} {ns : List Int} {E : XK} (hl : ns.length ≤ 63) (hb : ∀ z ∈ ns, Builtin.Int.intBits z ≤ 1048576) (hT : ∀ p ∈ cs, H p = some (.tbl #[])) (hS : SqL K H a (ns.map V.int)) : spP K cs rLaw [.ref a] H (fun v _ => v = .bl true) E := by
  obtain ⟨A, hA⟩ : ∃ A : Hp, A = fun b => match H b with
    | some (.tbl _) => none
    | o => o := ⟨_, rfl⟩
  have a1 : ∀ b o, A b = some o → H b = some o ∧ noTab o := fun b o h => by
    rw [hA] at h
    dsimp only at h
    cases e : H b with
    | none => rw [e] at h; cases h
    | some u =>
      rw [e] at h
      cases u <;> first | (cases h; done) | (cases h; exact ⟨rfl, fun _ z => nomatch z⟩)
  have a2 : ∀ b o, H b = some o → noTab o → A b = some o := fun b o h n => by
    rw [hA]
    dsimp only
    rw [h]
    cases o <;> first | rfl | exact absurd rfl (n _)
  refine ⟨A, [.fls (ns.map D.int)], .im (.bl true), ⟨fun b o h => (a1 b o h).1, fun b o h => (a1 b o h).2, fun P hP => ⟨#[], hT P hP, ?_⟩⟩, .cons (.fls ?_ (rpl_ints ns)) .nil, ⟨ns, hl, hb, rfl, rfl⟩, fun v A2 H2 fp x r f n => ?_⟩
  · first | trivial | exact .nil | exact (fun _ h => nomatch h) | decide
  · rcases hS with (h | ⟨o, h⟩) | h
    · exact .inl (.inl (a2 _ _ h fun _ z => nomatch z))
    · exact .inl (.inr ⟨o, a2 _ _ h fun _ z => nomatch z⟩)
    · exact .inr h
  · cases r with
    | im r => cases r; rfl
theorem end_law {l : PySem.W.OpenLaw} {k : Nat} {q : Program} {loose : List Str} {XP : (Str → Option Value) → Heap → Prop} {YP : World → Heap → Prop} {d : DefRec} {x : Str}
    (hn : l.most = some 63) (hdf : d.params.defaults = []) (hr : Room k callerA)
    (F : ∀ (w : World) (mg : Str → Option Value) (fa : Addr) (h : Heap), YP w h → h.Ns mainGlobals mg → mg d.name = some (.ref fa) → ∃ K : PySem.W.Frag, K.In h ∧ ∃ (fd : FuncData) (cs : List (Addr × Addr)),
      (∀ p ∈ cs, h.get? p.2 = some { cls := .none, data := .fields #[] }) ∧ (∀ p ∈ cs, K.lookup p.2 = none) ∧ (∀ p ∈ cs, PySem.W.CodeHd h p.1 p.2) ∧ (∀ (s : Shared) (u : Value), BindsTo s fd ⟨[u], []⟩ [(x, u)]) ∧
      ∀ base : Heap, K.In base → base.Ns mainGlobals mg → (∀ p ∈ cs, LamX.TabB base mg p.1 p.2) → FnOk l.prog w K mg base CX0 k fa fd [x] (spP K (cs.map (·.2)) rLaw)) : PySem.W.WalkO q loose XP YP l.row.toRowW d [] (fun f vs => PySem.call f vs) :=
  LamX.walk_ofTsE (n := 63) (k := k) (x := x) (CX := fun _ => CX0) hn (by rw [sizeLine_eq]; decide) hdf hr (fun w mg fa h Y G hm => by
    obtain ⟨K, KX, fd, cs, t1, t2, t3, hb, hF⟩ := F w mg fa h Y G hm
    exact ⟨K, KX, fd, cs, spP K (cs.map (·.2)) rLaw, t1, t2, t3, hb, fun H a ns hl hbits hT hS => sp_law hl hbits (fun p hp => by
      obtain ⟨c, hc, rfl⟩ := List.mem_map.mp hp
      exact hT c hc) hS, hF⟩) fun _ _ _ _ _ z => z
end Kf

set_option maxHeartbeats 1000000
/-! Kf: views of what is owned. -/
namespace Kf
open PySem L2
/-- an expression that names what is owned: m stands at its worth, as long as nothing changes -/
def Vw (X : Cx) (T : List Addr) (e : Expr) (ρ : Rho) (m : M) : Prop := ∀ A H σ, Ok T A H → Sl X.K A H σ ρ → ∀ Q : VK, (∀ v A2 H2 fp, Ex0 A H A2 H2 → RM X.K A2 H2 v m fp → Q v H2) → tw X e σ H Q
section
variable {X : Cx} {T : List Addr} {ρ : Rho} {m : M} {d : D} {ds xs ys : List D} {i : Nat} {scope : Scope} {elt l t a b : Expr} {e o : Expr} {x f : Str} {pos p2 : Pos} {C : Addr} {ms : List (Str × M)} {K : PySem.W.Frag} {A H : Hp} {v : V} {fp : List Addr}
theorem vw_var {i : Nat} (h : PE X (.Name x pos) (tVar i)) (hr : ρ[i]? = some (some m)) : Vw X T (.Name x pos) ρ m := fun A H σ s l Q k pins st I => h.run pins st σ H Q I (by
  obtain ⟨v, fp, h1, h2⟩ := l i m hr
  exact ⟨v, h1, k v A H fp (Ext.refl s) h2⟩)
theorem vw_me (h : Me X T e ρ m) : Vw X T e ρ m := fun A H σ s l Q k => h A H σ s l Q fun v A2 H2 fp x r _ _ => k v A2 H2 fp x r
theorem ie_vw (h : Vw X T e ρ (.im d)) : Ie X T e ρ d := fun A H σ s l Q k => h A H σ s l Q fun v A2 H2 fp x r => by
  cases r with
  | im r => exact k v A2 H2 x r
/-- o.f -/
theorem vw_fld (h : Vw X T o ρ (.ob C ms)) (hl : ms.lookup f = some m) (hc : Cls X.K C) (hn : NoAttr X.K C f) (hb : attributeBase o f X.env (eval o X.env) = eval o X.env := by rfl) : Vw X T (.Attribute o f pos) ρ m :=
  fun A H σ s l Q k pins st I => (pe_fld pe_tw hb).run pins st σ H Q I (h A H σ s l _ fun v A1 H1 fp x1 r1 => by
    cases r1 with
    | @ob a _ dx fs _ fp0 e1 n1 r1 =>
    obtain ⟨v, p, h1, h2, _⟩ := (r1.look (f := f)).2 m hl
    exact ⟨_, C, _, _, v, rfl, e1, hc, hn, h1, k v A1 H1 p x1 h2⟩)
/-- a + b, a names an owned list -/
theorem me_addV (h1 : Vw X T a ρ (.ls xs)) (h2 : Me X T b ρ (.ls ys)) (hz : xs.length + ys.length ≤ sizeLine) : Me X T (.BinOp a .Add b pos) ρ (.ls (xs ++ ys)) :=
  me_of (pe_op op_cat pe_tw pe_tw) fun A H σ s l Q k => h1 A H σ s l _ fun v A1 H1 fp1 x1 r1 => h2 A1 H1 σ (x1.ok s) (l.step x1) _ fun u A2 H2 fp2 x2 r2 _ _ => by
    have r9 := r1.step0 x2
    cases r9 with
    | @ls p1 vs1 _ e1 n1 r8 =>
    cases r2 with
    | @ls p2 vs2 _ e2 n2 r7 =>
    exact ⟨_, _, _, _, rfl, rfl, e1, e2, by rw [r8.len, r7.len]; exact hz, fun p hp => (k.back (x1.tr0 x2)).ls (x2.ok (x1.ok s)) hp (r8.append r7)⟩
/-- a + b, both name owned lists -/
theorem me_addVV (h1 : Vw X T a ρ (.ls xs)) (h2 : Vw X T b ρ (.ls ys)) (hz : xs.length + ys.length ≤ sizeLine) : Me X T (.BinOp a .Add b pos) ρ (.ls (xs ++ ys)) :=
  me_of (pe_op op_cat pe_tw pe_tw) fun A H σ s l Q k => h1 A H σ s l _ fun v A1 H1 fp1 x1 r1 => h2 A1 H1 σ (x1.ok s) (l.step x1) _ fun u A2 H2 fp2 x2 r2 => by
    have r9 := r1.step0 x2
    cases r9 with
    | @ls p1 vs1 _ e1 n1 r8 =>
    cases r2 with
    | @ls p2 vs2 _ e2 n2 r7 =>
    exact ⟨_, _, _, _, rfl, rfl, e1, e2, by rw [r8.len, r7.len]; exact hz, fun p hp => (k.back (x1.tr0 x2)).ls (x2.ok (x1.ok s)) hp (r8.append r7)⟩
/-- a[i] -/
theorem ie_ixV {j : Int} (h1 : Vw X T a ρ (.ls xs)) (h2 : Ie X T b ρ (.int j)) (h : atI xs j = some d) (hs : PlainIx b := by exact fun _ _ => rfl) : Ie X T (.Subscript a b pos) ρ d :=
  ie_of (pe_ix ix_list pe_tw pe_tw hs) fun A H σ s l Q k => h1 A H σ s l _ fun v A1 H1 fp1 x1 r1 => h2 A1 H1 σ (x1.ok s) (l.step x1) _ fun u A2 H2 x2 r2 => by
    have r9 := r1.step0 x2
    cases r2
    cases r9 with
    | @ls p1 vs1 _ e1 n1 r8 =>
    obtain ⟨w, g1, g2⟩ := at_of r8 h
    exact ⟨_, _, _, w, rfl, rfl, SqL.of e1, g1, k w A2 H2 (x1.tr0 x2) g2⟩
/-- a[lo:hi] -/
theorem me_slV {lo hi : Option Expr} {l0 u0 : Option Int} (h1 : Vw X T a ρ (.ls xs)) (hl : Po X T lo ρ l0) (hu : Po X T hi ρ u0) : Me X T (.Subscript a (.Slice lo hi none p2) pos) ρ (.ls (cutD xs l0 u0)) := by
  have part : ∀ {o : Option Expr} {i : Option Int}, Po X T o ρ i → ∃ t : TO, PO X o t ∧ ∀ A H σ, Ok T A H → Sl X.K A H σ ρ → ∀ Q : Option Int → Hp → Prop, (∀ A2 H2, Ex0 A H A2 H2 → Q i H2) → t σ H Q := by
    intro o i h
    cases o with
    | none =>
      cases i with
      | none => exact ⟨_, po_none, fun A H σ s _ Q k => k A H (Ext.refl s)⟩
      | some _ => exact h.elim
    | some e =>
      cases i with
      | none => exact h.elim
      | some i => exact ⟨_, po_some pe_tw, fun A H σ s l Q k => h A H σ s l _ fun v A2 H2 x r => by cases r; exact ⟨i, rfl, k A2 H2 x⟩⟩
  obtain ⟨tl, pl, ql⟩ := part hl
  obtain ⟨tu, pu, qu⟩ := part hu
  exact me_of (pe_slice sl_list pe_tw pl pu) fun A H σ s l Q k => h1 A H σ s l _ fun v A1 H1 fp1 x1 r1 => ql A1 H1 σ (x1.ok s) (l.step x1) _ fun A2 H2 x2 => qu A2 H2 σ (x2.ok (x1.ok s)) ((l.step x1).step x2) _ fun A3 H3 x3 => by
    have r9 := (r1.step0 x2).step0 x3
    cases r9 with
    | @ls p1 vs1 _ e1 n1 r8 =>
    exact ⟨_, _, rfl, SqL.of e1, fun p hp => (k.back ((x1.tr0 x2).tr0 x3)).ls (x3.ok (x2.ok (x1.ok s))) hp (r8.cut l0 u0)⟩
theorem den_lcV (hl : Vw X T l ρ (.ls ds)) (f : D → D) (hz : ds.length < sizeLine)     (he : ∀ d ∈ ds, Be X T scope elt ((ρ.set i none).set i (some (.im d))) (f d)) : Dln T X.K i (tLc (iList X.K (tw X l)) (gName i) tYes (twB X scope elt) [i]) ρ (.ls (ds.map f)) := by
  intro A H σ s l0 hσ Q k
  refine (hl A H σ s l0 _ fun v A1 H1 fp1 x1 r1 => ?_)
  cases r1 with
  | @ls a xs _ e1 n1 r1 =>
  refine ⟨a, rfl, ⟨xs, SqL.of e1⟩, fun Dl hD => lc_list (xs := xs) (fun j H => Acc X.K T A1 H1 Dl ((ds.take j).map f) H) (Acc.first (x1.ok s) hD) ?_ ?_ ?_⟩
  · rintro j H _ ⟨A2, acc, ok, x, _⟩
    exact SqL.of (x.same _ _ e1 fun _ z => nomatch z)
  · rintro j y H hj ⟨A2, acc, ok, x, n, ha, ra⟩
    obtain ⟨d, hd, rd⟩ := r1.of hj
    refine ⟨?_, ?_⟩
    · show ((σ.set i none).set i (some y)).set i none = σ.set i none
      rw [List.set_set, List.set_set]
    · refine tyes ?_
      rw [if_pos rfl]
      refine (he d (List.mem_of_getElem? hd)).did A2 H _ ok (((l0.step x1).step x).blk (rd.mono x.aa) hσ) _ fun v2 A3 H3 x3 r3 => ?_
      refine ⟨acc, x3.same _ _ ha (fun _ z => nomatch z), ?_, ?_⟩
      · rw [ra.len, List.length_map, List.length_take]
        omega
      · have q := Acc.more hD x n ha ra x3 (x3.ok ok) r3
        have e2 : (ds.take (j + 1)).map f = (ds.take j).map f ++ [f d] := by
          rw [List.take_add_one, hd, List.map_append]
          rfl
        rw [e2]
        exact q
  · intro H h
    rw [r1.len, List.take_length] at h
    exact h.out hD (k.back x1)

theorem den_lcfV (hl : Vw X T l ρ (.ls ds)) (f : D → D) (g : D → Bool) (hz : ds.length < sizeLine)     (ht : ∀ d ∈ ds, Bt X T scope t ((ρ.set i none).set i (some (.im d))) (g d)) (he : ∀ d ∈ ds, g d = true → Be X T scope elt ((ρ.set i none).set i (some (.im d))) (f d)) : Dln T X.K i (tLc (iList X.K (tw X l)) (gName i) (twBT X scope t) (twB X scope elt) [i]) ρ (.ls ((ds.filter g).map f)) := by
  intro A H σ s l0 hσ Q k
  refine (hl A H σ s l0 _ fun v A1 H1 fp1 x1 r1 => ?_)
  cases r1 with
  | @ls a xs _ e1 n1 r1 =>
  refine ⟨a, rfl, ⟨xs, SqL.of e1⟩, fun Dl hD => lc_list (xs := xs) (fun j H => Acc X.K T A1 H1 Dl (((ds.take j).filter g).map f) H) (Acc.first (x1.ok s) hD) ?_ ?_ ?_⟩
  · rintro j H _ ⟨A2, acc, ok, x, _⟩
    exact SqL.of (x.same _ _ e1 fun _ z => nomatch z)
  · rintro j y H hj ⟨A2, acc, ok, x, n, ha, ra⟩
    obtain ⟨d, hd, rd⟩ := r1.of hj
    have e2 : ds.take (j + 1) = ds.take j ++ [d] := by rw [List.take_add_one, hd]; rfl
    refine ⟨?_, ?_⟩
    · show ((σ.set i none).set i (some y)).set i none = σ.set i none
      rw [List.set_set, List.set_set]
    · refine (ht d (List.mem_of_getElem? hd)).dit A2 H _ ok (((l0.step x1).step x).blk (rd.mono x.aa) hσ) _ fun A3 H3 x3 => ?_
      cases hg : g d with
      | false =>
        rw [if_neg Bool.false_ne_true]
        refine ⟨A3, acc, x3.ok ok, x.tr0 x3, (x3.nw Dl (by rw [ha]; simp)).trans n, x3.same _ _ ha (fun _ z => nomatch z), ?_⟩
        rw [e2, List.filter_append, List.filter_cons, if_neg (by rw [hg]; exact Bool.false_ne_true), List.filter_nil, List.append_nil]
        exact ra.mono x3.aa
      | true =>
        rw [if_pos rfl]
        refine (he d (List.mem_of_getElem? hd) hg).did A3 H3 _ (x3.ok ok) ((((l0.step x1).step x).step x3).blk ((rd.mono x.aa).mono x3.aa) hσ) _ fun v2 A4 H4 x4 r4 => ?_
        have ha3 := x3.same _ _ ha (fun _ z => nomatch z)
        refine ⟨acc, x4.same _ _ ha3 (fun _ z => nomatch z), ?_, ?_⟩
        · rw [ra.len, List.length_map]
          have h9 := List.length_filter_le g (ds.take j)
          rw [List.length_take] at h9
          omega
        · have q := Acc.more hD (x.tr0 x3) ((x3.nw Dl (by rw [ha]; simp)).trans n) ha3 (ra.mono x3.aa) x4 (x4.ok (x3.ok ok)) r4
          rw [e2, List.filter_append, List.filter_cons, if_pos hg, List.filter_nil, List.map_append]
          exact q
  · intro H h
    rw [r1.len, List.take_length] at h
    exact h.out hD (k.back x1)

end
/-! ### slices and conversions of tuples -/
section
variable {X : Cx} {T : List Addr} {xs ys : List D} {i j : Int}
theorem cutD_all {α : Type} {xs : List α} {lo hi : Option Int} (h1 : HT.sIx xs.length 0 lo = 0) (h2 : HT.sIx xs.length xs.length hi = xs.length) : cutD xs lo hi = xs := by
  unfold cutD
  rw [h1, h2, List.drop_zero, Nat.sub_zero, List.take_length]
theorem sc_t {lo hi : Option Int} : Sc X T (.tup xs) lo hi (.im (.tup (cutD xs lo hi))) := ⟨_, sl_tupA, fun A H v s rv Q k => by
  cases rv with
  | tup e1 r1 =>
    refine ⟨_, _, rfl, seqT_mono s.s e1, fun w => ?_, fun w p hp => k.tup s hp (r1.cut lo hi)⟩
    rw [r1.len] at w
    rw [cutD_all w.1 w.2] at k
    exact k.now s (.tup e1 r1)⟩
theorem cl_listT : Cl X T (.type "list") [.tup xs] (.ls xs) := ⟨_, call_list_of, fun A H vs s r Q k => by
  obtain ⟨v, rfl, r0⟩ := r.one
  cases r0 with
  | tup e1 r1 => exact ⟨_, _, rfl, .inr (seqT_mono s.s e1), fun p hp => k.ls s hp r1⟩⟩
theorem cl_tupT : Cl X T (.type "tuple") [.tup xs] (.im (.tup xs)) := ⟨_, call_tuple_of, fun A H vs s r Q k => by
  obtain ⟨v, rfl, r0⟩ := r.one
  cases r0 with
  | tup e1 r1 => exact ⟨_, _, rfl, .inr ⟨seqT_mono s.s e1, k.now s (.tup e1 r1)⟩⟩⟩
theorem cl_min2 (hc : X.calm = true) : Cl X T (.builtin "min") [.int i, .int j] (.im (.int (min i j))) := ⟨_, call_min2 hc, fun A H vs s r Q k => by
  cases r with
  | cons r1 r =>
  cases r with
  | cons r2 r =>
  cases r
  cases r1
  cases r2
  refine ⟨i, j, rfl, ?_⟩
  have e : (if j < i then j else i) = min i j := by omega
  rw [e]
  exact k.now s (.int _)⟩
theorem o_addT (hx : xs ≠ []) (h : xs.length + ys.length ≤ sizeLine) : Op X T (binaryOp .Add) (.tup xs) (.tup ys) (.im (.tup (xs ++ ys))) := op_of op_catT fun A H v u s rv ru Q k => by
  have rv0 := rv
  cases rv with
  | @tup a vs _ e1 r1 =>
  cases ru with
  | @tup b us _ e2 r2 =>
  refine ⟨a, b, vs, us, rfl, rfl, seqT_mono s.s e1, seqT_mono s.s e2, fun z => hx ?_, by rw [r1.len, r2.len]; exact h, fun z => ?_, fun _ p hp => k.tup s hp (r1.append r2)⟩
  · subst z; cases r1; rfl
  · subst z
    cases r2
    rw [List.append_nil] at k
    exact k.now s rv0
/-! ### truth -/
def tru : D → Option Bool
  | .non => some false
  | .bl b => some b
  | .int i => some (i != 0)
  | .lst xs => some (!xs.isEmpty)
  | .fls xs => some (!xs.isEmpty)
  | .tup xs => some (!xs.isEmpty)
  | _ => none
theorem RpL.emp {K : PySem.W.Frag} {A : Hp} {vs : List V} {ds : List D} (r : RpL K A vs ds) : vs.isEmpty = ds.isEmpty := by cases r <;> rfl
theorem Rp.tru {K : PySem.W.Frag} {A H : Hp} {v : V} {d : D} {k : Bool} (s : Same A H) (r : Rp K A v d) (h : tru d = some k) : TruV K v H k := by
  cases r with
  | non => exact (Option.some.inj h).symm
  | bl => exact (Option.some.inj h).symm
  | int => exact (Option.some.inj h).symm
  | str => cases h
  | lst e r => exact .inl ⟨_, SqL.of (s _ _ e), by rw [r.emp]; exact (Option.some.inj h).symm⟩
  | fls e r => exact .inl ⟨_, s.seq e, by rw [r.emp]; exact (Option.some.inj h).symm⟩
  | tup e r => exact .inr (.inl ⟨_, seqT_mono s e, by rw [r.emp]; exact (Option.some.inj h).symm⟩)
  | dic => cases h
  | ins => cases h
theorem te_tru {e : Expr} {ρ : Rho} {d : D} {k : Bool} (h : Ie X T e ρ d) (ht : tru d = some k) (he : ∀ whole, isTrue e X.env whole = (do let v ← whole; standAt e.pos; holding [v] (truthy v)) := by intro _; rfl) : Te X T e ρ k :=
  te_of (pt_truth pe_tw he) fun A H σ s l Q q => h A H σ s l _ fun v A2 H2 x r => ⟨k, r.tru (x.ok s).s ht, q A2 H2 x⟩
/-- .. of an owned list -/
theorem te_truV {e : Expr} {ρ : Rho} (h : Vw X T e ρ (.ls xs)) (he : ∀ whole, isTrue e X.env whole = (do let v ← whole; standAt e.pos; holding [v] (truthy v)) := by intro _; rfl) : Te X T e ρ (!xs.isEmpty) :=
  te_of (pt_truth pe_tw he) fun A H σ s l Q q => h A H σ s l _ fun v A2 H2 fp x r => by
    cases r with
    | @ls p1 vs1 _ e1 n1 r1 => exact ⟨_, .inl ⟨_, SqL.of e1, by rw [r1.emp]⟩, q A2 H2 x⟩
/-! ### isinstance -/
/-- an own class whose instances are asked -/
structure TyC (K : PySem.W.Frag) (C : Addr) : Prop where
  cl : Cls K C
  ha : PySem.W.findIn K (.ref C) "__class__" = some (some (.builtin "object.__class__"))
  hn : PySem.W.specialIn K (.builtin "object.__class__") "__get__" = some (some (.builtin "getset_descriptor.__get__"))
  tk : PySem.W.takesIn K (.builtin "object.__class__") = some true
  hm : PySem.W.mroIn K C (.type "object") = some true
def tyD : D → Value
  | .non => .type "NoneType"
  | .bl _ => .type "bool"
  | .int _ => .type "int"
  | .str _ => .type "str"
  | .lst _ => .type "list"
  | .fls _ => .type "list"
  | .tup _ => .type "tuple"
  | .dic _ => .type "dict"
  | .ins C _ => .ref C
theorem Rp.ty {K : PySem.W.Frag} {A H : Hp} {v : V} {d : D} (s : Same A H) (r : Rp K A v d) (hc : ∀ C fs, d = .ins C fs → TyC K C) : TyX K H v (tyD d) := by
  cases r with
  | non => exact .base .non
  | bl b => exact .base (.bl b)
  | int i => exact .base (.int i)
  | str x => exact .base (.str x)
  | lst e r => exact .base (.lst (s _ _ e))
  | fls e r =>
    rcases s.seq e with (e | ⟨o, e⟩) | ⟨o, its, n, e, h1, _⟩
    · exact .base (.lst e)
    · exact .base (.frz e)
    · exact .kList e h1
  | tup e r =>
    rcases seqT_mono s e with (e | ⟨o, e⟩) | ⟨o, its, n, e, h1, _⟩
    · exact .base (.tup e)
    · exact .fTuple e
    · exact .kTuple e h1
  | dic e r => exact .base (.dK (s _ _ e))
  | ins e r =>
    obtain ⟨c1, c2, c3, c4, c5⟩ := hc _ _ rfl
    exact .base (.ins (s _ _ e) c1 c2 c3 c4 c5)
/-- isinstance(e, c), c the name of a class of one's own or a built-in one -/
theorem ie_isiC {e : Expr} {ρ : Rho} {d : D} {k : Bool} {x : Str} {C : Addr} {p p2 pos : Pos} (h : Ie X T e ρ d) (hm : X.mg x = some (.ref C)) (hk : PySem.W.kitOne X.K (tyD d) (.ref C) = some k) (hi : X.mg "isinstance" = none) (hc : ∀ C fs, d = .ins C fs → TyC X.K C) (hg : Gl X x := by rfl) (hg2 : Gl X "isinstance" := by rfl) (hd : (x == ("__debug__" : Str)) = false := by decide)
    (hs : starEach [e, .Name x p2] X.env = (false, eval e X.env) :: starEach [.Name x p2] X.env := by rfl) (hs2 : starEach [.Name x p2] X.env = (false, eval (.Name x p2) X.env) :: starEach [] X.env := by rfl) (hpl : (backTo pos (starEach [.Name x p2] X.env)).any (·.1) = false := by rfl) : Ie X T (.Call (.Name "isinstance" p) [e, .Name x p2] [] pos) ρ (.bl k) :=
  ie_of (pe_callB call_isi hg2 hi (by decide +kernel) (pa_cons pe_tw (pa_cons (pe_glob hg hm (v := .ref C) rfl hd) pa_nil hs2) hs) (by decide) (by decide) hs hpl) fun A H σ s l Q q => h A H σ s l _ fun v A2 H2 x r =>
    ⟨v, .ref C, tyD d, .ref C, k, rfl, .own C, r.ty (x.ok s).s hc, hk, q _ A2 H2 x (.bl _)⟩
theorem ie_isiT {e : Expr} {ρ : Rho} {d : D} {k : Bool} {x : Str} {n : String} {p p2 pos : Pos} (h : Ie X T e ρ d) (hm : X.mg x = none) (hv : bootBuiltins x = some (.type n)) (hk : PySem.W.kitOne X.K (tyD d) (.type n) = some k) (hi : X.mg "isinstance" = none) (hc : ∀ C fs, d = .ins C fs → TyC X.K C) (hg : Gl X x := by rfl) (hg2 : Gl X "isinstance" := by rfl) (hnn : x ≠ "__name__" := by decide) (hd : (x == ("__debug__" : Str)) = false := by decide)
    (hs : starEach [e, .Name x p2] X.env = (false, eval e X.env) :: starEach [.Name x p2] X.env := by rfl) (hs2 : starEach [.Name x p2] X.env = (false, eval (.Name x p2) X.env) :: starEach [] X.env := by rfl) (hpl : (backTo pos (starEach [.Name x p2] X.env)).any (·.1) = false := by rfl) : Ie X T (.Call (.Name "isinstance" p) [e, .Name x p2] [] pos) ρ (.bl k) :=
  ie_of (pe_callB call_isi hg2 hi (by decide +kernel) (pa_cons pe_tw (pa_cons (pe_bltn hg hm hv (v := .ty n) rfl hnn hd) pa_nil hs2) hs) (by decide) (by decide) hs hpl) fun A H σ s l Q q => h A H σ s l _ fun v A2 H2 x r =>
    ⟨v, .ty n, tyD d, .type n, k, rfl, .ty n, r.ty (x.ok s).s hc, hk, q _ A2 H2 x (.bl _)⟩
end
end Kf

set_option maxHeartbeats 1000000
/-! Kf: more that changes what is held. -/
namespace Kf
open PySem L2
section
variable {c : Fc} {W : WX} {D : Ends} {ρ ρ' ρ1 ρ2 : Rhm} {e o : Expr} {es : List Expr} {m : M} {d : Kf.D} {ds xs : List Kf.D} {i : Nat} {st : Stmt} {A H : Hp} {σ : L2.St} {fp q : List Addr} {v : V} {f x : Str} {C : Addr} {pos p : Pos} {k : Nat} {rel : M → List Kf.D → Om → Prop} {m' : M}
/-- what is new is frozen -/
theorem Es.frzq (es : Es c A H σ ρ fp) (r : RM c.X.K A H v m q) (f : ∀ a ∈ q, a ∉ fp ∧ c.H0 a = none) : ∃ A', Es c A' H σ ρ fp ∧ Same A A' ∧ Rp c.X.K A' v (frz m) := by
  have t := r.there
  obtain ⟨g1, g2⟩ := glue_ok es.ok t
  refine ⟨glue A H q, ⟨g2, es.x.glued t fun a z => (f a z).2, ?_, es.nd, es.own, fun B h => (es.pn B h).trans g1, es.fix⟩, g1, r.frz g1 fun a z => glue_in z⟩
  exact Sls.mono g1 es.sl (fun a z => rfl) fun a z => by
    rw [glue_out fun w => (f a w).1 z]
    exact (es.sl.there a z).1
theorem eo_frz (h : Eo c W e ρ (.ret m ρ')) : Eo c W e ρ (.ret (.im (frz m)) ρ') := fun A H σ fp es Q k => h A H σ fp es Q fun v A2 H2 q fp2 es2 s2 r n f => by
  obtain ⟨A3, es3, s3, r3⟩ := es2.frzq r f
  exact k v A3 H2 [] fp2 es3 (s2.trans s3) (.im r3) List.nodup_nil fun _ z => nomatch z
/-- a slot's thing becomes data -/
theorem nx_frz {P : L2.St → Hp → Prop} (hi : ρ[i]? = some (some m)) (hF : c.F = []) (q : Nx c P (ρ.set i (some (.im (frz m))))) : Nx c P ρ := fun A H σ fp es => by
  obtain ⟨v, p, h1, h2, h3, h4, h5⟩ := es.sl.alter i hi es.nd
  have t := h2.there
  obtain ⟨g1, g2⟩ := glue_ok es.ok t
  obtain ⟨fp', q1, q2, q3⟩ := h5 (glue A H p) H (.im (frz m)) [] g1 (fun a z w => ⟨rfl, by rw [glue_out w]; exact (es.sl.there a z).1⟩) (.im (h2.frz g1 fun a z => glue_in z)) List.nodup_nil fun _ z => nomatch z
  refine q (glue A H p) H σ fp' ⟨g2, ?_, q1, q2, fun a z => es.own a ?_, fun B h => (es.pn B h).trans g1, es.fix⟩
  · refine ⟨es.x.aa.trans g1, es.x.hh, g2.s, g2.nt, fun a w => ?_, es.x.dm, es.x.tb⟩
    by_cases z : a ∈ p
    · rcases es.own a (h3 a z) with u | u
      · rw [hF] at u; cases u
      · exact absurd u w
    · rw [glue_out z]; exact es.x.nw a w
  · rcases q3 a z with w | w
    · cases w
    · exact w.1
/-- xs.pop(), xs an owned list's name -/
theorem RpL.last {K : PySem.W.Frag} {A : Hp} {vs : List V} (r : RpL K A vs ds) (h : ds[ds.length - 1]? = some d) : ∃ y, vs[vs.length - 1]? = some y ∧ Rp K A y d := by
  rw [r.len]
  exact r.get h
theorem RpL.dropLast {K : PySem.W.Frag} {A : Hp} {vs : List V} (r : RpL K A vs ds) : RpL K A vs.dropLast ds.dropLast := by
  rw [List.dropLast_eq_take, List.dropLast_eq_take, r.len]
  exact r.take _
theorem eo_pop (hpe : PE c.X e (tBM0 c.X.K "list" rPop (tVar i))) (hi : ρ[i]? = some (some (.ls ds))) (hl : ds[ds.length - 1]? = some d) : Eo c W e ρ (.ret (.im d) (ρ.set i (some (.ls ds.dropLast)))) := fun A H σ fp es Q k pins s I => by
  obtain ⟨v, p, h1, h2, h3, h4, h5⟩ := es.alter hi
  cases h2 with
  | @ls a xs _ e1 n1 r1 =>
  obtain ⟨y, hy, ry⟩ := r1.last hl
  have mx := ext_mut (o' := .lst xs.dropLast) es.ok e1 trivial n1
  obtain ⟨fp', es', _⟩ := h5 A _ (.ls ds.dropLast) [a] mx (.ls upd_same n1 r1.dropLast) (by simp) fun b z => .inl z
  exact hpe.run pins s σ H Q I ⟨_, h1, .inl ⟨rfl, xs, SqL.of e1⟩, a, xs, y, rfl, rfl, e1, hy, k y A _ [] fp' es' (Same.refl _) (.im ry) List.nodup_nil fun _ z => nomatch z⟩
/-- e.f, e changes what is held -/
theorem eo_fld {fs : List (Str × Kf.D)} (h : Eo c W o ρ (.ret (.im (.ins C fs)) ρ')) (hl : fs.lookup f = some d) (hc : Cls c.X.K C) (hn : NoAttr c.X.K C f) (hb : attributeBase o f c.X.env (eval o c.X.env) = eval o c.X.env := by rfl) : Eo c W (.Attribute o f pos) ρ (.ret (.im d) ρ') := fun A H σ fp es Q k pins s I =>
  (pe_fld pe_tw hb).run pins s σ H Q I (h A H σ fp es _ fun v A1 H1 q1 fp1 es1 s1 r1 _ _ => by
    cases r1 with
    | im r1 =>
    cases r1 with
    | @ins a _ dx vs _ e1 r1 =>
    obtain ⟨v, g1, g2⟩ := r1.look hl
    exact ⟨a, C, dx, vs, v, rfl, es1.ok.s _ _ e1, hc, hn, g1, k v A1 H1 [] fp1 es1 s1 (.im g2) List.nodup_nil fun _ z => nomatch z⟩)
/-! ### arguments that change what is held -/
def Ea (c : Fc) (es : List Expr) (ρ : Rhm) (ds : List Kf.D) (ρ' : Rhm) : Prop := ∀ A H σ fp, Es c A H σ ρ fp → ∀ Q : List V → Hp → Prop, (∀ vs A2 H2 fp', Es c A2 H2 σ ρ' fp' → Same A A2 → RpL c.X.K A2 vs ds → Q vs H2) → twA c.X es σ H Q
theorem ea_of (h : As c.X c.T es ρ ds) : Ea c es ρ ds ρ := fun A H σ fp es' Q q => h A H σ es'.ok es'.sl.sl Q fun vs A2 H2 x r => q vs A2 H2 fp (es'.step0 x) x.aa r
theorem ea_cons (h : Eo c wNo e ρ (.ret (.im d) ρ1)) (hr : Ea c es ρ1 ds ρ2) (hs : starEach (e :: es) c.X.env = (false, eval e c.X.env) :: starEach es c.X.env := by rfl) : Ea c (e :: es) ρ (d :: ds) ρ2 := fun A H σ fp es' Q q pos pins s I =>
  (pa_cons pe_tw pa_tw hs).run pos pins s σ H Q I (h A H σ fp es' _ fun v A1 H1 q1 fp1 es1 s1 r1 _ _ => hr A1 H1 σ fp1 es1 _ fun vs A2 H2 fp2 es2 s2 r2 => by
    cases r1 with
    | im r1 => exact q _ A2 H2 fp2 es2 (s1.trans s2) (.cons (r1.mono s2) r2))
/-- C(e, ..), the arguments change what is held -/
theorem eo_make (G : MkM c.X.prog c.X.w c.X.K c.X.mg c.X.base c.T x C k rel) (ha : Ea c (e :: es) ρ ds ρ') (h : rel (.ob C []) ds (.ret (.im .non) m')) (hr : Room (k + 1) c.X.A) (hg : Gl c.X x := by rfl) (hd : (x == ("__debug__" : Str)) = false := by decide)
    (hs : starEach (e :: es) c.X.env = (false, eval e c.X.env) :: starEach es c.X.env := by rfl) (hpl : (backTo pos (starEach es c.X.env)).any (·.1) = false := by rfl) : Eo c W (.Call (.Name x p) (e :: es) [] pos) ρ (.ret m' ρ') := fun A H σ fp es' Q q pins s I => by
  obtain ⟨f, fd, ps, F, hm, hk, hb⟩ := G.ex
  refine (pe_make hk F hr hg hm hb .nil passes_no pa_tw hd hs hpl).run pins s σ H Q I (ha A H σ fp es' _ fun vs A1 H1 fp1 es1 s1 r1 a dx na nd ne => ?_)
  rw [List.append_nil]
  refine made es1.ok r1 h (fun v A2 H2 fp2 x2 r2 f2 n2 => ?_) a dx na nd ne
  have es2 := es1.step0 x2
  exact q v A2 H2 fp2 fp1 es2 (s1.trans x2.aa) r2 n2 fun b z => ⟨fun w => es1.live b w (f2 b z), fresh_back es1.x f2 b z⟩
end
/-! ### changes below -/
def putG {κ : Type} [DecidableEq κ] (f : κ) (m : M) : List (κ × M) → List (κ × M)
  | [] => []
  | (g, x) :: r => if g = f then (g, m) :: r else (g, x) :: putG f m r
/-- the thing under the key f is altered at its own places -/
theorem RMs.alter {K : PySem.W.Frag} {A H : Hp} {κ : Type} [DecidableEq κ] {f : κ} {m : M} : ∀ {fs : List (κ × V)} {ms : List (κ × M)} {fp : List Addr}, RMs K A H κ fs ms fp → ms.lookup f = some m → fp.Nodup →
    ∃ v p, fs.lookup f = some v ∧ RM K A H v m p ∧ (∀ a ∈ p, a ∈ fp) ∧ p.Nodup ∧ ∀ A' H' m' p', Same A A' → (∀ a ∈ fp, a ∉ p → H' a = H a ∧ A' a = none) → RM K A' H' v m' p' → p'.Nodup → (∀ a ∈ p', a ∈ p ∨ a ∉ fp) →
      ∃ fp', RMs K A' H' κ fs (putG f m' ms) fp' ∧ fp'.Nodup ∧ ∀ a ∈ fp', a ∈ p' ∨ (a ∈ fp ∧ a ∉ p)
  | _, _, _, .nil, h, _ => by cases h
  | _, _, _, .cons (k := k) (v := v) (m := m0) (p := p0) (q := fp) h0 r, h, n => by
    obtain ⟨n1, n2, n3⟩ := List.nodup_append.mp n
    rw [List.lookup_cons] at h
    by_cases e : k = f
    · subst e
      rw [beq_self_eq_true] at h
      have e0 : m0 = m := Option.some.inj h
      subst e0
      refine ⟨v, p0, by rw [List.lookup_cons, beq_self_eq_true], h0, fun a z => List.mem_append_left _ z, n1, fun A' H' m' p' e k2 r' n' d => ?_⟩
      have out : ∀ a ∈ fp, a ∉ p0 := fun a z w => n3 a w a z rfl
      unfold putG
      rw [if_pos rfl]
      refine ⟨p' ++ fp, .cons r' (RMs.mono e r (fun a z => (k2 a (List.mem_append_right _ z) (out a z)).1) fun a z => (k2 a (List.mem_append_right _ z) (out a z)).2), List.nodup_append.mpr ⟨n', n2, fun a ha b hb q => ?_⟩, fun a z => ?_⟩
      · subst q
        rcases d a ha with z | z
        · exact out a hb z
        · exact z (List.mem_append_right _ hb)
      · rcases List.mem_append.mp z with z | z
        · exact .inl z
        · exact .inr ⟨List.mem_append_right _ z, out a z⟩
    · have ne : (f == k) = false := by simpa using fun z : f = k => e z.symm
      rw [ne] at h
      obtain ⟨v', p, h1, h2, h3, h4, h5⟩ := RMs.alter r h n2
      have out : ∀ a ∈ p0, a ∉ p := fun a z w => n3 a z a (h3 a w) rfl
      refine ⟨v', p, by rw [List.lookup_cons, ne]; exact h1, h2, fun a z => List.mem_append_right _ (h3 a z), h4, fun A' H' m' p' e2 k2 r' n' d => ?_⟩
      obtain ⟨fp', q1, q2, q3⟩ := h5 A' H' m' p' e2 (fun a z w => k2 a (List.mem_append_right _ z) w) r' n' fun a z => (d a z).imp id fun w u => w (List.mem_append_right _ u)
      unfold putG
      rw [if_neg e]
      refine ⟨p0 ++ fp', .cons (h0.mono e2 (fun a z => (k2 a (List.mem_append_left _ z) (out a z)).1) fun a z => (k2 a (List.mem_append_left _ z) (out a z)).2) q1, List.nodup_append.mpr ⟨n1, q2, fun a ha b hb q => ?_⟩, fun a z => ?_⟩
      · subst q
        rcases q3 a hb with z | z
        · rcases d a z with w | w
          · exact out a ha w
          · exact w (List.mem_append_left _ ha)
        · exact n3 a ha a z.1 rfl
      · rcases List.mem_append.mp z with z | z
        · exact .inr ⟨List.mem_append_left _ z, out a z⟩
        · exact (q3 a z).imp id fun w => ⟨List.mem_append_right _ w.1, w.2⟩
/-- the field f of an instance of one's own, altered -/
theorem RM.alterF {K : PySem.W.Frag} {A H : Hp} {v0 : V} {C : Addr} {ms : List (Str × M)} {fp : List Addr} {f : Str} {m : M} (r : RM K A H v0 (.ob C ms) fp) (h : ms.lookup f = some m) (n : fp.Nodup) :
    ∃ a dx fs v p, v0 = .ref a ∧ H a = some (.ins C dx fs) ∧ fs.lookup f = some v ∧ RM K A H v m p ∧ (∀ b ∈ p, b ∈ fp) ∧ p.Nodup ∧ ∀ A' H' m' p', Ext p A H A' H' → RM K A' H' v m' p' → p'.Nodup → (∀ b ∈ p', b ∈ p ∨ H b = none) →
      ∃ fp', RM K A' H' v0 (.ob C (putG f m' ms)) fp' ∧ fp'.Nodup ∧ ∀ b ∈ fp', b ∈ p' ∨ b ∈ fp := by
  have th := r.there
  cases r with
  | @ob a _ dx fs _ fp0 e1 n1 r1 =>
  obtain ⟨n3, n4⟩ := List.nodup_cons.mp n
  obtain ⟨v, p, h1, h2, h3, h4, h5⟩ := RMs.alter r1 h n4
  refine ⟨a, dx, fs, v, p, rfl, e1, h1, h2, fun b z => List.mem_cons_of_mem _ (h3 b z), h4, fun A' H' m' p' x r' n' d => ?_⟩
  have live : ∀ b ∈ a :: fp0, H b ≠ none := fun b z w => by
    have q := (th b z).2
    rw [w] at q
    exact q
  have keep : ∀ b ∈ a :: fp0, b ∉ p → H' b = H b ∧ A' b = none := fun b z w => by
    refine ⟨?_, (x.nw b (live b z)).trans (th b z).1⟩
    have t2 := (th b z).2
    cases q : H b with
    | none => exact absurd q (live b z)
    | some o =>
      rw [q] at t2
      exact x.hh b o q (mut_noTab t2) w
  obtain ⟨fp', q1, q2, q3⟩ := h5 A' H' m' p' x.aa (fun b z w => keep b (List.mem_cons_of_mem _ z) w) r' n' fun b z => (d b z).imp id fun w u => live b (List.mem_cons_of_mem _ u) w
  have ap : a ∉ p := fun z => n3 (h3 a z)
  obtain ⟨k1, k2⟩ := keep a (List.mem_cons_self ..) ap
  have afp : a ∉ fp' := fun z => by
    rcases q3 a z with w | w
    · rcases d a w with u | u
      · exact ap u
      · exact live a (List.mem_cons_self ..) u
    · exact n3 w.1
  refine ⟨a :: fp', .ob (k1.trans e1) k2 q1, List.nodup_cons.mpr ⟨afp, q2⟩, fun b z => ?_⟩
  rcases List.mem_cons.mp z with w | w
  · exact .inr (w ▸ List.mem_cons_self ..)
  · exact (q3 b w).imp id fun u => List.mem_cons_of_mem _ u.1
section
variable {c : Fc} {D : Ends} {ρ : Rhm} {e : Expr} {d : Kf.D} {ds : List Kf.D} {i : Nat} {f : Str} {C : Addr} {ms : List (Str × M)} {st : Stmt}
/-- x.f.append(e), x the name of slot i -/
theorem ss_appF (hps : PS c.X st (tDrop (tBM c.X.K "list" rAppend (tFld c.X.K (tVar i) f) (tCons (tw c.X e) tNil)))) (hr : ρ[i]? = some (some (.ob C ms))) (hm : ms.lookup f = some (.ls ds)) (hc : Cls c.X.K C) (hn : NoAttr c.X.K C f) (h : Asks c ρ e (.im d)) (hz : ds.length < sizeLine) (q : Nx c D.nx (ρ.set i (some (.ob C (putG f (.ls (ds ++ [d])) ms))))) : Ss c st D ρ :=
  ss_of hps fun A H σ fp es => by
    obtain ⟨v0, p0, h1, h2, h3, h4, h5⟩ := es.alter hr
    obtain ⟨a, dx, fs, v, p, rfl, g1, g2, g3, g4, g5, g6⟩ := h2.alterF hm h3
    have g3' := g3
    cases g3 with
    | @ls l xs _ e1 n1 r1 =>
    refine ⟨_, h1, a, C, dx, fs, _, rfl, g1, hc, hn, g2, .inl ⟨rfl, xs, SqL.of e1⟩, es.ask h fun v A2 H2 q2 x ok r fr nd => ?_⟩
    cases r with
    | im rd =>
    have es2 := es.step0 x
    obtain ⟨v3, p3, k1, k2, k3, k4, k5⟩ := es2.alter hr
    rw [h1] at k1
    obtain rfl := Option.some.inj (Option.some.inj k1)
    obtain ⟨a3, dx3, fs3, v4, p4, j0, j1, j2, j3, j4, j5, j6⟩ := k2.alterF hm k3
    cases j0
    have e9 := x.same a _ g1 (fun _ z => nomatch z)
    rw [e9] at j1
    cases j1
    rw [g2] at j2
    cases j2
    cases j3 with
    | @ls _ xs3 _ e3 n3 r3 =>
    have e2 := x.same l _ e1 (fun _ z => nomatch z)
    rw [e2] at e3
    cases e3
    have mx := ext_mut (o' := .lst (xs ++ [v])) ok e2 trivial n3
    obtain ⟨fp5, m1, m2, m3⟩ := j6 A2 _ (.ls (ds ++ [d])) [l] mx (.ls upd_same n3 (r3.append (.cons rd .nil))) (by simp) fun b z => .inl z
    have mx2 : Ext p3 A2 H2 A2 (upd H2 l (.lst (xs ++ [v]))) := ⟨mx.aa, fun b o z w u => mx.hh b o z w fun q => u (j4 b q), mx.ah, mx.nt, mx.nw, mx.dm, mx.tb⟩
    obtain ⟨fp6, es6, _⟩ := k5 A2 _ (.ob C (putG f (.ls (ds ++ [d])) ms)) fp5 mx2 m1 m2 fun b z => by
      rcases m3 b z with w | w
      · exact .inl (j4 b w)
      · exact .inl w
    exact ⟨l, xs, v, rfl, rfl, e2, by rw [r1.len]; exact hz, q A2 _ σ fp6 es6⟩
end
end Kf

set_option maxHeartbeats 1000000
/-! Kf: list comprehensions kept as data, over part of a range; texts compared. -/
namespace Kf
open PySem L2
section
variable {X : Cx} {T : List Addr} {ρ : Rho} {m : M} {d : D} {ds : List D} {i : Nat} {scope : Scope} {elt l u t : Expr} {e : Expr} {te : TE}
theorem dln_frz {K : PySem.W.Frag} (h : Dln T K i te ρ m) : Dln T K i te ρ (.im (frz m)) := fun A H σ s l hi Q k => h A H σ s l hi Q fun v A2 H2 fp x r f _ => by
  obtain ⟨A3, x3, _, r3⟩ := r.froze x f
  exact k.im v A3 H2 x3 r3
/-- [elt for x in range(a, b) if t] -/
theorem den_lcR2f {a b : Int} (hl : As X T [l, u] ρ [.int a, .int b]) (f : Nat → D) (g : Nat → Bool) (hn : -(2 ^ 61) ≤ a ∧ a ≤ 2 ^ 61 ∧ -(2 ^ 61) ≤ b ∧ b < a + sizeLine ∧ b ≤ 2 ^ 61)
    (ht : ∀ j : Nat, a + (j : Int) < b → Bt X T scope t ((ρ.set i none).set i (some (.im (.int (a + (j : Int)))))) (g j))
    (he : ∀ j : Nat, a + (j : Int) < b → g j = true → Be X T scope elt ((ρ.set i none).set i (some (.im (.int (a + (j : Int)))))) (f j)) : Dln T X.K i (tLc (iRng2 (twA X [l, u])) (gName i) (twBT X scope t) (twB X scope elt) [i]) ρ (.ls (((List.range (b - a).toNat).filter g).map f)) := by
  intro A H σ s l0 hσ Q k
  refine (hl A H σ s l0 _ fun vs A1 H1 x1 r1 => ?_)
  cases r1 with
  | cons r1 r2 =>
  cases r2 with
  | cons r2 r3 =>
  cases r3
  cases r1
  cases r2
  refine ⟨a, b, rfl, ⟨by omega, by omega, by omega, by omega⟩, fun Dl hD => lc_range (lo := a) (n := (b - a).toNat) (fun j H => Acc X.K T A1 H1 Dl (((List.range j).filter g).map f) H) (Acc.first (x1.ok s) hD) ?_ ?_⟩
  · rintro j H hj ⟨A2, acc, ok, x, n2, ha, ra⟩
    refine ⟨?_, ?_⟩
    · show ((σ.set i none).set i (some (V.int (a + (j : Int))))).set i none = σ.set i none
      rw [List.set_set, List.set_set]
    · refine (ht j (by omega)).dit A2 H _ ok (((l0.step x1).step x).blk (.int _) hσ) _ fun A3 H3 x3 => ?_
      cases hg : g j with
      | false =>
        rw [if_neg Bool.false_ne_true]
        refine ⟨A3, acc, x3.ok ok, x.tr0 x3, (x3.nw Dl (by rw [ha]; simp)).trans n2, x3.same _ _ ha (fun _ z => nomatch z), ?_⟩
        rw [List.range_succ, List.filter_append, List.filter_cons, if_neg (by rw [hg]; exact Bool.false_ne_true), List.filter_nil, List.append_nil]
        exact ra.mono x3.aa
      | true =>
        rw [if_pos rfl]
        refine (he j (by omega) hg).did A3 H3 _ (x3.ok ok) ((((l0.step x1).step x).step x3).blk (.int _) hσ) _ fun v2 A4 H4 x4 r4 => ?_
        have ha3 := x3.same _ _ ha (fun _ z => nomatch z)
        refine ⟨acc, x4.same _ _ ha3 (fun _ z => nomatch z), ?_, ?_⟩
        · rw [ra.len, List.length_map]
          have h9 := List.length_filter_le g (List.range j)
          rw [List.length_range] at h9
          omega
        · have q := Acc.more hD (x.tr0 x3) ((x3.nw Dl (by rw [ha]; simp)).trans n2) ha3 (ra.mono x3.aa) x4 (x4.ok (x3.ok ok)) r4
          rw [List.range_succ, List.filter_append, List.filter_cons, if_pos hg, List.filter_nil, List.map_append]
          exact q
  · intro H h
    exact h.out hD (k.back x1)
theorem eqv_strs : ∀ xs ys : List Str, PyData.eqvAll (xs.map .str) (ys.map .str) = decide (xs = ys)
  | [], [] => by simp [PyData.eqvAll]
  | [], _ :: _ => by simp [PyData.eqvAll]
  | _ :: _, [] => by simp [PyData.eqvAll]
  | x :: xs, y :: ys => by
    rw [List.map_cons, List.map_cons, PyData.eqvAll, eqv_strs xs ys, PyData.eqv]
    by_cases h1 : x = y <;> by_cases h2 : xs = ys <;> simp [h1, h2]
theorem eqD_strs (xs ys : List Str) : eqD (.lst (xs.map D.str)) (.lst (ys.map D.str)) = decide (xs = ys) := by
  unfold eqD
  rw [py, py, pys_str, pys_str, PyData.eqv]
  exact eqv_strs xs ys
theorem o_neStrs {xs ys : List Str} (h1 : ∀ x ∈ xs, PyData.strOk x = true) (h2 : ∀ x ∈ ys, PyData.strOk x = true) (hu : X.A.units + 64 < cLine) : Op X T (compareOp .NotEq) (.lst (xs.map D.str)) (.lst (ys.map D.str)) (.im (.bl (!decide (xs = ys)))) := by
  have q := o_neD (X := X) (T := T) (cmp_strs h1) (cmp_strs h2) hu
  rw [eqD_strs] at q
  exact q
theorem o_eqStrs {xs ys : List Str} (h1 : ∀ x ∈ xs, PyData.strOk x = true) (h2 : ∀ x ∈ ys, PyData.strOk x = true) (hu : X.A.units + 64 < cLine) : Op X T (compareOp .Eq) (.lst (xs.map D.str)) (.lst (ys.map D.str)) (.im (.bl (decide (xs = ys)))) := by
  have q := o_eqD (X := X) (T := T) (cmp_strs h1) (cmp_strs h2) hu
  rw [eqD_strs] at q
  exact q
end
section
variable {X : Cx} {T : List Addr} {ρ : Rho} {e : Expr} {j : Int} {pos : Pos}
theorem ie_neg (h : Ie X T e ρ (.int j)) : Ie X T (.UnaryOp .USub e pos) ρ (.int (-j)) := ie_of (pe_un un_neg pe_tw) fun A H σ s l Q k => h A H σ s l _ fun v A2 H2 x r => by
  cases r
  exact ⟨j, rfl, k _ A2 H2 x (.int _)⟩
theorem at_last {α : Type} {xs : List α} {z : α} (h : xs[xs.length - 1]? = some z) : atI xs (-1) = some z := by
  have hl : 0 < xs.length := by
    cases xs with
    | nil => simp at h
    | cons => simp
  refine atI_bind (n := xs.length - 1) ?_ h
  unfold ixN
  rw [if_neg (by omega), if_pos (by omega)]
  congr 1
  omega
end
end Kf

set_option maxHeartbeats 1000000
/-! Kf: several names at once. -/
namespace Kf
open PySem L2
section
variable {c : Fc} {D : Ends} {ρ : Rhm} {d1 d2 d3 : Kf.D} {es : List Expr} {i j l : Nat} {st : Stmt}
theorem ss_par3 (hps : PS c.X st (tPar3 i j l (twA c.X es))) (h : As c.X c.T es ρ [d1, d2, d3]) (hi : i < ρ.length) (hj : j < ρ.length) (hl : l < ρ.length) (q : Nx c D.nx (((ρ.set i (some (.im d1))).set j (some (.im d2))).set l (some (.im d3)))) (h0 : c.S0 = none ∨ (i ≠ 0 ∧ j ≠ 0 ∧ l ≠ 0) := by first | exact .inl rfl | exact .inr (by decide)) : Ss c st D ρ :=
  ss_of hps fun A H σ fp es' => es'.askA h fun vs A2 H2 x ok r => by
    have es2 := es'.step0 x
    cases r with
    | cons r1 r =>
    cases r with
    | cons r2 r =>
    cases r with
    | cons r3 r =>
    cases r
    obtain ⟨fp1, e1⟩ := es2.seti r1 hi (h0.imp id fun z => z.1)
    obtain ⟨fp2, e2⟩ := e1.seti r2 (by rw [List.length_set]; exact hj) (h0.imp id fun z => z.2.1)
    obtain ⟨fp3, e3⟩ := e2.seti r3 (by rw [List.length_set, List.length_set]; exact hl) (h0.imp id fun z => z.2.2)
    exact ⟨_, _, _, rfl, q A2 H2 _ fp3 e3⟩
theorem ss_par2 (hps : PS c.X st (tPar i j (twA c.X es))) (h : As c.X c.T es ρ [d1, d2]) (hi : i < ρ.length) (hj : j < ρ.length) (q : Nx c D.nx ((ρ.set i (some (.im d1))).set j (some (.im d2)))) (h0 : c.S0 = none ∨ (i ≠ 0 ∧ j ≠ 0) := by first | exact .inl rfl | exact .inr (by decide)) : Ss c st D ρ :=
  ss_of hps fun A H σ fp es' => es'.askA h fun vs A2 H2 x ok r => by
    have es2 := es'.step0 x
    cases r with
    | cons r1 r =>
    cases r with
    | cons r2 r =>
    cases r
    obtain ⟨fp1, e1⟩ := es2.seti r1 hi (h0.imp id fun z => z.1)
    obtain ⟨fp2, e2⟩ := e1.seti r2 (by rw [List.length_set]; exact hj) (h0.imp id fun z => z.2)
    exact ⟨_, _, rfl, q A2 H2 _ fp2 e2⟩
end
theorem at3 {X : Type} {a b c : X} (x : Int) : atI [a, b, c] (x % 3) = some (if x % 3 = 0 then a else if x % 3 = 1 then b else c) := by
  have h : x % 3 = 0 ∨ x % 3 = 1 ∨ x % 3 = 2 := by omega
  rcases h with h | h | h <;> rw [h] <;> rfl
theorem at2' {X : Type} {a b : X} (x : Int) : atI [a, b] (x % 2) = some (if x % 2 = 0 then a else b) := by
  rcases Int.emod_two_eq x with h | h <;> rw [h] <;> rfl
theorem We.to {X : Cx} {T : List Addr} {e : Expr} {ρ : Rho} {k1 k2 : Bool} (h : We X T e ρ k1) (q : k1 = k2) : We X T e ρ k2 := q ▸ h
end Kf

set_option maxHeartbeats 1000000
/-! Kf: what isinstance asks of own classes, found by the head. -/
namespace Kf
open PySem L2
open He (ga ba)
def tyB (K : PySem.W.Frag) (C : Addr) : Bool := decide (PySem.W.findIn K (.ref C) "__class__" = some (some (.builtin "object.__class__"))) && (decide (PySem.W.specialIn K (.builtin "object.__class__") "__get__" = some (some (.builtin "getset_descriptor.__get__"))) && (decide (PySem.W.takesIn K (.builtin "object.__class__") = some true) && decide (PySem.W.mroIn K C (.type "object") = some true)))
theorem tyB_ok {K : PySem.W.Frag} {C : Addr} (h : tyB K C = true) (c : Cls K C) : TyC K C := by
  obtain ⟨h1, h⟩ := ba h
  obtain ⟨h2, h⟩ := ba h
  obtain ⟨h3, h4⟩ := ba h
  exact ⟨c, of_decide_eq_true h1, of_decide_eq_true h2, of_decide_eq_true h3, of_decide_eq_true h4⟩
def kitB1 (K : PySem.W.Frag) (t : Value) (c : Value) (b : Bool) : Bool := decide (PySem.W.kitOne K t c = some b)
theorem kitB1_ok {K : PySem.W.Frag} {t c : Value} {b : Bool} (h : kitB1 K t c b = true) : PySem.W.kitOne K t c = some b := of_decide_eq_true h
end Kf

set_option maxHeartbeats 1000000
namespace Kf.L
open PySem L2
def top (i : Nat) : Stmt := PySem.Challenge.pw_keyfocus_k42_announcements.main.body.getD i (.Pass ⟨0, 0, 0, 0⟩)
abbrev s_Refused_init : Stmt := inClass (top 2) 0
abbrev n_Refused_init : List Str := ["self", "what"]
abbrev p_Refused_init : List Str := ["self", "what"]
abbrev s_shared : Stmt := top 6
abbrev n_shared : List Str := ["one", "two", "count"]
abbrev p_shared : List Str := ["one", "two"]
theorem sc_shared : FnScope n_shared p_shared (defScope s_shared) := ⟨rfl, rfl, rfl, by decide +kernel, rfl, by decide +kernel, by decide +kernel⟩
abbrev s_Turn_init : Stmt := inClass (top 7) 0
abbrev n_Turn_init : List Str := ["self", "begin", "end", "steps"]
abbrev p_Turn_init : List Str := ["self", "begin", "end", "steps"]
theorem sc_Turn_init : FnScope n_Turn_init p_Turn_init (defScope s_Turn_init) := ⟨rfl, rfl, rfl, by decide +kernel, rfl, by decide +kernel, by decide +kernel⟩
abbrev s_Turn_shown : Stmt := inClass (top 7) 1
abbrev n_Turn_shown : List Str := ["self", "same"]
abbrev p_Turn_shown : List Str := ["self"]
theorem sc_Turn_shown : FnScope n_Turn_shown p_Turn_shown (defScope s_Turn_shown) := ⟨rfl, rfl, rfl, by decide +kernel, rfl, by decide +kernel, by decide +kernel⟩
abbrev s_merged : Stmt := top 8
abbrev n_merged : List Str := ["rows", "found", "row"]
abbrev p_merged : List Str := ["rows"]
theorem sc_merged : FnScope n_merged p_merged (defScope s_merged) := ⟨rfl, rfl, rfl, by decide +kernel, rfl, by decide +kernel, by decide +kernel⟩
abbrev s_Announcements_init : Stmt := inClass (top 9) 0
abbrev n_Announcements_init : List Str := ["self"]
abbrev p_Announcements_init : List Str := ["self"]
theorem sc_Announcements_init : FnScope n_Announcements_init p_Announcements_init (defScope s_Announcements_init) := ⟨rfl, rfl, rfl, by decide +kernel, rfl, by decide +kernel, by decide +kernel⟩
abbrev s_Announcements_tell : Stmt := inClass (top 9) 1
abbrev n_Announcements_tell : List Str := ["self", "names", "steps"]
abbrev p_Announcements_tell : List Str := ["self", "names", "steps"]
theorem sc_Announcements_tell : FnScope n_Announcements_tell p_Announcements_tell (defScope s_Announcements_tell) := ⟨rfl, rfl, rfl, by decide +kernel, rfl, by decide +kernel, by decide +kernel⟩
abbrev s_Announcements_messages : Stmt := inClass (top 9) 2
abbrev n_Announcements_messages : List Str := ["self", "row"]
abbrev p_Announcements_messages : List Str := ["self"]
theorem sc_Announcements_messages : FnScope n_Announcements_messages p_Announcements_messages (defScope s_Announcements_messages) := ⟨rfl, rfl, rfl, by decide +kernel, rfl, by decide +kernel, by decide +kernel⟩
abbrev s_Announcements_message : Stmt := inClass (top 9) 3
abbrev n_Announcements_message : List Str := ["self", "text", "is_assertive", "row", "other", "first", "turns"]
abbrev p_Announcements_message : List Str := ["self", "text", "is_assertive"]
theorem sc_Announcements_message : FnScope n_Announcements_message p_Announcements_message (defScope s_Announcements_message) := ⟨rfl, rfl, rfl, by decide +kernel, rfl, by decide +kernel, by decide +kernel⟩
abbrev s_Announcements_queue : Stmt := inClass (top 9) 4
abbrev n_Announcements_queue : List Str := ["self", "row"]
abbrev p_Announcements_queue : List Str := ["self"]
theorem sc_Announcements_queue : FnScope n_Announcements_queue p_Announcements_queue (defScope s_Announcements_queue) := ⟨rfl, rfl, rfl, by decide +kernel, rfl, by decide +kernel, by decide +kernel⟩
abbrev s_Announcements_take : Stmt := inClass (top 9) 5
abbrev n_Announcements_take : List Str := ["self", "first"]
abbrev p_Announcements_take : List Str := ["self"]
theorem sc_Announcements_take : FnScope n_Announcements_take p_Announcements_take (defScope s_Announcements_take) := ⟨rfl, rfl, rfl, by decide +kernel, rfl, by decide +kernel, by decide +kernel⟩
abbrev s_Tracker_init : Stmt := inClass (top 10) 0
abbrev n_Tracker_init : List Str := ["self"]
abbrev p_Tracker_init : List Str := ["self"]
theorem sc_Tracker_init : FnScope n_Tracker_init p_Tracker_init (defScope s_Tracker_init) := ⟨rfl, rfl, rfl, by decide +kernel, rfl, by decide +kernel, by decide +kernel⟩
abbrev s_Tracker_path : Stmt := inClass (top 10) 1
abbrev n_Tracker_path : List Str := ["self"]
abbrev p_Tracker_path : List Str := ["self"]
theorem sc_Tracker_path : FnScope n_Tracker_path p_Tracker_path (defScope s_Tracker_path) := ⟨rfl, rfl, rfl, by decide +kernel, rfl, by decide +kernel, by decide +kernel⟩
abbrev s_Tracker_apply : Stmt := inClass (top 10) 2
abbrev n_Tracker_apply : List Str := ["self", "announcement", "kind", "exited", "entered", "step"]
abbrev p_Tracker_apply : List Str := ["self", "announcement"]
theorem sc_Tracker_apply : FnScope n_Tracker_apply p_Tracker_apply (defScope s_Tracker_apply) := ⟨rfl, rfl, rfl, by decide +kernel, rfl, by decide +kernel, by decide +kernel⟩
abbrev s_law_cell : Stmt := top 12
abbrev n_law_cell : List Str := ["_law_script", "_law_k"]
abbrev p_law_cell : List Str := ["_law_script", "_law_k"]
theorem sc_law_cell : FnScope n_law_cell p_law_cell (defScope s_law_cell) := ⟨rfl, rfl, rfl, by decide +kernel, rfl, by decide +kernel, by decide +kernel⟩
abbrev s_law_draws : Stmt := top 13
abbrev n_law_draws : List Str := ["_law_cell_here", "_law_count", "_law_found", "_law_is_wide", "_law_k", "_law_mixed"]
abbrev p_law_draws : List Str := ["_law_cell_here", "_law_count"]
theorem sc_law_draws : FnScope n_law_draws p_law_draws (defScope s_law_draws) := ⟨rfl, rfl, rfl, by decide +kernel, rfl, by decide +kernel, by decide +kernel⟩
abbrev s_law_same : Stmt := top 14
abbrev n_law_same : List Str := ["_law_actual", "_law_expected", "_law_k"]
abbrev p_law_same : List Str := ["_law_actual", "_law_expected"]
theorem sc_law_same : FnScope n_law_same p_law_same (defScope s_law_same) := ⟨rfl, rfl, rfl, by decide +kernel, rfl, by decide +kernel, by decide +kernel⟩
abbrev s_law_path : Stmt := top 15
abbrev n_law_path : List Str := ["_law_draws_here", "_law_names", "_law_k"]
abbrev p_law_path : List Str := ["_law_draws_here"]
theorem sc_law_path : FnScope n_law_path p_law_path (defScope s_law_path) := ⟨rfl, rfl, rfl, by decide +kernel, rfl, by decide +kernel, by decide +kernel⟩
abbrev s_law_steps : Stmt := top 16
abbrev n_law_steps : List Str := ["_law_names", "_law_draw", "_law_k"]
abbrev p_law_steps : List Str := ["_law_names", "_law_draw"]
theorem sc_law_steps : FnScope n_law_steps p_law_steps (defScope s_law_steps) := ⟨rfl, rfl, rfl, by decide +kernel, rfl, by decide +kernel, by decide +kernel⟩
abbrev s_law_shown : Stmt := top 17
abbrev n_law_shown : List Str := ["_law_row", "_law_begin", "_law_end", "_law_steps_here", "_law_same_here"]
abbrev p_law_shown : List Str := ["_law_row"]
theorem sc_law_shown : FnScope n_law_shown p_law_shown (defScope s_law_shown) := ⟨rfl, rfl, rfl, by decide +kernel, rfl, by decide +kernel, by decide +kernel⟩
abbrev s_law_joined : Stmt := top 18
abbrev n_law_joined : List Str := ["_law_rows", "_law_found", "_law_row", "_law_last"]
abbrev p_law_joined : List Str := ["_law_rows"]
theorem sc_law_joined : FnScope n_law_joined p_law_joined (defScope s_law_joined) := ⟨rfl, rfl, rfl, by decide +kernel, rfl, by decide +kernel, by decide +kernel⟩
abbrev s_law_message : Stmt := top 19
abbrev n_law_message : List Str := ["_law_rows", "_law_text", "_law_is_assertive", "_law_row", "_law_messages", "_law_first"]
abbrev p_law_message : List Str := ["_law_rows", "_law_text", "_law_is_assertive"]
theorem sc_law_message : FnScope n_law_message p_law_message (defScope s_law_message) := ⟨rfl, rfl, rfl, by decide +kernel, rfl, by decide +kernel, by decide +kernel⟩
abbrev s_law_told : Stmt := top 20
abbrev n_law_told : List Str := ["_law_queue", "_law_text", "_law_is_assertive", "e"]
abbrev p_law_told : List Str := ["_law_queue", "_law_text", "_law_is_assertive"]
theorem sc_law_told : FnScope n_law_told p_law_told (defScope s_law_told) := ⟨rfl, rfl, rfl, by decide +kernel, rfl, by decide +kernel, by decide +kernel⟩
abbrev s_law : Stmt := top 21
abbrev n_law : List Str := ["_law_script", "_law_queue", "_law_tracker", "_law_rows", "_law_last", "_law_k", "_law_draws_here", "_law_kind", "_law_names", "_law_steps_here", "_law_due", "_law_told_here", "_law_row", "_law_turns"]
abbrev p_law : List Str := ["_law_script"]
theorem sc_law : FnScope n_law p_law (defScope s_law) := ⟨rfl, rfl, rfl, by decide +kernel, rfl, by decide +kernel, by decide +kernel⟩

abbrev FD (K : PySem.W.Frag) (x qual : Str) (st : Stmt) (f : Addr) (fd : FuncData) : Prop := FunD K x qual (defArgs st) (defBody st) (defScope st) [] [] f fd
section
variable {P : Program} {w : World} {K : PySem.W.Frag} {mg : Str → Option Value} {base : Heap} {T : List Addr} {f : Addr} {fd : FuncData}
theorem ok_cell (F : FD K "_law_cell" "_law_cell" s_law_cell f fd) (hlen : mg "len" = none) : FnOk P w K mg base CX0 1 f fd p_law_cell (spP K T r_cell) := by
  refine fn_ok F sc_law_cell (fun ds m ⟨ns, k, h, _⟩ => by rw [h]; rfl) fun cdv A outer s H A0 E hr hcd ds m h Z hrt hnx => ?_
  obtain ⟨ns, k, rfl, rfl⟩ := h
  show Gs _ _ _ [some (.im (.fls (ns.map D.int))), some (.im (.int k))]
  refine gs_cons (ss_if (te_cmp (ie_var (pv 1) rfl) (ie_im (me_bi (as_cons (ie_var (pv 0) rfl) as_nil) cl_lenF hlen boot_len)) o_lt) (fun q => ?_) (fun q => ?_))
  · have hk : k < ns.length := by simpa using q
    refine gs_one (ss_ret (ask_h (me_ix (ie_var (pv 0) rfl) (ie_var (pv 1) rfl) (ix_f (cell_at hk)))) hrt)
  · have hk : ns.length ≤ k := by simpa using q
    rw [cell_no hk] at hrt
    exact gs_nil (gs_one (ss_ret (ask_h (me_ie ie_int)) hrt))
theorem ok_draws (F : FD K "_law_draws" "_law_draws" s_law_draws f fd) (hint : mg "int" = none) (hran : mg "range" = none) : FnOk P w K mg base CX0 1 f fd p_law_draws (spP K T r_draws) := by
  refine fn_ok F sc_law_draws (fun ds m ⟨z, n, h, _⟩ => by rw [h]; rfl) fun cdv A outer s H A0 E hr hcd ds m h Z hrt hnx => ?_
  obtain ⟨z, n, rfl, hn, rfl⟩ := h
  show Gs _ _ _ [some (.im (.int z)), some (.im (.int n)), none, none, none, none]
  refine gs_cons (ss_set (i := 2) (ask_h (me_lst as_nil)) sc_law_draws.nd rfl (.inl rfl) ?_)
  refine gs_cons (ss_set (i := 3) (ask_h (me_cmp (ie_var (pv 0) rfl) (ie_im (me_bin ie_int ie_int (o_pow ⟨by decide, by decide, by decide⟩))) o_ge)) sc_law_draws.nd rfl (.inl rfl) ?_)
  refine gs_cons (ss_range (i := 4) (n := n) (ps_for PassesOwn.never rfl (pi_range1 rfl hran pa_tw) (pg_name (i := 4) sc_law_draws.nd rfl (.inl rfl)) pss_tw) (as_cons (ie_var (pv 1) rfl) as_nil) ⟨by omega, by omega⟩
    (fun j ρ => ρ = [some (.im (.int (drawZ z j))), some (.im (.int n)), some (.ls ((draws z j).map D.int)), some (.im (.bl (wideZ z))), none, none]) rfl (fun j ρ h => by rw [h]; exact of_decide_eq_true rfl) ?_ ?_)
  · rintro j ρ hj rfl N hN
    refine gs_one (ss_if (te_val (ie_var (pv 3) rfl)) (fun q => ?_) (fun q => ?_))
    · refine gs_cons (ss_app (i := 2) (ps_expr (pe_bm PySem.F.plainAttrs_list PySem.F.slot_list_append PySem.F.type_list_append mt_append (pv 2) (pa_cons pe_tw pa_nil))) rfl (ask_h (me_bin (ie_im (me_ty (as_cons (ie_var (pv 0) rfl) as_nil) cl_int hint bt_int)) ie_int (o_mod (by decide)))) (by rw [List.length_map, draws_len]; exact small1000 (by omega)) ?_)
      refine gs_one (ss_set (i := 0) (ask_h (me_bin (ie_var (pv 0) rfl) ie_int (o_fdiv ⟨by decide, by decide⟩))) sc_law_draws.nd rfl (.inl rfl) ?_)
      refine nx_weak (.keep (.keep (.keep (.keep (.drop (.keep .nil)))))) (hN _ ?_)
      rw [drawZ_wide q, draws_wide q, List.map_append]
      rfl
    · refine gs_cons (ss_set (i := 5) (ask_h (me_bin (ie_im (me_ty (as_cons (ie_im (me_bin (ie_im (me_bin (ie_var (pv 0) rfl) ie_int (o_mul (.inr ⟨by decide, by decide⟩)))) (ie_im (me_bin (ie_var (pv 4) rfl) ie_int (o_mul (.inr ⟨by decide, by decide⟩)))) o_add)) as_nil) cl_int hint bt_int)) ie_int (o_mod (by decide)))) sc_law_draws.nd rfl (.inl rfl) ?_)
      refine gs_one (ss_app (i := 2) (ps_expr (pe_bm PySem.F.plainAttrs_list PySem.F.slot_list_append PySem.F.type_list_append mt_append (pv 2) (pa_cons pe_tw pa_nil))) rfl
        (ask_h (me_bin (ie_im (me_ty (as_cons (ie_im (me_bin (ie_im (me_bin (ie_im (me_bin (ie_var (pv 5) rfl) (ie_var (pv 5) rfl) (o_mul (.inl (mix_small _))))) (ie_im (me_bin (ie_var (pv 0) rfl) ie_int (o_mul (.inr ⟨by decide, by decide⟩)))) o_add)) (ie_var (pv 4) rfl) o_add)) as_nil) cl_int hint bt_int)) ie_int (o_mod (by decide))))
        (by rw [List.length_map, draws_len]; exact small1000 (by omega)) ?_)
      refine nx_weak (.keep (.keep (.keep (.keep (.drop (.drop .nil)))))) (hN _ ?_)
      rw [drawZ_thin q, draws_thin q, List.map_append]
      rfl
  · rintro ρ rfl
    exact gs_one (ss_retO (i := 2) (ps_ret (pv 2)) rfl rfl hrt)
end
/-! ### announcements as plain data -/
/-- a row of the queue: a message, a turn -/
inductive QR where
  | msg (t : Str) (b : Bool)
  | trn (b e : List Str) (s : List Kf.D)
def msgD (t : Str) (b : Bool) : Kf.D := .tup [.str "message", .str t, .bl b]
def trnD (C : Addr) (b e : List Str) (s : List Kf.D) : Kf.D := .ins C [("begin", .lst (b.map D.str)), ("end", .lst (e.map D.str)), ("steps", .tup s)]
/-- .. in the queue; the law's own -/
def QR.d (C : Addr) : QR → Kf.D
  | .msg t b => msgD t b
  | .trn b e s => trnD C b e s
def QR.l : QR → Kf.D
  | .msg t b => msgD t b
  | .trn b e s => .tup [.str "turn", .lst (b.map D.str), .lst (e.map D.str), .tup s]
def QR.isT : QR → Bool
  | .msg _ _ => false
  | .trn _ _ _ => true
def QR.asr : QR → Bool
  | .msg _ b => b
  | .trn _ _ _ => false
def QR.ok : QR → Prop
  | .msg _ _ => True
  | .trn b e s => b.length ≤ 100 ∧ e.length ≤ 100 ∧ s.length ≤ 100 ∧ (∀ x ∈ b, PyData.strOk x = true) ∧ (∀ x ∈ e, PyData.strOk x = true) ∧ flatDs s = true
/-- how many names two paths have in common -/
def sharedN : List Str → List Str → Nat
  | x :: xs, y :: ys => if x = y then sharedN xs ys + 1 else 0
  | _, _ => 0
def shownQ : QR → Kf.D
  | .msg t b => msgD t b
  | .trn b e s => .tup [.str "path", .int ((b.length - sharedN b e : Nat) : Int), .tup (s.drop (sharedN b e))]
/-- one more row, merged with the turn ahead of it -/
def mergeQ (found : List QR) (r : QR) : List QR := match r, found.getLast? with
  | .trn _ e s, some (.trn b0 _ _) => if b0 = e then found.dropLast else found.dropLast ++ [.trn b0 e s]
  | r, _ => found ++ [r]
def mergedQ (rows : List QR) : List QR := rows.foldl mergeQ []
theorem sharedN_le : ∀ xs ys : List Str, sharedN xs ys ≤ xs.length ∧ sharedN xs ys ≤ ys.length
  | [], _ => ⟨Nat.zero_le _, Nat.zero_le _⟩
  | _ :: _, [] => ⟨Nat.zero_le _, Nat.zero_le _⟩
  | x :: xs, y :: ys => by
    unfold sharedN
    split
    · obtain ⟨h1, h2⟩ := sharedN_le xs ys
      exact ⟨by simpa using h1, by simpa using h2⟩
    · exact ⟨Nat.zero_le _, Nat.zero_le _⟩
/-- the count goes on as long as the names are the same -/
theorem sharedN_at : ∀ (xs ys : List Str) (j : Nat), j < sharedN xs ys → ∃ z, xs[j]? = some z ∧ ys[j]? = some z
  | [], _, _, h => by simp [sharedN] at h
  | _ :: _, [], _, h => by simp [sharedN] at h
  | x :: xs, y :: ys, j, h => by
    unfold sharedN at h
    by_cases e : x = y
    · rw [if_pos e] at h
      cases j with
      | zero => exact ⟨x, rfl, by rw [e]; rfl⟩
      | succ j => simpa using sharedN_at xs ys j (by omega)
    · rw [if_neg e] at h; omega
theorem sharedN_end : ∀ (xs ys : List Str), sharedN xs ys < xs.length → sharedN xs ys < ys.length → ∃ z w, xs[sharedN xs ys]? = some z ∧ ys[sharedN xs ys]? = some w ∧ z ≠ w
  | [], _, h, _ => by simp at h
  | _ :: _, [], _, h => by simp at h
  | x :: xs, y :: ys, h1, h2 => by
    unfold sharedN at h1 h2 ⊢
    by_cases e : x = y
    · rw [if_pos e] at h1 h2 ⊢
      simpa using sharedN_end xs ys (by simpa using h1) (by simpa using h2)
    · rw [if_neg e]
      exact ⟨x, y, rfl, rfl, e⟩
/-- the written part -/
structure K42 (K : PySem.W.Frag) (mg : Str → Option Value) (CT CA CK CR : Addr) : Prop where
  tyT : TyC K CT
  clsA : Cls K CA
  clsK : Cls K CK
  noT : ∀ f : Str, f ∈ (["begin", "end", "steps", "shown"] : List Str) → f ≠ "shown" → NoAttr K CT f
  rows : NoAttr K CA "rows"
  last : NoAttr K CA "last"
  names : NoAttr K CK "names"
  xr : XfC K CR
  what : PySem.W.findIn K (.ref CR) "what" = some none
  exm : PySem.W.exmOne K (.ref CR) (.ref CR) = some true
  isT : PySem.W.kitOne K (.ref CT) (.ref CT) = some true
  isU : PySem.W.kitOne K (.type "tuple") (.ref CT) = some false
  turn : mg "Turn" = some (.ref CT)
  nmost : ∃ t, mg "NAMES_MOST" = some (.int 20 t)
  mmost : ∃ t, mg "MESSAGES_MOST" = some (.int 40 t)
  ref : mg "Refused" = some (.ref CR)
  len : mg "len" = none
  min : mg "min" = none
  lst : mg "list" = none
  tup : mg "tuple" = none
  int : mg "int" = none
  str : mg "str" = none
  bool : mg "bool" = none
  ran : mg "range" = none
  isi : mg "isinstance" = none
def r_shared : List Kf.D → M → Prop := fun ds m => ∃ xs ys : List Str, ds = [.lst (xs.map D.str), .lst (ys.map D.str)] ∧ xs.length ≤ 1000 ∧ ys.length ≤ 1000 ∧ m = .im (.int (sharedN xs ys))
def r_turn (CT : Addr) : M → List Kf.D → Om → Prop := fun m ds o => ∃ a b c, m = .ob CT [] ∧ ds = [a, b, c] ∧ o = .ret (.im .non) (.ob CT [("begin", .im a), ("end", .im b), ("steps", .im c)])
def r_shown (CT : Addr) : List Kf.D → M → Prop := fun ds m => ∃ b e s, (QR.trn b e s).ok ∧ ds = [trnD CT b e s] ∧ m = .im (shownQ (.trn b e s))
def r_merged (CT : Addr) : List Kf.D → M → Prop := fun ds m => ∃ rows : List QR, (∀ r ∈ rows, r.ok) ∧ rows.length ≤ 1000 ∧ ds = [.lst (rows.map (QR.d CT))] ∧ m = .ls ((mergedQ rows).map (QR.d CT))
theorem boot_min : bootBuiltins "min" = some (.builtin "min") := by decide +kernel
theorem at_nat {α : Type} {xs : List α} {j : Nat} {z : α} (h : xs[j]? = some z) : atI xs (j : Int) = some z := by
  have hj : j < xs.length := by
    by_cases q : j < xs.length
    · exact q
    · rw [List.getElem?_eq_none (by omega)] at h; cases h
  exact atI_bind (ixN_nat' hj) h
theorem cut_from {α : Type} (xs : List α) (k : Nat) : cutD xs (some (k : Int)) none = xs.drop k := by
  unfold cutD
  have e2 : HT.sIx xs.length xs.length none = xs.length := rfl
  by_cases h : k ≤ xs.length
  · have e1 : HT.sIx xs.length 0 (some (k : Int)) = k := by
      unfold HT.sIx
      simp only
      rw [if_neg (by omega)]
      omega
    rw [e1, e2]
    exact List.take_of_length_le (by simp)
  · have e1 : HT.sIx xs.length 0 (some (k : Int)) = xs.length := by
      unfold HT.sIx
      simp only
      rw [if_neg (by omega)]
      omega
    rw [e1, e2, List.drop_length, List.drop_eq_nil_of_le (by omega), List.take_nil]
section
variable {P : Program} {w : World} {K : PySem.W.Frag} {mg : Str → Option Value} {base : Heap} {T : List Addr} {f : Addr} {fd : FuncData} {CT CA CK CR : Addr}
theorem ok_shared (F : FD K "shared" "shared" s_shared f fd) (G : K42 K mg CT CA CK CR) : FnOk P w K mg base CX0 1 f fd p_shared (spP K T r_shared) := by
  refine fn_ok F sc_shared (fun ds m ⟨xs, ys, h, _⟩ => by rw [h]; rfl) fun cdv A outer s H A0 E hr hcd ds m h Z hrt hnx => ?_
  obtain ⟨xs, ys, rfl, hx, hy, rfl⟩ := h
  show Gs _ _ _ [some (.im (.lst (xs.map D.str))), some (.im (.lst (ys.map D.str))), none]
  have nd := sc_shared.nd
  obtain ⟨l1, l2⟩ := sharedN_le xs ys
  refine gs_cons (ss_set (i := 2) (ask_h (me_ie ie_int)) nd rfl (.inl rfl) ?_)
  refine gs_cons (ss_while PassesOwn.never (fun μ ρ => ∃ j : Nat, j ≤ sharedN xs ys ∧ μ = sharedN xs ys - j ∧ ρ = [some (.im (.lst (xs.map D.str))), some (.im (.lst (ys.map D.str))), some (.im (.int (j : Int)))]) (sharedN xs ys) ⟨0, Nat.zero_le _, rfl, rfl⟩ ?_)
  rintro μ ρ ⟨j, hj, rfl, rfl⟩
  refine ⟨decide (j < sharedN xs ys), ?_, fun q N hN => ?_, fun q => ?_⟩
  · refine (te_w (we_and (k1 := decide (j < xs.length ∧ j < ys.length)) (k2 := decide (j < sharedN xs ys)) ?_ fun q => we_and1 ?_)).to ?_
    · refine (te_cmp (ie_var (pv 2) rfl) (ie_im (me_bi (as_cons (ie_im (me_bi (as_cons (ie_var (pv 0) rfl) as_nil) cl_lenL G.len boot_len)) (as_cons (ie_im (me_bi (as_cons (ie_var (pv 1) rfl) as_nil) cl_lenL G.len boot_len)) as_nil)) (cl_min2 rfl) G.min boot_min)) o_lt).to ?_
      simp only [List.length_map]
      refine decide_eq_decide.mpr ?_
      omega
    · have q := of_decide_eq_true q
      obtain ⟨z, hz⟩ : ∃ z, xs[j]? = some z := ⟨_, List.getElem?_eq_getElem q.1⟩
      obtain ⟨v, hv⟩ : ∃ v, ys[j]? = some v := ⟨_, List.getElem?_eq_getElem q.2⟩
      refine (te_cmp (ie_im (me_ix (ie_var (pv 0) rfl) (ie_var (pv 2) rfl) (ix_l (d := .str z) (at_nat (by rw [List.getElem?_map, hz]; rfl))))) (ie_im (me_ix (ie_var (pv 1) rfl) (ie_var (pv 2) rfl) (ix_l (d := .str v) (at_nat (by rw [List.getElem?_map, hv]; rfl))))) o_eqS).to ?_
      by_cases h : j < sharedN xs ys
      · obtain ⟨u, h1, h2⟩ := sharedN_at xs ys j h
        rw [hz] at h1
        rw [hv] at h2
        cases h1
        cases h2
        simp [h]
      · have ej : j = sharedN xs ys := by omega
        obtain ⟨u1, u2, h1, h2, h3⟩ := sharedN_end xs ys (by omega) (by omega)
        rw [← ej, hz] at h1
        rw [← ej, hv] at h2
        cases h1
        cases h2
        simp [h3, h]
    · by_cases h : j < sharedN xs ys
      · have h2 : j < xs.length ∧ j < ys.length := ⟨by omega, by omega⟩
        simp [h, h2]
      · simp [h]
  · have q := of_decide_eq_true q
    refine gs_one (ss_set (i := 2) (m := .im (.int ((j + 1 : Nat) : Int))) (ask_h (Me.to (me_bin (ie_var (pv 2) rfl) ie_int o_add) (by simp))) nd rfl (.inl rfl) ?_)
    exact hN (sharedN xs ys - (j + 1)) _ (by omega) ⟨j + 1, by omega, rfl, rfl⟩
  · have q := of_decide_eq_false q
    have ej : j = sharedN xs ys := by omega
    subst ej
    exact gs_one (ss_ret (ask_h (me_ie (ie_var (pv 2) rfl))) hrt)
theorem ok_turn (F : FD K "__init__" "Turn.__init__" s_Turn_init f fd) (G : K42 K mg CT CA CK CR) : FnOk P w K mg base (L2.CX P w) 1 f fd p_Turn_init (spM K T (r_turn CT)) := by
  refine fn_okM F sc_Turn_init (fun m ds o ⟨a, b, c, _, h, _⟩ => by rw [h]; rfl) fun cdv A outer s H A0 E v0 p hr hcd m ds o h Z tk pa hend => ?_
  obtain ⟨a, b, c, rfl, rfl, rfl⟩ := h
  show Gs _ _ _ [some (.ob CT []), some (.im a), some (.im b), some (.im c)]
  refine gs_cons (ss_fld (ps_fld (pv 0) pe_tw rfl) (ask_h (me_ie (ie_var (pv 1) rfl))) rfl G.tyT.cl (G.noT "begin" (by simp) (by decide)) (of_decide_eq_true rfl) ?_)
  refine gs_cons (ss_fld (ps_fld (pv 0) pe_tw rfl) (ask_h (me_ie (ie_var (pv 2) rfl))) rfl G.tyT.cl (G.noT "end" (by simp) (by decide)) (of_decide_eq_true rfl) ?_)
  refine gs_one (ss_fld (ps_fld (pv 0) pe_tw rfl) (ask_h (me_ie (ie_var (pv 3) rfl))) rfl G.tyT.cl (G.noT "steps" (by simp) (by decide)) (of_decide_eq_true rfl) ?_)
  exact hend.2 rfl _ rfl
theorem ok_shown (F : FD K "shown" "Turn.shown" s_Turn_shown f fd) (G : K42 K mg CT CA CK CR) (GS : Fn P w K mg base T "shared" 1 r_shared) : FnOk P w K mg base CX0 2 f fd p_Turn_shown (spP K T (r_shown CT)) := by
  refine fn_ok F sc_Turn_shown (fun ds m ⟨b, e, s, _, h, _⟩ => by rw [h]; rfl) fun cdv A outer s H A0 E hr hcd ds m h Z hrt hnx => ?_
  obtain ⟨b, e, st, hok, rfl, rfl⟩ := h
  obtain ⟨o1, o2, o3, o4, o5, o6⟩ := hok
  show Gs _ _ _ [some (.im (trnD CT b e st)), none]
  have nd := sc_Turn_shown.nd
  have fb : NoAttr K CT "begin" := G.noT "begin" (by simp) (by decide)
  have fe : NoAttr K CT "end" := G.noT "end" (by simp) (by decide)
  have fs : NoAttr K CT "steps" := G.noT "steps" (by simp) (by decide)
  refine gs_cons (ss_set (i := 1) (ask_h (me_call GS (as_cons (ie_fld (ie_var (pv 0) rfl) rfl G.tyT.cl fb) (as_cons (ie_fld (ie_var (pv 0) rfl) rfl G.tyT.cl fe) as_nil)) ⟨b, e, rfl, by omega, by omega, rfl⟩ (hr.mono (by decide)))) nd rfl (.inl rfl) ?_)
  refine gs_one (ss_ret (ask_h (Me.to (me_ie (ie_tup (as_cons ie_str (as_cons (ie_im (me_bin (ie_im (me_bi (as_cons (ie_fld (ie_var (pv 0) rfl) rfl G.tyT.cl fb) as_nil) cl_lenL G.len boot_len)) (ie_var (pv 1) rfl) o_sub)) (as_cons (ie_im (me_ty (as_cons (ie_im (me_sl (ie_fld (ie_var (pv 0) rfl) rfl G.tyT.cl fs) (l := some ((sharedN b e : Nat) : Int)) (u := none) (ie_var (pv 1) rfl) trivial sc_t)) as_nil) cl_tupT G.tup bt_tuple)) as_nil))))) ?_)) hrt)
  have l1 := (sharedN_le b e).1
  rw [cut_from, shownQ]
  simp
  omega
end
end Kf.L

set_option maxHeartbeats 1000000
namespace Kf.L
open PySem L2
section
variable {P : Program} {w : World} {K : PySem.W.Frag} {mg : Str → Option Value} {base : Heap} {T : List Addr} {f : Addr} {fd : FuncData} {CT CA CK CR : Addr}
theorem kit_row (G : K42 K mg CT CA CK CR) (r : QR) : PySem.W.kitOne K (tyD (r.d CT)) (.ref CT) = some r.isT := by
  cases r with
  | msg t b => exact G.isU
  | trn b e s => exact G.isT
theorem ty_row (G : K42 K mg CT CA CK CR) (r : QR) : ∀ C fs, r.d CT = .ins C fs → TyC K C := fun C fs h => by
  cases r with
  | msg t b => cases h
  | trn b e s => cases h; exact G.tyT
theorem last_of {α : Type} {xs : List α} (h : xs ≠ []) : ∃ z, xs.getLast? = some z ∧ xs[xs.length - 1]? = some z := by
  refine ⟨xs.getLast h, List.getLast?_eq_some_getLast h, ?_⟩
  rw [← List.getLast?_eq_getElem?]
  exact List.getLast?_eq_some_getLast h
theorem mergedQ_take {rows : List QR} {j : Nat} {r : QR} (h : rows[j]? = some r) : mergedQ (rows.take (j + 1)) = mergeQ (mergedQ (rows.take j)) r := by
  unfold mergedQ
  rw [List.take_add_one, h, List.foldl_append]
  rfl
theorem merge_len (found : List QR) (r : QR) : (mergeQ found r).length ≤ found.length + 1 := by
  unfold mergeQ
  split
  · split
    · rw [List.length_dropLast]; omega
    · rw [List.length_append, List.length_dropLast, List.length_singleton]; omega
  · rw [List.length_append, List.length_singleton]
    exact Nat.le_refl _
theorem fold_len : ∀ (rows found : List QR), (rows.foldl mergeQ found).length ≤ found.length + rows.length
  | [], found => by simp
  | r :: rows, found => by
    have h1 := fold_len rows (mergeQ found r)
    have h2 := merge_len found r
    rw [List.foldl_cons, List.length_cons]
    omega
theorem merged_len (rows : List QR) : (mergedQ rows).length ≤ rows.length := by
  have h := fold_len rows []
  unfold mergedQ
  simpa using h
/-- every turn of a merged row is all right -/
theorem merge_ok {found : List QR} {r : QR} (hf : ∀ x ∈ found, x.ok) (hr : r.ok) : ∀ x ∈ mergeQ found r, x.ok := fun x hx => by
  unfold mergeQ at hx
  split at hx
  · rename_i b e s b0 e0 s0 hl
    have h0 : (QR.trn b0 e0 s0).ok := hf _ (List.mem_of_getLast? hl)
    split at hx
    · exact hf x (List.dropLast_subset _ hx)
    · rcases List.mem_append.mp hx with z | z
      · exact hf x (List.dropLast_subset _ z)
      · rw [List.mem_singleton] at z
        subst z
        exact ⟨h0.1, hr.2.1, hr.2.2.1, h0.2.2.2.1, hr.2.2.2.2.1, hr.2.2.2.2.2⟩
  · rcases List.mem_append.mp hx with z | z
    · exact hf x z
    · rw [List.mem_singleton] at z
      subst z
      exact hr
theorem merged_ok {rows : List QR} (h : ∀ x ∈ rows, x.ok) : ∀ x ∈ mergedQ rows, x.ok := by
  have key : ∀ (rows found : List QR), (∀ x ∈ rows, x.ok) → (∀ x ∈ found, x.ok) → ∀ x ∈ rows.foldl mergeQ found, x.ok := by
    intro rows
    induction rows with
    | nil => exact fun _ _ h => h
    | cons r rows ih => exact fun found h1 h2 => ih _ (fun x hx => h1 x (List.mem_cons_of_mem _ hx)) (merge_ok h2 (h1 r (List.mem_cons_self ..)))
  exact key rows [] h (fun x hx => nomatch hx)
theorem map_last {rows : List QR} {r : QR} {f : QR → Kf.D} (h : rows[rows.length - 1]? = some r) : (rows.map f)[(rows.map f).length - 1]? = some (f r) := by
  rw [List.length_map, List.getElem?_map, h]
  rfl
theorem map_dropLast {rows : List QR} {f : QR → Kf.D} : (rows.map f).dropLast = rows.dropLast.map f := by
  rw [List.dropLast_eq_take, List.dropLast_eq_take, List.length_map, List.map_take]
theorem ok_merged (F : FD K "merged" "merged" s_merged f fd) (G : K42 K mg CT CA CK CR) (GT : MkM P w K mg base T "Turn" CT 1 (r_turn CT)) : FnOk P w K mg base CX0 3 f fd p_merged (spP K T (r_merged CT)) := by
  refine fn_ok F sc_merged (fun ds m ⟨rows, _, _, h, _⟩ => by rw [h]; rfl) fun cdv A outer s H A0 E hr hcd ds m h Z hrt hnx => ?_
  obtain ⟨rows, hok, hl, rfl, rfl⟩ := h
  show Gs _ _ _ [some (.im (.lst (rows.map (QR.d CT)))), none, none]
  have nd := sc_merged.nd
  have fb : NoAttr K CT "begin" := G.noT "begin" (by simp) (by decide)
  have fe : NoAttr K CT "end" := G.noT "end" (by simp) (by decide)
  have fs : NoAttr K CT "steps" := G.noT "steps" (by simp) (by decide)
  refine gs_cons (ss_set (i := 1) (ask_h (me_lst as_nil)) nd rfl (.inl rfl) ?_)
  refine gs_cons (ss_for (i := 2) (ps_for PassesOwn.never rfl (pi_list pe_tw) (pg_name (i := 2) nd rfl (.inl rfl)) pss_tw) (me_ie (ie_var (pv 0) rfl)) (fun j ρ => ∃ o2, ρ = [some (.im (.lst (rows.map (QR.d CT)))), some (.ls ((mergedQ (rows.take j)).map (QR.d CT))), o2]) ⟨none, rfl⟩ (fun j ρ ⟨o2, h⟩ => by rw [h]; exact of_decide_eq_true rfl) ?_ ?_)
  · rintro B j d ρ hd ⟨o2, rfl⟩ N hN
    rw [List.getElem?_map] at hd
    cases hq : rows[j]? with
    | none => rw [hq] at hd; cases hd
    | some r =>
    rw [hq] at hd
    cases hd
    have hrok : r.ok := hok r (List.mem_of_getElem? hq)
    have hml : (mergedQ (rows.take j)).length ≤ 1000 := by
      have h1 := merged_len (rows.take j)
      rw [List.length_take] at h1
      omega
    have hN2 : ∀ ms : List QR, mergeQ (mergedQ (rows.take j)) r = ms → ∀ o2, Nx _ N [some (.im (.lst (rows.map (QR.d CT)))), some (.ls (ms.map (QR.d CT))), o2] := fun ms e o2 => hN _ ⟨o2, by rw [mergedQ_take hq, e]⟩
    have hfo : ∀ x ∈ mergedQ (rows.take j), x.ok := merged_ok fun x hx => hok x (List.mem_of_mem_take hx)
    generalize mergedQ (rows.take j) = found at hml hN2 hfo
    show Gs _ _ _ [some (.im (.lst (rows.map (QR.d CT)))), some (.ls (found.map (QR.d CT))), some (.im (r.d CT))]
    refine gs_cons (ss_if (k := r.isT && ((!found.isEmpty) && (found.getLast?.map QR.isT == some true))) ?_ (fun q => ?_) (fun q => gs_nil ?_))
    · refine te_w (we_and (te_val (ie_isiC (ie_var (pv 2) rfl) G.turn (kit_row G r) G.isi (ty_row G r))) fun _ => (we_and (k1 := !found.isEmpty) ?_ fun q2 => we_and1 ?_))
      · refine (te_truV (vw_var (pv 1) rfl)).to ?_
        cases found <;> rfl
      · have hne : found ≠ [] := fun z => by rw [z] at q2; cases q2
        obtain ⟨z, hz1, hz2⟩ := last_of hne
        refine (te_val (ie_isiC (ie_ixV (d := z.d CT) (vw_var (pv 1) rfl) (ie_neg ie_int) (at_last (map_last hz2))) G.turn (kit_row G z) G.isi (ty_row G z))).to ?_
        rw [hz1, Option.map_some]
        generalize z.isT = b
        cases b <;> rfl
    · simp only [Bool.and_eq_true, Bool.not_eq_true', beq_iff_eq] at q
      obtain ⟨q1, q2, q3⟩ := q
      cases r with
      | msg t b => cases q1
      | trn b e st =>
      have hne : found ≠ [] := fun z => by rw [z] at q2; cases q2
      obtain ⟨z, hz1, hz2⟩ := last_of hne
      rw [hz1] at q3
      cases z with
      | msg t b => cases q3
      | trn b0 e0 s0 =>
      have em : mergeQ found (.trn b e st) = if b0 = e then found.dropLast else found.dropLast ++ [.trn b0 e st] := by
        unfold mergeQ
        rw [hz1]
      rw [em] at hN2
      have hz0 : (QR.trn b0 e0 s0).ok := hfo _ (List.mem_of_getLast? hz1)
      obtain ⟨o1, o2, o3, o4, o5, o6⟩ := hrok
      refine gs_cons (ss_setE (W := wNo) (i := 2) (eo_frz (eo_make GT (ea_cons (eo_fld (eo_pop (pe_bm0 PySem.F.plainAttrs_list PySem.F.slot_list_pop PySem.F.type_list_pop mt_pop (pv 1)) rfl (map_last hz2)) rfl G.tyT.cl fb) (ea_of (as_cons (ie_fld (ie_var (pv 2) rfl) rfl G.tyT.cl fe) (as_cons (ie_fld (ie_var (pv 2) rfl) rfl G.tyT.cl fs) as_nil)))) ⟨_, _, _, rfl, rfl, rfl⟩ (hr.mono (by decide)))) nd rfl (.inl rfl) ⟨of_decide_eq_true rfl, ?_⟩)
      show Nx _ _ [some (.im (.lst (rows.map (QR.d CT)))), some (.ls (found.map (QR.d CT)).dropLast), some (.im (trnD CT b0 e st))]
      rw [map_dropLast]
      refine gs_one (ss_if (k := decide (b0 = e)) (te_cmp (ie_fld (ie_var (pv 2) rfl) rfl G.tyT.cl fb) (ie_fld (ie_var (pv 2) rfl) rfl G.tyT.cl fe) (o_eqStrs hz0.2.2.2.1 o5 hr.units)) (fun q4 => ?_) (fun q4 => gs_nil ?_))
      · rw [if_pos (of_decide_eq_true q4)] at hN2
        exact gs_one (ss_continue (hN2 _ rfl _))
      · rw [if_neg (of_decide_eq_false q4)] at hN2
        refine gs_one (ss_app (i := 1) (ps_expr (pe_bm PySem.F.plainAttrs_list PySem.F.slot_list_append PySem.F.type_list_append mt_append (pv 1) (pa_cons pe_tw pa_nil))) rfl (ask_h (me_ie (ie_var (pv 2) rfl))) (by rw [List.length_map, sizeLine_eq, List.length_dropLast]; omega) ?_)
        have q := hN2 _ rfl (some (.im (trnD CT b0 e st)))
        rw [List.map_append] at q
        exact q
    · have em : mergeQ found r = found ++ [r] := by
        unfold mergeQ
        split
        · rename_i b e s b0 e0 s0 hl0
          rw [hl0] at q
          have hne : found ≠ [] := fun z => by rw [z] at hl0; cases hl0
          cases found with
          | nil => exact absurd rfl hne
          | cons => cases q
        · rfl
      refine gs_one (ss_app (i := 1) (ps_expr (pe_bm PySem.F.plainAttrs_list PySem.F.slot_list_append PySem.F.type_list_append mt_append (pv 1) (pa_cons pe_tw pa_nil))) rfl (ask_h (me_ie (ie_var (pv 2) rfl))) (by rw [List.length_map, sizeLine_eq]; omega) ?_)
      have q := hN2 _ em (some (.im (r.d CT)))
      rw [List.map_append] at q
      exact q
  · rintro ρ ⟨o2, rfl⟩
    rw [List.length_map, List.take_length]
    exact gs_one (ss_retO (i := 1) (ps_ret (pv 1)) rfl rfl hrt)
end
end Kf.L

set_option maxHeartbeats 1000000
namespace Kf.L
open PySem L2
/-! ### the queue -/
def annM (CA CT : Addr) (rows : List QR) (last : List Str) : M := .ob CA [("rows", .ls (rows.map (QR.d CT))), ("last", .im (.lst (last.map D.str)))]
def annD (CA CT : Addr) (rows : List QR) (last : List Str) : Kf.D := .ins CA [("rows", .lst (rows.map (QR.d CT))), ("last", .lst (last.map D.str))]
def QOk (rows : List QR) (last : List Str) : Prop := (∀ r ∈ rows, r.ok) ∧ rows.length ≤ 900 ∧ last.length ≤ 100 ∧ ∀ x ∈ last, PyData.strOk x = true
/-- behind tell, behind message -/
def tellQ (rows : List QR) (last names : List Str) (st : List Kf.D) : List QR := if names = last then rows else mergedQ (rows ++ [.trn last names st])
def msgsQ (rows : List QR) : List QR := rows.filter fun r => !r.isT
def putQ (rows : List QR) (t : Str) (b : Bool) : List QR := if b = true then (msgsQ rows).filter QR.asr ++ [.msg t true] ++ mergedQ (rows.filter QR.isT) else rows ++ [.msg t false]
def mQueue : Str := "too many queued messages"
def r_ainit (CA CT : Addr) : M → List Kf.D → Om → Prop := fun m ds o => m = .ob CA [] ∧ ds = [] ∧ o = .ret (.im .non) (annM CA CT [] [])
def r_tell (CA CT : Addr) : M → List Kf.D → Om → Prop := fun m ds o => ∃ rows last names st, QOk rows last ∧ rows.length < 900 ∧ (QR.trn last names st).ok ∧ m = annM CA CT rows last ∧ ds = [.lst (names.map D.str), .tup st] ∧ o = .ret (.im .non) (annM CA CT (tellQ rows last names st) names)
def r_msgs (CA CT : Addr) : List Kf.D → M → Prop := fun ds m => ∃ rows last, QOk rows last ∧ ds = [annD CA CT rows last] ∧ m = .ls ((msgsQ rows).map (QR.d CT))
def r_queue (CA CT : Addr) : List Kf.D → M → Prop := fun ds m => ∃ rows last, QOk rows last ∧ ds = [annD CA CT rows last] ∧ m = .ls (rows.map shownQ)
def r_mesg (CA CT CR : Addr) : M → List Kf.D → Om → Prop := fun m ds o => ∃ rows last t b, QOk rows last ∧ rows.length < 900 ∧ m = annM CA CT rows last ∧ ds = [.str t, .bl b] ∧ o = if 40 ≤ (msgsQ rows).length then .exc CR "what" (.str mQueue) (annM CA CT rows last) else .ret (.im .non) (annM CA CT (putQ rows t b) last)
def r_take (CA CT : Addr) : M → List Kf.D → Om → Prop := fun m ds o => ∃ rows last, QOk rows last ∧ m = annM CA CT rows last ∧ ds = [] ∧ o = .ret (.im ((rows.head?.map shownQ).getD .non)) (annM CA CT rows.tail last)
theorem frz_ann (CA CT : Addr) (rows : List QR) (last : List Str) : frz (annM CA CT rows last) = annD CA CT rows last := rfl
section
variable {P : Program} {w : World} {K : PySem.W.Frag} {mg : Str → Option Value} {base : Heap} {T : List Addr} {f : Addr} {fd : FuncData} {CT CA CK CR : Addr}
theorem ok_ainit (F : FD K "__init__" "Announcements.__init__" s_Announcements_init f fd) (G : K42 K mg CT CA CK CR) : FnOk P w K mg base (L2.CX P w) 1 f fd p_Announcements_init (spM K T (r_ainit CA CT)) := by
  refine fn_okM F sc_Announcements_init (fun m ds o ⟨_, h, _⟩ => by rw [h]; rfl) fun cdv A outer s H A0 E v0 p hr hcd m ds o h Z tk pa hend => ?_
  obtain ⟨rfl, rfl, rfl⟩ := h
  show Gs _ _ _ [some (.ob CA [])]
  refine gs_cons (ss_fld (ps_fld (pv 0) pe_tw rfl) (ask_h (me_lst as_nil)) rfl G.clsA G.rows (of_decide_eq_true rfl) ?_)
  refine gs_one (ss_fld (ps_fld (pv 0) pe_tw rfl) (ask_h (me_ie (ie_ls (me_lst as_nil)))) rfl G.clsA G.last (of_decide_eq_true rfl) ?_)
  exact hend.2 rfl _ rfl
theorem ok_tell (F : FD K "tell" "Announcements.tell" s_Announcements_tell f fd) (G : K42 K mg CT CA CK CR) (GT : MkM P w K mg base T "Turn" CT 1 (r_turn CT)) (GM : Fn P w K mg base T "merged" 3 (r_merged CT)) : FnOk P w K mg base (L2.CX P w) 5 f fd p_Announcements_tell (spM K T (r_tell CA CT)) := by
  refine fn_okM F sc_Announcements_tell (fun m ds o ⟨_, _, _, _, _, _, _, _, h, _⟩ => by rw [h]; rfl) fun cdv A outer s H A0 E v0 p hr hcd m ds o h Z tk pa hend => ?_
  obtain ⟨rows, last, names, st, ⟨hok, hl, hl2, hls⟩, hl3, htr, rfl, rfl, rfl⟩ := h
  obtain ⟨o1, o2, o3, o4, o5, o6⟩ := htr
  show Gs _ _ _ [some (annM CA CT rows last), some (.im (.lst (names.map D.str))), some (.im (.tup st))]
  refine gs_one (ss_if (k := !decide (names = last)) (te_cmp (ie_var (pv 1) rfl) (ie_vw (vw_fld (vw_var (pv 0) rfl) rfl G.clsA G.last)) (o_neStrs o5 hls hr.units)) (fun q => ?_) (fun q => gs_nil ?_))
  · have ne : ¬ names = last := by simpa using q
    have et : tellQ rows last names st = mergedQ (rows ++ [.trn last names st]) := if_neg ne
    rw [et] at hend
    refine gs_cons (ss_fld (ps_fld (pv 0) pe_tw rfl) (m := .ls ((mergedQ (rows ++ [.trn last names st])).map (QR.d CT))) (ask_h ?_) rfl G.clsA G.rows (of_decide_eq_true rfl) ?_)
    · refine me_call GM (ds := [.lst ((rows ++ [QR.trn last names st]).map (QR.d CT))]) (as_cons (ie_ls ?_) as_nil) ⟨rows ++ [.trn last names st], fun r hr => ?_, ?_, rfl, rfl⟩ (hr.mono (by decide))
      · rw [List.map_append]
        refine me_addV (xs := rows.map (QR.d CT)) (ys := [trnD CT last names st]) (vw_fld (vw_var (pv 0) rfl) rfl G.clsA G.rows) (me_lst (as_cons (Ie.to (ie_me (m := .ob CT [("begin", .im (.lst (last.map D.str))), ("end", .im (.lst (names.map D.str))), ("steps", .im (.tup st))]) ?_) rfl) as_nil)) ?_
        · exact me_make GT (as_cons (ie_vw (vw_fld (vw_var (pv 0) rfl) rfl G.clsA G.last)) (as_cons (ie_ls (me_ty (as_cons (ie_var (pv 1) rfl) as_nil) cl_list G.lst bt_list)) (as_cons (ie_var (pv 2) rfl) as_nil))) ⟨_, _, _, rfl, rfl, rfl⟩ (hr.mono (by decide))
        · simp only [List.length_map, List.length_cons, List.length_nil]
          rw [sizeLine_eq]
          omega
      · rcases List.mem_append.mp hr with z | z
        · exact hok r z
        · rw [List.mem_singleton] at z
          subst z
          exact ⟨o1, o2, o3, o4, o5, o6⟩
      · simp only [List.length_append, List.length_cons, List.length_nil]
        omega
    · refine gs_one (ss_fld (ps_fld (pv 0) pe_tw rfl) (m := .im (.lst (names.map D.str))) (ask_h (me_ie (ie_ls (me_ty (as_cons (ie_var (pv 1) rfl) as_nil) cl_list G.lst bt_list)))) rfl G.clsA G.last (of_decide_eq_true rfl) ?_)
      exact hend.2 rfl _ rfl
  · have e : names = last := by simpa using q
    have et : tellQ rows last names st = rows := if_pos e
    rw [et, e] at hend
    exact hend.2 rfl _ rfl
/-- a message is no instance -/
def noIns : Kf.D → Bool
  | .ins _ _ => false
  | _ => true
theorem noIns_row (CT : Addr) (r : QR) : noIns (r.d CT) = !r.isT := by cases r <;> rfl
theorem filter_rows {CT : Addr} {rows : List QR} {g : Kf.D → Bool} {h : QR → Bool} (e : ∀ r, g (r.d CT) = h r) : ((rows.map (QR.d CT)).filter g).map id = (rows.filter h).map (QR.d CT) := by
  rw [List.map_id, List.filter_map]
  congr 1
  refine congrArg (fun p => rows.filter p) (funext fun r => ?_)
  exact e r
theorem flat_msgs {CT : Addr} : ∀ {rows : List QR}, (∀ r ∈ rows, r.isT = false) → flatDs (rows.map (QR.d CT)) = true
  | [], _ => rfl
  | r :: rows, h => by
    rw [List.map_cons, flatDs, flat_msgs fun x hx => h x (List.mem_cons_of_mem _ hx)]
    have h1 := h r (List.mem_cons_self ..)
    cases r with
    | msg t b => rfl
    | trn b e s => cases h1
theorem ok_msgs (F : FD K "messages" "Announcements.messages" s_Announcements_messages f fd) (G : K42 K mg CT CA CK CR) : FnOk P w K mg base CX0 1 f fd p_Announcements_messages (spP K T (r_msgs CA CT)) := by
  refine fn_ok F sc_Announcements_messages (fun ds m ⟨rows, last, _, h, _⟩ => by rw [h]; rfl) fun cdv A outer s H A0 E hr hcd ds m h Z hrt hnx => ?_
  obtain ⟨rows, last, ⟨hok, hl, _⟩, rfl, rfl⟩ := h
  show Gs _ _ _ [some (.im (annD CA CT rows last)), none]
  have nd := sc_Announcements_messages.nd
  refine gs_one (ss_ret (ask_h (Me.to (me_lcf (i := 1) (pe_lc (own := [("row", 1)]) rfl nd (pi_list pe_tw) (blk (by rfl)) (fun _ _ _ _ _ => pg_name (i := 1) nd rfl (.inl rfl)) (fun _ _ _ _ _ => pts_one (pt_twB _ _ _ _ _)) (fun _ _ _ _ _ => pe_twB _ _ _ _ _)) (ie_fld (ie_var (pv 0) rfl) rfl G.clsA G.rows) id noIns (by rw [List.length_map, sizeLine_eq]; omega) (of_decide_eq_true rfl) (fun d hd s' H' C cl fp => ?_) (fun d hd hg s' H' C cl fp => ?_)) (by rw [filter_rows (noIns_row CT)]; rfl))) hrt)
  · obtain ⟨r, hr, rfl⟩ := List.mem_map.mp hd
    rw [noIns_row]
    exact te_not (te_val (ie_isiC (ie_var (pv 1) rfl) G.turn (kit_row G r) G.isi (ty_row G r)))
  · exact ie_var (pv 1) rfl
/-- a text of data -/
def strD : Kf.D → Str
  | .str x => x
  | _ => Str.empty
theorem strD_map (xs : List Str) : (xs.map D.str).map strD = xs := by
  rw [List.map_map]
  exact List.map_id _
/-- a row as it is shown -/
def shownD : Kf.D → Kf.D
  | .ins _ [(_, .lst b), (_, .lst e), (_, .tup s)] => shownQ (.trn (b.map strD) (e.map strD) s)
  | d => d
theorem shownD_row (CT : Addr) (r : QR) : shownD (r.d CT) = shownQ r := by
  cases r with
  | msg t b => rfl
  | trn b e s =>
    show shownQ (.trn ((b.map D.str).map strD) ((e.map D.str).map strD) s) = _
    rw [strD_map, strD_map]
theorem ok_queue (F : FD K "queue" "Announcements.queue" s_Announcements_queue f fd) (G : K42 K mg CT CA CK CR) (GS : Mt P w K mg base T CT "shown" 2 (r_shown CT)) : FnOk P w K mg base CX0 4 f fd p_Announcements_queue (spP K T (r_queue CA CT)) := by
  refine fn_ok F sc_Announcements_queue (fun ds m ⟨rows, last, _, h, _⟩ => by rw [h]; rfl) fun cdv A outer s H A0 E hr hcd ds m h Z hrt hnx => ?_
  obtain ⟨rows, last, ⟨hok, hl, _⟩, rfl, rfl⟩ := h
  show Gs _ _ _ [some (.im (annD CA CT rows last)), none]
  have nd := sc_Announcements_queue.nd
  refine gs_one (ss_ret (ask_h (Me.to (me_lc (i := 1) (pe_lc (own := [("row", 1)]) rfl nd (pi_list pe_tw) (blk (by rfl)) (fun _ _ _ _ _ => pg_name (i := 1) nd rfl (.inl rfl)) (fun _ _ _ _ _ => pts_nil) (fun _ _ _ _ _ => pe_twB _ _ _ _ _)) (ie_fld (ie_var (pv 0) rfl) rfl G.clsA G.rows) shownD (by rw [List.length_map, sizeLine_eq]; omega) (of_decide_eq_true rfl) (fun d hd s' H' C cl fp => ?_)) (by rw [List.map_map]; exact congrArg M.ls (List.map_congr_left fun r _ => shownD_row CT r)))) hrt)
  obtain ⟨r, hr2, rfl⟩ := List.mem_map.mp hd
  rw [shownD_row]
  cases r with
  | msg t b => exact (ie_if (k := false) (te_val (ie_isiC (ie_var (pv 1) rfl) G.turn (kit_row G (.msg t b)) G.isi (ty_row G (.msg t b)))) (d1 := .non) (fun z => nomatch z) fun _ => ie_var (pv 1) rfl).to rfl
  | trn b e st => exact (ie_if (k := true) (te_val (ie_isiC (ie_var (pv 1) rfl) G.turn (kit_row G (.trn b e st)) G.isi (ty_row G (.trn b e st)))) (d2 := .non) (fun _ => ie_im (me_meth0 GS (ie_var (pv 1) rfl) (of_decide_eq_true rfl) ⟨b, e, st, hok _ hr2, rfl, rfl⟩ (hr.mono (by decide)))) fun z => nomatch z).to rfl
end
end Kf.L

set_option maxHeartbeats 1000000
namespace Kf.L
open PySem L2
section
variable {P : Program} {w : World} {K : PySem.W.Frag} {mg : Str → Option Value} {base : Heap} {T : List Addr} {f : Addr} {fd : FuncData} {CT CA CK CR : Addr}
theorem msgs_isT {rows : List QR} : ∀ r ∈ msgsQ rows, r.isT = false := fun r hr => by
  have h := (List.mem_filter.mp hr).2
  simpa using h
/-- an assertive message, as data -/
def asrD : Kf.D → Bool
  | .tup [_, _, .bl b] => b
  | _ => false
theorem asrD_row (CT : Addr) (r : QR) : asrD (r.d CT) = r.asr := by cases r <;> rfl
def isIns : Kf.D → Bool
  | .ins _ _ => true
  | _ => false
theorem isIns_row (CT : Addr) (r : QR) : isIns (r.d CT) = r.isT := by cases r <;> rfl
theorem ok_mesg (F : FD K "message" "Announcements.message" s_Announcements_message f fd) (G : K42 K mg CT CA CK CR) (GR : XcM P w K mg base "Refused" CR "what" (fun v => ∃ x, v = .str x)) (GM : Fn P w K mg base T "merged" 3 (r_merged CT)) (GA : Mt P w K mg base T CA "messages" 1 (r_msgs CA CT)) : FnOk P w K mg base (L2.CX P w) 5 f fd p_Announcements_message (spM K T (r_mesg CA CT CR)) := by
  refine fn_okM F sc_Announcements_message (fun m ds o ⟨_, _, _, _, _, _, _, h, _⟩ => by rw [h]; rfl) fun cdv A outer s H A0 E v0 p hr hcd m ds o h Z tk pa hend => ?_
  obtain ⟨rows, last, t, b, hq, hl3, rfl, rfl, rfl⟩ := h
  have hq2 := hq
  obtain ⟨hok, hl, hl2, hls⟩ := hq2
  show Gs _ _ _ [some (annM CA CT rows last), some (.im (.str t)), some (.im (.bl b)), none, none, none, none]
  have nd := sc_Announcements_message.nd
  have ml : (msgsQ rows).length ≤ rows.length := List.length_filter_le _ _
  refine gs_cons (ss_if (k := decide (40 ≤ (msgsQ rows).length)) ((te_fz (te_cmp (ie_im (me_bi (as_cons (ie_ls (me_meth0 GA (ie_var (pv 0) rfl) (of_decide_eq_true rfl) ⟨rows, last, hq, rfl, rfl⟩ (hr.mono (by decide)))) as_nil) cl_lenL G.len boot_len)) (ie_gI G.mmost) o_ge)).to (by simp only [List.length_map]; exact decide_eq_decide.mpr (by omega))) (fun q => ?_) fun q => gs_nil ?_)
  · rw [if_pos (of_decide_eq_true q)] at hend
    exact gs_one (ss_raise GR rfl tk (aska_h (as_cons ie_str as_nil)) (fun A v r => by cases r; exact ⟨_, rfl⟩) (hend _ rfl) (hr.mono (by decide)))
  · rw [if_neg (of_decide_eq_false q)] at hend
    refine gs_cons (ss_set (i := 3) (m := .im (msgD t b)) (ask_h (me_ie (ie_tup (as_cons ie_str (as_cons (ie_var (pv 1) rfl) (as_cons (ie_var (pv 2) rfl) as_nil)))))) nd rfl (.inl rfl) ?_)
    show Nx _ _ [some (annM CA CT rows last), some (.im (.str t)), some (.im (.bl b)), some (.im (msgD t b)), none, none, none]
    refine gs_cons (ss_if (k := !b) (te_not (te_val (ie_var (pv 2) rfl))) (fun q2 => ?_) fun q2 => gs_nil ?_)
    · have eb : b = false := by simpa using q2
      subst eb
      refine gs_cons (ss_appF (i := 0) (f := "rows") (ds := rows.map (QR.d CT)) (d := msgD t false) (ps_expr (pe_bm PySem.F.plainAttrs_list PySem.F.slot_list_append PySem.F.type_list_append mt_append (pe_fld (pv 0) rfl) (pa_cons pe_tw pa_nil))) rfl rfl G.clsA G.rows (ask_h (me_ie (ie_var (pv 3) rfl))) (by rw [List.length_map, sizeLine_eq]; omega) ?_)
      refine gs_one (ss_retNh ?_)
      have e : rows.map (QR.d CT) ++ [msgD t false] = (putQ rows t false).map (QR.d CT) := by
        show _ = (rows ++ [QR.msg t false]).map (QR.d CT)
        rw [List.map_append]
        rfl
      show Rh _ _ _ [some (.ob CA [("rows", .ls (rows.map (QR.d CT) ++ [msgD t false])), ("last", .im (.lst (last.map D.str)))]), some (.im (.str t)), some (.im (.bl false)), some (.im (msgD t false)), none, none, none]
      rw [e]
      exact hend.1 _ rfl
    · have eb : b = true := by simpa using q2
      subst eb
      have fst : ((msgsQ rows).filter QR.asr).length ≤ 1000 := by
        have h1 := List.length_filter_le QR.asr (msgsQ rows)
        omega
      refine gs_cons (ss_setL (i := 5) (j := 4) (m := .im (.lst (((msgsQ rows).filter QR.asr).map (QR.d CT)))) (ps_setLc (own := [("other", 4)]) rfl nd rfl rfl (sw_true rfl rfl rfl rfl) (pi_list pe_tw) (blk (by rfl)) (fun _ _ _ _ _ => pg_name (i := 4) nd rfl (.inl rfl)) (fun _ _ _ _ _ => pts_one (pt_twB _ _ _ _ _)) (fun _ _ _ _ _ => pe_twB _ _ _ _ _)) ?_ (of_decide_eq_true rfl) (of_decide_eq_true rfl) ?_)
      · refine dln_frz (m := .ls (((msgsQ rows).filter QR.asr).map (QR.d CT))) (dln_fz ?_ (by rw [safe]; exact flat_msgs fun r hr => msgs_isT r (List.mem_filter.mp hr).1))
        rw [← filter_rows (asrD_row CT)]
        refine den_lcf (ie_ls (me_meth0 GA (ie_var (pv 0) rfl) (of_decide_eq_true rfl) ⟨rows, last, hq, rfl, rfl⟩ (hr.mono (by decide)))) id asrD (by rw [List.length_map, sizeLine_eq]; omega) (fun d hd s' H' C cl fp => ?_) (fun d hd hg s' H' C cl fp => ie_var (pv 4) rfl)
        obtain ⟨r, hr2, rfl⟩ := List.mem_map.mp hd
        rw [asrD_row]
        have h0 := msgs_isT r hr2
        cases r with
        | msg t2 b2 => exact te_val (ie_im (me_ix (ie_var (pv 4) rfl) ie_int (ix_t rfl)))
        | trn b2 e2 s2 => cases h0
      · refine gs_cons (ss_setL (i := 6) (j := 4) (m := .im (.lst ((rows.filter QR.isT).map (QR.d CT)))) (ps_setLc (own := [("other", 4)]) rfl nd rfl rfl (sw_true rfl rfl rfl rfl) (pi_list pe_tw) (blk (by rfl)) (fun _ _ _ _ _ => pg_name (i := 4) nd rfl (.inl rfl)) (fun _ _ _ _ _ => pts_one (pt_twB _ _ _ _ _)) (fun _ _ _ _ _ => pe_twB _ _ _ _ _)) ?_ (of_decide_eq_true rfl) (of_decide_eq_true rfl) ?_)
        · refine dln_frz (m := .ls ((rows.filter QR.isT).map (QR.d CT))) ?_
          rw [← filter_rows (isIns_row CT)]
          refine den_lcfV (vw_fld (vw_var (pv 0) rfl) rfl G.clsA G.rows) id isIns (by rw [List.length_map, sizeLine_eq]; omega) (fun d hd s' H' C cl fp => ?_) (fun d hd hg s' H' C cl fp => ie_var (pv 4) rfl)
          obtain ⟨r, hr2, rfl⟩ := List.mem_map.mp hd
          rw [isIns_row]
          exact te_val (ie_isiC (ie_var (pv 4) rfl) G.turn (kit_row G r) G.isi (ty_row G r))
        · show Nx _ _ [some (annM CA CT rows last), some (.im (.str t)), some (.im (.bl true)), some (.im (msgD t true)), none, some (.im (.lst (((msgsQ rows).filter QR.asr).map (QR.d CT)))), some (.im (.lst ((rows.filter QR.isT).map (QR.d CT))))]
          have tl : (rows.filter QR.isT).length ≤ rows.length := List.length_filter_le _ _
          have mg2 := merged_len (rows.filter QR.isT)
          refine gs_one (ss_fld (ps_fld (pv 0) pe_tw rfl) (m := .ls ((putQ rows t true).map (QR.d CT))) (ask_h (Me.to (me_bin (ie_ls (me_bin (ie_var (pv 5) rfl) (ie_ls (me_lst (as_cons (ie_var (pv 3) rfl) as_nil))) (o_addL ?_))) (ie_ls (me_call GM (as_cons (ie_var (pv 6) rfl) as_nil) ⟨rows.filter QR.isT, fun r hr => hok r (List.mem_filter.mp hr).1, by omega, rfl, rfl⟩ (hr.mono (by decide)))) (o_addL ?_)) ?_)) rfl G.clsA G.rows (of_decide_eq_true rfl) ?_)
          · simp only [List.length_map, List.length_cons, List.length_nil]
            rw [sizeLine_eq]
            omega
          · simp only [List.length_append, List.length_map, List.length_cons, List.length_nil]
            rw [sizeLine_eq]
            omega
          · unfold putQ
            rw [if_pos rfl, List.map_append, List.map_append]
            rfl
          · exact hend.2 rfl _ rfl
theorem ok_take (F : FD K "take" "Announcements.take" s_Announcements_take f fd) (G : K42 K mg CT CA CK CR) (GQ : Mt P w K mg base T CA "queue" 4 (r_queue CA CT)) : FnOk P w K mg base (L2.CX P w) 6 f fd p_Announcements_take (spM K T (r_take CA CT)) := by
  refine fn_okM F sc_Announcements_take (fun m ds o ⟨_, _, _, _, h, _⟩ => by rw [h]; rfl) fun cdv A outer s H A0 E v0 p hr hcd m ds o h Z tk pa hend => ?_
  obtain ⟨rows, last, hq, rfl, rfl, rfl⟩ := h
  show Gs _ _ _ [some (annM CA CT rows last), none]
  have nd := sc_Announcements_take.nd
  refine gs_cons (ss_if (k := rows.isEmpty) ((te_not (te_truV (vw_fld (vw_var (pv 0) rfl) rfl G.clsA G.rows))).to (by cases rows <;> rfl)) (fun q => ?_) fun q => gs_nil ?_)
  · have e : rows = [] := by simpa using q
    subst e
    exact gs_one (ss_reth (ask_h (me_ie ie_non)) (hend.1 _ rfl))
  · cases rows with
    | nil => cases q
    | cons r rows =>
    have fl : flatD (shownQ r) = true := by
      cases r with
      | msg t b => rfl
      | trn b e s =>
        have h1 : flatDs s = true := (hq.1 _ (List.mem_cons_self ..)).2.2.2.2.2
        have h2 : ∀ (n : Nat) (s : List Kf.D), flatDs s = true → flatDs (s.drop n) = true := by
          intro n
          induction n with
          | zero => exact fun _ h => h
          | succ n ih =>
            intro s h
            cases s with
            | nil => rfl
            | cons d s =>
              rw [flatDs, Bool.and_eq_true] at h
              exact ih s h.2
        simp [shownQ, flatD, flatDs, h2 _ _ h1]
    refine gs_cons (ss_set (i := 1) (m := .im (shownQ r)) (ask_f (me_ix (ie_ls (me_meth0 GQ (ie_var (pv 0) rfl) (of_decide_eq_true rfl) ⟨r :: rows, last, hq, rfl, rfl⟩ (hr.mono (by decide)))) ie_int (ix_l (at_nat (j := 0) rfl))) (by rw [safe]; exact fl)) nd rfl (.inl rfl) ?_)
    refine gs_cons (ss_fld (ps_fld (pv 0) pe_tw rfl) (m := .ls (rows.map (QR.d CT))) (ask_h (Me.to (me_slV (l0 := some ((1 : Nat) : Int)) (u0 := none) (vw_fld (vw_var (pv 0) rfl) rfl G.clsA G.rows) ie_int trivial) (by rw [cut_from]; rfl))) rfl G.clsA G.rows (of_decide_eq_true rfl) ?_)
    exact gs_one (ss_reth (ask_h (me_ie (ie_var (pv 1) rfl))) (hend.1 _ rfl))
end
end Kf.L

set_option maxHeartbeats 1000000
namespace Kf.L
open PySem L2
/-! ### the law's own defs -/
/-- plain data: tuples n deep -/
def plainD : Nat → Kf.D → Prop
  | _, .non => True
  | _, .bl _ => True
  | _, .int _ => True
  | _, .str _ => True
  | n + 1, .tup xs => xs.length ≤ 1000 ∧ ∀ x ∈ xs, plainD n x
  | _, _ => False
def r_same (n : Nat) : List Kf.D → M → Prop := fun ds m => ∃ d, plainD n d ∧ ds = [d, d] ∧ m = .im (.bl true)
section
variable {P : Program} {w : World} {K : PySem.W.Frag} {mg : Str → Option Value} {base : Heap} {T : List Addr} {f : Addr} {fd : FuncData} {CT CA CK CR : Addr}
theorem kitN {a b : String} {r : Bool} (h : kitB a b = some r) : PySem.W.kitOne K (.type a) (.type b) = some r := kit_ty h
theorem bt_bool : bootBuiltins "bool" = some (.type "bool") := by decide +kernel
theorem same_sc (G : K42 K mg CT CA CK CR) {k : Nat} {cdv : Value} {A : Around} {outer : List Env} {s : Shared} {H A0 : Hp} {E : XK} {Z : Ends} (hrt : Rt ⟨(cxOf CX0 P w K mg base n_law_same "_law_same" (defScope s_law_same) f cdv A outer s H E).nox, T, [], A0, H, [], none⟩ Z.rt (.im (.bl true))) :
    ∀ d, plainD 0 d → Gs ⟨(cxOf CX0 P w K mg base n_law_same "_law_same" (defScope s_law_same) f cdv A outer s H E).nox, T, [], A0, H, [], none⟩ (defBody s_law_same) Z [some (.im d), some (.im d), none] := fun d hd => by
  cases d with
  | non =>
    refine gs_cons (ss_if (k := false) (te_val (ie_isiT (ie_var (pv 1) rfl) G.tup bt_tuple (kitN (by decide +kernel)) G.isi (fun _ _ z => nomatch z))) (fun z => nomatch z) fun _ => gs_nil ?_)
    refine gs_cons (ss_if (k := true) (te_cmp (ie_var (pv 1) rfl) ie_non o_isN) (fun _ => ?_) fun z => nomatch z)
    exact gs_one (ss_ret (ask_h (me_cmp (ie_var (pv 0) rfl) ie_non o_isN)) hrt)
  | bl b =>
    refine gs_cons (ss_if (k := false) (te_val (ie_isiT (ie_var (pv 1) rfl) G.tup bt_tuple (kitN (by decide +kernel)) G.isi (fun _ _ z => nomatch z))) (fun z => nomatch z) fun _ => gs_nil ?_)
    refine gs_cons (ss_if (k := false) (te_cmp (ie_var (pv 1) rfl) ie_non o_isN) (fun z => nomatch z) fun _ => gs_nil ?_)
    refine gs_cons (ss_if (k := true) (te_val (ie_isiT (ie_var (pv 1) rfl) G.bool bt_bool (kitN (by decide +kernel)) G.isi (fun _ _ z => nomatch z))) (fun _ => ?_) fun z => nomatch z)
    exact gs_one (ss_ret (ask_h (Me.to (me_ie (ie_and (ie_isiT (k := true) (ie_var (pv 0) rfl) G.bool bt_bool (kitN (by decide +kernel)) G.isi (fun _ _ z => nomatch z)) fun _ => ie_one (ie_im (me_cmp (ie_var (pv 0) rfl) (ie_var (pv 1) rfl) (o_eqF rfl rfl rfl))))) (by simp))) hrt)
  | str x =>
    refine gs_cons (ss_if (k := false) (te_val (ie_isiT (ie_var (pv 1) rfl) G.tup bt_tuple (kitN (by decide +kernel)) G.isi (fun _ _ z => nomatch z))) (fun z => nomatch z) fun _ => gs_nil ?_)
    refine gs_cons (ss_if (k := false) (te_cmp (ie_var (pv 1) rfl) ie_non o_isN) (fun z => nomatch z) fun _ => gs_nil ?_)
    refine gs_cons (ss_if (k := false) (te_val (ie_isiT (ie_var (pv 1) rfl) G.bool bt_bool (kitN (by decide +kernel)) G.isi (fun _ _ z => nomatch z))) (fun z => nomatch z) fun _ => gs_nil ?_)
    refine gs_cons (ss_if (k := true) (te_val (ie_isiT (ie_var (pv 1) rfl) G.str bt_str (kitN (by decide +kernel)) G.isi (fun _ _ z => nomatch z))) (fun _ => ?_) fun z => nomatch z)
    exact gs_one (ss_ret (ask_h (Me.to (me_ie (ie_and (ie_isiT (k := true) (ie_var (pv 0) rfl) G.str bt_str (kitN (by decide +kernel)) G.isi (fun _ _ z => nomatch z)) fun _ => ie_one (ie_im (me_cmp (ie_var (pv 0) rfl) (ie_var (pv 1) rfl) o_eqS)))) (by simp))) hrt)
  | int i =>
    refine gs_cons (ss_if (k := false) (te_val (ie_isiT (ie_var (pv 1) rfl) G.tup bt_tuple (kitN (by decide +kernel)) G.isi (fun _ _ z => nomatch z))) (fun z => nomatch z) fun _ => gs_nil ?_)
    refine gs_cons (ss_if (k := false) (te_cmp (ie_var (pv 1) rfl) ie_non o_isN) (fun z => nomatch z) fun _ => gs_nil ?_)
    refine gs_cons (ss_if (k := false) (te_val (ie_isiT (ie_var (pv 1) rfl) G.bool bt_bool (kitN (by decide +kernel)) G.isi (fun _ _ z => nomatch z))) (fun z => nomatch z) fun _ => gs_nil ?_)
    refine gs_cons (ss_if (k := false) (te_val (ie_isiT (ie_var (pv 1) rfl) G.str bt_str (kitN (by decide +kernel)) G.isi (fun _ _ z => nomatch z))) (fun z => nomatch z) fun _ => gs_nil ?_)
    exact gs_one (ss_ret (ask_h (Me.to (me_ie (ie_and (ie_isiT (k := true) (ie_var (pv 0) rfl) G.int bt_int (kitN (by decide +kernel)) G.isi (fun _ _ z => nomatch z)) fun _ => ie_and (ie_not (ie_isiT (k := false) (ie_var (pv 0) rfl) G.bool bt_bool (kitN (by decide +kernel)) G.isi (fun _ _ z => nomatch z))) fun _ => ie_one (ie_im (me_cmp (ie_var (pv 0) rfl) (ie_var (pv 1) rfl) o_eqI)))) (by simp))) hrt)
  | lst => exact hd.elim
  | fls => exact hd.elim
  | tup => exact hd.elim
  | dic => exact hd.elim
  | ins => exact hd.elim
theorem ok_same (F : FD K "_law_same" "_law_same" s_law_same f fd) (G : K42 K mg CT CA CK CR) (hm : mg "_law_same" = some (.ref f)) (hb : Binds K fd p_law_same []) : ∀ n, FnOk P w K mg base CX0 (n + 1) f fd p_law_same (spP K T (r_same n)) := by
  intro n
  induction n with
  | zero =>
    refine fn_ok F sc_law_same (fun ds m ⟨d, _, h, _⟩ => by rw [h]; rfl) fun cdv A outer s H A0 E hr hcd ds m h Z hrt hnx => ?_
    obtain ⟨d, hd, rfl, rfl⟩ := h
    exact same_sc (k := 0) G hrt d hd
  | succ n ih =>
    have GR : Fn P w K mg base T "_law_same" (n + 1) (r_same n) := ⟨_, _, _, ih, hm, F.kp, hb⟩
    refine fn_ok F sc_law_same (fun ds m ⟨d, _, h, _⟩ => by rw [h]; rfl) fun cdv A outer s H A0 E hr hcd ds m h Z hrt hnx => ?_
    obtain ⟨d, hd, rfl, rfl⟩ := h
    have sc : plainD 0 d → Gs _ (defBody s_law_same) Z [some (.im d), some (.im d), none] := fun h0 => same_sc (k := 0) G hrt d h0
    cases d with
    | non => exact sc trivial
    | bl b => exact sc trivial
    | str x => exact sc trivial
    | int i => exact sc trivial
    | lst => exact hd.elim
    | fls => exact hd.elim
    | dic => exact hd.elim
    | ins => exact hd.elim
    | tup xs =>
      clear sc
      obtain ⟨hl, hx⟩ := hd
      have nd := sc_law_same.nd
      show Gs _ _ _ [some (.im (.tup xs)), some (.im (.tup xs)), none]
      refine gs_cons (ss_if (k := true) (te_val (ie_isiT (ie_var (pv 1) rfl) G.tup bt_tuple (kitN (by decide +kernel)) G.isi (by intro _ _ z; cases z))) (fun _ => ?_) fun z => nomatch z)
      refine gs_cons (ss_if (k := false) ((te_w (we_or (k1 := false) (k2 := false) (te_not (te_val (ie_isiT (k := true) (ie_var (pv 0) rfl) G.tup bt_tuple (kitN (by decide +kernel)) G.isi (by intro _ _ z; cases z)))) fun _ => we_or1 ((te_cmp (ie_im (me_bi (as_cons (ie_var (pv 0) rfl) as_nil) cl_lenT G.len boot_len)) (ie_im (me_bi (as_cons (ie_var (pv 1) rfl) as_nil) cl_lenT G.len boot_len)) o_neI).to (by simp)))).to rfl) (fun z => nomatch z) fun _ => gs_nil ?_)
      refine gs_cons (ss_range (i := 2) (n := (xs.length : Int)) (ps_for PassesOwn.never rfl (pi_range1 rfl G.ran pa_tw) (pg_name (i := 2) nd rfl (.inl rfl)) pss_tw) (as_cons (ie_im (me_bi (as_cons (ie_var (pv 1) rfl) as_nil) cl_lenT G.len boot_len)) as_nil) ⟨by omega, by omega⟩ (fun j ρ => ∃ o, ρ = [some (.im (.tup xs)), some (.im (.tup xs)), o]) ⟨none, rfl⟩ (fun j ρ ⟨o, h⟩ => by rw [h]; exact of_decide_eq_true rfl) ?_ ?_)
      · rintro j ρ hj ⟨o, rfl⟩ N hN
        have hj2 : j < xs.length := by omega
        have hx2 : plainD n xs[j] := hx _ (List.getElem_mem hj2)
        have hat : atI xs (j : Int) = some xs[j] := at_nat (List.getElem?_eq_getElem hj2)
        refine gs_one (ss_if (k := false) (te_not (k := true) (te_val (ie_im (me_call GR (as_cons (ie_im (me_ix (ie_var (pv 0) rfl) (ie_var (pv 2) rfl) (ix_t hat))) (as_cons (ie_im (me_ix (ie_var (pv 1) rfl) (ie_var (pv 2) rfl) (ix_t hat))) as_nil)) ⟨xs[j], hx2, rfl, rfl⟩ (hr.mono (Nat.le_refl _)))))) (fun z => nomatch z) fun _ => gs_nil ?_)
        exact hN _ ⟨_, rfl⟩
      · rintro ρ ⟨o, rfl⟩
        exact gs_one (ss_ret (ask_h (me_ie ie_bl)) hrt)
end
end Kf.L

set_option maxHeartbeats 1000000
namespace Kf.L
open PySem L2
/-! ### trackers -/
def tkM (C : Addr) (ns : List Str) : M := .ob C [("names", .ls (ns.map D.str))]
def tkD (C : Addr) (ns : List Str) : Kf.D := .ins C [("names", .lst (ns.map D.str))]
def stepN : Kf.D → Kf.D
  | .tup (d :: _) => d
  | _ => .non
/-- the steps are those of the names -/
def StepsOf (e : List Str) (s : List Kf.D) : Prop := s.map stepN = e.map D.str ∧ ∀ d ∈ s, ∃ x r, d = .tup (x :: r)
/-- the path behind an announcement -/
def applQ (ns : List Str) : QR → List Str
  | .msg _ _ => ns
  | .trn b e _ => ns.take (ns.length - (b.length - sharedN b e)) ++ e.drop (sharedN b e)
def FitQ (ns : List Str) : QR → Prop
  | .msg _ _ => True
  | .trn b e s => StepsOf e s ∧ b.length - sharedN b e ≤ ns.length ∧ ns.length - (b.length - sharedN b e) + (e.length - sharedN b e) ≤ 20
def r_kinit (CK : Addr) : M → List Kf.D → Om → Prop := fun m ds o => m = .ob CK [] ∧ ds = [] ∧ o = .ret (.im .non) (tkM CK [])
def r_kpath (CK : Addr) : List Kf.D → M → Prop := fun ds m => ∃ ns : List Str, ds = [tkD CK ns] ∧ m = .ls (ns.map D.str)
def r_kappl (CK : Addr) : M → List Kf.D → Om → Prop := fun m ds o => ∃ ns r, m = tkM CK ns ∧ ns.length ≤ 20 ∧ ds = [shownQ r] ∧ r.ok ∧ FitQ ns r ∧ o = .ret (.im .non) (tkM CK (applQ ns r))
section
variable {P : Program} {w : World} {K : PySem.W.Frag} {mg : Str → Option Value} {base : Heap} {T : List Addr} {f : Addr} {fd : FuncData} {CT CA CK CR : Addr}
theorem cut_to {α : Type} (xs : List α) (i : Int) (k : Nat) (h : i = k) (hk : k ≤ xs.length) : cutD xs none (some i) = xs.take k := by
  subst h
  unfold cutD
  rw [HT.sIx_nat, show HT.sIx xs.length 0 none = 0 from rfl, List.drop_zero, Nat.sub_zero, Nat.min_eq_left hk]
theorem ok_kinit (F : FD K "__init__" "Tracker.__init__" s_Tracker_init f fd) (G : K42 K mg CT CA CK CR) : FnOk P w K mg base (L2.CX P w) 1 f fd p_Tracker_init (spM K T (r_kinit CK)) := by
  refine fn_okM F sc_Tracker_init (fun m ds o ⟨_, h, _⟩ => by rw [h]; rfl) fun cdv A outer s H A0 E v0 p hr hcd m ds o h Z tk pa hend => ?_
  obtain ⟨rfl, rfl, rfl⟩ := h
  show Gs _ _ _ [some (.ob CK [])]
  refine gs_one (ss_fld (ps_fld (pv 0) pe_tw rfl) (ask_h (me_lst as_nil)) rfl G.clsK G.names (of_decide_eq_true rfl) ?_)
  exact hend.2 rfl _ rfl
theorem ok_kpath (F : FD K "path" "Tracker.path" s_Tracker_path f fd) (G : K42 K mg CT CA CK CR) : FnOk P w K mg base CX0 1 f fd p_Tracker_path (spP K T (r_kpath CK)) := by
  refine fn_ok F sc_Tracker_path (fun ds m ⟨ns, h, _⟩ => by rw [h]; rfl) fun cdv A outer s H A0 E hr hcd ds m h Z hrt hnx => ?_
  obtain ⟨ns, rfl, rfl⟩ := h
  show Gs _ _ _ [some (.im (tkD CK ns))]
  exact gs_one (ss_ret (ask_h (me_ty (as_cons (ie_fld (ie_var (pv 0) rfl) rfl G.clsK G.names) as_nil) cl_list G.lst bt_list)) hrt)
theorem ok_kappl (F : FD K "apply" "Tracker.apply" s_Tracker_apply f fd) (G : K42 K mg CT CA CK CR) : FnOk P w K mg base (L2.CX P w) 3 f fd p_Tracker_apply (spM K T (r_kappl CK)) := by
  refine fn_okM F sc_Tracker_apply (fun m ds o ⟨ns, r, _, _, h, _⟩ => by rw [h]; rfl) fun cdv A outer s H A0 E v0 p hr hcd m ds o h Z tk pa hend => ?_
  obtain ⟨ns, r, rfl, hn, rfl, hro, hfit, rfl⟩ := h
  show Gs _ _ _ [some (tkM CK ns), some (.im (shownQ r)), none, none, none, none]
  have nd := sc_Tracker_apply.nd
  cases r with
  | msg t b =>
    refine gs_cons (ss_if (k := true) (te_cmp (ie_im (me_ix (ie_var (pv 1) rfl) ie_int (ix_t rfl))) ie_str o_eqS) (fun _ => ?_) fun z => nomatch z)
    exact gs_one (ss_retNh (hend.1 _ rfl))
  | trn b e st =>
    obtain ⟨⟨hs1, hs2⟩, hf1, hf2⟩ := hfit
    obtain ⟨o1, o2, o3, o4, o5, o6⟩ := hro
    have hsl : st.length = e.length := by
      have h := congrArg List.length hs1
      simpa using h
    have he : EndM _ _ Z (.ret (.im .non) (tkM CK (ns.take (ns.length - (b.length - sharedN b e)) ++ e.drop (sharedN b e)))) := hend
    clear hend
    generalize hk : b.length - sharedN b e = k at hf1 hf2 he
    generalize hj : sharedN b e = j at hf2 he
    have l2 := (sharedN_le b e).2
    rw [hj] at l2
    have hsh : shownQ (.trn b e st) = .tup [.str "path", .int (k : Int), .tup (st.drop j)] := by
      unfold shownQ
      rw [hj] at hk
      simp only [hj, hk]
    rw [hsh]
    have hdl : (st.drop j).length = e.length - j := by rw [List.length_drop, hsl]
    have hds : (st.drop j).map stepN = (e.drop j).map D.str := by rw [List.map_drop, hs1, List.map_drop]
    have hd2 : ∀ d ∈ st.drop j, ∃ x r, d = .tup (x :: r) := fun d hd => hs2 d (List.mem_of_mem_drop hd)
    generalize st.drop j = ss at hdl hds hd2
    refine gs_cons (ss_if (k := false) (te_cmp (ie_im (me_ix (ie_var (pv 1) rfl) ie_int (ix_t rfl))) ie_str o_eqS) (fun z => nomatch z) fun _ => gs_nil ?_)
    refine gs_cons (ss_unp (is := [2, 3, 4]) (n := 3) (ps_asg pe_tw (pg_tup rfl (pgs_cons (pg_name (i := 2) nd rfl (.inl rfl)) (pgs_cons (pg_name (i := 3) nd rfl (.inl rfl)) (pgs_cons (pg_name (i := 4) nd rfl (.inl rfl)) pgs_nil))))) (ask_h (me_ie (ie_var (pv 1) rfl))) rfl rfl (by intro i hi; simp at hi; rcases hi with rfl | rfl | rfl <;> exact ⟨of_decide_eq_true rfl, .inr (by decide)⟩) ?_)
    show Nx _ _ [some (tkM CK ns), some (.im (.tup [.str "path", .int (k : Int), .tup ss])), some (.im (.str "path")), some (.im (.int k)), some (.im (.tup ss)), none]
    refine gs_cons (ss_if (k := false) ((te_fz (te_cmp (ie_var (pv 3) rfl) (ie_im (me_bi (as_cons (ie_fld (ie_var (pv 0) rfl) rfl G.clsK G.names) as_nil) cl_lenL G.len boot_len)) o_gt)).to (by simp; omega)) (fun z => nomatch z) fun _ => gs_nil ?_)
    refine gs_cons (ss_if (k := false) ((te_fz (te_cmp (ie_im (me_bin (ie_im (me_bin (ie_im (me_bi (as_cons (ie_fld (ie_var (pv 0) rfl) rfl G.clsK G.names) as_nil) cl_lenL G.len boot_len)) (ie_var (pv 3) rfl) o_sub)) (ie_im (me_bi (as_cons (ie_var (pv 4) rfl) as_nil) cl_lenT G.len boot_len)) o_add)) (ie_gI G.nmost) o_gt)).to (by simp; omega)) (fun z => nomatch z) fun _ => gs_nil ?_)
    refine gs_one (ss_fld (ps_fld (pv 0) pe_tw rfl) (m := .ls ((ns.take (ns.length - k) ++ e.drop j).map D.str)) (ask_h ?_) rfl G.clsK G.names (of_decide_eq_true rfl) (he.2 rfl _ rfl))
    refine Me.to (me_bin (ie_ls (me_slV (l0 := none) (u0 := some ((ns.length : Int) - (k : Int))) (vw_fld (vw_var (pv 0) rfl) rfl G.clsK G.names) trivial ?_)) (ie_ls (me_lcT (i := 5) (pe_lc (own := [("step", 5)]) rfl nd (pi_tup pe_tw) (blk (by rfl)) (fun _ _ _ _ _ => pg_name nd rfl (.inl rfl)) (fun _ _ _ _ _ => pts_nil) (fun _ _ _ _ _ => pe_twB _ _ _ _ _)) (ie_var (pv 4) rfl) stepN (by rw [hdl, sizeLine_eq]; omega) (of_decide_eq_true rfl) fun d hd s' H' C cl fp => ?_)) (o_addL ?_)) ?_
    · exact (ie_im (me_bin (ie_fz (ie_im (me_bi (as_cons (ie_fld (ie_var (pv 0) rfl) rfl G.clsK G.names) as_nil) cl_lenL G.len boot_len)) rfl) (ie_var (pv 3) rfl) o_sub)).to (by simp)
    · obtain ⟨x, r, rfl⟩ := hd2 d hd
      exact ie_im (me_ix (ie_var (pv 5) rfl) ie_int (ix_t (at_nat (j := 0) rfl)))
    · rw [cut_to (k := ns.length - k) _ _ (by omega) (by simp), List.length_take, List.length_map, List.length_map, hdl, sizeLine_eq]
      omega
    · rw [cut_to (k := ns.length - k) _ _ (by omega) (by simp), hds, List.map_append, List.map_take]
end
end Kf.L

set_option maxHeartbeats 1000000
namespace Kf.L
open PySem L2
section
variable {X : Cx} {T : List Addr} {ρ : Rho} {e a : Expr} {z : Int} {n j : Nat} {i : Int} {p p2 p3 p4 : Pos}
/-- int(d[e]), d the draws of a cell -/
theorem ie_drawE (h : Ie X T e ρ (.lst ((draws z n).map D.int))) (h2 : Ie X T a ρ (.int i)) (hij : i = (j : Int)) (hint : X.mg "int" = none) (hj : j < n) (hg : Gl X "int" := by rfl) (hs : PlainIx a := by exact fun _ _ => rfl) : Ie X T (.Call (.Name "int" p) [.Subscript e a p3] [] p4) ρ (.int (drawn z j)) :=
  ie_im (me_ty (as_cons (ie_im (me_ix h h2 (ix_l (by rw [hij]; exact draws_at hj)) hs)) as_nil) cl_int hint bt_int hg)
end
/-- a path by a cell's draws -/
def nmP (z : Int) (k : Nat) : Str := (if drawn z (3 + k) % 3 = 0 then ("a" : Str) else if drawn z (3 + k) % 3 = 1 then "b" else "c") ++ Str.ofString (toString (k : Int))
def lpath (z : Int) : List Str := (if drawn z 1 % 2 = 0 then [("root" : Str)] else ["list"]) ++ (List.range (drawn z 2 % 4).toNat).map (nmP z)
def stp (ns : List Str) (dr : Int) : List Kf.D := (List.range ns.length).map fun k => .tup [.str (ns.getD k Str.empty), .str "item", .str (if (dr + (k : Int)) % 2 = 0 then Str.ofString "" else "Ok"), .int k, .int (dr % 5)]
def r_lpath : List Kf.D → M → Prop := fun ds m => ∃ z, ds = [.lst ((draws z 8).map D.int)] ∧ m = .ls ((lpath z).map D.str)
def r_lstep : List Kf.D → M → Prop := fun ds m => ∃ (ns : List Str) (dr : Int), ns.length ≤ 100 ∧ ds = [.lst (ns.map D.str), .int dr] ∧ m = .im (.tup (stp ns dr))
def r_lshown : List Kf.D → M → Prop := fun ds m => ∃ r : QR, r.ok ∧ ds = [r.l] ∧ m = .im (shownQ r)
def r_joined : List Kf.D → M → Prop := fun ds m => ∃ rows : List QR, (∀ r ∈ rows, r.ok) ∧ rows.length ≤ 1000 ∧ ds = [.lst (rows.map QR.l)] ∧ m = .ls ((mergedQ rows).map QR.l)
def r_lmesg : List Kf.D → M → Prop := fun ds m => ∃ (rows : List QR) (t : Str) (b : Bool), (∀ r ∈ rows, r.ok) ∧ rows.length < 900 ∧ ds = [.lst (rows.map QR.l), .str t, .bl b] ∧ m = if (msgsQ rows).length = 40 then .im .non else .ls ((putQ rows t b).map QR.l)
def r_ltold (CA CT : Addr) : M → List Kf.D → Om → Prop := fun m ds o => ∃ rows last t b, QOk rows last ∧ rows.length < 900 ∧ m = annM CA CT rows last ∧ ds = [.str t, .bl b] ∧ o = if 40 ≤ (msgsQ rows).length then .ret (.im (.str mQueue)) (annM CA CT rows last) else .ret (.im .non) (annM CA CT (putQ rows t b) last)
section
variable {P : Program} {w : World} {K : PySem.W.Frag} {mg : Str → Option Value} {base : Heap} {T : List Addr} {f : Addr} {fd : FuncData} {CT CA CK CR : Addr}
theorem ok_lpath (F : FD K "_law_path" "_law_path" s_law_path f fd) (G : K42 K mg CT CA CK CR) : FnOk P w K mg base CX0 1 f fd p_law_path (spP K T r_lpath) := by
  refine fn_ok F sc_law_path (fun ds m ⟨z, h, _⟩ => by rw [h]; rfl) fun cdv A outer s H A0 E hr hcd ds m h Z hrt hnx => ?_
  obtain ⟨z, rfl, rfl⟩ := h
  show Gs _ _ _ [some (.im (.lst ((draws z 8).map D.int))), none, none]
  have nd := sc_law_path.nd
  refine gs_cons (ss_set (i := 1) (m := .ls ((if drawn z 1 % 2 = 0 then [("root" : Str)] else ["list"]).map D.str)) (ask_h (Me.to (me_sl (l := some (drawn z 1 % 2)) (u := some (1 + drawn z 1 % 2)) (ie_ls (me_lst (as_cons ie_str (as_cons ie_str (as_cons ie_str (as_cons ie_str as_nil)))))) (ie_im (me_bin (ie_draw (j := 1) (ie_var (pv 0) rfl) G.int (by decide)) ie_int (o_mod (by decide)))) (ie_im (me_bin ie_int (ie_im (me_bin (ie_draw (j := 1) (ie_var (pv 0) rfl) G.int (by decide)) ie_int (o_mod (by decide)))) o_add)) sc_l) ?_)) nd rfl (.inl rfl) ?_)
  · rcases Int.emod_two_eq (drawn z 1) with h | h <;> rw [h] <;> rfl
  · have hb : drawn z 2 % 4 < 4 := by omega
    refine gs_cons (ss_range (i := 2) (n := drawn z 2 % 4) (ps_for PassesOwn.never rfl (pi_range1 rfl G.ran pa_tw) (pg_name (i := 2) nd rfl (.inl rfl)) pss_tw) (as_cons (ie_im (me_bin (ie_draw (j := 2) (ie_var (pv 0) rfl) G.int (by decide)) ie_int (o_mod (by decide)))) as_nil) ⟨by omega, by omega⟩
      (fun j ρ => ∃ o, ρ = [some (.im (.lst ((draws z 8).map D.int))), some (.ls (((if drawn z 1 % 2 = 0 then [("root" : Str)] else ["list"]) ++ (List.range j).map (nmP z)).map D.str)), o]) ⟨none, by rw [List.range_zero, List.map_nil, List.append_nil]; rfl⟩ (fun j ρ ⟨o, h⟩ => by rw [h]; exact of_decide_eq_true rfl) ?_ ?_)
    · rintro j ρ hj ⟨o, rfl⟩ N hN
      have hj4 : j < 4 := by omega
      have hl1 : (Str.ofString (toString (j : Int))).length ≤ 10 := len_nat (by omega)
      have hl2 : (if drawn z (3 + j) % 3 = 0 then ("a" : Str) else if drawn z (3 + j) % 3 = 1 then "b" else "c").length ≤ 10 := by
        split
        · decide
        · split <;> decide
      refine gs_one (ss_app (i := 1) (d := .str (nmP z j)) (ps_expr (pe_bm PySem.F.plainAttrs_list PySem.F.slot_list_append PySem.F.type_list_append mt_append (pv 1) (pa_cons pe_tw pa_nil))) rfl (ask_h (Me.to (me_bin (ie_im (me_ix (ie_ls (me_lst (as_cons ie_str (as_cons ie_str (as_cons ie_str as_nil))))) (ie_im (me_bin (ie_drawE (j := 3 + j) (ie_var (pv 0) rfl) (ie_im (me_bin ie_int (ie_var (pv 2) rfl) o_add)) (by omega) G.int (by omega)) ie_int (o_mod (by decide)))) (ix_l (d := .str (if drawn z (3 + j) % 3 = 0 then ("a" : Str) else if drawn z (3 + j) % 3 = 1 then "b" else "c")) ?_))) (ie_im (me_ty (as_cons (ie_var (pv 2) rfl) as_nil) (cl_str (log_nat (by omega))) G.str bt_str)) (o_addS ?_)) ?_)) ?_ ?_)
      · rw [at3]
        split
        · rfl
        · split <;> rfl
      · rw [sizeLine_eq]; omega
      · rfl
      · rw [List.length_map, List.length_append, List.length_map, List.length_range, sizeLine_eq]
        split <;> simp <;> omega
      · refine hN _ ⟨some (.im (.int (j : Int))), ?_⟩
        simp only [List.range_succ, List.map_append, List.append_assoc, List.map_cons, List.map_nil]
        rfl
    · rintro ρ ⟨o, rfl⟩
      exact gs_one (ss_retO (i := 1) (ps_ret (pv 1)) rfl rfl hrt)
theorem ok_lstep (F : FD K "_law_steps" "_law_steps" s_law_steps f fd) (G : K42 K mg CT CA CK CR) : FnOk P w K mg base CX0 1 f fd p_law_steps (spP K T r_lstep) := by
  refine fn_ok F sc_law_steps (fun ds m ⟨ns, dr, _, h, _⟩ => by rw [h]; rfl) fun cdv A outer s H A0 E hr hcd ds m h Z hrt hnx => ?_
  obtain ⟨ns, dr, hl, rfl, rfl⟩ := h
  show Gs _ _ _ [some (.im (.lst (ns.map D.str))), some (.im (.int dr)), none]
  have nd := sc_law_steps.nd
  refine gs_one (ss_ret (ask_h (Me.to (me_ty (as_cons (ie_ls (me_lcR (i := 2) (n := (ns.length : Int)) (pe_lc (own := [("_law_k", 2)]) (by rfl) nd (pi_range1 (by rfl) G.ran pa_tw) (blk (by rfl)) (fun _ _ _ _ _ => pg_name (i := 2) nd rfl (.inl rfl)) (fun _ _ _ _ _ => pts_nil) (fun _ _ _ _ _ => pe_twB _ _ _ _ _)) ((ie_im (me_bi (as_cons (ie_var (pv 0) rfl) as_nil) cl_lenL G.len boot_len)).to (by simp)) (fun k => .tup [.str (ns.getD k Str.empty), .str "item", .str (if (dr + (k : Int)) % 2 = 0 then Str.ofString "" else "Ok"), .int k, .int (dr % 5)]) ⟨by omega, by rw [sizeLine_eq]; omega⟩ (of_decide_eq_true rfl) fun j hj s' H' C cl fp => ?_)) as_nil) cl_tup G.tup bt_tuple) (by rw [Int.toNat_natCast]; rfl))) hrt)
  have hj2 : j < ns.length := by omega
  refine ie_tup (as_cons (ie_im (me_ix (ie_var (pv 0) rfl) (ie_var (pv 2) rfl) (ix_l (at_nat ?_)))) (as_cons ie_str (as_cons (ie_im (me_ix (ie_ls (me_lst (as_cons ie_str (as_cons ie_str as_nil)))) (ie_im (me_bin (ie_im (me_bin (ie_var (pv 1) rfl) (ie_var (pv 2) rfl) o_add)) ie_int (o_mod (by decide)))) (ix_l ?_))) (as_cons (ie_var (pv 2) rfl) (as_cons (ie_im (me_bin (ie_var (pv 1) rfl) ie_int (o_mod (by decide)))) as_nil)))))
  · rw [List.getElem?_map, List.getElem?_eq_getElem hj2, List.getD_eq_getElem?_getD, List.getElem?_eq_getElem hj2]
    rfl
  · rw [at2']
    split <;> rfl
theorem ok_lshown (F : FD K "_law_shown" "_law_shown" s_law_shown f fd) (G : K42 K mg CT CA CK CR) : FnOk P w K mg base CX0 1 f fd p_law_shown (spP K T r_lshown) := by
  refine fn_ok F sc_law_shown (fun ds m ⟨r, _, h, _⟩ => by rw [h]; rfl) fun cdv A outer s H A0 E hr hcd ds m h Z hrt hnx => ?_
  obtain ⟨r, hok, rfl, rfl⟩ := h
  show Gs _ _ _ [some (.im r.l), none, none, none, none]
  have nd := sc_law_shown.nd
  cases r with
  | msg t b =>
    refine gs_cons (ss_if (k := true) (te_cmp (ie_im (me_ix (ie_var (pv 0) rfl) ie_int (ix_t rfl))) ie_str o_eqS) (fun _ => ?_) fun z => nomatch z)
    exact gs_one (ss_ret (ask_h (me_ie (ie_var (pv 0) rfl))) hrt)
  | trn xs ys st =>
    obtain ⟨o1, o2, o3, o4, o5, o6⟩ := hok
    obtain ⟨l1, l2⟩ := sharedN_le xs ys
    refine gs_cons (ss_if (k := false) (te_cmp (ie_im (me_ix (ie_var (pv 0) rfl) ie_int (ix_t rfl))) ie_str o_eqS) (fun z => nomatch z) fun _ => gs_nil ?_)
    refine gs_cons (ss_par3 (i := 1) (j := 2) (l := 3) (ps_par3 rfl nd rfl rfl rfl (by decide) (by decide) (by decide) rfl rfl rfl pa_tw rfl) (as_cons (ie_im (me_ix (ie_var (pv 0) rfl) ie_int (ix_t rfl))) (as_cons (ie_im (me_ix (ie_var (pv 0) rfl) ie_int (ix_t rfl))) (as_cons (ie_im (me_ix (ie_var (pv 0) rfl) ie_int (ix_t rfl))) as_nil))) (of_decide_eq_true rfl) (of_decide_eq_true rfl) (of_decide_eq_true rfl) ?_)
    refine gs_cons (ss_set (i := 4) (ask_h (me_ie ie_int)) nd rfl (.inl rfl) ?_)
    refine gs_cons (ss_while PassesOwn.never (fun μ ρ => ∃ j : Nat, j ≤ sharedN xs ys ∧ μ = sharedN xs ys - j ∧ ρ = [some (.im (QR.l (.trn xs ys st))), some (.im (.lst (xs.map D.str))), some (.im (.lst (ys.map D.str))), some (.im (.tup st)), some (.im (.int (j : Int)))]) (sharedN xs ys) ⟨0, Nat.zero_le _, rfl, rfl⟩ ?_)
    rintro μ ρ ⟨j, hj, rfl, rfl⟩
    refine ⟨decide (j < sharedN xs ys), ?_, fun q N hN => ?_, fun q => ?_⟩
    · refine (te_w (we_and (k1 := decide (j < xs.length)) (k2 := decide (j < sharedN xs ys)) ?_ fun q => We.to (we_and (k1 := decide (j < ys.length)) (k2 := decide (j < sharedN xs ys)) ?_ fun q2 => we_and1 ?_) ?_)).to ?_
      · refine (te_cmp (ie_var (pv 4) rfl) (ie_im (me_bi (as_cons (ie_var (pv 1) rfl) as_nil) cl_lenL G.len boot_len)) o_lt).to ?_
        simp
      · refine (te_cmp (ie_var (pv 4) rfl) (ie_im (me_bi (as_cons (ie_var (pv 2) rfl) as_nil) cl_lenL G.len boot_len)) o_lt).to ?_
        simp
      · have q := of_decide_eq_true q
        have q2 := of_decide_eq_true q2
        obtain ⟨z, hz⟩ : ∃ z, xs[j]? = some z := ⟨_, List.getElem?_eq_getElem q⟩
        obtain ⟨v, hv⟩ : ∃ v, ys[j]? = some v := ⟨_, List.getElem?_eq_getElem q2⟩
        refine (te_cmp (ie_im (me_ix (ie_var (pv 1) rfl) (ie_var (pv 4) rfl) (ix_l (d := .str z) (at_nat (by rw [List.getElem?_map, hz]; rfl))))) (ie_im (me_ix (ie_var (pv 2) rfl) (ie_var (pv 4) rfl) (ix_l (d := .str v) (at_nat (by rw [List.getElem?_map, hv]; rfl))))) o_eqS).to ?_
        by_cases h : j < sharedN xs ys
        · obtain ⟨u, h1, h2⟩ := sharedN_at xs ys j h
          rw [hz] at h1
          rw [hv] at h2
          cases h1
          cases h2
          simp [h]
        · have ej : j = sharedN xs ys := by omega
          obtain ⟨u1, u2, h1, h2, h3⟩ := sharedN_end xs ys (by omega) (by omega)
          rw [← ej, hz] at h1
          rw [← ej, hv] at h2
          cases h1
          cases h2
          simp [h3, h]
      · by_cases h : j < sharedN xs ys
        · have h2 : j < ys.length := by omega
          simp [h, h2]
        · simp [h]
      · by_cases h : j < sharedN xs ys
        · have h2 : j < xs.length := by omega
          simp [h, h2]
        · simp [h]
    · have q := of_decide_eq_true q
      refine gs_one (ss_set (i := 4) (m := .im (.int ((j + 1 : Nat) : Int))) (ask_h (Me.to (me_bin (ie_var (pv 4) rfl) ie_int o_add) (by simp))) nd rfl (.inl rfl) ?_)
      exact hN (sharedN xs ys - (j + 1)) _ (by omega) ⟨j + 1, by omega, rfl, rfl⟩
    · have q := of_decide_eq_false q
      have ej : j = sharedN xs ys := by omega
      subst ej
      refine gs_one (ss_ret (ask_h (Me.to (me_ie (ie_tup (as_cons ie_str (as_cons (ie_im (me_bin (ie_im (me_bi (as_cons (ie_var (pv 1) rfl) as_nil) cl_lenL G.len boot_len)) (ie_var (pv 4) rfl) o_sub)) (as_cons (ie_im (me_sl (ie_var (pv 3) rfl) (l := some ((sharedN xs ys : Nat) : Int)) (u := none) (ie_var (pv 4) rfl) trivial sc_t)) as_nil))))) ?_)) hrt)
      rw [cut_from, shownQ]
      simp
      omega
end
end Kf.L

set_option maxHeartbeats 1000000
namespace Kf.L
open PySem L2
section
variable {P : Program} {w : World} {K : PySem.W.Frag} {mg : Str → Option Value} {base : Heap} {T : List Addr} {f : Addr} {fd : FuncData} {CT CA CK CR : Addr}
def sTurn : Str := "turn"
theorem l_head (r : QR) : ∃ x ds, r.l = .tup (.str x :: ds) ∧ decide (x = sTurn) = r.isT := by
  cases r with
  | msg t b => exact ⟨_, _, rfl, (by decide : decide (Str.ofString "message" = sTurn) = false)⟩
  | trn b e s => exact ⟨_, _, rfl, (by decide : decide (Str.ofString "turn" = sTurn) = true)⟩
theorem ok_joined (F : FD K "_law_joined" "_law_joined" s_law_joined f fd) (G : K42 K mg CT CA CK CR) : FnOk P w K mg base CX0 1 f fd p_law_joined (spP K T r_joined) := by
  refine fn_ok F sc_law_joined (fun ds m ⟨rows, _, _, h, _⟩ => by rw [h]; rfl) fun cdv A outer s H A0 E hr hcd ds m h Z hrt hnx => ?_
  obtain ⟨rows, hok, hl, rfl, rfl⟩ := h
  show Gs _ _ _ [some (.im (.lst (rows.map QR.l))), none, none, none]
  have nd := sc_law_joined.nd
  refine gs_cons (ss_set (i := 1) (ask_h (me_lst as_nil)) nd rfl (.inl rfl) ?_)
  refine gs_cons (ss_for (i := 2) (ps_for PassesOwn.never rfl (pi_list pe_tw) (pg_name (i := 2) nd rfl (.inl rfl)) pss_tw) (me_ie (ie_var (pv 0) rfl)) (fun j ρ => ∃ o2 o3, ρ = [some (.im (.lst (rows.map QR.l))), some (.ls ((mergedQ (rows.take j)).map QR.l)), o2, o3]) ⟨none, none, rfl⟩ (fun j ρ ⟨o2, o3, h⟩ => by rw [h]; exact of_decide_eq_true rfl) ?_ ?_)
  · rintro B j d ρ hd ⟨o2, o3, rfl⟩ N hN
    rw [List.getElem?_map] at hd
    cases hq : rows[j]? with
    | none => rw [hq] at hd; cases hd
    | some r =>
    rw [hq] at hd
    cases hd
    have hrok : r.ok := hok r (List.mem_of_getElem? hq)
    have hml : (mergedQ (rows.take j)).length ≤ 1000 := by
      have h1 := merged_len (rows.take j)
      rw [List.length_take] at h1
      omega
    have hfo : ∀ x ∈ mergedQ (rows.take j), x.ok := merged_ok fun x hx => hok x (List.mem_of_mem_take hx)
    have hN2 : ∀ ms : List QR, mergeQ (mergedQ (rows.take j)) r = ms → ∀ o2 o3, Nx _ N [some (.im (.lst (rows.map QR.l))), some (.ls (ms.map QR.l)), o2, o3] := fun ms e o2 o3 => hN _ ⟨o2, o3, by rw [mergedQ_take hq, e]⟩
    generalize mergedQ (rows.take j) = found at hml hN2 hfo
    show Gs _ _ _ [some (.im (.lst (rows.map QR.l))), some (.ls (found.map QR.l)), some (.im r.l), o3]
    refine gs_cons (ss_then (fun ρ' => ∃ (ms : List QR) (o : Option QR) (o3 : Option M), ms.length ≤ 1000 ∧ ms ++ o.toList = mergeQ found r ∧ ρ' = [some (.im (.lst (rows.map QR.l))), some (.ls (ms.map QR.l)), some (.im ((o.map QR.l).getD .non)), o3]) ?_ fun hq2 => ss_if (k := r.isT && ((!found.isEmpty) && (found.getLast?.map QR.isT == some true))) ?_ (fun q => ?_) (fun q => gs_nil ?_))
    · rintro ρ' ⟨ms, o, o3, hm1, hm2, rfl⟩
      cases o with
      | none =>
        refine gs_one (ss_if (k := false) (te_cmp (ie_var (pv 2) rfl) ie_non o_notN) (fun z => nomatch z) fun _ => gs_nil ?_)
        exact hN2 ms (by rw [← hm2]; simp) _ _
      | some r2 =>
        obtain ⟨x, xs, hx, _⟩ := l_head r2
        refine gs_one (ss_if (k := true) ((te_cmp (ie_var (pv 2) rfl) ie_non o_notN).to (by show (!isNon r2.l) = true; rw [hx]; rfl)) (fun _ => ?_) fun z => nomatch z)
        refine gs_one (ss_app (i := 1) (ps_expr (pe_bm PySem.F.plainAttrs_list PySem.F.slot_list_append PySem.F.type_list_append mt_append (pv 1) (pa_cons pe_tw pa_nil))) rfl (ask_h (me_ie (ie_var (pv 2) rfl))) (by rw [List.length_map, sizeLine_eq]; omega) ?_)
        have q := hN2 (ms ++ [r2]) hm2.symm (some (.im r2.l)) o3
        rw [List.map_append] at q
        exact q
    · obtain ⟨x, xs, hx, ht⟩ := l_head r
      refine te_w (we_and ((te_cmp (ie_im (me_ix ((ie_var (pv 2) rfl).to hx) ie_int (ix_t (at_nat (j := 0) rfl)))) ie_str o_eqS).to ht) fun _ => (we_and (k1 := !found.isEmpty) ?_ fun q2 => we_and1 ?_))
      · refine (te_fz (te_cmp (ie_im (me_bi (as_cons (ie_var (pv 1) rfl) as_nil) cl_lenL G.len boot_len)) ie_int o_gt)).to ?_
        cases found with
        | nil => rfl
        | cons a l => simp
      · have hne : found ≠ [] := fun z => by rw [z] at q2; cases q2
        obtain ⟨z, hz1, hz2⟩ := last_of hne
        obtain ⟨y, ys, hy, hty⟩ := l_head z
        refine (te_cmp (ie_im (me_ix ((ie_ixV (d := z.l) (vw_var (pv 1) rfl) (ie_neg ie_int) (at_last (map_last hz2))).to hy) ie_int (ix_t (at_nat (j := 0) rfl)))) ie_str o_eqS).to ?_
        rw [hz1, Option.map_some]
        refine hty.trans ?_
        generalize z.isT = b
        cases b <;> rfl
    · simp only [Bool.and_eq_true, Bool.not_eq_true', beq_iff_eq] at q
      obtain ⟨q1, q2, q3⟩ := q
      cases r with
      | msg t b => cases q1
      | trn b e st =>
      have hne : found ≠ [] := fun z => by rw [z] at q2; cases q2
      obtain ⟨z, hz1, hz2⟩ := last_of hne
      rw [hz1] at q3
      cases z with
      | msg t b => cases q3
      | trn b0 e0 s0 =>
      have em : mergeQ found (.trn b e st) = if b0 = e then found.dropLast else found.dropLast ++ [.trn b0 e st] := by
        unfold mergeQ
        rw [hz1]
      rw [em] at hq2
      have hz0 : (QR.trn b0 e0 s0).ok := hfo _ (List.mem_of_getLast? hz1)
      obtain ⟨o1, o2, o3', o4, o5, o6⟩ := hrok
      have hdl : found.dropLast.length ≤ 1000 := by rw [List.length_dropLast]; omega
      refine gs_cons (ss_setE (W := wNo) (i := 3) (eo_pop (pe_bm0 PySem.F.plainAttrs_list PySem.F.slot_list_pop PySem.F.type_list_pop mt_pop (pv 1)) rfl (map_last hz2)) nd rfl (.inl rfl) ⟨of_decide_eq_true rfl, ?_⟩)
      refine gs_cons (ss_set (i := 2) (m := .im (QR.l (.trn b0 e st))) (ask_h (me_ie (ie_tup (as_cons ie_str (as_cons (ie_im (me_ix (ie_var (pv 3) rfl) ie_int (ix_t rfl))) (as_cons (ie_im (me_ix (ie_var (pv 2) rfl) ie_int (ix_t rfl))) (as_cons (ie_im (me_ix (ie_var (pv 2) rfl) ie_int (ix_t rfl))) as_nil))))))) nd rfl (.inl rfl) ?_)
      show Nx _ _ [some (.im (.lst (rows.map QR.l))), some (.ls (found.map QR.l).dropLast), some (.im (QR.l (.trn b0 e st))), some (.im (QR.l (.trn b0 e0 s0)))]
      rw [map_dropLast]
      refine gs_one (ss_if (k := decide (b0 = e)) (te_cmp (ie_im (me_ix (ie_var (pv 2) rfl) ie_int (ix_t rfl))) (ie_im (me_ix (ie_var (pv 2) rfl) ie_int (ix_t rfl))) (o_eqStrs hz0.2.2.2.1 o5 hr.units)) (fun q4 => ?_) (fun q4 => gs_nil ?_))
      · rw [if_pos (of_decide_eq_true q4)] at hq2
        refine gs_one (ss_set (i := 2) (m := .im .non) (ask_h (me_ie ie_non)) nd rfl (.inl rfl) ?_)
        exact hq2 _ ⟨found.dropLast, none, _, hdl, by simp, rfl⟩
      · rw [if_neg (of_decide_eq_false q4)] at hq2
        exact hq2 _ ⟨found.dropLast, some (.trn b0 e st), _, hdl, rfl, rfl⟩
    · have em : mergeQ found r = found ++ [r] := by
        unfold mergeQ
        split
        · rename_i b e s b0 e0 s0 hl0
          rw [hl0] at q
          have hne : found ≠ [] := fun z => by rw [z] at hl0; cases hl0
          cases found with
          | nil => exact absurd rfl hne
          | cons => cases q
        · rfl
      exact hq2 _ ⟨found, some r, _, hml, em.symm, rfl⟩
  · rintro ρ ⟨o2, o3, rfl⟩
    rw [List.length_map, List.take_length]
    exact gs_one (ss_retO (i := 1) (ps_ret (pv 1)) rfl rfl hrt)
theorem l_msg (r : QR) : ∃ x ds, r.l = .tup (.str x :: ds) ∧ decide (x = Str.ofString "message") = !r.isT := by
  cases r with
  | msg t b => exact ⟨_, _, rfl, (by decide : decide (Str.ofString "message" = Str.ofString "message") = true)⟩
  | trn b e s => exact ⟨_, _, rfl, (by decide : decide (Str.ofString "turn" = Str.ofString "message") = false)⟩
/-- what the law's own filters ask, of data -/
def msgB : Kf.D → Bool
  | .tup (.str x :: _) => decide (x = Str.ofString "message")
  | _ => false
def trnB : Kf.D → Bool
  | .tup (.str x :: _) => decide (x = sTurn)
  | _ => false
theorem msgB_l (r : QR) : msgB r.l = !r.isT := by
  obtain ⟨x, ds, h, e⟩ := l_msg r
  rw [h]
  exact e
theorem trnB_l (r : QR) : trnB r.l = r.isT := by
  obtain ⟨x, ds, h, e⟩ := l_head r
  rw [h]
  exact e
theorem asrD_l {r : QR} (h : r.isT = false) : asrD r.l = r.asr := by
  cases r with
  | msg t b => rfl
  | trn b e s => cases h
theorem filter_l {rows : List QR} {g : Kf.D → Bool} {h : QR → Bool} (e : ∀ r ∈ rows, g r.l = h r) : ((rows.map QR.l).filter g).map id = (rows.filter h).map QR.l := by
  rw [List.map_id, List.filter_map]
  congr 1
  exact List.filter_congr fun r hr => e r hr
theorem ok_lmesg (F : FD K "_law_message" "_law_message" s_law_message f fd) (G : K42 K mg CT CA CK CR) (GJ : Fn P w K mg base T "_law_joined" 1 r_joined) : FnOk P w K mg base CX0 3 f fd p_law_message (spP K T r_lmesg) := by
  refine fn_ok F sc_law_message (fun ds m ⟨rows, t, b, _, _, h, _⟩ => by rw [h]; rfl) fun cdv A outer s H A0 E hr hcd ds m h Z hrt hnx => ?_
  obtain ⟨rows, t, b, hok, hl, rfl, rfl⟩ := h
  show Gs _ _ _ [some (.im (.lst (rows.map QR.l))), some (.im (.str t)), some (.im (.bl b)), none, none, none]
  have nd := sc_law_message.nd
  have ml : (msgsQ rows).length ≤ rows.length := List.length_filter_le _ _
  refine gs_cons (ss_setL (i := 4) (j := 3) (m := .im (.lst ((msgsQ rows).map QR.l))) (ps_setLc (own := [("_law_row", 3)]) rfl nd rfl rfl (sw_true rfl rfl rfl rfl) (pi_list pe_tw) (blk (by rfl)) (fun _ _ _ _ _ => pg_name (i := 3) nd rfl (.inl rfl)) (fun _ _ _ _ _ => pts_one (pt_twB _ _ _ _ _)) (fun _ _ _ _ _ => pe_twB _ _ _ _ _)) ?_ (of_decide_eq_true rfl) (of_decide_eq_true rfl) ?_)
  · refine dln_frz (m := .ls ((msgsQ rows).map QR.l)) ?_
    unfold msgsQ
    rw [← filter_l (h := fun r => !r.isT) fun r _ => msgB_l r]
    refine den_lcf (ie_var (pv 0) rfl) id msgB (by rw [List.length_map, sizeLine_eq]; omega) (fun d hd s' H' C cl fp => ?_) (fun d hd hg s' H' C cl fp => ie_var (pv 3) rfl)
    obtain ⟨r, hr2, rfl⟩ := List.mem_map.mp hd
    obtain ⟨x, xs, hx, ht⟩ := l_msg r
    rw [msgB_l]
    exact (te_cmp (ie_im (me_ix ((ie_var (pv 3) rfl).to hx) ie_int (ix_t (at_nat (j := 0) rfl)))) ie_str o_eqS).to ht
  · show Nx _ _ [some (.im (.lst (rows.map QR.l))), some (.im (.str t)), some (.im (.bl b)), none, some (.im (.lst ((msgsQ rows).map QR.l))), none]
    refine gs_cons (ss_if (k := decide ((msgsQ rows).length = 40)) ((te_cmp (ie_im (me_bi (as_cons (ie_var (pv 4) rfl) as_nil) cl_lenL G.len boot_len)) ie_int o_eqI).to (by simp only [List.length_map]; exact decide_eq_decide.mpr (by omega))) (fun q => ?_) fun q => gs_nil ?_)
    · rw [if_pos (of_decide_eq_true q)] at hrt
      exact gs_one (ss_ret (ask_h (me_ie ie_non)) hrt)
    · rw [if_neg (of_decide_eq_false q)] at hrt
      refine gs_cons (ss_if (k := !b) (te_not (te_val (ie_var (pv 2) rfl))) (fun q2 => ?_) fun q2 => gs_nil ?_)
      · have eb : b = false := by simpa using q2
        subst eb
        refine gs_one (ss_ret (ask_h (Me.to (me_bin (ie_var (pv 0) rfl) (ie_ls (me_lst (as_cons (ie_tup (as_cons ie_str (as_cons (ie_var (pv 1) rfl) (as_cons ie_bl as_nil)))) as_nil))) (o_addL ?_)) ?_)) hrt)
        · simp only [List.length_map, List.length_cons, List.length_nil]
          rw [sizeLine_eq]
          omega
        · show M.ls _ = M.ls ((rows ++ [QR.msg t false]).map QR.l)
          rw [List.map_append]
          rfl
      · have eb : b = true := by simpa using q2
        subst eb
        have fl : ((msgsQ rows).filter QR.asr).length ≤ (msgsQ rows).length := List.length_filter_le _ _
        refine gs_cons (ss_setL (i := 5) (j := 3) (m := .im (.lst (((msgsQ rows).filter QR.asr).map QR.l))) (ps_setLc (own := [("_law_row", 3)]) rfl nd rfl rfl (sw_true rfl rfl rfl rfl) (pi_list pe_tw) (blk (by rfl)) (fun _ _ _ _ _ => pg_name (i := 3) nd rfl (.inl rfl)) (fun _ _ _ _ _ => pts_one (pt_twB _ _ _ _ _)) (fun _ _ _ _ _ => pe_twB _ _ _ _ _)) ?_ (of_decide_eq_true rfl) (of_decide_eq_true rfl) ?_)
        · refine dln_frz (m := .ls (((msgsQ rows).filter QR.asr).map QR.l)) ?_
          rw [← filter_l (h := QR.asr) fun r hr => asrD_l (msgs_isT r hr)]
          refine den_lcf (ie_var (pv 4) rfl) id asrD (by rw [List.length_map, sizeLine_eq]; omega) (fun d hd s' H' C cl fp => ?_) (fun d hd hg s' H' C cl fp => ie_var (pv 3) rfl)
          obtain ⟨r, hr2, rfl⟩ := List.mem_map.mp hd
          have h0 := msgs_isT r hr2
          rw [asrD_l h0]
          cases r with
          | msg t2 b2 => exact te_val (ie_im (me_ix (ie_var (pv 3) rfl) ie_int (ix_t rfl)))
          | trn b2 e2 s2 => cases h0
        · have tl : (rows.filter QR.isT).length ≤ rows.length := List.length_filter_le _ _
          have mg2 := merged_len (rows.filter QR.isT)
          show Nx _ _ [some (.im (.lst (rows.map QR.l))), some (.im (.str t)), some (.im (.bl true)), none, some (.im (.lst ((msgsQ rows).map QR.l))), some (.im (.lst (((msgsQ rows).filter QR.asr).map QR.l)))]
          refine gs_one (ss_ret (ask_h (Me.to (me_bin (ie_ls (me_bin (ie_var (pv 5) rfl) (ie_ls (me_lst (as_cons (ie_tup (as_cons ie_str (as_cons (ie_var (pv 1) rfl) (as_cons ie_bl as_nil)))) as_nil))) (o_addL ?_))) (ie_ls (me_call GJ (as_cons (ie_ls (ds := (rows.filter QR.isT).map QR.l) ?_) as_nil) ⟨rows.filter QR.isT, fun r hr => hok r (List.mem_filter.mp hr).1, by omega, rfl, rfl⟩ (hr.mono (by decide)))) (o_addL ?_)) ?_)) hrt)
          · simp only [List.length_map, List.length_cons, List.length_nil]
            rw [sizeLine_eq]
            omega
          · rw [← filter_l (h := QR.isT) fun r _ => trnB_l r]
            refine me_lcf (i := 3) (pe_lc (own := [("_law_row", 3)]) rfl nd (pi_list pe_tw) (blk (by rfl)) (fun _ _ _ _ _ => pg_name (i := 3) nd rfl (.inl rfl)) (fun _ _ _ _ _ => pts_one (pt_twB _ _ _ _ _)) (fun _ _ _ _ _ => pe_twB _ _ _ _ _)) (ie_var (pv 0) rfl) id trnB (by rw [List.length_map, sizeLine_eq]; omega) (of_decide_eq_true rfl) (fun d hd s' H' C cl fp => ?_) (fun d hd hg s' H' C cl fp => ie_var (pv 3) rfl)
            obtain ⟨r, hr2, rfl⟩ := List.mem_map.mp hd
            obtain ⟨x, xs, hx, ht⟩ := l_head r
            rw [trnB_l]
            exact (te_cmp (ie_im (me_ix ((ie_var (pv 3) rfl).to hx) ie_int (ix_t (at_nat (j := 0) rfl)))) ie_str o_eqS).to ht
          · simp only [List.length_append, List.length_map, List.length_cons, List.length_nil]
            rw [sizeLine_eq]
            omega
          · unfold putQ
            rw [if_pos rfl, List.map_append, List.map_append]
            rfl
theorem ok_ltold (F : FD K "_law_told" "_law_told" s_law_told f fd) (G : K42 K mg CT CA CK CR) (GA : MtM P w K mg base T CA "message" 5 (r_mesg CA CT CR)) : FnOk P w K mg base (L2.CX P w) 6 f fd p_law_told (spM K T (r_ltold CA CT)) := by
  refine fn_okM F sc_law_told (fun m ds o ⟨_, _, _, _, _, _, _, h, _⟩ => by rw [h]; rfl) fun cdv A outer s H A0 E v0 p hr hcd m ds o h Z tk pa hend => ?_
  obtain ⟨rows, last, t, b, hq, hl3, rfl, rfl, rfl⟩ := h
  show Gs _ _ _ [some (annM CA CT rows last), some (.im (.str t)), some (.im (.bl b)), none]
  have nd := sc_law_told.nd
  have ap : r_mesg CA CT CR (annM CA CT rows last) [.str t, .bl b] _ := ⟨rows, last, t, b, hq, hl3, rfl, rfl, rfl⟩
  by_cases hc : 40 ≤ (msgsQ rows).length
  · rw [if_pos hc] at hend ap
    refine gs_one (ss_tryAs (W := wNo) (i := 3) (fun C f d ρ => C = CR ∧ f = "what" ∧ d = .str mQueue ∧ ρ = [some (annM CA CT rows last), some (.im (.str t)), some (.im (.bl b)), none]) rfl rfl nd rfl rfl ⟨rfl, rfl, .inl G.ref⟩ takes_no (fun W' pn xe tk' pa' hx => ?_) fun C f d ρ' hh => ?_)
    · exact gs_one (ss_retE (eo_meth GA tk' (pv 0) rfl rfl (of_decide_eq_true rfl) (aska_h (as_cons (ie_var (pv 1) rfl) (as_cons (ie_var (pv 2) rfl) as_nil))) ap (hr.mono (by decide))) (hx _ _ _ _ ⟨rfl, rfl, rfl, rfl⟩))
    · obtain ⟨rfl, rfl, rfl, rfl⟩ := hh
      exact .inl ⟨G.exm, cau_ret G.xr G.what rfl (.inl rfl) (by decide) (by decide) (of_decide_eq_true rfl) (hend.1 _ rfl)⟩
  · rw [if_neg hc] at hend ap
    refine gs_one (ss_tryAs (W := wNo) (i := 3) (fun C f d ρ => False) rfl rfl nd rfl rfl ⟨rfl, rfl, .inl G.ref⟩ takes_no (fun W' pn xe tk' pa' hx => ?_) fun C f d ρ' hh => hh.elim)
    exact gs_one (ss_retE (eo_meth GA tk' (pv 0) rfl rfl (of_decide_eq_true rfl) (aska_h (as_cons (ie_var (pv 1) rfl) (as_cons (ie_var (pv 2) rfl) as_nil))) ap (hr.mono (by decide))) fun v A2 H2 σ q fp es r1 n f1 => hend.1 _ rfl v A2 H2 σ q fp es.fro r1 n f1)
end
end Kf.L

set_option maxHeartbeats 1000000
namespace Kf.L
open PySem L2
/-! ### the plain law -/
/-- no two turns are neighbours -/
def NoNb : List QR → Prop
  | [] => True
  | [_] => True
  | a :: b :: rs => ¬ (a.isT = true ∧ b.isT = true) ∧ NoNb (b :: rs)
/-- the turns lead from a path to another one -/
def Chn : List Str → List QR → List Str → Prop
  | cur, [], last => cur = last
  | cur, .msg _ _ :: rs, last => Chn cur rs last
  | cur, .trn b e s :: rs, last => b = cur ∧ StepsOf e s ∧ Chn e rs last
def QR.sh : QR → Prop
  | .msg t _ => PyData.strOk t = true
  | .trn b e s => b.length ≤ 4 ∧ e.length ≤ 4 ∧ s.length ≤ 100 ∧ (∀ x ∈ b, PyData.strOk x = true) ∧ (∀ x ∈ e, PyData.strOk x = true) ∧ flatDs s = true ∧ ∀ d ∈ s, plainD 1 d ∧ PyData.canLay0 (py d) = true
theorem QR.sh.ok {r : QR} (h : r.sh) : r.ok := by
  cases r with
  | msg t b => trivial
  | trn b e s =>
    obtain ⟨h1, h2, h3, h4, h5, h6, _⟩ := h
    exact ⟨by omega, by omega, h3, h4, h5, h6⟩
theorem chn_app : ∀ (xs : List QR) {cur mid last : List Str} {ys : List QR}, Chn cur xs mid → Chn mid ys last → Chn cur (xs ++ ys) last
  | [], _, _, _, _, h1, h2 => by cases h1; exact h2
  | .msg _ _ :: xs, _, _, _, _, h1, h2 => chn_app xs h1 h2
  | .trn b e s :: xs, _, _, _, _, ⟨h, h', h1⟩, h2 => ⟨h, h', chn_app xs h1 h2⟩
theorem chn_split : ∀ (xs : List QR) {cur last : List Str} {ys : List QR}, Chn cur (xs ++ ys) last → ∃ mid, Chn cur xs mid ∧ Chn mid ys last
  | [], cur, _, _, h => ⟨cur, rfl, h⟩
  | .msg _ _ :: xs, _, _, _, h => chn_split xs h
  | .trn b e s :: xs, _, _, _, ⟨h, h', h1⟩ => by
    obtain ⟨mid, h2, h3⟩ := chn_split xs h1
    exact ⟨mid, ⟨h, h', h2⟩, h3⟩
theorem nb_snoc : ∀ (xs : List QR) (r : QR), NoNb xs → (r.isT = true → ∀ z, xs.getLast? = some z → z.isT = false) → NoNb (xs ++ [r])
  | [], r, _, _ => trivial
  | [a], r, _, h => ⟨fun q => (nomatch ((h q.2 a rfl).symm.trans q.1)), trivial⟩
  | a :: b :: xs, r, ⟨h1, h2⟩, h => ⟨h1, nb_snoc (b :: xs) r h2 fun q z hz => h q z (by rw [List.getLast?_cons_cons]; exact hz)⟩
theorem nb_init : ∀ (xs : List QR) (r : QR), NoNb (xs ++ [r]) → NoNb xs ∧ (r.isT = true → ∀ z, xs.getLast? = some z → z.isT = false)
  | [], r, _ => ⟨trivial, fun _ _ h => nomatch h⟩
  | [a], r, ⟨h, _⟩ => ⟨trivial, fun q z hz => by
      have hz : a = z := Option.some.inj hz
      rw [← hz]
      cases e : a.isT with
      | false => rfl
      | true => exact absurd ⟨e, q⟩ h⟩
  | a :: b :: xs, r, ⟨h1, h2⟩ => by
    obtain ⟨h3, h4⟩ := nb_init (b :: xs) r h2
    exact ⟨⟨h1, h3⟩, fun q z hz => h4 q z (by rw [List.getLast?_cons_cons] at hz; exact hz)⟩
theorem snoc_of {xs : List QR} {z : QR} (h : xs.getLast? = some z) : xs = xs.dropLast ++ [z] := by
  have hne : xs ≠ [] := fun e => by rw [e] at h; cases h
  rw [List.getLast?_eq_some_getLast hne] at h
  cases h
  exact (List.dropLast_concat_getLast hne).symm
/-- one more row: still no neighbours, and a chain -/
theorem merge_chn {found : List QR} {tp c last : List Str} {r : QR} (hn : NoNb found) (hc : Chn tp found c) (hr : Chn c [r] last) : NoNb (mergeQ found r) ∧ Chn tp (mergeQ found r) last := by
  cases r with
  | msg t b => exact ⟨nb_snoc _ _ hn fun q => (nomatch q), chn_app _ hc hr⟩
  | trn b e s =>
    obtain ⟨rfl, hs, rfl⟩ := hr
    unfold mergeQ
    split
    · rename_i b1 e1 s1 b0 e0 s0 heq hl
      cases heq
      have es := snoc_of hl
      generalize found.dropLast = pre at es
      subst es
      obtain ⟨h1, h2⟩ := nb_init _ _ hn
      obtain ⟨mid, h3, h4, _, h5⟩ := chn_split pre hc
      subst h4
      split
      · rename_i e9
        subst e9
        exact ⟨h1, h3⟩
      · exact ⟨nb_snoc _ _ h1 fun _ => h2 rfl, chn_app _ h3 ⟨rfl, hs, rfl⟩⟩
    · rename_i hno
      refine ⟨nb_snoc _ _ hn fun _ z hz => ?_, chn_app _ hc ⟨rfl, hs, rfl⟩⟩
      cases z with
      | msg t b => rfl
      | trn b0 e0 s0 => exact absurd hz (hno b e s b0 e0 s0 rfl)
theorem fold_chn : ∀ (rows : List QR) {found : List QR} {tp c last : List Str}, NoNb found → Chn tp found c → Chn c rows last → NoNb (rows.foldl mergeQ found) ∧ Chn tp (rows.foldl mergeQ found) last
  | [], _, _, _, _, hn, hc, hr => by cases hr; exact ⟨hn, hc⟩
  | r :: rows, found, tp, c, last, hn, hc, hr => by
    obtain ⟨mid, h1, h2⟩ := chn_split [r] (ys := rows) hr
    obtain ⟨h3, h4⟩ := merge_chn hn hc h1
    exact fold_chn rows h3 h4 h2
theorem merged_chn {rows : List QR} {tp last : List Str} (h : Chn tp rows last) : NoNb (mergedQ rows) ∧ Chn tp (mergedQ rows) last := fold_chn rows (found := []) (c := tp) trivial rfl h
theorem merge_sh {found : List QR} {r : QR} (hf : ∀ x ∈ found, x.sh) (hr : r.sh) : ∀ x ∈ mergeQ found r, x.sh := fun x hx => by
  unfold mergeQ at hx
  split at hx
  · rename_i b e s b0 e0 s0 hl
    have h0 : (QR.trn b0 e0 s0).sh := hf _ (List.mem_of_getLast? hl)
    split at hx
    · exact hf x (List.dropLast_subset _ hx)
    · rcases List.mem_append.mp hx with z | z
      · exact hf x (List.dropLast_subset _ z)
      · rw [List.mem_singleton] at z
        subst z
        exact ⟨h0.1, hr.2.1, hr.2.2.1, h0.2.2.2.1, hr.2.2.2.2.1, hr.2.2.2.2.2⟩
  · rcases List.mem_append.mp hx with z | z
    · exact hf x z
    · rw [List.mem_singleton] at z
      subst z
      exact hr
theorem merged_sh {rows : List QR} (h : ∀ x ∈ rows, x.sh) : ∀ x ∈ mergedQ rows, x.sh := by
  have key : ∀ (rows found : List QR), (∀ x ∈ rows, x.sh) → (∀ x ∈ found, x.sh) → ∀ x ∈ rows.foldl mergeQ found, x.sh := by
    intro rows
    induction rows with
    | nil => exact fun _ _ h => h
    | cons r rows ih => exact fun found h1 h2 => ih _ (fun x hx => h1 x (List.mem_cons_of_mem _ hx)) (merge_sh h2 (h1 r (List.mem_cons_self ..)))
  exact key rows [] h (fun x hx => nomatch hx)
theorem msgs_app (xs ys : List QR) : msgsQ (xs ++ ys) = msgsQ xs ++ msgsQ ys := List.filter_append ..
theorem merge_msgs (found : List QR) (r : QR) : msgsQ (mergeQ found r) = msgsQ found ++ msgsQ [r] := by
  unfold mergeQ
  split
  · rename_i b e s b0 e0 s0 hl
    have es := snoc_of hl
    generalize found.dropLast = pre at es ⊢
    subst es
    split
    · rw [msgs_app]
      show msgsQ pre = (msgsQ pre ++ []) ++ []
      rw [List.append_nil, List.append_nil]
    · rw [msgs_app, msgs_app]
      show msgsQ pre ++ [] = (msgsQ pre ++ []) ++ []
      rw [List.append_nil, List.append_nil]
  · exact msgs_app _ _
theorem fold_msgs : ∀ (rows found : List QR), msgsQ (rows.foldl mergeQ found) = msgsQ found ++ msgsQ rows
  | [], found => by show msgsQ found = msgsQ found ++ []; rw [List.append_nil]
  | r :: rows, found => by
    rw [List.foldl_cons, fold_msgs rows, merge_msgs, List.append_assoc, ← msgs_app]
    rfl
theorem merged_msgs (rows : List QR) : msgsQ (mergedQ rows) = msgsQ rows := fold_msgs rows []
theorem nb_len : ∀ (rows : List QR), NoNb rows → rows.length ≤ 2 * (msgsQ rows).length + 1
  | [], _ => by simp
  | [a], _ => by simp
  | a :: b :: rs, ⟨h1, h2⟩ => by
    cases a with
    | msg t c =>
      have h := nb_len (b :: rs) h2
      have e : msgsQ (.msg t c :: b :: rs) = .msg t c :: msgsQ (b :: rs) := rfl
      rw [e]
      simp only [List.length_cons] at h ⊢
      omega
    | trn b1 e1 s1 =>
      cases b with
      | trn b2 e2 s2 => exact absurd ⟨rfl, rfl⟩ h1
      | msg t c =>
        have h : rs.length ≤ 2 * (msgsQ rs).length + 1 := by
          cases rs with
          | nil => simp
          | cons d rs => exact nb_len (d :: rs) h2.2
        have e : msgsQ (.trn b1 e1 s1 :: .msg t c :: rs) = .msg t c :: msgsQ rs := rfl
        rw [e]
        simp only [List.length_cons]
        omega
theorem chn_turns : ∀ (rows : List QR) {cur last : List Str}, Chn cur rows last → Chn cur (rows.filter QR.isT) last
  | [], _, _, h => h
  | .msg _ _ :: rows, _, _, h => chn_turns rows h
  | .trn b e s :: rows, _, _, ⟨h, h', h1⟩ => ⟨h, h', chn_turns rows h1⟩
theorem chn_msgs : ∀ (rows : List QR) {cur : List Str}, (∀ r ∈ rows, r.isT = false) → Chn cur rows cur
  | [], _, _ => rfl
  | .msg _ _ :: rows, _, h => chn_msgs rows fun r hr => h r (List.mem_cons_of_mem _ hr)
  | .trn b e s :: rows, _, h => nomatch h _ (List.mem_cons_self ..)
theorem nb_msgs : ∀ (xs ys : List QR), (∀ r ∈ xs, r.isT = false) → NoNb ys → NoNb (xs ++ ys)
  | [], ys, _, h => h
  | [a], [], _, _ => trivial
  | [a], b :: ys, h, h2 => ⟨fun q => (nomatch ((h a (List.mem_cons_self ..)).symm.trans q.1)), h2⟩
  | a :: b :: xs, ys, h, h2 => ⟨fun q => (nomatch ((h a (List.mem_cons_self ..)).symm.trans q.1)), nb_msgs (b :: xs) ys (fun r hr => h r (List.mem_cons_of_mem _ hr)) h2⟩
/-- what stands behind each deed -/
structure Jv (rows : List QR) (last tp : List Str) : Prop where
  sh : ∀ r ∈ rows, r.sh
  nn : NoNb rows
  ch : Chn tp rows last
  ml : (msgsQ rows).length ≤ 40
  ll : last.length ≤ 4
  ls : ∀ x ∈ last, PyData.strOk x = true
  tl : tp.length ≤ 4
theorem Jv.len {rows : List QR} {last tp : List Str} (j : Jv rows last tp) : rows.length ≤ 81 := by
  have h := nb_len rows j.nn
  have h2 := j.ml
  omega
theorem Jv.q {rows : List QR} {last tp : List Str} (j : Jv rows last tp) : QOk rows last := ⟨fun r hr => (j.sh r hr).ok, by have := j.len; omega, by have := j.ll; omega, j.ls⟩
theorem Jv.tell {rows : List QR} {last tp names : List Str} {st : List Kf.D} (j : Jv rows last tp) (h : (QR.trn last names st).sh) (hs : StepsOf names st) : Jv (tellQ rows last names st) names tp := by
  by_cases e : names = last
  · subst e
    unfold tellQ
    rw [if_pos rfl]
    exact j
  · unfold tellQ
    rw [if_neg e]
    obtain ⟨h1, h2⟩ := merged_chn (rows := rows ++ [.trn last names st]) (chn_app _ j.ch (show Chn last [.trn last names st] names from ⟨rfl, hs, rfl⟩))
    refine ⟨merged_sh fun r hr => ?_, h1, h2, ?_, h.2.1, h.2.2.2.2.1, j.tl⟩
    · rcases List.mem_append.mp hr with z | z
      · exact j.sh r z
      · rw [List.mem_singleton] at z
        subst z
        exact h
    · rw [merged_msgs, msgs_app]
      show (msgsQ rows ++ []).length ≤ 40
      rw [List.append_nil]
      exact j.ml
theorem Jv.put {rows : List QR} {last tp : List Str} {t : Str} {b : Bool} (j : Jv rows last tp) (ht : PyData.strOk t = true) (h : ¬ 40 ≤ (msgsQ rows).length) : Jv (putQ rows t b) last tp := by
  cases b with
  | false =>
    show Jv (rows ++ [.msg t false]) last tp
    refine ⟨fun r hr => ?_, nb_snoc _ _ j.nn fun q => (nomatch q), chn_app _ j.ch rfl, ?_, j.ll, j.ls, j.tl⟩
    · rcases List.mem_append.mp hr with z | z
      · exact j.sh r z
      · rw [List.mem_singleton] at z
        subst z
        exact ht
    · rw [msgs_app]
      show (msgsQ rows ++ [QR.msg t false]).length ≤ 40
      rw [List.length_append, List.length_singleton]
      omega
  | true =>
    show Jv ((msgsQ rows).filter QR.asr ++ [.msg t true] ++ mergedQ (rows.filter QR.isT)) last tp
    obtain ⟨h1, h2⟩ := merged_chn (chn_turns rows j.ch)
    have hm2 : ∀ r ∈ (msgsQ rows).filter QR.asr ++ [.msg t true], r.isT = false ∧ r.sh := fun r hr => by
      rcases List.mem_append.mp hr with z | z
      · have z1 := (List.mem_filter.mp z).1
        exact ⟨msgs_isT r z1, j.sh r (List.mem_filter.mp z1).1⟩
      · rw [List.mem_singleton] at z
        subst z
        exact ⟨rfl, ht⟩
    have hm : ∀ r ∈ (msgsQ rows).filter QR.asr ++ [.msg t true], r.isT = false := fun r hr => (hm2 r hr).1
    refine ⟨fun r hr => ?_, nb_msgs _ _ hm h1, chn_app _ (chn_msgs _ hm) h2, ?_, j.ll, j.ls, j.tl⟩
    · rcases List.mem_append.mp hr with z | z
      · exact (hm2 r z).2
      · exact merged_sh (fun x hx => j.sh x (List.mem_filter.mp hx).1) r z
    · rw [msgs_app, merged_msgs, List.length_append]
      have e1 : (msgsQ ((msgsQ rows).filter QR.asr ++ [.msg t true])).length ≤ ((msgsQ rows).filter QR.asr).length + 1 := by
        refine Nat.le_trans (List.length_filter_le _ _) ?_
        rw [List.length_append, List.length_singleton]
        exact Nat.le_refl _
      have e2 : msgsQ (rows.filter QR.isT) = [] := by
        unfold msgsQ
        rw [List.filter_filter]
        refine List.filter_eq_nil_iff.mpr fun r _ => ?_
        cases r.isT <;> simp
      have e3 := List.length_filter_le QR.asr (msgsQ rows)
      rw [e2, List.length_nil]
      omega
theorem shared_take : ∀ xs ys : List Str, xs.take (sharedN xs ys) = ys.take (sharedN xs ys)
  | [], ys => by
    show _ = ys.take 0
    simp [sharedN]
  | _ :: _, [] => by simp [sharedN]
  | x :: xs, y :: ys => by
    unfold sharedN
    by_cases e : x = y
    · rw [if_pos e, List.take_succ_cons, List.take_succ_cons, shared_take xs ys, e]
    · rw [if_neg e]
      rfl
/-- the first announcement, taken and applied -/
theorem Jv.take {r : QR} {rows : List QR} {last tp : List Str} (j : Jv (r :: rows) last tp) : FitQ tp r ∧ Jv rows last (applQ tp r) := by
  have hn : NoNb rows := by
    cases rows with
    | nil => trivial
    | cons b rs => exact j.nn.2
  cases r with
  | msg t b => exact ⟨trivial, fun x hx => j.sh x (List.mem_cons_of_mem _ hx), hn, j.ch, by have h := j.ml; have e : msgsQ (.msg t b :: rows) = .msg t b :: msgsQ rows := rfl; rw [e, List.length_cons] at h; omega, j.ll, j.ls, j.tl⟩
  | trn b e s =>
    obtain ⟨rfl, hs, hc⟩ := j.ch
    obtain ⟨s1, s2, _⟩ := j.sh _ (List.mem_cons_self ..)
    obtain ⟨l1, l2⟩ := sharedN_le b e
    have ea : applQ b (.trn b e s) = e := by
      show b.take (b.length - (b.length - sharedN b e)) ++ e.drop (sharedN b e) = e
      have e1 : b.length - (b.length - sharedN b e) = sharedN b e := by omega
      rw [e1, shared_take, List.take_append_drop]
    rw [ea]
    exact ⟨⟨hs, by omega, by omega⟩, fun x hx => j.sh x (List.mem_cons_of_mem _ hx), hn, hc, j.ml, j.ll, j.ls, s2⟩
/-! ### what the law's own draws give -/
theorem lpath_len (z : Int) : (lpath z).length ≤ 4 := by
  unfold lpath
  have h : (drawn z 2 % 4).toNat ≤ 3 := by omega
  rw [List.length_append, List.length_map, List.length_range]
  split <;> simp only [List.length_cons, List.length_nil] <;> omega
theorem lpath_ok (z : Int) : ∀ x ∈ lpath z, PyData.strOk x = true := fun x hx => by
  unfold lpath at hx
  rcases List.mem_append.mp hx with h | h
  · split at h <;> (rw [List.mem_singleton] at h; subst h; exact strOk_of _)
  · obtain ⟨k, _, rfl⟩ := List.mem_map.mp h
    unfold nmP
    refine strOk_app ?_ (strOk_of _)
    split
    · exact strOk_of _
    · split <;> exact strOk_of _
theorem flat_tups : ∀ {l : List Kf.D}, (∀ d ∈ l, flatD d = true) → flatDs l = true
  | [], _ => rfl
  | d :: l, h => by
    rw [flatDs, h d (List.mem_cons_self ..), flat_tups fun x hx => h x (List.mem_cons_of_mem _ hx)]
    rfl
theorem stp_sh {b : List Str} {names : List Str} {dr : Int} (h1 : b.length ≤ 4) (h2 : ∀ x ∈ b, PyData.strOk x = true) (h3 : names.length ≤ 4) (h4 : ∀ x ∈ names, PyData.strOk x = true) : (QR.trn b names (stp names dr)).sh ∧ StepsOf names (stp names dr) := by
  refine ⟨⟨h1, h3, ?_, h2, h4, flat_tups fun d hd => ?_, fun d hd => ?_⟩, ?_, fun d hd => ?_⟩
  · unfold stp
    rw [List.length_map, List.length_range]
    omega
  · obtain ⟨k, _, rfl⟩ := List.mem_map.mp hd
    rfl
  · obtain ⟨k, _, rfl⟩ := List.mem_map.mp hd
    refine ⟨⟨by simp, fun x hx => ?_⟩, ?_⟩
    · simp only [List.mem_cons, List.not_mem_nil, or_false] at hx
      rcases hx with rfl | rfl | rfl | rfl | rfl <;> trivial
    · have hk : PyData.strOk (names.getD k Str.empty) = true := by
        rw [List.getD_eq_getElem?_getD]
        cases e : names[k]? with
        | none => exact (by simp [PyData.strOk, Str.empty] : PyData.strOk Str.empty = true)
        | some x => exact h4 x (List.mem_of_getElem? e)
      have hk2 : PyData.strOk (if (dr + (k : Int)) % 2 = 0 then Str.ofString "" else "Ok") = true := by
        split <;> exact strOk_of _
      simp only [py, pys, PyData.canLay0, PyData.canLayAll0, hk, hk2, Bool.true_and, Bool.and_true]
      exact strOk_of _
  · unfold stp
    rw [List.map_map]
    refine List.ext_getElem (by simp) fun i h5 h6 => ?_
    have hi : i < names.length := by simpa using h6
    rw [List.getElem_map, List.getElem_map, List.getElem_range]
    show D.str (names.getD i Str.empty) = D.str names[i]
    rw [List.getD_eq_getElem?_getD, List.getElem?_eq_getElem hi]
    rfl
  · obtain ⟨k, _, rfl⟩ := List.mem_map.mp hd
    exact ⟨_, _, rfl⟩
theorem plain_mono : ∀ (n : Nat) (d : Kf.D), plainD n d → plainD (n + 1) d := by
  intro n
  induction n with
  | zero =>
    intro d h
    cases d <;> first | exact h | exact h.elim | trivial
  | succ n ih =>
    intro d h
    cases d with
    | tup xs => exact ⟨h.1, fun x hx => ih x (h.2 x hx)⟩
    | _ => first | exact h | exact h.elim | trivial
theorem plain_shown {r : QR} (h : r.sh) : plainD 3 (shownQ r) := by
  cases r with
  | msg t b =>
    refine ⟨by simp, fun x hx => ?_⟩
    simp only [List.mem_cons, List.not_mem_nil, or_false] at hx
    rcases hx with rfl | rfl | rfl <;> trivial
  | trn b e s =>
    obtain ⟨h1, h2, h3, h4, h5, h6, h7⟩ := h
    refine ⟨by simp, fun x hx => ?_⟩
    simp only [List.mem_cons, List.not_mem_nil, or_false] at hx
    rcases hx with rfl | rfl | rfl
    · trivial
    · trivial
    · exact ⟨by rw [List.length_drop]; omega, fun d hd => (h7 d (List.mem_of_mem_drop hd)).1⟩
theorem plain_queue {rows : List QR} {last tp : List Str} (j : Jv rows last tp) : plainD 4 (.tup (rows.map shownQ)) :=
  ⟨by rw [List.length_map]; have := j.len; omega, fun x hx => by
    obtain ⟨r, hr, rfl⟩ := List.mem_map.mp hx
    exact plain_shown (j.sh r hr)⟩
/-- a shown row may be compared -/
theorem cmp_shown {r : QR} : isNon (shownQ r) = false := by cases r <;> rfl
theorem plain_py : ∀ (n : Nat) (d : Kf.D), plainD n d → pyb d = true ∧ (py d).depth ≤ n := by
  intro n
  induction n with
  | zero =>
    intro d h
    cases d <;> first | exact ⟨rfl, by simp [py, PyData.depth]⟩ | exact h.elim
  | succ n ih =>
    intro d h
    cases d with
    | tup xs =>
      have key : ∀ xs : List Kf.D, (∀ x ∈ xs, plainD n x) → pybs xs = true ∧ PyData.depthAll (pys xs) ≤ n := by
        intro xs
        induction xs with
        | nil => exact fun _ => ⟨rfl, Nat.zero_le _⟩
        | cons x xs ih2 =>
          intro hx
          obtain ⟨a1, a2⟩ := ih x (hx x (List.mem_cons_self ..))
          obtain ⟨b1, b2⟩ := ih2 fun y hy => hx y (List.mem_cons_of_mem _ hy)
          refine ⟨by rw [pybs, a1, b1]; rfl, ?_⟩
          rw [pys, PyData.depthAll]
          omega
      obtain ⟨a, b⟩ := key xs h.2
      refine ⟨by rw [pyb]; exact a, ?_⟩
      rw [py, PyData.depth]
      omega
    | _ => first | exact ⟨rfl, by simp [py, PyData.depth]⟩ | exact h.elim
theorem lay_all : ∀ {l : List Kf.D}, (∀ d ∈ l, PyData.canLay0 (py d) = true) → PyData.canLayAll0 (pys l) = true
  | [], _ => rfl
  | d :: l, h => by
    rw [pys, PyData.canLayAll0, h d (List.mem_cons_self ..), lay_all fun x hx => h x (List.mem_cons_of_mem _ hx)]
    rfl
theorem cmp_row {r : QR} (h : r.sh) : cmpD (shownQ r) = true := by
  obtain ⟨g1, g2⟩ := plain_py 3 _ (plain_shown h)
  unfold cmpD SeqAt.shaped
  rw [g1, Bool.true_and, decide_eq_true (Nat.le_trans g2 (by decide)), Bool.and_true]
  cases r with
  | msg t b =>
    have h : PyData.strOk t = true := h
    have h0 : PyData.strOk (Str.ofString "message") = true := strOk_of _
    show PyData.canLay0 (py (.tup [.str (Str.ofString "message"), .str t, .bl b])) = true
    simp only [py, pys, PyData.canLay0, PyData.canLayAll0, h, h0, Bool.and_true, Bool.true_and]
  | trn b e s =>
    obtain ⟨h1, h2, h3, h4, h5, h6, h7⟩ := h
    have h8 := lay_all (l := s.drop (sharedN b e)) fun d hd => (h7 d (List.mem_of_mem_drop hd)).2
    have h0 : PyData.strOk (Str.ofString "path") = true := strOk_of _
    show PyData.canLay0 (py (.tup [.str (Str.ofString "path"), .int ((b.length - sharedN b e : Nat) : Int), .tup (s.drop (sharedN b e))])) = true
    simp only [py, pys, PyData.canLay0, PyData.canLayAll0, h8, h0, Bool.and_true, Bool.true_and]
end Kf.L

set_option maxHeartbeats 1000000
namespace Kf.L
open PySem L2
theorem me_dln {X : Cx} {T : List Addr} {e : Expr} {te : TE} {i : Nat} {ρ : Rho} {m : M} (hpe : PE X e te) (hi : i < X.N.length) (h : Dln T X.K i te ρ m) : Me X T e ρ m := fun A H σ s l Q k pins st I => hpe.run pins st σ H Q I (h A H σ s l (by rw [I.len]; exact hi) Q k)
theorem weak_len : ∀ {ρ ρ' : Rhm}, Weak ρ ρ' → ρ.length = ρ'.length
  | _, _, .nil => rfl
  | _, _, .keep w => congrArg (· + 1) (weak_len w)
  | _, _, .drop w => congrArg (· + 1) (weak_len w)
theorem weak_set : ∀ {ρ ρ' : Rhm}, Weak ρ ρ' → ∀ (i : Nat) (o : Option M), Weak (ρ.set i o) (ρ'.set i o)
  | _, _, .nil, _, _ => .nil
  | _, _, .keep w, 0, o => .keep w
  | _, _, .drop w, 0, o => .keep w
  | _, _, .keep w, i + 1, o => .keep (weak_set w i o)
  | _, _, .drop w, i + 1, o => .drop (weak_set w i o)
theorem put_msgs (rows : List QR) (t : Str) (b : Bool) : (msgsQ (putQ rows t b)).length ≤ (msgsQ rows).length + 1 := by
  cases b with
  | false =>
    show (msgsQ (rows ++ [.msg t false])).length ≤ _
    rw [msgs_app, List.length_append]
    exact Nat.le_refl _
  | true =>
    show (msgsQ ((msgsQ rows).filter QR.asr ++ [.msg t true] ++ mergedQ (rows.filter QR.isT))).length ≤ _
    rw [msgs_app, merged_msgs, List.length_append]
    have e1 : (msgsQ ((msgsQ rows).filter QR.asr ++ [.msg t true])).length ≤ ((msgsQ rows).filter QR.asr).length + 1 := by
      refine Nat.le_trans (List.length_filter_le _ _) ?_
      rw [List.length_append, List.length_singleton]
      exact Nat.le_refl _
    have e2 : msgsQ (rows.filter QR.isT) = [] := by
      unfold msgsQ
      rw [List.filter_filter]
      refine List.filter_eq_nil_iff.mpr fun r _ => ?_
      cases r.isT <;> simp
    have e3 := List.length_filter_le QR.asr (msgsQ rows)
    rw [e2, List.length_nil]
    omega
def shownL : Kf.D → Kf.D
  | .tup [_, .lst b, .lst e, .tup s] => shownQ (.trn (b.map strD) (e.map strD) s)
  | d => d
theorem shownL_row (r : QR) : shownL r.l = shownQ r := by
  cases r with
  | msg t b => rfl
  | trn b e s =>
    show shownQ (.trn ((b.map D.str).map strD) ((e.map D.str).map strD) s) = _
    rw [strD_map, strD_map]
theorem flat_drop : ∀ (n : Nat) (s : List Kf.D), flatDs s = true → flatDs (s.drop n) = true := by
  intro n
  induction n with
  | zero => exact fun _ h => h
  | succ n ih =>
    intro s h
    cases s with
    | nil => rfl
    | cons d s =>
      rw [flatDs, Bool.and_eq_true] at h
      exact ih s h.2
theorem flat_shown {r : QR} (h : r.sh) : flatD (shownQ r) = true := by
  cases r with
  | msg t b => rfl
  | trn b e s => simp [shownQ, flatD, flatDs, flat_drop _ _ h.2.2.2.2.2.1]
theorem flat_queue {rows : List QR} (h : ∀ r ∈ rows, r.sh) : flatDs (rows.map shownQ) = true := flat_tups fun d hd => by
  obtain ⟨r, hr, rfl⟩ := List.mem_map.mp hd
  exact flat_shown (h r hr)
theorem nb_at : ∀ (rows : List QR) (j : Nat) (a b : QR), NoNb rows → rows[j]? = some a → rows[j + 1]? = some b → (b.isT && a.isT) = false
  | [], _, _, _, _, h, _ => by simp at h
  | [x], j, a, b, _, _, h => by simp at h
  | x :: y :: rs, 0, a, b, ⟨h1, _⟩, h2, h3 => by
    have e1 : x = a := by simpa using h2
    have e2 : y = b := by simpa using h3
    subst e1 e2
    cases ex : x.isT with
    | false => simp
    | true =>
      cases ey : y.isT with
      | false => rfl
      | true => exact absurd ⟨ex, ey⟩ h1
  | x :: y :: rs, j + 1, a, b, ⟨_, h1⟩, h2, h3 => nb_at (y :: rs) j a b h1 (by simpa using h2) (by simpa using h3)
/-- the frame of the law -/
def lawS (CA CT CK : Addr) (zs : List Int) (rows : List QR) (last tp : List Str) : Rhm := [some (.im (.fls (zs.map D.int))), some (annM CA CT rows last), some (tkM CK tp), some (.im (.lst (rows.map QR.l))), some (.im (.lst (last.map D.str))), none, none, none, none, none, none, none, none, none]
theorem small_str {x : Str} {k : Nat} (hx : x.length ≤ 10) (hk : k < 1000) : x.length + (Str.ofString (toString (k : Int))).length ≤ sizeLine := by
  have := len_nat hk
  rw [sizeLine_eq]
  omega
section
variable {P : Program} {w : World} {K : PySem.W.Frag} {mg : Str → Option Value} {base : Heap} {T : List Addr} {f : Addr} {fd : FuncData} {CT CA CK CR : Addr}
/-- the defs that the law calls -/
structure G42 (P : Program) (w : World) (K : PySem.W.Frag) (mg : Str → Option Value) (base : Heap) (T : List Addr) (CT CA CK CR : Addr) : Prop where
  cell : Fn P w K mg base T "_law_cell" 1 r_cell
  draws : Fn P w K mg base T "_law_draws" 1 r_draws
  mkA : MkM P w K mg base T "Announcements" CA 1 (r_ainit CA CT)
  mkK : MkM P w K mg base T "Tracker" CK 1 (r_kinit CK)
  tell : MtM P w K mg base T CA "tell" 5 (r_tell CA CT)
  mesg : MtM P w K mg base T CA "message" 5 (r_mesg CA CT CR)
  queue : Mt P w K mg base T CA "queue" 4 (r_queue CA CT)
  take : MtM P w K mg base T CA "take" 6 (r_take CA CT)
  kpath : Mt P w K mg base T CK "path" 1 (r_kpath CK)
  kappl : MtM P w K mg base T CK "apply" 3 (r_kappl CK)
  same : Fn P w K mg base T "_law_same" 5 (r_same 4)
  lpath : Fn P w K mg base T "_law_path" 1 r_lpath
  lstep : Fn P w K mg base T "_law_steps" 1 r_lstep
  lshown : Fn P w K mg base T "_law_shown" 1 r_lshown
  joined : Fn P w K mg base T "_law_joined" 1 r_joined
  lmesg : Fn P w K mg base T "_law_message" 3 r_lmesg
  ltold : FnM P w K mg base T "_law_told" 6 (r_ltold CA CT)
theorem ok_law (F : FD K "law" "law" s_law f fd) (G : K42 K mg CT CA CK CR) (C : G42 P w K mg base T CT CA CK CR) : FnOk P w K mg base CX0 8 f fd p_law (spP K T rLaw) := by
  refine fn_ok F sc_law (fun ds m ⟨zs, _, _, h, _⟩ => by rw [h]; rfl) fun cdv A outer s H A0 E hr hcd ds m h Z hrt hnx => ?_
  obtain ⟨zs, hzl, hzb, rfl, rfl⟩ := h
  show Gs _ _ _ [some (.im (.fls (zs.map D.int))), none, none, none, none, none, none, none, none, none, none, none, none, none]
  have nd := sc_law.nd
  refine gs_cons (ss_set (i := 1) (ask_h (me_make0 C.mkA ⟨rfl, rfl, rfl⟩ (hr.mono (by decide)))) nd rfl (.inl rfl) ?_)
  refine gs_cons (ss_set (i := 2) (ask_h (me_make0 C.mkK ⟨rfl, rfl, rfl⟩ (hr.mono (by decide)))) nd rfl (.inl rfl) ?_)
  refine gs_cons (ss_set (i := 3) (m := .im (.lst [])) (ask_h (me_ie (ie_ls (me_lst as_nil)))) nd rfl (.inl rfl) ?_)
  refine gs_cons (ss_set (i := 4) (m := .im (.lst [])) (ask_h (me_ie (ie_ls (me_lst as_nil)))) nd rfl (.inl rfl) ?_)
  show Nx _ _ (lawS CA CT CK zs [] [] [])
  have j0 : Jv [] [] [] := ⟨fun _ h => (nomatch h), trivial, rfl, by decide, by decide, fun _ h => (nomatch h), by decide⟩
  have b0 : cellZ zs 1 % 4 / 3 * 38 ≤ 38 ∧ 0 ≤ cellZ zs 1 % 4 / 3 * 38 := by omega
  have cb : -(2 ^ 62) ≤ cellZ zs 1 % 4 / 3 * 38 ∧ cellZ zs 1 % 4 / 3 * 38 < 2 ^ 62 := by omega
  refine gs_cons (ss_range (i := 5) (n := cellZ zs 1 % 4 / 3 * 38) (ps_for PassesOwn.never rfl (pi_range1 rfl G.ran pa_tw) (pg_name (i := 5) nd rfl (.inl rfl)) pss_tw)
    (as_cons (ie_im (me_bin (ie_im (me_bin (ie_im (me_bin (ie_im (me_call C.cell (as_cons (ie_var (pv 0) rfl) (as_cons ie_int as_nil)) ⟨zs, 1, rfl, rfl⟩ (hr.mono (by decide)))) ie_int (o_mod (by decide)))) ie_int (o_fdiv ⟨by decide, by decide⟩))) ie_int (o_mul (.inr ⟨by decide, by decide⟩)))) as_nil) cb
    (fun j ρ => ∃ rows, Jv rows [] [] ∧ (msgsQ rows).length ≤ j ∧ ρ = lawS CA CT CK zs rows [] []) ⟨[], j0, Nat.le_refl _, rfl⟩ (fun j ρ ⟨rows, _, _, h⟩ => by rw [h]; exact of_decide_eq_true rfl) ?_ ?_)
  · rintro k ρ hk ⟨rows, j, hm, rfl⟩ N hN
    have hk38 : k < 38 := by omega
    have hno : ¬ 40 ≤ (msgsQ rows).length := by omega
    have jl := j.len
    have ht : PyData.strOk (Str.ofString "m" ++ Str.ofString (toString (k : Int))) = true := strOk_app (strOk_of _) (strOk_of _)
    generalize hb : (decide ((k : Int) % 3 = 0) && decide ((k : Int) < 9)) = b
    have sm := small_str (x := Str.ofString "m") (k := k) (by decide) (by omega)
    have ap : r_mesg CA CT CR (annM CA CT rows []) [.str (Str.ofString "m" ++ Str.ofString (toString (k : Int))), .bl b] (.ret (.im .non) (annM CA CT (putQ rows (Str.ofString "m" ++ Str.ofString (toString (k : Int))) b) [])) := ⟨rows, [], _, b, j.q, by omega, rfl, rfl, by rw [if_neg hno]⟩
    refine gs_cons (ss_dropE (W := wNo) (eo_meth C.mesg takes_no (pv 1) rfl rfl (of_decide_eq_true rfl) (aska_h (as_cons (ie_im (me_bin ie_str (ie_im (me_ty (as_cons (ie_var (pv 5) rfl) as_nil) (cl_str (log_nat (by omega))) G.str bt_str)) (o_addS sm))) (as_cons ((ie_and (ie_im (me_cmp (ie_im (me_bin (ie_var (pv 5) rfl) ie_int (o_mod (by decide)))) ie_int o_eqI)) fun _ => ie_one (ie_im (me_cmp (ie_var (pv 5) rfl) ie_int o_lt))).to (congrArg D.bl hb)) as_nil))) ap (hr.mono (by decide))) ?_)
    have hl : r_lmesg [.lst (rows.map QR.l), .str (Str.ofString "m" ++ Str.ofString (toString (k : Int))), .bl b] (.ls ((putQ rows (Str.ofString "m" ++ Str.ofString (toString (k : Int))) b).map QR.l)) := ⟨rows, _, b, fun r hr => (j.sh r hr).ok, by omega, rfl, by rw [if_neg (by omega)]⟩
    refine gs_one (ss_set (i := 3) (m := .im (.lst ((putQ rows (Str.ofString "m" ++ Str.ofString (toString (k : Int))) b).map QR.l))) (ask_h (me_ie (ie_ls (me_call C.lmesg (as_cons (ie_var (pv 3) rfl) (as_cons (ie_im (me_bin ie_str (ie_im (me_ty (as_cons (ie_var (pv 5) rfl) as_nil) (cl_str (log_nat (by omega))) G.str bt_str)) (o_addS sm))) (as_cons ((ie_and (ie_im (me_cmp (ie_im (me_bin (ie_var (pv 5) rfl) ie_int (o_mod (by decide)))) ie_int o_eqI)) fun _ => ie_one (ie_im (me_cmp (ie_var (pv 5) rfl) ie_int o_lt))).to (congrArg D.bl hb)) as_nil))) hl (hr.mono (by decide)))))) nd rfl (.inl rfl) ?_)
    refine nx_weak (.keep (.keep (.keep (.keep (.keep (.drop (.keep (.keep (.keep (.keep (.keep (.keep (.keep (.keep .nil)))))))))))))) (hN _ ⟨_, j.put ht hno, ?_, rfl⟩)
    have := put_msgs rows (Str.ofString "m" ++ Str.ofString (toString (k : Int))) b
    omega
  · rintro ρ ⟨rows0, j1, _, rfl⟩
    have wk : ∀ {a b c d e : Option M} {o5 o6 o7 o8 o9 o10 o11 o12 o13 : Option M}, Weak [a, b, c, d, e, o5, o6, o7, o8, o9, o10, o11, o12, o13] [a, b, c, d, e, none, none, none, none, none, none, none, none, none] := .keep (.keep (.keep (.keep (.keep (.drop (.drop (.drop (.drop (.drop (.drop (.drop (.drop (.drop .nil)))))))))))))
    refine gs_cons (ss_range (i := 5) (n := cellZ zs 0 % 61) (ps_for PassesOwn.never rfl (pi_range1 rfl G.ran pa_tw) (pg_name (i := 5) nd rfl (.inl rfl)) pss_tw)
      (as_cons (ie_im (me_bin (ie_im (me_call C.cell (as_cons (ie_var (pv 0) rfl) (as_cons ie_int as_nil)) ⟨zs, 0, rfl, rfl⟩ (hr.mono (by decide)))) ie_int (o_mod (by decide)))) as_nil) ⟨by omega, by omega⟩
      (fun j ρ => ∃ rows last tp, Jv rows last tp ∧ ρ = lawS CA CT CK zs rows last tp) ⟨rows0, [], [], j1, rfl⟩ (fun j ρ ⟨rows, last, tp, _, h⟩ => by rw [h]; exact of_decide_eq_true rfl) ?_ ?_)
    · rintro k ρ hk ⟨rows, last, tp, j, rfl⟩ N hN
      have hk61 : k < 61 := by omega
      have jl := j.len
      generalize hz : cellZ zs (2 + k) = z
      refine gs_cons (ss_set (i := 6) (m := .im (.lst ((draws z 8).map D.int))) (ask_h (me_ie (ie_ls (me_call C.draws (as_cons (ie_im (me_call C.cell (as_cons (ie_var (pv 0) rfl) (as_cons ((ie_im (me_bin ie_int (ie_var (pv 5) rfl) o_add)).to (d2 := .int ((2 + k : Nat) : Int)) (congrArg D.int (by omega))) as_nil)) ⟨zs, 2 + k, rfl, rfl⟩ (hr.mono (by decide)))) (as_cons ie_int as_nil)) ⟨z, 8, by rw [hz], by decide, rfl⟩ (hr.mono (by decide)))))) nd rfl (.inl rfl) ?_)
      refine gs_cons (ss_set (i := 7) (m := .im (.int (drawn z 0 % 8))) (ask_h (me_bin (ie_draw (j := 0) (ie_var (pv 6) rfl) G.int (by decide)) ie_int (o_mod (by decide)))) nd rfl (.inl rfl) ?_)
      show Nx _ _ [some (.im (.fls (zs.map D.int))), some (annM CA CT rows last), some (tkM CK tp), some (.im (.lst (rows.map QR.l))), some (.im (.lst (last.map D.str))), some (.im (.int k)), some (.im (.lst ((draws z 8).map D.int))), some (.im (.int (drawn z 0 % 8))), none, none, none, none, none, none]
      refine gs_cons (ss_then (fun ρ' => ∃ rows last tp, Jv rows last tp ∧ Weak ρ' (lawS CA CT CK zs rows last tp)) ?_ fun hq => ss_if (k := decide (drawn z 0 % 8 < 4)) (te_cmp (ie_var (pv 7) rfl) ie_int o_lt) (fun _ => ?_) (fun _ => gs_one (ss_if (k := decide (drawn z 0 % 8 < 6)) (te_cmp (ie_var (pv 7) rfl) ie_int o_lt) (fun _ => ?_) (fun _ => ?_))))
      · rintro ρ' ⟨rows, last, tp, j, w⟩
        have jl := j.len
        refine gs_one (nx_weak w (ss_if (k := false) (te_fz (te_not (k := true) (te_val (ie_im (me_call C.same (as_cons (ie_im (me_ty (as_cons (ie_ls (me_meth0 C.queue (ie_var (pv 1) rfl) (of_decide_eq_true rfl) ⟨rows, last, j.q, rfl, rfl⟩ (hr.mono (by decide)))) as_nil) cl_tup G.tup bt_tuple)) (as_cons (ie_im (me_ty (as_cons (ie_ls (ds := rows.map shownQ) ?_) as_nil) cl_tup G.tup bt_tuple)) as_nil)) ⟨_, plain_queue j, rfl, rfl⟩ (hr.mono (by decide))))))) (fun z => nomatch z) fun _ => gs_nil ?_))
        · have e : rows.map shownQ = (rows.map QR.l).map shownL := by
            rw [List.map_map]
            exact List.map_congr_left fun r _ => (shownL_row r).symm
          rw [e]
          refine me_lc (i := 12) (pe_lc (own := [("_law_row", 12)]) rfl nd (pi_list pe_tw) (blk (by rfl)) (fun _ _ _ _ _ => pg_name (i := 12) nd rfl (.inl rfl)) (fun _ _ _ _ _ => pts_nil) (fun _ _ _ _ _ => pe_twB _ _ _ _ _)) (ie_var (pv 3) rfl) shownL (by rw [List.length_map, sizeLine_eq]; omega) (of_decide_eq_true rfl) (fun d hd s' H' C' cl fp => ?_)
          obtain ⟨r, hr2, rfl⟩ := List.mem_map.mp hd
          rw [shownL_row]
          exact ie_im (me_call C.lshown (as_cons (ie_var (pv 12) rfl) as_nil) ⟨r, (j.sh r hr2).ok, rfl, rfl⟩ (hr.mono (by decide)))
        · exact hN _ ⟨rows, last, tp, j, rfl⟩
      · have lp := lpath_ok z
        obtain ⟨hsh, hso⟩ := stp_sh (b := last) (names := lpath z) (dr := drawn z 7) j.ll j.ls (lpath_len z) lp
        have hll := lpath_len z
        have jt := j.tell hsh hso
        have ap : r_tell CA CT (annM CA CT rows last) [.lst ((lpath z).map D.str), .tup (stp (lpath z) (drawn z 7))] (.ret (.im .non) (annM CA CT (tellQ rows last (lpath z) (stp (lpath z) (drawn z 7))) (lpath z))) := ⟨rows, last, _, _, j.q, by omega, hsh.ok, rfl, rfl, rfl⟩
        have hl1 : r_lstep [.lst ((lpath z).map D.str), .int (drawn z 7)] (.im (.tup (stp (lpath z) (drawn z 7)))) := ⟨lpath z, drawn z 7, by omega, rfl, rfl⟩
        refine gs_cons (ss_set (i := 8) (m := .im (.lst ((lpath z).map D.str))) (ask_h (me_ie (ie_ls (me_call C.lpath (as_cons (ie_var (pv 6) rfl) as_nil) ⟨z, rfl, rfl⟩ (hr.mono (by decide)))))) nd rfl (.inl rfl) ?_)
        refine gs_cons (ss_set (i := 9) (m := .im (.tup (stp (lpath z) (drawn z 7)))) (ask_h (me_call C.lstep (as_cons (ie_var (pv 8) rfl) (as_cons (ie_draw (j := 7) (ie_var (pv 6) rfl) G.int (by decide)) as_nil)) hl1 (hr.mono (by decide)))) nd rfl (.inl rfl) ?_)
        have hjo : r_joined [.lst ((rows ++ [QR.trn last (lpath z) (stp (lpath z) (drawn z 7))]).map QR.l)] (.ls ((mergedQ (rows ++ [QR.trn last (lpath z) (stp (lpath z) (drawn z 7))])).map QR.l)) := ⟨_, fun r hr => by
          rcases List.mem_append.mp hr with z2 | z2
          · exact (j.sh r z2).ok
          · rw [List.mem_singleton] at z2
            subst z2
            exact hsh.ok, by simp only [List.length_append, List.length_cons, List.length_nil]; omega, rfl, rfl⟩
        generalize hst : stp (lpath z) (drawn z 7) = st at ap jt hjo
        generalize hnm : lpath z = names at ap jt lp hjo hll
        show Nx _ _ [some (.im (.fls (zs.map D.int))), some (annM CA CT rows last), some (tkM CK tp), some (.im (.lst (rows.map QR.l))), some (.im (.lst (last.map D.str))), some (.im (.int k)), some (.im (.lst ((draws z 8).map D.int))), some (.im (.int (drawn z 0 % 8))), some (.im (.lst (names.map D.str))), some (.im (.tup st)), none, none, none, none]
        refine gs_cons (ss_then (fun ρ' => ρ' = [some (.im (.fls (zs.map D.int))), some (annM CA CT rows last), some (tkM CK tp), some (.im (.lst ((tellQ rows last names st).map QR.l))), some (.im (.lst (names.map D.str))), some (.im (.int k)), some (.im (.lst ((draws z 8).map D.int))), some (.im (.int (drawn z 0 % 8))), some (.im (.lst (names.map D.str))), some (.im (.tup st)), none, none, none, none]) ?_ fun hq3 => ss_if (k := !decide (names = last)) (te_cmp (ie_var (pv 8) rfl) (ie_var (pv 4) rfl) (o_neStrs lp j.ls hr.units)) (fun q => ?_) (fun q => gs_nil ?_))
        · rintro ρ' rfl
          refine gs_one (ss_dropE (W := wNo) (eo_meth C.tell takes_no (pv 1) rfl rfl (of_decide_eq_true rfl) (aska_h (as_cons (ie_ls (me_ty (as_cons (ie_var (pv 8) rfl) as_nil) cl_list G.lst bt_list)) (as_cons (ie_var (pv 9) rfl) as_nil))) ap (hr.mono (by decide))) ?_)
          exact hq _ ⟨_, _, _, jt, wk⟩
        · have ne : ¬ names = last := by simpa using q
          have et : tellQ rows last names st = mergedQ (rows ++ [.trn last names st]) := if_neg ne
          rw [et] at hq3
          refine gs_cons (ss_set (i := 3) (m := .im (.lst ((mergedQ (rows ++ [.trn last names st])).map QR.l))) (ask_h (me_ie (ie_ls (me_call C.joined (as_cons (ie_ls (ds := (rows ++ [QR.trn last names st]).map QR.l) ?_) as_nil) hjo (hr.mono (by decide)))))) nd rfl (.inl rfl) ?_)
          · rw [List.map_append]
            refine me_bin (ie_var (pv 3) rfl) (ie_ls (me_lst (as_cons (ie_tup (as_cons ie_str (as_cons (ie_var (pv 4) rfl) (as_cons (ie_var (pv 8) rfl) (as_cons (ie_var (pv 9) rfl) as_nil))))) as_nil))) (o_addL ?_)
            simp only [List.length_map, List.length_cons, List.length_nil]
            rw [sizeLine_eq]
            omega
          · refine gs_one (ss_set (i := 4) (m := .im (.lst (names.map D.str))) (ask_h (me_ie (ie_var (pv 8) rfl))) nd rfl (.inl rfl) ?_)
            exact hq3 _ rfl
        · have e : names = last := by simpa using q
          have et : tellQ rows last names st = rows := if_pos e
          rw [et, e] at hq3
          subst e
          exact hq3 _ rfl
      · have ht : PyData.strOk (Str.ofString "x" ++ Str.ofString (toString (k : Int))) = true := strOk_app (strOk_of _) (strOk_of _)
        have sm := small_str (x := Str.ofString "x") (k := k) (by decide) (by omega)
        generalize hb : decide (drawn z 1 % 3 = 0) = b
        have arg2 : r_lmesg [.lst (rows.map QR.l), .str (Str.ofString "x" ++ Str.ofString (toString (k : Int))), .bl b] (if (msgsQ rows).length = 40 then .im .non else .ls ((putQ rows (Str.ofString "x" ++ Str.ofString (toString (k : Int))) b).map QR.l)) := ⟨rows, _, b, fun r hr => (j.sh r hr).ok, by omega, rfl, rfl⟩
        have ap2 : r_ltold CA CT (annM CA CT rows last) [.str (Str.ofString "x" ++ Str.ofString (toString (k : Int))), .bl b] (if 40 ≤ (msgsQ rows).length then .ret (.im (.str mQueue)) (annM CA CT rows last) else .ret (.im .non) (annM CA CT (putQ rows (Str.ofString "x" ++ Str.ofString (toString (k : Int))) b) last)) := ⟨rows, last, _, b, j.q, by omega, rfl, rfl, rfl⟩
        have ml := j.ml
        by_cases hc : (msgsQ rows).length = 40
        · have hc2 : 40 ≤ (msgsQ rows).length := by omega
          rw [if_pos hc] at arg2
          rw [if_pos hc2] at ap2
          refine gs_cons (ss_set (i := 10) (m := .im .non) (ask_h (me_call C.lmesg (as_cons (ie_var (pv 3) rfl) (as_cons (ie_im (me_bin ie_str (ie_im (me_ty (as_cons (ie_var (pv 5) rfl) as_nil) (cl_str (log_nat (by omega))) G.str bt_str)) (o_addS sm))) (as_cons ((ie_im (me_cmp (ie_im (me_bin (ie_draw (j := 1) (ie_var (pv 6) rfl) G.int (by decide)) ie_int (o_mod (by decide)))) ie_int o_eqI)).to (congrArg D.bl hb)) as_nil))) arg2 (hr.mono (by decide)))) nd rfl (.inl rfl) ?_)
          refine gs_cons (ss_setE (W := wNo) (i := 11) (eo_call C.ltold takes_no (pv 1) rfl (aska_h (as_cons (ie_im (me_bin ie_str (ie_im (me_ty (as_cons (ie_var (pv 5) rfl) as_nil) (cl_str (log_nat (by omega))) G.str bt_str)) (o_addS sm))) (as_cons ((ie_im (me_cmp (ie_im (me_bin (ie_draw (j := 1) (ie_var (pv 6) rfl) G.int (by decide)) ie_int (o_mod (by decide)))) ie_int o_eqI)).to (congrArg D.bl hb)) as_nil))) ap2 (hr.mono (by decide))) nd rfl (.inl rfl) ⟨of_decide_eq_true rfl, ?_⟩)
          refine gs_cons (ss_if (k := false) (te_cmp (ie_var (pv 11) rfl) ((ie_if (k := true) (d2 := .non) (te_cmp (ie_var (pv 10) rfl) ie_non o_isN) (fun _ => ie_str) fun z => nomatch z).to rfl) (o_neR (d := .str mQueue) (cmp_str (strOk_of _)) hr.units)) (fun z => nomatch z) fun _ => gs_nil ?_)
          refine gs_one (ss_set (i := 3) (m := .im (.lst (rows.map QR.l))) (ask_h (me_ie ((ie_if (k := true) (d2 := .non) (te_cmp (ie_var (pv 10) rfl) ie_non o_isN) (fun _ => ie_var (pv 3) rfl) fun z => nomatch z).to rfl))) nd rfl (.inl rfl) ?_)
          exact hq _ ⟨rows, last, tp, j, wk⟩
        · have hc2 : ¬ 40 ≤ (msgsQ rows).length := by omega
          rw [if_neg hc] at arg2
          rw [if_neg hc2] at ap2
          refine gs_cons (ss_set (i := 10) (m := .im (.lst ((putQ rows (Str.ofString "x" ++ Str.ofString (toString (k : Int))) b).map QR.l))) (ask_h (me_ie (ie_ls (me_call C.lmesg (as_cons (ie_var (pv 3) rfl) (as_cons (ie_im (me_bin ie_str (ie_im (me_ty (as_cons (ie_var (pv 5) rfl) as_nil) (cl_str (log_nat (by omega))) G.str bt_str)) (o_addS sm))) (as_cons ((ie_im (me_cmp (ie_im (me_bin (ie_draw (j := 1) (ie_var (pv 6) rfl) G.int (by decide)) ie_int (o_mod (by decide)))) ie_int o_eqI)).to (congrArg D.bl hb)) as_nil))) arg2 (hr.mono (by decide)))))) nd rfl (.inl rfl) ?_)
          refine gs_cons (ss_setE (W := wNo) (i := 11) (eo_call C.ltold takes_no (pv 1) rfl (aska_h (as_cons (ie_im (me_bin ie_str (ie_im (me_ty (as_cons (ie_var (pv 5) rfl) as_nil) (cl_str (log_nat (by omega))) G.str bt_str)) (o_addS sm))) (as_cons ((ie_im (me_cmp (ie_im (me_bin (ie_draw (j := 1) (ie_var (pv 6) rfl) G.int (by decide)) ie_int (o_mod (by decide)))) ie_int o_eqI)).to (congrArg D.bl hb)) as_nil))) ap2 (hr.mono (by decide))) nd rfl (.inl rfl) ⟨of_decide_eq_true rfl, ?_⟩)
          refine gs_cons (ss_if (k := false) (te_cmp (ie_var (pv 11) rfl) ((ie_if (k := false) (d1 := .non) (te_cmp (ie_var (pv 10) rfl) ie_non o_isN) (fun z => nomatch z) fun _ => ie_non).to rfl) (o_neR (d := .non) (by rfl) hr.units)) (fun z => nomatch z) fun _ => gs_nil ?_)
          refine gs_one (ss_set (i := 3) (m := .im (.lst ((putQ rows (Str.ofString "x" ++ Str.ofString (toString (k : Int))) b).map QR.l))) (ask_h (me_ie ((ie_if (k := false) (d1 := .non) (te_cmp (ie_var (pv 10) rfl) ie_non o_isN) (fun z => nomatch z) fun _ => ie_var (pv 10) rfl).to rfl))) nd rfl (.inl rfl) ?_)
          exact hq _ ⟨_, last, tp, j.put ht hc2, wk⟩
      · have ap3 : r_take CA CT (annM CA CT rows last) [] (.ret (.im ((rows.head?.map shownQ).getD .non)) (annM CA CT rows.tail last)) := ⟨rows, last, j.q, rfl, rfl, rfl⟩
        cases rows with
        | nil =>
          refine gs_cons (ss_setE (W := wNo) (i := 11) (eo_meth0 C.take takes_no (pv 1) rfl rfl (of_decide_eq_true rfl) ap3 (hr.mono (by decide))) nd rfl (.inl rfl) ⟨of_decide_eq_true rfl, ?_⟩)
          refine gs_cons (ss_if (k := false) (te_cmp (ie_var (pv 11) rfl) ((ie_if (k := false) (d1 := .non) (te_cmp (ie_im (me_bi (as_cons (ie_var (pv 3) rfl) as_nil) cl_lenL G.len boot_len)) ie_int o_gt) (fun z => nomatch z) fun _ => ie_non).to rfl) (o_neR (d := .non) (by rfl) hr.units)) (fun z => nomatch z) fun _ => gs_nil ?_)
          refine gs_cons (ss_if (k := false) (te_cmp (ie_var (pv 11) rfl) ie_non o_notN) (fun z => nomatch z) fun _ => gs_nil ?_)
          refine gs_one (ss_set (i := 3) (m := .im (.lst [])) (ask_h (me_ie (ie_ls (Me.to (me_sl (l := some ((1 : Nat) : Int)) (u := none) (ie_var (pv 3) rfl) ie_int trivial sc_l) (by rw [cut_from]; rfl))))) nd rfl (.inl rfl) ?_)
          exact hq _ ⟨[], last, tp, j, wk⟩
        | cons r rows =>
          obtain ⟨hfit, jt⟩ := j.take
          have hrs : r.sh := j.sh r (List.mem_cons_self ..)
          have hap : r_kappl CK (tkM CK tp) [shownQ r] (.ret (.im .non) (tkM CK (applQ tp r))) := ⟨tp, r, rfl, by have := j.tl; omega, rfl, hrs.ok, hfit, rfl⟩
          refine gs_cons (ss_setE (W := wNo) (i := 11) (eo_meth0 C.take takes_no (pv 1) rfl rfl (of_decide_eq_true rfl) ap3 (hr.mono (by decide))) nd rfl (.inl rfl) ⟨of_decide_eq_true rfl, ?_⟩)
          refine gs_cons (ss_if (k := false) (te_cmp (ie_var (pv 11) rfl) ((ie_if (k := true) (d2 := .non) ((te_cmp (ie_im (me_bi (as_cons (ie_var (pv 3) rfl) as_nil) cl_lenL G.len boot_len)) ie_int o_gt).to (by simp)) (fun _ => ie_im (me_call C.lshown (as_cons (ie_im (me_ix (ie_var (pv 3) rfl) ie_int (ix_l (d := r.l) (at_nat (j := 0) rfl)))) as_nil) ⟨r, hrs.ok, rfl, rfl⟩ (hr.mono (by decide)))) fun z => nomatch z).to rfl) (o_neR (d := shownQ r) (cmp_row hrs) hr.units)) (fun z => nomatch z) fun _ => gs_nil ?_)
          refine gs_cons (ss_then (fun ρ' => Weak ρ' [some (.im (.fls (zs.map D.int))), some (annM CA CT rows last), some (tkM CK (applQ tp r)), some (.im (.lst ((r :: rows).map QR.l))), some (.im (.lst (last.map D.str))), none, none, none, none, none, none, none, none, none]) ?_ fun hq3 => ss_if (k := true) ((te_cmp (ie_var (pv 11) rfl) ie_non o_notN).to (by show (!isNon (shownQ r)) = true; rw [cmp_shown]; rfl)) (fun _ => ?_) fun z => nomatch z)
          · intro ρ' w
            refine nx_weak w (gs_one (ss_set (i := 3) (m := .im (.lst (rows.map QR.l))) (ask_h (me_ie (ie_ls (Me.to (me_sl (l := some ((1 : Nat) : Int)) (u := none) (ie_var (pv 3) rfl) ie_int trivial sc_l) (by rw [cut_from]; rfl))))) nd rfl (.inl rfl) ?_))
            exact hq _ ⟨rows, last, applQ tp r, jt, wk⟩
          · refine gs_one (ss_dropE (W := wNo) (eo_meth C.kappl takes_no (pv 2) rfl rfl (of_decide_eq_true rfl) (aska_h (as_cons (ie_var (pv 11) rfl) as_nil)) hap (hr.mono (by decide))) ?_)
            exact hq3 _ wk
    · rintro ρ ⟨rows, last, tp, j, rfl⟩
      have jl := j.len
      refine gs_cons (ss_for (i := 12) (ds := rows.map shownQ) (ps_for PassesOwn.never rfl (pi_list pe_tw) (pg_name (i := 12) nd rfl (.inl rfl)) pss_tw) (me_ie (ie_ls (me_fz (me_meth0 C.queue (ie_var (pv 1) rfl) (of_decide_eq_true rfl) ⟨rows, last, j.q, rfl, rfl⟩ (hr.mono (by decide))) (by rw [safe]; exact flat_queue j.sh))))
        (fun i ρ => ∃ tp, Jv (rows.drop i) last tp ∧ Weak ρ [some (.im (.fls (zs.map D.int))), some (annM CA CT rows last), some (tkM CK tp), some (.im (.lst (rows.map QR.l))), some (.im (.lst (last.map D.str))), none, none, none, none, none, none, none, none, none]) ⟨tp, j, wk⟩ (fun i ρ ⟨tp, _, h⟩ => by rw [weak_len h]; exact of_decide_eq_true rfl) ?_ ?_)
      · rintro B i d ρ hd ⟨tp, j, w⟩ N hN
        rw [List.getElem?_map] at hd
        cases hq : rows[i]? with
        | none => rw [hq] at hd; cases hd
        | some r =>
        rw [hq] at hd
        cases hd
        have hi : i < rows.length := by
          by_cases q : i < rows.length
          · exact q
          · rw [List.getElem?_eq_none (by omega)] at hq; cases hq
        have e : rows.drop i = r :: rows.drop (i + 1) := by
          rw [List.drop_eq_getElem_cons hi]
          congr 1
          rw [List.getElem?_eq_getElem hi] at hq
          exact Option.some.inj hq
        rw [e] at j
        obtain ⟨hfit, jt⟩ := j.take
        have hrs : r.sh := j.sh r (List.mem_cons_self ..)
        have hap : r_kappl CK (tkM CK tp) [shownQ r] (.ret (.im .non) (tkM CK (applQ tp r))) := ⟨tp, r, rfl, by have := j.tl; omega, rfl, hrs.ok, hfit, rfl⟩
        refine nx_weak (weak_set w 12 (some (.im (shownQ r)))) (gs_one (ss_dropE (W := wNo) (eo_meth C.kappl takes_no (pv 2) rfl rfl (of_decide_eq_true rfl) (aska_h (as_cons (ie_var (pv 12) rfl) as_nil)) hap (hr.mono (by decide))) ?_))
        exact hN _ ⟨applQ tp r, jt, .keep (.keep (.keep (.keep (.keep (.keep (.keep (.keep (.keep (.keep (.keep (.keep (.drop (.keep .nil)))))))))))))⟩
      · rintro ρ ⟨tp2, j2, w⟩
        rw [List.length_map, List.drop_length] at j2
        have etp : tp2 = last := j2.ch
        subst etp
        refine nx_weak w ?_
        refine gs_cons (ss_set (i := 13) (m := .im (.lst ((rows.map QR.l).map fun d => .bl (trnB d)))) (ask_h (me_ie (ie_ls ?_))) nd rfl (.inr rfl) ?_)
        · refine me_lc (i := 12) (pe_lc (own := [("_law_row", 12)]) rfl nd (pi_list pe_tw) (blk (by rfl)) (fun _ _ _ _ _ => pg_name (i := 12) nd rfl (.inl rfl)) (fun _ _ _ _ _ => pts_nil) (fun _ _ _ _ _ => pe_twB _ _ _ _ _)) (ie_var (pv 3) rfl) _ (by rw [List.length_map, sizeLine_eq]; omega) (of_decide_eq_true rfl) fun d hd s' H' C' cl fp => ?_
          obtain ⟨r, hr2, rfl⟩ := List.mem_map.mp hd
          obtain ⟨x, xs, hx, ht⟩ := l_head r
          rw [trnB_l]
          exact (ie_im (me_cmp (ie_im (me_ix ((ie_var (pv 12) rfl).to hx) ie_int (ix_t (at_nat (j := 0) rfl)))) ie_str o_eqS)).to (congrArg D.bl ht)
        · have et : (rows.map QR.l).map (fun d => D.bl (trnB d)) = rows.map fun r => D.bl r.isT := by
            rw [List.map_map]
            exact List.map_congr_left fun r _ => congrArg D.bl (trnB_l r)
          show Nx _ _ [some (.im (.fls (zs.map D.int))), some (annM CA CT rows tp2), some (tkM CK tp2), some (.im (.lst (rows.map QR.l))), some (.im (.lst (tp2.map D.str))), none, none, none, none, none, none, none, none, some (.im (.lst ((rows.map QR.l).map fun d => .bl (trnB d))))]
          rw [et]
          refine gs_one (ss_ret (ask_h (Me.to (me_ie (ie_and (k1 := true) (k2 := true) (ie_fz (ie_im (me_cmp (ie_ls (me_meth0 C.kpath (ie_var (pv 2) rfl) (of_decide_eq_true rfl) ⟨tp2, rfl, rfl⟩ (hr.mono (by decide)))) (ie_var (pv 4) rfl) (o_eqR (d := .lst (tp2.map D.str)) (cmp_strs j.ls) hr.units))) rfl) fun _ => ie_one ((ie_im (me_cmp (ie_im (me_bi (as_cons (ie_ls (ds := []) ?_) as_nil) cl_lenL G.len boot_len)) ie_int o_eqI)).to rfl))) rfl)) hrt)
          have tw0 : ∀ n : Nat, (((List.range n).filter fun _ => false).map fun _ => D.non) = [] := fun n => by
            rw [List.filter_eq_nil_iff.mpr fun _ _ => Bool.false_ne_true]
            rfl
          refine Me.to (me_dln (i := 5) (pe_lc (own := [("_law_k", 5)]) rfl nd (pi_range2 rfl G.ran pa_tw) (blk (by rfl)) (fun _ _ _ _ _ => pg_name (i := 5) nd rfl (.inl rfl)) (fun _ _ _ _ _ => pts_one (pt_twB _ _ _ _ _)) (fun _ _ _ _ _ => pe_twB _ _ _ _ _)) (of_decide_eq_true rfl) (den_lcR2f (a := 1) (b := (rows.length : Int)) (as_cons ie_int (as_cons ((ie_im (me_bi (as_cons (ie_var (pv 13) rfl) as_nil) cl_lenL G.len boot_len)).to (by simp)) as_nil)) (fun _ => .non) (fun _ => false) ⟨by decide, by decide, by omega, by rw [sizeLine_eq]; omega, by omega⟩ (fun q hq s' H' C' cl fp => ?_) fun q hq hz => nomatch hz)) (congrArg M.ls (tw0 _))
          have h1 : q + 1 < rows.length := by omega
          have h2 : q < rows.length := by omega
          have hb := nb_at rows q rows[q] rows[q + 1] j.nn (List.getElem?_eq_getElem h2) (List.getElem?_eq_getElem h1)
          have hat : atI (rows.map fun r => D.bl r.isT) (1 + (q : Int)) = some (.bl rows[q + 1].isT) := by
            have e : 1 + (q : Int) = ((q + 1 : Nat) : Int) := by omega
            rw [e]
            refine at_nat ?_
            rw [List.getElem?_map, List.getElem?_eq_getElem h1]
            rfl
          have hat2 : atI (rows.map fun r => D.bl r.isT) (1 + (q : Int) - 1) = some (.bl rows[q].isT) := by
            have e : 1 + (q : Int) - 1 = (q : Int) := by omega
            rw [e]
            refine at_nat ?_
            rw [List.getElem?_map, List.getElem?_eq_getElem h2]
            rfl
          exact (te_w (we_and (te_val (ie_im (me_ix (ie_var (pv 13) rfl) (ie_var (pv 5) rfl) (ix_l hat)))) fun _ => we_and1 (te_val (ie_im (me_ix (ie_var (pv 13) rfl) (ie_im (me_bin (ie_var (pv 5) rfl) ie_int o_sub)) (ix_l hat2)))))).to hb
end
end Kf.L

set_option maxHeartbeats 0
namespace Kf.L
open PySem L2
open He (ga ma fAd)
/-! ### the head -/
def d_shared : He.DefD := ⟨("shared", none), "shared", "shared", defArgs s_shared, defBody s_shared, defScope s_shared, [], []⟩
def d_Turn_init : He.DefD := ⟨("Turn", some "__init__"), "__init__", "Turn.__init__", defArgs s_Turn_init, defBody s_Turn_init, defScope s_Turn_init, [], []⟩
def d_Turn_shown : He.DefD := ⟨("Turn", some "shown"), "shown", "Turn.shown", defArgs s_Turn_shown, defBody s_Turn_shown, defScope s_Turn_shown, [], []⟩
def d_merged : He.DefD := ⟨("merged", none), "merged", "merged", defArgs s_merged, defBody s_merged, defScope s_merged, [], []⟩
def d_Announcements_init : He.DefD := ⟨("Announcements", some "__init__"), "__init__", "Announcements.__init__", defArgs s_Announcements_init, defBody s_Announcements_init, defScope s_Announcements_init, [], []⟩
def d_Announcements_tell : He.DefD := ⟨("Announcements", some "tell"), "tell", "Announcements.tell", defArgs s_Announcements_tell, defBody s_Announcements_tell, defScope s_Announcements_tell, [], []⟩
def d_Announcements_messages : He.DefD := ⟨("Announcements", some "messages"), "messages", "Announcements.messages", defArgs s_Announcements_messages, defBody s_Announcements_messages, defScope s_Announcements_messages, [], []⟩
def d_Announcements_message : He.DefD := ⟨("Announcements", some "message"), "message", "Announcements.message", defArgs s_Announcements_message, defBody s_Announcements_message, defScope s_Announcements_message, [], []⟩
def d_Announcements_queue : He.DefD := ⟨("Announcements", some "queue"), "queue", "Announcements.queue", defArgs s_Announcements_queue, defBody s_Announcements_queue, defScope s_Announcements_queue, [], []⟩
def d_Announcements_take : He.DefD := ⟨("Announcements", some "take"), "take", "Announcements.take", defArgs s_Announcements_take, defBody s_Announcements_take, defScope s_Announcements_take, [], []⟩
def d_Tracker_init : He.DefD := ⟨("Tracker", some "__init__"), "__init__", "Tracker.__init__", defArgs s_Tracker_init, defBody s_Tracker_init, defScope s_Tracker_init, [], []⟩
def d_Tracker_path : He.DefD := ⟨("Tracker", some "path"), "path", "Tracker.path", defArgs s_Tracker_path, defBody s_Tracker_path, defScope s_Tracker_path, [], []⟩
def d_Tracker_apply : He.DefD := ⟨("Tracker", some "apply"), "apply", "Tracker.apply", defArgs s_Tracker_apply, defBody s_Tracker_apply, defScope s_Tracker_apply, [], []⟩
def d_law_cell : He.DefD := ⟨("_law_cell", none), "_law_cell", "_law_cell", defArgs s_law_cell, defBody s_law_cell, defScope s_law_cell, [], []⟩
def d_law_draws : He.DefD := ⟨("_law_draws", none), "_law_draws", "_law_draws", defArgs s_law_draws, defBody s_law_draws, defScope s_law_draws, [], []⟩
def d_law_same : He.DefD := ⟨("_law_same", none), "_law_same", "_law_same", defArgs s_law_same, defBody s_law_same, defScope s_law_same, [], []⟩
def d_law_path : He.DefD := ⟨("_law_path", none), "_law_path", "_law_path", defArgs s_law_path, defBody s_law_path, defScope s_law_path, [], []⟩
def d_law_steps : He.DefD := ⟨("_law_steps", none), "_law_steps", "_law_steps", defArgs s_law_steps, defBody s_law_steps, defScope s_law_steps, [], []⟩
def d_law_shown : He.DefD := ⟨("_law_shown", none), "_law_shown", "_law_shown", defArgs s_law_shown, defBody s_law_shown, defScope s_law_shown, [], []⟩
def d_law_joined : He.DefD := ⟨("_law_joined", none), "_law_joined", "_law_joined", defArgs s_law_joined, defBody s_law_joined, defScope s_law_joined, [], []⟩
def d_law_message : He.DefD := ⟨("_law_message", none), "_law_message", "_law_message", defArgs s_law_message, defBody s_law_message, defScope s_law_message, [], []⟩
def d_law_told : He.DefD := ⟨("_law_told", none), "_law_told", "_law_told", defArgs s_law_told, defBody s_law_told, defScope s_law_told, [], []⟩
def d_law : He.DefD := ⟨("law", none), "law", "law", defArgs s_law, defBody s_law, defScope s_law, [], []⟩
def fnL : List He.DefD := [d_shared, d_Turn_init, d_Turn_shown, d_merged, d_Announcements_init, d_Announcements_tell, d_Announcements_messages, d_Announcements_message, d_Announcements_queue, d_Announcements_take, d_Tracker_init, d_Tracker_path, d_Tracker_apply, d_law_cell, d_law_draws, d_law_same, d_law_path, d_law_steps, d_law_shown, d_law_joined, d_law_message, d_law_told, d_law]
def xsL : List XD := [⟨"Refused", "Refused.__init__", defArgs s_Refused_init, defBody s_Refused_init, defScope s_Refused_init, "what"⟩]
def faL : List He.Fa := [.glo "law", .glo "_law_cell", .glo "_law_draws", .glo "_law_same", .glo "_law_path", .glo "_law_steps", .glo "_law_shown", .glo "_law_joined", .glo "_law_message", .glo "_law_told", .glo "shared", .glo "merged", .glo "Turn", .glo "Announcements", .glo "Tracker", .glo "Refused", .int "MESSAGES_MOST" 40, .int "NAMES_MOST" 20, .free "len", .free "min", .free "list", .free "tuple", .free "int", .free "str", .free "bool", .free "range", .free "isinstance", .free "super", .cls "Turn", .cls "Announcements", .cls "Tracker", .noat "Turn" "begin", .noat "Turn" "end", .noat "Turn" "steps", .noat "Announcements" "rows", .noat "Announcements" "last", .noat "Tracker" "names", .meth "Turn" "shown", .meth "Announcements" "tell", .meth "Announcements" "messages", .meth "Announcements" "message", .meth "Announcements" "queue", .meth "Announcements" "take", .meth "Tracker" "path", .meth "Tracker" "apply", .mkr "Turn", .mkr "Announcements", .mkr "Tracker", .exm "Refused" "Refused" true]
def tfL : List He.Defn := []
def exL : PySem.W.Frag → Bool := fun K => tyB K (He.ga K "Turn") && (kitB1 K (.ref (He.ga K "Turn")) (.ref (He.ga K "Turn")) true && kitB1 K (.type "tuple") (.ref (He.ga K "Turn")) false)
abbrev pwL : Program := PySem.Challenge.pw_keyfocus_k42_announcements
abbrev rwL : PySem.W.OpenLaw := PySem.Challenge.rw_keyfocus_k42_announcements
abbrev RL : PySem.W.OpenRow := PySem.W.OpenLaw.row rwL
abbrev hkL : PySem.W.Hook := hookK 5 pwL.main.file faL fnL xsL tfL exL
def obL (s : PySem.W.SharedT) : AlK := obsK 5 pwL.main.file faL fnL xsL tfL exL (HandSHeadRun.getT s)
theorem obL_eq (s : PySem.W.SharedT) : obL s = hkL.obs s.abs := obsK_eq (HandSHeadRun.getT_eq s)
def looL0 : List Str := ["FocusError", "Refused", "MESSAGES_MOST", "NAMES_MOST", "shared", "Turn", "merged", "Announcements", "Tracker", "_law_cell", "_law_draws", "_law_same", "_law_path", "_law_steps", "_law_shown", "_law_joined", "_law_message", "_law_told"]
def looL : List Str := looL0
abbrev stL : Nat := 2000
abbrev qL : Program := PySem.W.view RL.prog [21]
theorem runL (w : World) : HandSHeadRun.RunEq RL qL hkL obL stL looL w := by
  intro os
  kernel_rfl
theorem xs_Refused : XcS n_Refused_init (defScope s_Refused_init) "what" := ⟨rfl, rfl, rfl, rfl, by decide +kernel, rfl, rfl, rfl, rfl, by decide +kernel, by decide +kernel⟩
theorem ok_Refused {P : Program} {w : World} {K : PySem.W.Frag} {mg : Str → Option Value} {base : Heap} {C f cda cc : Addr} {fd : FuncData} (F : XcF P K mg "Refused.__init__" (defArgs s_Refused_init) (defBody s_Refused_init) (defScope s_Refused_init) C f cda cc fd) (hno : PySem.W.findIn K (.ref C) "what" = some none) :
    FnOk P w K mg base CX0 1 f fd n_Refused_init (spXI (fun v => ∃ x, v = .str x) C "what") :=
  xinit_ok xs_Refused F hno ⟨_, rfl, rfl⟩ (fun A outer s H v _ _ => ⟨_, pa_cons (pv 1) pa_nil, fun e H' Q q => ⟨v, rfl, q v⟩⟩) (fun _ _ => rfl) (fun _ _ => rfl) (fun _ _ => ⟨_, rfl⟩) (fun _ => rfl) (by decide) (by decide)
theorem facts {w : World} {K : PySem.W.Frag} {h : Heap} {mg : Str → Option Value} {f : Addr} (X : K.In h) (G : h.Ns mainGlobals mg) (hfa : mg ("law" : Str) = some (.ref f)) (c : SaysK pwL.main.file faL fnL xsL tfL exL h K) :
    ∃ (fd : FuncData) (cs : List (Addr × Addr)), (∀ p ∈ cs, h.get? p.2 = some { cls := .none, data := .fields #[] }) ∧ (∀ p ∈ cs, K.lookup p.2 = none) ∧ (∀ p ∈ cs, PySem.W.CodeHd h p.1 p.2) ∧ (∀ (s : Shared) (u : Value), BindsTo s fd ⟨[u], []⟩ [("_law_script", u)]) ∧
      ∀ base : Heap, K.In base → base.Ns mainGlobals mg → (∀ p ∈ cs, LamX.TabB base mg p.1 p.2) → FnOk pwL w K mg base CX0 8 f fd ["_law_script"] (spP K (cs.map (·.2)) rLaw) := by
  obtain ⟨fd_shared, F_shared⟩ := c.d.def_ 0 (d := d_shared) rfl
  have b_shared : Binds K fd_shared p_shared [] := FunD.bindsN (ps := p_shared) F_shared fun _ _ _ _ _ _ us hl => match us, hl with | [_, _], _ => rfl
  obtain ⟨fd_Turn_init, F_Turn_init⟩ := c.d.def_ 1 (d := d_Turn_init) rfl
  have b_Turn_init : Binds K fd_Turn_init p_Turn_init [] := FunD.bindsN (ps := p_Turn_init) F_Turn_init fun _ _ _ _ _ _ us hl => match us, hl with | [_, _, _, _], _ => rfl
  obtain ⟨fd_Turn_shown, F_Turn_shown⟩ := c.d.def_ 2 (d := d_Turn_shown) rfl
  have b_Turn_shown : Binds K fd_Turn_shown p_Turn_shown [] := FunD.bindsN (ps := p_Turn_shown) F_Turn_shown fun _ _ _ _ _ _ us hl => match us, hl with | [_], _ => rfl
  obtain ⟨fd_merged, F_merged⟩ := c.d.def_ 3 (d := d_merged) rfl
  have b_merged : Binds K fd_merged p_merged [] := FunD.bindsN (ps := p_merged) F_merged fun _ _ _ _ _ _ us hl => match us, hl with | [_], _ => rfl
  obtain ⟨fd_Announcements_init, F_Announcements_init⟩ := c.d.def_ 4 (d := d_Announcements_init) rfl
  have b_Announcements_init : Binds K fd_Announcements_init p_Announcements_init [] := FunD.bindsN (ps := p_Announcements_init) F_Announcements_init fun _ _ _ _ _ _ us hl => match us, hl with | [_], _ => rfl
  obtain ⟨fd_Announcements_tell, F_Announcements_tell⟩ := c.d.def_ 5 (d := d_Announcements_tell) rfl
  have b_Announcements_tell : Binds K fd_Announcements_tell p_Announcements_tell [] := FunD.bindsN (ps := p_Announcements_tell) F_Announcements_tell fun _ _ _ _ _ _ us hl => match us, hl with | [_, _, _], _ => rfl
  obtain ⟨fd_Announcements_messages, F_Announcements_messages⟩ := c.d.def_ 6 (d := d_Announcements_messages) rfl
  have b_Announcements_messages : Binds K fd_Announcements_messages p_Announcements_messages [] := FunD.bindsN (ps := p_Announcements_messages) F_Announcements_messages fun _ _ _ _ _ _ us hl => match us, hl with | [_], _ => rfl
  obtain ⟨fd_Announcements_message, F_Announcements_message⟩ := c.d.def_ 7 (d := d_Announcements_message) rfl
  have b_Announcements_message : Binds K fd_Announcements_message p_Announcements_message [] := FunD.bindsN (ps := p_Announcements_message) F_Announcements_message fun _ _ _ _ _ _ us hl => match us, hl with | [_, _, _], _ => rfl
  obtain ⟨fd_Announcements_queue, F_Announcements_queue⟩ := c.d.def_ 8 (d := d_Announcements_queue) rfl
  have b_Announcements_queue : Binds K fd_Announcements_queue p_Announcements_queue [] := FunD.bindsN (ps := p_Announcements_queue) F_Announcements_queue fun _ _ _ _ _ _ us hl => match us, hl with | [_], _ => rfl
  obtain ⟨fd_Announcements_take, F_Announcements_take⟩ := c.d.def_ 9 (d := d_Announcements_take) rfl
  have b_Announcements_take : Binds K fd_Announcements_take p_Announcements_take [] := FunD.bindsN (ps := p_Announcements_take) F_Announcements_take fun _ _ _ _ _ _ us hl => match us, hl with | [_], _ => rfl
  obtain ⟨fd_Tracker_init, F_Tracker_init⟩ := c.d.def_ 10 (d := d_Tracker_init) rfl
  have b_Tracker_init : Binds K fd_Tracker_init p_Tracker_init [] := FunD.bindsN (ps := p_Tracker_init) F_Tracker_init fun _ _ _ _ _ _ us hl => match us, hl with | [_], _ => rfl
  obtain ⟨fd_Tracker_path, F_Tracker_path⟩ := c.d.def_ 11 (d := d_Tracker_path) rfl
  have b_Tracker_path : Binds K fd_Tracker_path p_Tracker_path [] := FunD.bindsN (ps := p_Tracker_path) F_Tracker_path fun _ _ _ _ _ _ us hl => match us, hl with | [_], _ => rfl
  obtain ⟨fd_Tracker_apply, F_Tracker_apply⟩ := c.d.def_ 12 (d := d_Tracker_apply) rfl
  have b_Tracker_apply : Binds K fd_Tracker_apply p_Tracker_apply [] := FunD.bindsN (ps := p_Tracker_apply) F_Tracker_apply fun _ _ _ _ _ _ us hl => match us, hl with | [_, _], _ => rfl
  obtain ⟨fd_law_cell, F_law_cell⟩ := c.d.def_ 13 (d := d_law_cell) rfl
  have b_law_cell : Binds K fd_law_cell p_law_cell [] := FunD.bindsN (ps := p_law_cell) F_law_cell fun _ _ _ _ _ _ us hl => match us, hl with | [_, _], _ => rfl
  obtain ⟨fd_law_draws, F_law_draws⟩ := c.d.def_ 14 (d := d_law_draws) rfl
  have b_law_draws : Binds K fd_law_draws p_law_draws [] := FunD.bindsN (ps := p_law_draws) F_law_draws fun _ _ _ _ _ _ us hl => match us, hl with | [_, _], _ => rfl
  obtain ⟨fd_law_same, F_law_same⟩ := c.d.def_ 15 (d := d_law_same) rfl
  have b_law_same : Binds K fd_law_same p_law_same [] := FunD.bindsN (ps := p_law_same) F_law_same fun _ _ _ _ _ _ us hl => match us, hl with | [_, _], _ => rfl
  obtain ⟨fd_law_path, F_law_path⟩ := c.d.def_ 16 (d := d_law_path) rfl
  have b_law_path : Binds K fd_law_path p_law_path [] := FunD.bindsN (ps := p_law_path) F_law_path fun _ _ _ _ _ _ us hl => match us, hl with | [_], _ => rfl
  obtain ⟨fd_law_steps, F_law_steps⟩ := c.d.def_ 17 (d := d_law_steps) rfl
  have b_law_steps : Binds K fd_law_steps p_law_steps [] := FunD.bindsN (ps := p_law_steps) F_law_steps fun _ _ _ _ _ _ us hl => match us, hl with | [_, _], _ => rfl
  obtain ⟨fd_law_shown, F_law_shown⟩ := c.d.def_ 18 (d := d_law_shown) rfl
  have b_law_shown : Binds K fd_law_shown p_law_shown [] := FunD.bindsN (ps := p_law_shown) F_law_shown fun _ _ _ _ _ _ us hl => match us, hl with | [_], _ => rfl
  obtain ⟨fd_law_joined, F_law_joined⟩ := c.d.def_ 19 (d := d_law_joined) rfl
  have b_law_joined : Binds K fd_law_joined p_law_joined [] := FunD.bindsN (ps := p_law_joined) F_law_joined fun _ _ _ _ _ _ us hl => match us, hl with | [_], _ => rfl
  obtain ⟨fd_law_message, F_law_message⟩ := c.d.def_ 20 (d := d_law_message) rfl
  have b_law_message : Binds K fd_law_message p_law_message [] := FunD.bindsN (ps := p_law_message) F_law_message fun _ _ _ _ _ _ us hl => match us, hl with | [_, _, _], _ => rfl
  obtain ⟨fd_law_told, F_law_told⟩ := c.d.def_ 21 (d := d_law_told) rfl
  have b_law_told : Binds K fd_law_told p_law_told [] := FunD.bindsN (ps := p_law_told) F_law_told fun _ _ _ _ _ _ us hl => match us, hl with | [_, _, _], _ => rfl
  obtain ⟨fd_law, F_law⟩ := c.d.def_ 22 (d := d_law) rfl
  have b_law : Binds K fd_law p_law [] := FunD.bindsN (ps := p_law) F_law fun _ _ _ _ _ _ us hl => match us, hl with | [_], _ => rfl
  have g_law := He.glo_ok X G (c.d.fact 0 (f := .glo "law") rfl)
  have g__law_cell := He.glo_ok X G (c.d.fact 1 (f := .glo "_law_cell") rfl)
  have g__law_draws := He.glo_ok X G (c.d.fact 2 (f := .glo "_law_draws") rfl)
  have g__law_same := He.glo_ok X G (c.d.fact 3 (f := .glo "_law_same") rfl)
  have g__law_path := He.glo_ok X G (c.d.fact 4 (f := .glo "_law_path") rfl)
  have g__law_steps := He.glo_ok X G (c.d.fact 5 (f := .glo "_law_steps") rfl)
  have g__law_shown := He.glo_ok X G (c.d.fact 6 (f := .glo "_law_shown") rfl)
  have g__law_joined := He.glo_ok X G (c.d.fact 7 (f := .glo "_law_joined") rfl)
  have g__law_message := He.glo_ok X G (c.d.fact 8 (f := .glo "_law_message") rfl)
  have g__law_told := He.glo_ok X G (c.d.fact 9 (f := .glo "_law_told") rfl)
  have g_shared := He.glo_ok X G (c.d.fact 10 (f := .glo "shared") rfl)
  have g_merged := He.glo_ok X G (c.d.fact 11 (f := .glo "merged") rfl)
  have g_Turn := He.glo_ok X G (c.d.fact 12 (f := .glo "Turn") rfl)
  have g_Announcements := He.glo_ok X G (c.d.fact 13 (f := .glo "Announcements") rfl)
  have g_Tracker := He.glo_ok X G (c.d.fact 14 (f := .glo "Tracker") rfl)
  have g_Refused := He.glo_ok X G (c.d.fact 15 (f := .glo "Refused") rfl)
  have i_MESSAGES_MOST := He.int_ok X G (c.d.fact 16 (f := .int "MESSAGES_MOST" 40) rfl)
  have i_NAMES_MOST := He.int_ok X G (c.d.fact 17 (f := .int "NAMES_MOST" 20) rfl)
  have n_len := He.free_ok X G (c.d.fact 18 (f := .free "len") rfl)
  have n_min := He.free_ok X G (c.d.fact 19 (f := .free "min") rfl)
  have n_list := He.free_ok X G (c.d.fact 20 (f := .free "list") rfl)
  have n_tuple := He.free_ok X G (c.d.fact 21 (f := .free "tuple") rfl)
  have n_int := He.free_ok X G (c.d.fact 22 (f := .free "int") rfl)
  have n_str := He.free_ok X G (c.d.fact 23 (f := .free "str") rfl)
  have n_bool := He.free_ok X G (c.d.fact 24 (f := .free "bool") rfl)
  have n_range := He.free_ok X G (c.d.fact 25 (f := .free "range") rfl)
  have n_isinstance := He.free_ok X G (c.d.fact 26 (f := .free "isinstance") rfl)
  have n_super := He.free_ok X G (c.d.fact 27 (f := .free "super") rfl)
  have c_Turn := He.cls_ok (c.d.fact 28 (f := .cls "Turn") rfl)
  have c_Announcements := He.cls_ok (c.d.fact 29 (f := .cls "Announcements") rfl)
  have c_Tracker := He.cls_ok (c.d.fact 30 (f := .cls "Tracker") rfl)
  have a_Turn_begin := He.noat_ok (c.d.fact 31 (f := .noat "Turn" "begin") rfl)
  have a_Turn_end := He.noat_ok (c.d.fact 32 (f := .noat "Turn" "end") rfl)
  have a_Turn_steps := He.noat_ok (c.d.fact 33 (f := .noat "Turn" "steps") rfl)
  have a_Announcements_rows := He.noat_ok (c.d.fact 34 (f := .noat "Announcements" "rows") rfl)
  have a_Announcements_last := He.noat_ok (c.d.fact 35 (f := .noat "Announcements" "last") rfl)
  have a_Tracker_names := He.noat_ok (c.d.fact 36 (f := .noat "Tracker" "names") rfl)
  have m_Turn_shown := He.meth_ok (c.d.fact 37 (f := .meth "Turn" "shown") rfl)
  have m_Announcements_tell := He.meth_ok (c.d.fact 38 (f := .meth "Announcements" "tell") rfl)
  have m_Announcements_messages := He.meth_ok (c.d.fact 39 (f := .meth "Announcements" "messages") rfl)
  have m_Announcements_message := He.meth_ok (c.d.fact 40 (f := .meth "Announcements" "message") rfl)
  have m_Announcements_queue := He.meth_ok (c.d.fact 41 (f := .meth "Announcements" "queue") rfl)
  have m_Announcements_take := He.meth_ok (c.d.fact 42 (f := .meth "Announcements" "take") rfl)
  have m_Tracker_path := He.meth_ok (c.d.fact 43 (f := .meth "Tracker" "path") rfl)
  have m_Tracker_apply := He.meth_ok (c.d.fact 44 (f := .meth "Tracker" "apply") rfl)
  have k_Turn := He.mkr_ok (c.d.fact 45 (f := .mkr "Turn") rfl)
  have k_Announcements := He.mkr_ok (c.d.fact 46 (f := .mkr "Announcements") rfl)
  have k_Tracker := He.mkr_ok (c.d.fact 47 (f := .mkr "Tracker") rfl)
  have x_Refused_Refused := He.exm_ok (c.d.fact 48 (f := .exm "Refused" "Refused" true) rfl)
  have e := hfa.symm.trans g_law
  cases e
  have hx_Refused := c.x ⟨"Refused", "Refused.__init__", defArgs s_Refused_init, defBody s_Refused_init, defScope s_Refused_init, "what"⟩ (by unfold xsL; simp)
  obtain ⟨fx_Refused, fdx_Refused, A_Refused⟩ := xc_all (P := pwL) hx_Refused.1 hx_Refused.2 n_super (by kernel_rfl)
  obtain ⟨e1, e2⟩ := He.ba (show (tyB K (ga K "Turn") && (kitB1 K (.ref (ga K "Turn")) (.ref (ga K "Turn")) true && kitB1 K (.type "tuple") (.ref (ga K "Turn")) false)) = true from c.more)
  obtain ⟨e2, e3⟩ := He.ba e2
  have Gk : K42 K mg (ga K "Turn") (ga K "Announcements") (ga K "Tracker") (ga K "Refused") := {
    tyT := tyB_ok e1 c_Turn, clsA := c_Announcements, clsK := c_Tracker
    noT := fun f hf hne => by
      simp only [List.mem_cons, List.not_mem_nil, or_false] at hf
      rcases hf with rfl | rfl | rfl | rfl
      · exact a_Turn_begin
      · exact a_Turn_end
      · exact a_Turn_steps
      · exact absurd rfl hne
    rows := a_Announcements_rows, last := a_Announcements_last, names := a_Tracker_names, xr := A_Refused.xf, what := A_Refused.fld, exm := x_Refused_Refused, isT := kitB1_ok e2, isU := kitB1_ok e3
    turn := g_Turn, nmost := i_NAMES_MOST, mmost := i_MESSAGES_MOST, ref := g_Refused, len := n_len, min := n_min, lst := n_list, tup := n_tuple, int := n_int, str := n_str, bool := n_bool, ran := n_range, isi := n_isinstance }
  refine ⟨fd_law, [], (fun _ z => nomatch z), (fun _ z => nomatch z), (fun _ z => nomatch z), fun s u => FunD.bindsA (ps := p_law) F_law (fun _ _ _ _ _ _ us hl => match us, hl with | [_], _ => rfl) s [u] rfl, fun base _ _ _ => ?_⟩
  obtain ⟨cda, cc, XF⟩ := A_Refused.F
  have GR : XcM pwL w K mg base "Refused" (ga K "Refused") "what" (fun v => ∃ x, v = .str x) := xcM_of A_Refused g_Refused (ok_Refused XF A_Refused.fld) fun _ _ _ _ _ _ _ us hl => match us, hl with | [_, _], _ => rfl
  have Gsh : Fn pwL w K mg base [] "shared" 1 r_shared := ⟨_, _, _, ok_shared F_shared Gk, g_shared, F_shared.kp, b_shared⟩
  have Gtu : MkM pwL w K mg base [] "Turn" (ga K "Turn") 1 (r_turn (ga K "Turn")) := ⟨_, _, _, ok_turn F_Turn_init Gk, g_Turn, k_Turn, b_Turn_init⟩
  have Gso : Mt pwL w K mg base [] (ga K "Turn") "shown" 2 (r_shown (ga K "Turn")) := ⟨_, _, _, ok_shown F_Turn_shown Gk Gsh, c_Turn, m_Turn_shown, b_Turn_shown⟩
  have Gme : Fn pwL w K mg base [] "merged" 3 (r_merged (ga K "Turn")) := ⟨_, _, _, ok_merged F_merged Gk Gtu, g_merged, F_merged.kp, b_merged⟩
  have Gms : Mt pwL w K mg base [] (ga K "Announcements") "messages" 1 (r_msgs (ga K "Announcements") (ga K "Turn")) := ⟨_, _, _, ok_msgs F_Announcements_messages Gk, c_Announcements, m_Announcements_messages, b_Announcements_messages⟩
  have Gqu : Mt pwL w K mg base [] (ga K "Announcements") "queue" 4 (r_queue (ga K "Announcements") (ga K "Turn")) := ⟨_, _, _, ok_queue F_Announcements_queue Gk Gso, c_Announcements, m_Announcements_queue, b_Announcements_queue⟩
  have Gmg : MtM pwL w K mg base [] (ga K "Announcements") "message" 5 (r_mesg (ga K "Announcements") (ga K "Turn") (ga K "Refused")) := ⟨_, _, _, ok_mesg F_Announcements_message Gk GR Gme Gms, c_Announcements, m_Announcements_message, b_Announcements_message⟩
  have Gjo : Fn pwL w K mg base [] "_law_joined" 1 r_joined := ⟨_, _, _, ok_joined F_law_joined Gk, g__law_joined, F_law_joined.kp, b_law_joined⟩
  exact ok_law F_law Gk {
    cell := ⟨_, _, _, ok_cell F_law_cell n_len, g__law_cell, F_law_cell.kp, b_law_cell⟩
    draws := ⟨_, _, _, ok_draws F_law_draws n_int n_range, g__law_draws, F_law_draws.kp, b_law_draws⟩
    mkA := ⟨_, _, _, ok_ainit F_Announcements_init Gk, g_Announcements, k_Announcements, b_Announcements_init⟩
    mkK := ⟨_, _, _, ok_kinit F_Tracker_init Gk, g_Tracker, k_Tracker, b_Tracker_init⟩
    tell := ⟨_, _, _, ok_tell F_Announcements_tell Gk Gtu Gme, c_Announcements, m_Announcements_tell, b_Announcements_tell⟩
    mesg := Gmg
    queue := Gqu
    take := ⟨_, _, _, ok_take F_Announcements_take Gk Gqu, c_Announcements, m_Announcements_take, b_Announcements_take⟩
    kpath := ⟨_, _, _, ok_kpath F_Tracker_path Gk, c_Tracker, m_Tracker_path, b_Tracker_path⟩
    kappl := ⟨_, _, _, ok_kappl F_Tracker_apply Gk, c_Tracker, m_Tracker_apply, b_Tracker_apply⟩
    same := ⟨_, _, _, ok_same F_law_same Gk g__law_same b_law_same 4, g__law_same, F_law_same.kp, b_law_same⟩
    lpath := ⟨_, _, _, ok_lpath F_law_path Gk, g__law_path, F_law_path.kp, b_law_path⟩
    lstep := ⟨_, _, _, ok_lstep F_law_steps Gk, g__law_steps, F_law_steps.kp, b_law_steps⟩
    lshown := ⟨_, _, _, ok_lshown F_law_shown Gk, g__law_shown, F_law_shown.kp, b_law_shown⟩
    joined := Gjo
    lmesg := ⟨_, _, _, ok_lmesg F_law_message Gk Gjo, g__law_message, F_law_message.kp, b_law_message⟩
    ltold := ⟨_, _, _, ok_ltold F_law_told Gk Gmg, g__law_told, F_law_told.kp, b_law_told⟩ }
end Kf.L
open PySem PySem.W PySem.Calls PyProof.Rows
theorem PySem.Challenge.cw_keyfocus_k42_announcements_holds : PySem.Challenge.rw_keyfocus_k42_announcements.Holds := by
  w_on; o_law
  refine HandSHeadRun.head_any (r := OpenLaw.row PySem.Challenge.rw_keyfocus_k42_announcements) (q := Kf.L.qL) (H := Kf.L.hkL) (ob := Kf.L.obL) (M := Kf.L.stL) (loose := Kf.L.looL) (d := HandSHeadRun.topDef (OpenLaw.row PySem.Challenge.rw_keyfocus_k42_announcements).prog 21) (kwd := []) Kf.L.obL_eq
    (by kernel_rfl) (fun s => by kernel_rfl) Kf.L.runL (by kernel_rfl) (by kernel_rfl) (by kernel_rfl) (by rfl) (by first | assumption | decide +kernel) (by decide +kernel) ⟨rfl, rfl, rfl, rfl, rfl, by decide +kernel⟩ ?hw ?hc
  case hw => w_witness2
  case hc =>
    refine Kf.end_law (l := PySem.Challenge.rw_keyfocus_k42_announcements) (k := 8) (x := "_law_script") rfl (by kernel_rfl) ⟨rfl, by decide, by decide⟩ ?F
    intro w mg fa h Y G hmg0
    obtain ⟨K, KX, c⟩ := Y
    have hmg : mg ("law" : PySem.Str) = some (.ref fa) := by
      have e : (HandSHeadRun.topDef (OpenLaw.row PySem.Challenge.rw_keyfocus_k42_announcements).prog 21).name = ("law" : PySem.Str) := by kernel_rfl
      rw [← e]
      exact hmg0
    exact ⟨K, KX, Kf.L.facts KX G hmg c⟩
