import PyProof.Rows.All
import Wide.All
import OpenK.AllK
import Wide.FinOn
import HandS.ForMost
import HandS.ForExc
import HandS.AnyAll
import HandS.EndTab
import HandS.Wide
import HandS.TupAny
import HandS.Defaults
import HandS.HeadNt
import KE.KExcSuper
import HandS.ExcInit
import HandS.ExcSuper
import HandS.ExcField
import HandS.CallSlots
import HandS.TryOnly
import HandS.Codes
import KE.KStateDown
import HandS.Head0
import HandS.Head1
import HandS.Head2
import HandS.HeadEnd
import HandS.HeadHook4
import HandS.HeadWalk
import HandS.IsInst
import HandS.Style
import PyProof.GenCompD
import PyProof.WalksMore
import HandS.ReplaceLit
import HandS.ReplaceList
import HandS.TupLe
import HandS.Deep
import PyProof.Rows.StrCase
import PyProof.Rows.StrFirst
import PyProof.StrLawsIn
import PyProof.Rows.CountFlat
import PyProof.StrLawsTight
import PyProof.StrLawsChain
import PyProof.Rows.StrItems
import HandS.ExcIs
import PySem.Challenge.RW_keyfocus_k40_bindings
set_option Elab.async false
set_option linter.all false
set_option maxRecDepth 100000
set_option maxHeartbeats 1000000
/-! Kf: data without addresses; what stands at an address bears such data; anchors. -/
namespace Kf
open PySem L2

/-- data: what never changes while it is looked at -/
inductive D where
  | non | bl (b : Bool) | int (i : Int) | str (x : Str)
  | lst (xs : List D) | fls (xs : List D) | tup (xs : List D)
  | dic (ks : List (Key × D))
  | ins (C : Addr) (fs : List (Str × D))
/-- what a frame owns: data; a list, a dict, an instance of its own -/
inductive M where
  | im (d : D) | ls (xs : List D) | dc (ks : List (Key × M)) | ob (C : Addr) (fs : List (Str × M))

/-! ### bearing data -/
mutual
inductive Rp (K : PySem.W.Frag) (A : Hp) : V → D → Prop
  | non : Rp K A .non .non
  | bl (b : Bool) : Rp K A (.bl b) (.bl b)
  | int (i : Int) : Rp K A (.int i) (.int i)
  | str (x : Str) : Rp K A (.str x) (.str x)
  | lst {a : Addr} {xs : List V} {ds : List D} : A a = some (.lst xs) → RpL K A xs ds → Rp K A (.ref a) (.lst ds)
  | fls {a : Addr} {xs : List V} {ds : List D} : SqL K A a xs → RpL K A xs ds → Rp K A (.ref a) (.fls ds)
  | tup {a : Addr} {xs : List V} {ds : List D} : SqT K A a xs → RpL K A xs ds → Rp K A (.ref a) (.tup ds)
  | dic {a : Addr} {kvs : List (Key × V)} {ds : List (Key × D)} : A a = some (.dK kvs) → RpM K A Key kvs ds → Rp K A (.ref a) (.dic ds)
  | ins {a C dx : Addr} {fs : List (Str × V)} {ds : List (Str × D)} : A a = some (.ins C dx fs) → RpM K A Str fs ds → Rp K A (.ref a) (.ins C ds)
inductive RpL (K : PySem.W.Frag) (A : Hp) : List V → List D → Prop
  | nil : RpL K A [] []
  | cons {v : V} {vs : List V} {d : D} {ds : List D} : Rp K A v d → RpL K A vs ds → RpL K A (v :: vs) (d :: ds)
inductive RpM (K : PySem.W.Frag) (A : Hp) : (κ : Type) → List (κ × V) → List (κ × D) → Prop
  | nil {κ : Type} : RpM K A κ [] []
  | cons {κ : Type} {k : κ} {v : V} {vs : List (κ × V)} {d : D} {ds : List (κ × D)} : Rp K A v d → RpM K A κ vs ds → RpM K A κ ((k, v) :: vs) ((k, d) :: ds)
end
mutual
inductive RM (K : PySem.W.Frag) (A H : Hp) : V → M → List Addr → Prop
  | im {v : V} {d : D} : Rp K A v d → RM K A H v (.im d) []
  | ls {a : Addr} {xs : List V} {ds : List D} : H a = some (.lst xs) → A a = none → RpL K A xs ds → RM K A H (.ref a) (.ls ds) [a]
  | dc {a : Addr} {kvs : List (Key × V)} {ms : List (Key × M)} {fp : List Addr} : H a = some (.dK kvs) → A a = none → RMs K A H Key kvs ms fp → RM K A H (.ref a) (.dc ms) (a :: fp)
  | ob {a C dx : Addr} {fs : List (Str × V)} {ms : List (Str × M)} {fp : List Addr} : H a = some (.ins C dx fs) → A a = none → RMs K A H Str fs ms fp → RM K A H (.ref a) (.ob C ms) (a :: fp)
inductive RMs (K : PySem.W.Frag) (A H : Hp) : (κ : Type) → List (κ × V) → List (κ × M) → List Addr → Prop
  | nil {κ : Type} : RMs K A H κ [] [] []
  | cons {κ : Type} {k : κ} {v : V} {vs : List (κ × V)} {m : M} {ms : List (κ × M)} {p q : List Addr} : RM K A H v m p → RMs K A H κ vs ms q → RMs K A H κ ((k, v) :: vs) ((k, m) :: ms) (p ++ q)
end

theorem seqT_mono {K : PySem.W.Frag} {H H' : Hp} {a : Addr} {xs : List V} (e : Same H H') (h : SqT K H a xs) : SqT K H' a xs := by
  rcases h with (h | ⟨o, h⟩) | h
  · exact .inl (.inl (e _ _ h))
  · exact .inl (.inr ⟨o, e _ _ h⟩)
  · exact .inr h

mutual
theorem Rp.mono {K : PySem.W.Frag} {A A' : Hp} (e : Same A A') : ∀ {v : V} {d : D}, Rp K A v d → Rp K A' v d
  | _, _, .non => .non
  | _, _, .bl b => .bl b
  | _, _, .int i => .int i
  | _, _, .str x => .str x
  | _, _, .lst h r => .lst (e _ _ h) (RpL.mono e r)
  | _, _, .fls h r => .fls (e.seq h) (RpL.mono e r)
  | _, _, .tup h r => .tup (seqT_mono e h) (RpL.mono e r)
  | _, _, .dic h r => .dic (e _ _ h) (RpM.mono e r)
  | _, _, .ins h r => .ins (e _ _ h) (RpM.mono e r)
theorem RpL.mono {K : PySem.W.Frag} {A A' : Hp} (e : Same A A') : ∀ {vs : List V} {ds : List D}, RpL K A vs ds → RpL K A' vs ds
  | _, _, .nil => .nil
  | _, _, .cons h r => .cons (Rp.mono e h) (RpL.mono e r)
theorem RpM.mono {K : PySem.W.Frag} {A A' : Hp} (e : Same A A') : ∀ {κ : Type} {vs : List (κ × V)} {ds : List (κ × D)}, RpM K A κ vs ds → RpM K A' κ vs ds
  | _, _, _, .nil => .nil
  | _, _, _, .cons h r => .cons (Rp.mono e h) (RpM.mono e r)
end
mutual
theorem RM.mono {K : PySem.W.Frag} {A A' H H' : Hp} (e : Same A A') : ∀ {v : V} {m : M} {fp : List Addr}, RM K A H v m fp → (∀ a ∈ fp, H' a = H a) → (∀ a ∈ fp, A' a = none) → RM K A' H' v m fp
  | _, _, _, .im r, _, _ => .im (r.mono e)
  | _, _, _, .ls h n r, k, z => .ls ((k _ (List.mem_cons_self ..)).trans h) (z _ (List.mem_cons_self ..)) (r.mono e)
  | _, _, _, .dc h n r, k, z => .dc ((k _ (List.mem_cons_self ..)).trans h) (z _ (List.mem_cons_self ..)) (RMs.mono e r (fun a ha => k a (List.mem_cons_of_mem _ ha)) fun a ha => z a (List.mem_cons_of_mem _ ha))
  | _, _, _, .ob h n r, k, z => .ob ((k _ (List.mem_cons_self ..)).trans h) (z _ (List.mem_cons_self ..)) (RMs.mono e r (fun a ha => k a (List.mem_cons_of_mem _ ha)) fun a ha => z a (List.mem_cons_of_mem _ ha))
theorem RMs.mono {K : PySem.W.Frag} {A A' H H' : Hp} (e : Same A A') : ∀ {κ : Type} {vs : List (κ × V)} {ms : List (κ × M)} {fp : List Addr}, RMs K A H κ vs ms fp → (∀ a ∈ fp, H' a = H a) → (∀ a ∈ fp, A' a = none) → RMs K A' H' κ vs ms fp
  | _, _, _, _, .nil, _, _ => .nil
  | _, _, _, _, .cons h r, k, z => .cons (RM.mono e h (fun a ha => k a (List.mem_append_left _ ha)) fun a ha => z a (List.mem_append_left _ ha)) (RMs.mono e r (fun a ha => k a (List.mem_append_right _ ha)) fun a ha => z a (List.mem_append_right _ ha))
end
/-! what stands at owned places -/
mutual
theorem RM.there {K : PySem.W.Frag} {A H : Hp} : ∀ {v : V} {m : M} {fp : List Addr}, RM K A H v m fp → ∀ a ∈ fp, A a = none ∧ Mut (H a)
  | _, _, _, .im _, _, h => nomatch h
  | _, _, _, .ls h n _, _, z => by
    cases z with
    | head => exact ⟨n, by rw [h]; trivial⟩
    | tail _ z => cases z
  | _, _, _, .dc h n r, _, z => by
    cases z with
    | head => exact ⟨n, by rw [h]; trivial⟩
    | tail _ z => exact RMs.there r _ z
  | _, _, _, .ob h n r, _, z => by
    cases z with
    | head => exact ⟨n, by rw [h]; trivial⟩
    | tail _ z => exact RMs.there r _ z
theorem RMs.there {K : PySem.W.Frag} {A H : Hp} : ∀ {κ : Type} {vs : List (κ × V)} {ms : List (κ × M)} {fp : List Addr}, RMs K A H κ vs ms fp → ∀ a ∈ fp, A a = none ∧ Mut (H a)
  | _, _, _, _, .nil, _, z => nomatch z
  | _, _, _, _, .cons h r, _, z => by
    rcases List.mem_append.mp z with z | z
    · exact RM.there h _ z
    · exact RMs.there r _ z
end
/-! ### frozen: what is owned as data -/
mutual
def frz : M → D
  | .im d => d
  | .ls ds => .lst ds
  | .dc ms => .dic (frzK ms)
  | .ob C ms => .ins C (frzF ms)
def frzK : List (Key × M) → List (Key × D)
  | [] => []
  | (k, m) :: r => (k, frz m) :: frzK r
def frzF : List (Str × M) → List (Str × D)
  | [] => []
  | (k, m) :: r => (k, frz m) :: frzF r
end
/-- A with what H has at the places R -/
def glue (A H : Hp) (R : List Addr) : Hp := fun a => if a ∈ R then H a else A a
theorem glue_in {A H : Hp} {R : List Addr} {a : Addr} (h : a ∈ R) : glue A H R a = H a := if_pos h
theorem glue_out {A H : Hp} {R : List Addr} {a : Addr} (h : a ∉ R) : glue A H R a = A a := if_neg h
mutual
theorem RM.frz {K : PySem.W.Frag} {A A' H : Hp} (e : Same A A') : ∀ {v : V} {m : M} {fp : List Addr}, RM K A H v m fp → (∀ a ∈ fp, A' a = H a) → Rp K A' v (frz m)
  | _, _, _, .im r, _ => by rw [Kf.frz]; exact r.mono e
  | _, _, _, .ls h _ r, k => by rw [Kf.frz]; exact .lst ((k _ (List.mem_cons_self ..)).trans h) (r.mono e)
  | _, _, _, .dc h _ r, k => by rw [Kf.frz]; exact .dic ((k _ (List.mem_cons_self ..)).trans h) (RMs.frzK e r fun a ha => k a (List.mem_cons_of_mem _ ha))
  | _, _, _, .ob h _ r, k => by rw [Kf.frz]; exact .ins ((k _ (List.mem_cons_self ..)).trans h) (RMs.frzF e r fun a ha => k a (List.mem_cons_of_mem _ ha))
theorem RMs.frzK {K : PySem.W.Frag} {A A' H : Hp} (e : Same A A') : ∀ {vs : List (Key × V)} {ms : List (Key × M)} {fp : List Addr}, RMs K A H Key vs ms fp → (∀ a ∈ fp, A' a = H a) → RpM K A' Key vs (frzK ms)
  | _, _, _, .nil, _ => by rw [Kf.frzK]; exact .nil
  | _, _, _, .cons h r, k => by rw [Kf.frzK]; exact .cons (RM.frz e h fun a ha => k a (List.mem_append_left _ ha)) (RMs.frzK e r fun a ha => k a (List.mem_append_right _ ha))
theorem RMs.frzF {K : PySem.W.Frag} {A A' H : Hp} (e : Same A A') : ∀ {vs : List (Str × V)} {ms : List (Str × M)} {fp : List Addr}, RMs K A H Str vs ms fp → (∀ a ∈ fp, A' a = H a) → RpM K A' Str vs (frzF ms)
  | _, _, _, .nil, _ => by rw [Kf.frzF]; exact .nil
  | _, _, _, .cons h r, k => by rw [Kf.frzF]; exact .cons (RM.frz e h fun a ha => k a (List.mem_append_left _ ha)) (RMs.frzF e r fun a ha => k a (List.mem_append_right _ ha))
end
/-! ### data of tuples and flat things alone: no owned place bears it -/
mutual
def flatD : D → Bool
  | .tup xs => flatDs xs
  | .lst _ | .fls _ | .dic _ | .ins _ _ => false
  | _ => true
def flatDs : List D → Bool
  | [] => true
  | x :: xs => flatD x && flatDs xs
end
mutual
theorem Rp.flat {K : PySem.W.Frag} {A A' : Hp} (e : ∀ a o, A a = some o → ¬ Mut (some o) → A' a = some o) : ∀ {v : V} {d : D}, Rp K A v d → flatD d = true → Rp K A' v d
  | _, _, .non, _ => .non
  | _, _, .bl b, _ => .bl b
  | _, _, .int i, _ => .int i
  | _, _, .str x, _ => .str x
  | _, _, .lst h r, z => by rw [flatD] at z; cases z
  | _, _, .fls h r, z => by rw [flatD] at z; cases z
  | _, _, .tup h r, z => by
    rw [flatD] at z
    refine .tup ?_ (RpL.flat e r z)
    rcases h with (h | ⟨o, h⟩) | h
    · exact .inl (.inl (e _ _ h fun z => z))
    · exact .inl (.inr ⟨o, e _ _ h fun z => z⟩)
    · exact .inr h
  | _, _, .dic h r, z => by rw [flatD] at z; cases z
  | _, _, .ins h r, z => by rw [flatD] at z; cases z
theorem RpL.flat {K : PySem.W.Frag} {A A' : Hp} (e : ∀ a o, A a = some o → ¬ Mut (some o) → A' a = some o) : ∀ {vs : List V} {ds : List D}, RpL K A vs ds → flatDs ds = true → RpL K A' vs ds
  | _, _, .nil, _ => .nil
  | _, _, .cons h r, z => by
    rw [flatDs, Bool.and_eq_true] at z
    exact .cons (Rp.flat e h z.1) (RpL.flat e r z.2)
end
mutual
def safe : M → Bool
  | .im d => flatD d
  | .ls ds => flatDs ds
  | .dc ms => safeK ms
  | .ob _ ms => safeF ms
def safeK : List (Key × M) → Bool
  | [] => true
  | (_, m) :: r => safe m && safeK r
def safeF : List (Str × M) → Bool
  | [] => true
  | (_, m) :: r => safe m && safeF r
end
mutual
theorem RM.safe {K : PySem.W.Frag} {A A' H : Hp} (e : ∀ a o, A a = some o → ¬ Mut (some o) → A' a = some o) : ∀ {v : V} {m : M} {fp : List Addr}, RM K A H v m fp → safe m = true → (∀ a ∈ fp, A' a = none) → RM K A' H v m fp
  | _, _, _, .im r, z, _ => by rw [Kf.safe] at z; exact .im (r.flat e z)
  | _, _, _, .ls h _ r, z, n => by rw [Kf.safe] at z; exact .ls h (n _ (List.mem_cons_self ..)) (r.flat e z)
  | _, _, _, .dc h _ r, z, n => by rw [Kf.safe] at z; exact .dc h (n _ (List.mem_cons_self ..)) (RMs.safeK e r z fun a ha => n a (List.mem_cons_of_mem _ ha))
  | _, _, _, .ob h _ r, z, n => by rw [Kf.safe] at z; exact .ob h (n _ (List.mem_cons_self ..)) (RMs.safeF e r z fun a ha => n a (List.mem_cons_of_mem _ ha))
theorem RMs.safeK {K : PySem.W.Frag} {A A' H : Hp} (e : ∀ a o, A a = some o → ¬ Mut (some o) → A' a = some o) : ∀ {vs : List (Key × V)} {ms : List (Key × M)} {fp : List Addr}, RMs K A H Key vs ms fp → safeK ms = true → (∀ a ∈ fp, A' a = none) → RMs K A' H Key vs ms fp
  | _, _, _, .nil, _, _ => .nil
  | _, _, _, .cons h r, z, n => by
    rw [Kf.safeK, Bool.and_eq_true] at z
    exact .cons (RM.safe e h z.1 fun a ha => n a (List.mem_append_left _ ha)) (RMs.safeK e r z.2 fun a ha => n a (List.mem_append_right _ ha))
theorem RMs.safeF {K : PySem.W.Frag} {A A' H : Hp} (e : ∀ a o, A a = some o → ¬ Mut (some o) → A' a = some o) : ∀ {vs : List (Str × V)} {ms : List (Str × M)} {fp : List Addr}, RMs K A H Str vs ms fp → safeF ms = true → (∀ a ∈ fp, A' a = none) → RMs K A' H Str vs ms fp
  | _, _, _, .nil, _, _ => .nil
  | _, _, _, .cons h r, z, n => by
    rw [Kf.safeF, Bool.and_eq_true] at z
    exact .cons (RM.safe e h z.1 fun a ha => n a (List.mem_append_left _ ha)) (RMs.safeF e r z.2 fun a ha => n a (List.mem_append_right _ ha))
end

/-! ### steps: anchors grow, the heap changes at F alone; a code object's table may grow at any time -/
def noTab (o : HO) : Prop := ∀ ps, o ≠ .tbl ps
structure Ext (F : List Addr) (A H A' H' : Hp) : Prop where
  aa : Same A A'
  hh : ∀ a o, H a = some o → noTab o → a ∉ F → H' a = some o
  ah : Same A' H'
  nt : ∀ a o, A' a = some o → noTab o
  nw : ∀ a, H a ≠ none → A' a = A a
  dm : ∀ a, H a ≠ none → H' a ≠ none
  tb : ∀ a, GxR.TabG H a → GxR.TabG H' a
abbrev Ex0 := Ext []
/-- an anchor, and the tables T -/
structure Ok (T : List Addr) (A H : Hp) : Prop where
  s : Same A H
  nt : ∀ a o, A a = some o → noTab o
  tb : ∀ P ∈ T, GxR.TabG H P
section
variable {T : List Addr} {F G : List Addr} {A H A1 H1 A2 H2 A' H' : Hp} {p : Addr} {o : HO} {R : List Addr} {K : PySem.W.Frag} {v : V} {m : M} {fp : List Addr}
theorem Ext.refl (e : Ok T A H) : Ext F A H A H := ⟨Same.refl A, fun _ _ h _ _ => h, e.s, e.nt, fun _ _ => rfl, fun _ h => h, fun _ h => h⟩
theorem Ext.ok (x : Ext F A H A' H') (e : Ok T A H) : Ok T A' H' := ⟨x.ah, x.nt, fun P hP => x.tb P (e.tb P hP)⟩
theorem Ext.trans (x : Ext F A H A1 H1) (y : Ext G A1 H1 A2 H2) (g : ∀ a ∈ G, a ∈ F ∨ H a = none) : Ext F A H A2 H2 where
  aa := x.aa.trans y.aa
  hh := fun a o h n z => y.hh a o (x.hh a o h n z) n fun w => (g a w).elim z fun q => (nomatch q.symm.trans h)
  ah := y.ah
  nt := y.nt
  nw := fun a h => (y.nw a (x.dm a h)).trans (x.nw a h)
  dm := fun a h => y.dm a (x.dm a h)
  tb := fun a h => y.tb a (x.tb a h)
theorem Ext.tr0 (x : Ext F A H A1 H1) (y : Ex0 A1 H1 A2 H2) : Ext F A H A2 H2 := x.trans y fun _ z => nomatch z
theorem Ext.same (x : Ex0 A H A' H') : ∀ a o, H a = some o → noTab o → H' a = some o := fun a o h n => x.hh a o h n (fun z => nomatch z)
theorem Ext.up (x : Ex0 A H A' H') : Ext F A H A' H' := ⟨x.aa, fun a o h n _ => x.same a o h n, x.ah, x.nt, x.nw, x.dm, x.tb⟩
theorem tab_upd (h : H p = none) (a : Addr) (t : GxR.TabG H a) : GxR.TabG (upd H p o) a := by
  obtain ⟨ps, e, t⟩ := t
  exact ⟨ps, by rw [upd_ne (ne_of_none e h)]; exact e, t⟩
theorem dm_upd (a : Addr) (n : H a ≠ none) : upd H p o a ≠ none := fun z => by
  by_cases hb : a = p
  · rw [hb, upd_same] at z; cases z
  · rw [upd_ne hb] at z; exact n z
/-- a new object that nobody owns as yet: into the heap alone -/
theorem ext_new (e : Ok T A H) (h : H p = none) : Ex0 A H A (upd H p o) where
  aa := Same.refl A
  hh := fun a u q _ _ => by rw [upd_ne (ne_of_none q h)]; exact q
  ah := fun a u q => by rw [upd_ne (ne_of_none (e.s _ _ q) h)]; exact e.s _ _ q
  nt := e.nt
  nw := fun _ _ => rfl
  dm := dm_upd
  tb := tab_upd h
theorem same_new (h : A p = none) : Same A (upd A p o) := fun a u q => by rw [upd_ne (ne_of_none q h)]; exact q
theorem Ok.none (e : Ok T A H) (h : H p = none) : A p = none := e.s.free h
/-- .. and into the anchor -/
theorem ext_pin (e : Ok T A H) (h : H p = none) (n : noTab o) : Ex0 A H (upd A p o) (upd H p o) where
  aa := same_new (e.none h)
  hh := fun a u q _ _ => by rw [upd_ne (ne_of_none q h)]; exact q
  ah := fun a u q => by
    by_cases hb : a = p
    · subst hb; rw [upd_same] at q ⊢; exact q
    · rw [upd_ne hb] at q ⊢; exact e.s _ _ q
  nt := fun a u q => by
    by_cases hb : a = p
    · subst hb; rw [upd_same] at q; cases q; exact n
    · rw [upd_ne hb] at q; exact e.nt _ _ q
  nw := fun a z => by
    by_cases hb : a = p
    · exact absurd (hb ▸ h) z
    · rw [upd_ne hb]
  dm := dm_upd
  tb := tab_upd h
theorem mut_noTab (h : Mut (some o)) : noTab o := fun ps z => by subst z; exact h
/-- owned things become data -/
theorem glue_ok (e : Ok T A H) (h : ∀ a ∈ R, A a = none ∧ Mut (H a)) : Same A (glue A H R) ∧ Ok T (glue A H R) H := by
  refine ⟨fun a o q => ?_, fun a o q => ?_, fun a o q => ?_, e.tb⟩
  · rw [glue_out fun z => by rw [(h a z).1] at q; cases q]
    exact q
  · by_cases z : a ∈ R
    · rw [glue_in z] at q; exact q
    · rw [glue_out z] at q; exact e.s _ _ q
  · by_cases z : a ∈ R
    · rw [glue_in z] at q
      have mu := (h a z).2
      rw [q] at mu
      exact mut_noTab mu
    · rw [glue_out z] at q; exact e.nt _ _ q
def Fresh (H : Hp) (fp : List Addr) : Prop := ∀ a ∈ fp, H a = none
theorem Ext.ok0 (x : Ext F A H A' H') : Ok [] A' H' := ⟨x.ah, x.nt, fun _ z => nomatch z⟩
theorem Ext.glued (x : Ext F A H A' H') (n : ∀ a ∈ R, A' a = none ∧ Mut (H' a)) (f : Fresh H R) : Ext F A H (glue A' H' R) H' :=
  ⟨x.aa.trans (glue_ok x.ok0 n).1, x.hh, (glue_ok x.ok0 n).2.s, (glue_ok x.ok0 n).2.nt, fun a h => by
    rw [glue_out fun z => h (f a z)]
    exact x.nw a h, x.dm, x.tb⟩
/-- RM of what was there before a step that leaves its places -/
theorem RM.step (r : RM K A H v m fp) (x : Ext F A H A' H') (d : ∀ a ∈ fp, a ∉ F) : RM K A' H' v m fp := by
  have t := r.there
  refine r.mono x.aa (fun a ha => ?_) fun a ha => ?_
  · obtain ⟨_, mu⟩ := t a ha
    cases q : H a with
    | none => rw [q] at mu; exact mu.elim
    | some o =>
      rw [q] at mu
      exact x.hh a o q (mut_noTab mu) (d a ha)
  · obtain ⟨n, mu⟩ := t a ha
    rw [x.nw a fun z => by rw [z] at mu; exact mu.elim]
    exact n
theorem RM.step0 (r : RM K A H v m fp) (x : Ex0 A H A' H') : RM K A' H' v m fp := r.step x fun _ _ z => nomatch z
/-- what is owned is frozen -/
theorem RM.froze (x : Ext F A H A' H') (r : RM K A' H' v m fp) (f : Fresh H fp) : ∃ A2, Ext F A H A2 H' ∧ Same A' A2 ∧ Rp K A2 v (Kf.frz m) := by
  have t := r.there
  exact ⟨glue A' H' fp, x.glued t f, (glue_ok x.ok0 t).1, r.frz (glue_ok x.ok0 t).1 fun a h => glue_in h⟩
end
end Kf

set_option maxHeartbeats 1000000
/-! Kf: what an expression is worth over data; statements over what a frame holds. -/
namespace Kf
open PySem L2

/-! ### expressions: the readings as they are -/
abbrev Rho := List (Option M)
def Sl (K : PySem.W.Frag) (A H : Hp) (σ : L2.St) (ρ : Rho) : Prop := ∀ (i : Nat) (m : M), ρ[i]? = some (some m) → ∃ v fp, σ[i]? = some (some v) ∧ RM K A H v m fp
theorem Sl.step {K : PySem.W.Frag} {A A' H H' : Hp} {σ : L2.St} {ρ : Rho} (l : Sl K A H σ ρ) (x : Ex0 A H A' H') : Sl K A' H' σ ρ := fun i m h => by
  obtain ⟨v, fp, h1, h2⟩ := l i m h
  exact ⟨v, fp, h1, h2.step0 x⟩
/-- what follows a value that owns new things; one that is data -/
abbrev KM (K : PySem.W.Frag) (A H : Hp) (m : M) (Q : VK) : Prop := ∀ v A2 H2 fp, Ex0 A H A2 H2 → RM K A2 H2 v m fp → Fresh H fp → fp.Nodup → Q v H2
abbrev KD (K : PySem.W.Frag) (A H : Hp) (d : D) (Q : VK) : Prop := ∀ v A2 H2, Ex0 A H A2 H2 → Rp K A2 v d → Q v H2
theorem KM.im {K : PySem.W.Frag} {A H : Hp} {d : D} {Q : VK} (k : KM K A H (.im d) Q) : KD K A H d Q := fun v A2 H2 x r => k v A2 H2 [] x (.im r) (fun _ z => nomatch z) List.nodup_nil
theorem KM.now {T : List Addr} {K : PySem.W.Frag} {A H : Hp} {d : D} {v : V} {Q : VK} (k : KM K A H (.im d) Q) (e : Ok T A H) (r : Rp K A v d) : Q v H := k.im v A H (Ext.refl e) r
theorem KM.back {K : PySem.W.Frag} {A H A1 H1 : Hp} {m : M} {Q : VK} (k : KM K A H m Q) (x : Ex0 A H A1 H1) : KM K A1 H1 m Q := fun v A2 H2 fp y r f n =>
  k v A2 H2 fp (x.tr0 y) r (fun a ha => by
    cases q : H a with
    | none => rfl
    | some o => exact absurd (f a ha) (x.dm a (by rw [q]; simp))) n
theorem KM.ls {T : List Addr} {K : PySem.W.Frag} {A H : Hp} {ds : List D} {p : Addr} {xs : List V} {Q : VK} (k : KM K A H (.ls ds) Q) (e : Ok T A H) (hp : H p = none) (r : RpL K A xs ds) : Q (.ref p) (upd H p (.lst xs)) :=
  k (.ref p) A _ [p] (ext_new e hp) (.ls upd_same (e.none hp) r) (fun a ha => by
    rcases List.mem_cons.mp ha with h | h
    · rw [h]; exact hp
    · cases h) (by simp)
theorem KM.tup {T : List Addr} {K : PySem.W.Frag} {A H : Hp} {ds : List D} {p : Addr} {xs : List V} {Q : VK} (k : KM K A H (.im (.tup ds)) Q) (e : Ok T A H) (hp : H p = none) (r : RpL K A xs ds) : Q (.ref p) (upd H p (.tup xs)) :=
  k.im (.ref p) _ _ (ext_pin e hp fun _ z => nomatch z) (.tup (SqT.of upd_same) (r.mono (same_new (e.none hp))))

structure TwE (X : Cx) (e : Expr) (σ : L2.St) (H : Hp) (Q : VK) : Prop where
  go : ∀ (pins : List (Addr × Obj)) (s : Shared), Inv X pins σ H s → wpAny (model X.prog X.w) X.A (eval e X.env) (EP X pins σ Q) X.xe s
structure TwT (X : Cx) (e : Expr) (σ : L2.St) (H : Hp) (Q : Bool → Hp → Prop) : Prop where
  go : ∀ (pins : List (Addr × Obj)) (s : Shared), Inv X pins σ H s → wpAny (model X.prog X.w) X.A (isTrue e X.env (eval e X.env)) (TP X pins σ Q) X.xe s
structure TwW (X : Cx) (e : Expr) (σ : L2.St) (H : Hp) (Q : Bool → Hp → Prop) : Prop where
  go : ∀ (whole : Sem Value) (pins : List (Addr × Obj)) (s : Shared), Inv X pins σ H s → wpAny (model X.prog X.w) X.A (isTrue e X.env whole) (TP X pins σ Q) X.xe s
structure TwA (X : Cx) (es : List Expr) (σ : L2.St) (H : Hp) (Q : List V → Hp → Prop) : Prop where
  go : ∀ (pos : Pos) (pins : List (Addr × Obj)) (s : Shared), Inv X pins σ H s → wpAny (model X.prog X.w) X.A (spliced (backTo pos (starEach es X.env))) (AP X pins σ Q) X.xe s
structure TwS (X : Cx) (st : Stmt) (D : Ends) (σ : L2.St) (H : Hp) : Prop where
  go : ∀ (pins : List (Addr × Obj)) (s : Shared), Inv X pins σ H s → wpAny (model X.prog X.w) X.A (exec st X.env) (SP X pins D) X.xe s
structure TwSs (X : Cx) (sts : List Stmt) (D : Ends) (σ : L2.St) (H : Hp) : Prop where
  go : ∀ (pins : List (Addr × Obj)) (s : Shared), Inv X pins σ H s → wpAny (model X.prog X.w) X.A (execs sts X.env) (SP X pins D) X.xe s
structure TwO (X : Cx) (f : Value → Value → Sem Value) (x y : V) (H : Hp) (Q : VK) : Prop where
  go : ∀ (pins : List (Addr × Obj)) (s : Shared) (σ : L2.St) (v u : Value), Inv X pins σ H s → RelV x v → RelV y u → wpAny (model X.prog X.w) X.A (f v u) (EP X pins σ Q) X.xe s
def tw (X : Cx) (e : Expr) : TE := fun σ H Q => TwE X e σ H Q
theorem pe_tw {X : Cx} {e : Expr} : PE X e (tw X e) := ⟨fun pins s _ _ _ I h => h.go pins s I⟩
def twT (X : Cx) (e : Expr) : TT := fun σ H Q => TwT X e σ H Q
theorem pt_tw {X : Cx} {e : Expr} : PT X e (twT X e) := ⟨fun pins s _ _ _ I h => h.go pins s I⟩
def twW (X : Cx) (e : Expr) : TT := fun σ H Q => TwW X e σ H Q
theorem pw_tw {X : Cx} {e : Expr} : PW X e (twW X e) := ⟨fun whole pins s _ _ _ I h => h.go whole pins s I⟩
def twA (X : Cx) (es : List Expr) : TA := fun σ H Q => TwA X es σ H Q
theorem pa_tw {X : Cx} {es : List Expr} : PA X es (twA X es) := ⟨fun pos pins s _ _ _ I h => h.go pos pins s I⟩
def tws (X : Cx) (st : Stmt) : TS := fun D σ H => TwS X st D σ H
theorem ps_tw {X : Cx} {st : Stmt} : PS X st (tws X st) := ⟨fun pins s _ _ _ I h => h.go pins s I⟩
def twss (X : Cx) (sts : List Stmt) : TS := fun D σ H => TwSs X sts D σ H
theorem pss_tw {X : Cx} {sts : List Stmt} : PSs X sts (twss X sts) := ⟨fun pins s _ _ _ I h => h.go pins s I⟩
def twO (X : Cx) (f : Value → Value → Sem Value) : R2 := fun x y H Q => TwO X f x y H Q
theorem op_tw {X : Cx} {f : Value → Value → Sem Value} : OpR X f (twO X f) := fun pins s σ _ _ _ v u _ I rx ry h => h.go pins s σ v u I rx ry

/-- over data: to what a reading leads -/
def Den (T : List Addr) (K : PySem.W.Frag) (te : TE) (ρ : Rho) (m : M) : Prop := ∀ A H σ, Ok T A H → Sl K A H σ ρ → ∀ Q : VK, KM K A H m Q → te σ H Q
def Did (T : List Addr) (K : PySem.W.Frag) (te : TE) (ρ : Rho) (d : D) : Prop := ∀ A H σ, Ok T A H → Sl K A H σ ρ → ∀ Q : VK, KD K A H d Q → te σ H Q
def Dit (T : List Addr) (K : PySem.W.Frag) (tt : TT) (ρ : Rho) (b : Bool) : Prop := ∀ A H σ, Ok T A H → Sl K A H σ ρ → ∀ Q : Bool → Hp → Prop, (∀ A2 H2, Ex0 A H A2 H2 → Q b H2) → tt σ H Q
def Dia (T : List Addr) (K : PySem.W.Frag) (ta : TA) (ρ : Rho) (ds : List D) : Prop := ∀ A H σ, Ok T A H → Sl K A H σ ρ → ∀ Q : List V → Hp → Prop, (∀ vs A2 H2, Ex0 A H A2 H2 → RpL K A2 vs ds → Q vs H2) → ta σ H Q
def Dop (T : List Addr) (K : PySem.W.Frag) (r : R2) (x y : D) (m : M) : Prop := ∀ A H v u, Ok T A H → Rp K A v x → Rp K A u y → ∀ Q : VK, KM K A H m Q → r v u H Q
/-- an expression's worth: owned | data; a test's; an argument list's -/
def Me (X : Cx) (T : List Addr) (e : Expr) (ρ : Rho) (m : M) : Prop := Den T X.K (tw X e) ρ m
def Ie (X : Cx) (T : List Addr) (e : Expr) (ρ : Rho) (d : D) : Prop := Did T X.K (tw X e) ρ d
def Te (X : Cx) (T : List Addr) (e : Expr) (ρ : Rho) (b : Bool) : Prop := Dit T X.K (twT X e) ρ b
def We (X : Cx) (T : List Addr) (e : Expr) (ρ : Rho) (b : Bool) : Prop := Dit T X.K (twW X e) ρ b
def As (X : Cx) (T : List Addr) (es : List Expr) (ρ : Rho) (ds : List D) : Prop := Dia T X.K (twA X es) ρ ds
def Op (X : Cx) (T : List Addr) (f : Value → Value → Sem Value) (x y : D) (m : M) : Prop := Dop T X.K (twO X f) x y m

section
variable {T : List Addr} {X : Cx} {e a b c : Expr} {es : List Expr} {ρ : Rho} {m : M} {d d1 d2 : D} {ds : List D} {k k1 k2 : Bool} {pos : Pos} {K : PySem.W.Frag} {te ta tb : TE}
theorem me_of (h : PE X e te) (q : Den T X.K te ρ m) : Me X T e ρ m := fun A H σ s l Q k => ⟨fun pins st I => h.run pins st σ H Q I (q A H σ s l Q k)⟩
theorem ie_of (h : PE X e te) (q : Did T X.K te ρ d) : Ie X T e ρ d := fun A H σ s l Q k => ⟨fun pins st I => h.run pins st σ H Q I (q A H σ s l Q k)⟩
theorem te_of {t : TT} (h : PT X e t) (q : Dit T X.K t ρ k) : Te X T e ρ k := fun A H σ s l Q k => ⟨fun pins st I => h.run pins st σ H Q I (q A H σ s l Q k)⟩
theorem we_of {t : TT} (h : PW X e t) (q : Dit T X.K t ρ k) : We X T e ρ k := fun A H σ s l Q k => ⟨fun whole pins st I => h.run whole pins st σ H Q I (q A H σ s l Q k)⟩
theorem as_of {t : TA} (h : PA X es t) (q : Dia T X.K t ρ ds) : As X T es ρ ds := fun A H σ s l Q k => ⟨fun pos pins st I => h.run pos pins st σ H Q I (q A H σ s l Q k)⟩
theorem op_of {f : Value → Value → Sem Value} {r : R2} (h : OpR X f r) (q : Dop T X.K r d1 d2 m) : Op X T f d1 d2 m := fun A H v u s rv ru Q k => ⟨fun pins st σ v' u' I hv hu => h pins st σ H v u v' u' Q I hv hu (q A H v u s rv ru Q k)⟩
theorem den_im (h : Did T K te ρ d) : Den T K te ρ (.im d) := fun A H σ s l Q k => h A H σ s l Q k.im
theorem did_m (h : Den T K te ρ m) : Did T K te ρ (frz m) := fun A H σ s l Q k => h A H σ s l Q fun v A2 H2 fp x r f _ => by
  obtain ⟨A3, x3, _, r3⟩ := r.froze x f
  exact k v A3 H2 x3 r3
theorem me_ie (h : Ie X T e ρ d) : Me X T e ρ (.im d) := den_im h
theorem ie_me (h : Me X T e ρ m) : Ie X T e ρ (frz m) := did_m h
theorem ie_im (h : Me X T e ρ (.im d)) : Ie X T e ρ d := by
  have q := did_m h
  rw [frz] at q
  exact q
theorem ie_ls (h : Me X T e ρ (.ls ds)) : Ie X T e ρ (.lst ds) := by
  have q := did_m h
  rw [frz] at q
  exact q
theorem Ie.to (h : Ie X T e ρ d1) (q : d1 = d2) : Ie X T e ρ d2 := q ▸ h
theorem Me.to {m1 m2 : M} (h : Me X T e ρ m1) (q : m1 = m2) : Me X T e ρ m2 := q ▸ h
theorem Te.to (h : Te X T e ρ k1) (q : k1 = k2) : Te X T e ρ k2 := q ▸ h

/-! ### names, constants -/
theorem ie_var {i : Nat} {x : Str} (h : PE X (.Name x pos) (tVar i)) (hr : ρ[i]? = some (some (.im d))) : Ie X T (.Name x pos) ρ d := ie_of h fun A H σ s l Q k => by
  obtain ⟨v, fp, h1, h2⟩ := l i _ hr
  cases h2 with
  | im h2 => exact ⟨v, h1, k v A H (Ext.refl s) h2⟩
theorem ie_c {v : V} (h : PE X e (tC v)) (hr : ∀ A, Rp X.K A v d) : Ie X T e ρ d := ie_of h fun A H _ s _ _ k => k v A H (Ext.refl s) (hr A)
theorem ie_int {i : Int} {j : Nat} : Ie X T (.Constant (.int i) j pos) ρ (.int i) := ie_c pe_int fun _ => .int i
theorem ie_str {x : Str} {j : Nat} : Ie X T (.Constant (.str x) j pos) ρ (.str x) := ie_c pe_str fun _ => .str x
theorem ie_bl {x : Bool} {j : Nat} : Ie X T (.Constant (.bool x) j pos) ρ (.bl x) := ie_c pe_bl fun _ => .bl x
theorem ie_non {j : Nat} : Ie X T (.Constant .none j pos) ρ .non := ie_c pe_non fun _ => .non

/-! ### argument lists, displays -/
theorem as_nil : As X T [] ρ [] := as_of pa_nil fun A H _ s _ _ k => k [] A H (Ext.refl s) .nil
theorem as_cons (h : Ie X T e ρ d) (hr : As X T es ρ ds) (hs : starEach (e :: es) X.env = (false, eval e X.env) :: starEach es X.env := by rfl) : As X T (e :: es) ρ (d :: ds) :=
  as_of (pa_cons pe_tw pa_tw hs) fun A H σ s l Q k => h A H σ s l _ fun v A1 H1 x1 r1 => hr A1 H1 σ (x1.ok s) (l.step x1) _ fun vs A2 H2 x2 r2 => k _ A2 H2 (x1.tr0 x2) (.cons (r1.mono x2.aa) r2)
theorem RpL.len {K : PySem.W.Frag} {A : Hp} : ∀ {vs : List V} {ds : List D}, RpL K A vs ds → vs.length = ds.length
  | _, _, .nil => rfl
  | _, _, .cons _ r => by simp [RpL.len r]
theorem me_lst (h : As X T es ρ ds) (hz : decide (ds.length ≤ 64) = true := by rfl) : Me X T (.List es pos) ρ (.ls ds) :=
  me_of (pe_lst pa_tw) fun A H σ s l Q k => h A H σ s l _ fun vs A1 H1 x1 r1 => ⟨by rw [r1.len]; exact Nat.le_trans (of_decide_eq_true hz) (by decide), fun p hp => (k.back x1).ls (x1.ok s) hp r1⟩
theorem ie_tup {x1 : Nat} (h : As X T es ρ ds) (hz : decide (ds.length ≤ 64) = true := by rfl) : Ie X T (.Tuple es x1 pos) ρ (.tup ds) :=
  ie_im (me_of (pe_tup pa_tw) fun A H σ s l Q k => h A H σ s l _ fun vs A1 H1 x1 r1 => ⟨by rw [r1.len]; exact Nat.le_trans (of_decide_eq_true hz) (by decide), fun p hp => (k.back x1).tup (x1.ok s) hp r1⟩)

/-! ### operators -/
theorem den_op {r : R2} (h1 : Did T K ta ρ d1) (h2 : Did T K tb ρ d2) (ho : Dop T K r d1 d2 m) : Den T K (tOp r ta tb) ρ m := fun A H σ s l Q k =>
  h1 A H σ s l _ fun v A1 H1 x1 r1 => h2 A1 H1 σ (x1.ok s) (l.step x1) _ fun u A2 H2 x2 r2 => ho A2 H2 v u (x2.ok (x1.ok s)) (r1.mono x2.aa) r2 Q (k.back (x1.tr0 x2))
theorem me_bin {op : Operator} (h1 : Ie X T a ρ d1) (h2 : Ie X T b ρ d2) (ho : Op X T (binaryOp op) d1 d2 m) : Me X T (.BinOp a op b pos) ρ m := me_of (pe_op op_tw pe_tw pe_tw) (den_op h1 h2 ho)
theorem me_cmp {op : CmpOp} (h1 : Ie X T a ρ d1) (h2 : Ie X T b ρ d2) (ho : Op X T (compareOp op) d1 d2 m) (hm : behindInMarks op b = false := by first | rfl | exact nomark _) : Me X T (.Compare a [op] [b] pos) ρ m := me_of (pe_cmpR op_tw pe_tw pe_tw hm) (den_op h1 h2 ho)
theorem te_cmp {op : CmpOp} (h1 : Ie X T a ρ d1) (h2 : Ie X T b ρ d2) (ho : Op X T (compareOp op) d1 d2 (.im (.bl k))) (hm : behindInMarks op b = false := by first | rfl | exact nomark _) : Te X T (.Compare a [op] [b] pos) ρ k :=
  te_of (pt_cmpR op_tw pe_tw pe_tw hm) fun A H σ s l Q q => den_op h1 h2 ho A H σ s l _ fun v A2 H2 fp x r _ _ => by
    cases r with
    | im r => cases r; exact ⟨k, rfl, q A2 H2 x⟩
theorem te_val (h : Ie X T e ρ (.bl k)) (he : ∀ whole, isTrue e X.env whole = (do let v ← whole; standAt e.pos; holding [v] (truthy v)) := by intro _; rfl) : Te X T e ρ k :=
  te_of (pt_val pe_tw he) fun A H σ s l Q q => h A H σ s l _ fun v A2 H2 x r => by
    cases r
    exact ⟨k, rfl, q A2 H2 x⟩
theorem te_not (h : Te X T e ρ k) : Te X T (.UnaryOp .Not e pos) ρ (!k) := te_of (pt_not pt_tw) fun A H σ s l Q q => h A H σ s l _ q
theorem te_w (h : We X T e ρ k) : Te X T e ρ k := te_of (pw_tw.pt) h
theorem we_and1 (h : Te X T a ρ k) : We X T (.BoolOp .And [a] pos) ρ k := we_of (pw_and1 pt_tw) h
theorem we_or1 (h : Te X T a ρ k) : We X T (.BoolOp .Or [a] pos) ρ k := we_of (pw_or1 pt_tw) h
theorem we_and {rest : List Expr} (h : Te X T a ρ k1) (hr : k1 = true → We X T (.BoolOp .And (b :: rest) pos) ρ k2) : We X T (.BoolOp .And (a :: b :: rest) pos) ρ (k1 && k2) :=
  we_of (pw_and pt_tw pw_tw) fun A H σ s l Q q => h A H σ s l _ fun A1 H1 x1 => by
    cases k1 with
    | true => exact (iteT (hr rfl A1 H1 σ (x1.ok s) (l.step x1) _ fun A2 H2 x2 => q A2 H2 (x1.tr0 x2)))
    | false => exact iteF (q A1 H1 x1)
theorem we_or {rest : List Expr} (h : Te X T a ρ k1) (hr : k1 = false → We X T (.BoolOp .Or (b :: rest) pos) ρ k2) : We X T (.BoolOp .Or (a :: b :: rest) pos) ρ (k1 || k2) :=
  we_of (pw_or pt_tw pw_tw) fun A H σ s l Q q => h A H σ s l _ fun A1 H1 x1 => by
    cases k1 with
    | true => exact (iteT (q A1 H1 x1))
    | false => exact iteF (hr rfl A1 H1 σ (x1.ok s) (l.step x1) _ fun A2 H2 x2 => q A2 H2 (x1.tr0 x2))
theorem ie_one {op : BoolOp} (h : Ie X T a ρ d) : Ie X T (.BoolOp op [a] pos) ρ d := ie_of (pe_one pe_tw) h
theorem ie_and {rest : List Expr} (h : Ie X T a ρ (.bl k1)) (hr : k1 = true → Ie X T (.BoolOp .And (b :: rest) pos) ρ (.bl k2)) : Ie X T (.BoolOp .And (a :: b :: rest) pos) ρ (.bl (k1 && k2)) :=
  ie_of (pe_and pe_tw pe_tw) fun A H σ s l Q q => h A H σ s l _ fun v A1 H1 x1 r1 => by
    cases r1
    refine ⟨k1, rfl, ?_⟩
    cases k1 with
    | true => exact (iteT (hr rfl A1 H1 σ (x1.ok s) (l.step x1) _ fun v A2 H2 x2 => q v A2 H2 (x1.tr0 x2)))
    | false => exact iteF (q _ A1 H1 x1 (.bl _))
theorem ie_or {rest : List Expr} (h : Ie X T a ρ (.bl k1)) (hr : k1 = false → Ie X T (.BoolOp .Or (b :: rest) pos) ρ (.bl k2)) : Ie X T (.BoolOp .Or (a :: b :: rest) pos) ρ (.bl (k1 || k2)) :=
  ie_of (pe_or pe_tw pe_tw) fun A H σ s l Q q => h A H σ s l _ fun v A1 H1 x1 r1 => by
    cases r1
    refine ⟨k1, rfl, ?_⟩
    cases k1 with
    | true => exact (iteT (q _ A1 H1 x1 (.bl _)))
    | false => exact iteF (hr rfl A1 H1 σ (x1.ok s) (l.step x1) _ fun v A2 H2 x2 => q v A2 H2 (x1.tr0 x2))
theorem ie_not (h : Ie X T a ρ (.bl k)) : Ie X T (.UnaryOp .Not a pos) ρ (.bl (!k)) :=
  ie_of (pe_not pe_tw) fun A H σ s l Q q => h A H σ s l _ fun v A1 H1 x1 r1 => by
    cases r1
    exact ⟨k, rfl, q _ A1 H1 x1 (.bl _)⟩
theorem me_if {m1 m2 : M} (h : Te X T c ρ k) (h1 : k = true → Me X T a ρ m1) (h2 : k = false → Me X T b ρ m2) : Me X T (.IfExp c a b pos) ρ (if k = true then m1 else m2) :=
  me_of (pe_ifExp pt_tw pe_tw pe_tw) fun A H σ s l Q q => h A H σ s l _ fun A1 H1 x1 => by
    cases k with
    | true => exact (iteT (h1 rfl A1 H1 σ (x1.ok s) (l.step x1) _ (q.back x1)))
    | false => exact iteF (h2 rfl A1 H1 σ (x1.ok s) (l.step x1) _ (q.back x1))
theorem ie_if (h : Te X T c ρ k) (h1 : k = true → Ie X T a ρ d1) (h2 : k = false → Ie X T b ρ d2) : Ie X T (.IfExp c a b pos) ρ (if k = true then d1 else d2) := by
  refine ie_im (Me.to (me_if h (fun q => me_ie (h1 q)) (fun q => me_ie (h2 q))) ?_)
  cases k <;> rfl
end

/-! ### what is owned taken as data for a while: every place that may change, but is not in the anchor -/
open Classical in
noncomputable def glueP (A H : Hp) : Hp := fun a => if A a = none ∧ Mut (H a) then H a else A a
theorem glueP_in {A H : Hp} {a : Addr} (h : A a = none ∧ Mut (H a)) : glueP A H a = H a := if_pos h
theorem glueP_out {A H : Hp} {a : Addr} (h : ¬ (A a = none ∧ Mut (H a))) : glueP A H a = A a := if_neg h
theorem glueP_ok {T : List Addr} {A H : Hp} (e : Ok T A H) : Same A (glueP A H) ∧ Ok T (glueP A H) H := by
  refine ⟨fun a o q => ?_, fun a o q => ?_, fun a o q => ?_, e.tb⟩
  · rw [glueP_out fun z => by rw [z.1] at q; cases q]
    exact q
  · by_cases z : A a = none ∧ Mut (H a)
    · rw [glueP_in z] at q; exact q
    · rw [glueP_out z] at q; exact e.s _ _ q
  · by_cases z : A a = none ∧ Mut (H a)
    · rw [glueP_in z] at q
      have mu := z.2
      rw [q] at mu
      exact mut_noTab mu
    · rw [glueP_out z] at q; exact e.nt _ _ q
def frzR (ρ : Rho) : Rho := ρ.map (Option.map fun m => .im (frz m))
theorem Sl.frz {K : PySem.W.Frag} {A H : Hp} {σ : L2.St} {ρ : Rho} {T : List Addr} (e : Ok T A H) (l : Sl K A H σ ρ) : Sl K (glueP A H) H σ (frzR ρ) := fun i m h => by
  unfold frzR at h
  rw [List.getElem?_map] at h
  cases q : ρ[i]? with
  | none => rw [q] at h; cases h
  | some o =>
    rw [q] at h
    cases o with
    | none => cases h
    | some m0 =>
      cases h
      obtain ⟨v, fp, h1, h2⟩ := l i m0 q
      exact ⟨v, [], h1, .im (h2.frz (glueP_ok e).1 fun a z => glueP_in (h2.there a z))⟩
/-- .. and let go again -/
theorem unglue {A H A2 H2 : Hp} {T : List Addr} (e : Ok T A H) (x : Ex0 (glueP A H) H A2 H2) : ∃ B : Hp, Ex0 A H B H2 ∧ (∀ a, A a = none ∧ Mut (H a) → B a = none) ∧ (∀ a, ¬ (A a = none ∧ Mut (H a)) → B a = A2 a) ∧ ∀ a, A a = none ∧ Mut (H a) → A2 a = H a := by
  classical
  have n2 : ∀ a, A a = none ∧ Mut (H a) → A2 a = H a := fun a z => by
    rw [x.nw a fun w => by have := z.2; rw [w] at this; exact this.elim]
    exact glueP_in z
  obtain ⟨B, hB⟩ : ∃ B : Hp, B = fun b => if A b = none ∧ Mut (H b) then none else A2 b := ⟨_, rfl⟩
  have b1 : ∀ a, A a = none ∧ Mut (H a) → B a = none := fun a z => by rw [hB]; exact if_pos z
  have b2 : ∀ a, ¬ (A a = none ∧ Mut (H a)) → B a = A2 a := fun a z => by rw [hB]; exact if_neg z
  refine ⟨B, ⟨fun a o w => ?_, x.hh, fun a o w => ?_, fun a o w => ?_, fun a w => ?_, x.dm, x.tb⟩, b1, b2, n2⟩
  · have nf : ¬ (A a = none ∧ Mut (H a)) := fun z => by rw [z.1] at w; cases w
    rw [b2 a nf]
    exact x.aa a o ((glueP_ok e).1 a o w)
  · by_cases z : A a = none ∧ Mut (H a)
    · rw [b1 a z] at w; cases w
    · rw [b2 a z] at w; exact x.ah a o w
  · by_cases z : A a = none ∧ Mut (H a)
    · rw [b1 a z] at w; cases w
    · rw [b2 a z] at w; exact x.nt a o w
  · by_cases z : A a = none ∧ Mut (H a)
    · rw [b1 a z, z.1]
    · rw [b2 a z, x.nw a w, glueP_out z]
section
variable {T : List Addr} {X : Cx} {e : Expr} {es : List Expr} {ρ : Rho} {m : M} {d : D} {ds : List D} {k : Bool}
theorem den_fz {te : TE} (h : Den T X.K te (frzR ρ) m) (hs : safe m = true) : Den T X.K te ρ m := fun A H σ s l Q q => by
  refine h (glueP A H) H σ (glueP_ok s).2 (l.frz s) Q fun v A2 H2 fp x r f n => ?_
  obtain ⟨B, xx, b1, b2, n2⟩ := unglue s x
  refine q v B H2 fp xx (r.safe (fun a o w nm => ?_) hs fun a z => ?_) f n
  · rw [b2 a fun z => nm (by rw [← w, n2 a z]; exact z.2)]
    exact w
  · by_cases w : A a = none ∧ Mut (H a)
    · exact b1 a w
    · rw [b2 a w]; exact (r.there a z).1
theorem me_fz (h : Me X T e (frzR ρ) m) (hs : safe m = true) : Me X T e ρ m := den_fz h hs
theorem ie_fz (h : Ie X T e (frzR ρ) d) (hs : flatD d = true) : Ie X T e ρ d := ie_im (me_fz (me_ie h) (by rw [safe]; exact hs))
theorem te_fz (h : Te X T e (frzR ρ) k) : Te X T e ρ k := fun A H σ s l Q q => h (glueP A H) H σ (glueP_ok s).2 (l.frz s) Q fun A2 H2 x => by
  obtain ⟨B, xx, _⟩ := unglue s x
  exact q B H2 xx
theorem as_fz (h : As X T es (frzR ρ) ds) (hs : flatDs ds = true) : As X T es ρ ds := fun A H σ s l Q q => h (glueP A H) H σ (glueP_ok s).2 (l.frz s) Q fun vs A2 H2 x r => by
  obtain ⟨B, xx, b1, b2, n2⟩ := unglue s x
  refine q vs B H2 xx (r.flat (fun a o w nm => ?_) hs)
  rw [b2 a fun z => nm (by rw [← w, n2 a z]; exact z.2)]
  exact w
end
end Kf

set_option maxHeartbeats 1000000
/-! Kf: statements over what a frame holds; defs over data. -/
namespace Kf
open PySem L2

/-! ### what a frame holds -/
abbrev Rhm := Rho
inductive Sls (K : PySem.W.Frag) (A H : Hp) : L2.St → Rhm → List Addr → Prop
  | nil : Sls K A H [] [] []
  | any {o : Option V} {σ : L2.St} {ρ : Rhm} {fp : List Addr} : Sls K A H σ ρ fp → Sls K A H (o :: σ) (none :: ρ) fp
  | val {v : V} {m : M} {p : List Addr} {σ : L2.St} {ρ : Rhm} {fp : List Addr} : RM K A H v m p → Sls K A H σ ρ fp → Sls K A H (some v :: σ) (some m :: ρ) (p ++ fp)
theorem Sls.there {K : PySem.W.Frag} {A H : Hp} : ∀ {σ : L2.St} {ρ : Rhm} {fp : List Addr}, Sls K A H σ ρ fp → ∀ a ∈ fp, A a = none ∧ Mut (H a)
  | _, _, _, .nil, _, z => nomatch z
  | _, _, _, .any r, a, z => r.there a z
  | _, _, _, .val h r, a, z => by
    rcases List.mem_append.mp z with z | z
    · exact h.there a z
    · exact r.there a z
theorem Sls.step {K : PySem.W.Frag} {F : List Addr} {A H A' H' : Hp} (x : Ext F A H A' H') : ∀ {σ : L2.St} {ρ : Rhm} {fp : List Addr}, Sls K A H σ ρ fp → (∀ a ∈ fp, a ∉ F) → Sls K A' H' σ ρ fp
  | _, _, _, .nil, _ => .nil
  | _, _, _, .any r, d => .any (Sls.step x r d)
  | _, _, _, .val h r, d => .val (h.step x fun a z => d a (List.mem_append_left _ z)) (Sls.step x r fun a z => d a (List.mem_append_right _ z))
theorem Sls.mono {K : PySem.W.Frag} {A A' H H' : Hp} (e : Same A A') : ∀ {σ : L2.St} {ρ : Rhm} {fp : List Addr}, Sls K A H σ ρ fp → (∀ a ∈ fp, H' a = H a) → (∀ a ∈ fp, A' a = none) → Sls K A' H' σ ρ fp
  | _, _, _, .nil, _, _ => .nil
  | _, _, _, .any r, k, z => .any (Sls.mono e r k z)
  | _, _, _, .val h r, k, z => .val (h.mono e (fun a w => k a (List.mem_append_left _ w)) fun a w => z a (List.mem_append_left _ w)) (Sls.mono e r (fun a w => k a (List.mem_append_right _ w)) fun a w => z a (List.mem_append_right _ w))
theorem Sls.len {K : PySem.W.Frag} {A H : Hp} : ∀ {σ : L2.St} {ρ : Rhm} {fp : List Addr}, Sls K A H σ ρ fp → σ.length = ρ.length
  | _, _, _, .nil => rfl
  | _, _, _, .any r => by simp [r.len]
  | _, _, _, .val _ r => by simp [r.len]
/-- a slot is stored; the places that it had are let go -/
theorem Sls.set {K : PySem.W.Frag} {A H : Hp} {v : V} {m : M} {p : List Addr} (h : RM K A H v m p) : ∀ {σ : L2.St} {ρ : Rhm} {fp : List Addr} (i : Nat), Sls K A H σ ρ fp → i < ρ.length → ∃ fp', Sls K A H (σ.set i (some v)) (ρ.set i (some m)) fp' ∧ (∀ a ∈ fp', a ∈ p ∨ a ∈ fp) ∧ (p.Nodup → fp.Nodup → (∀ a ∈ p, a ∉ fp) → fp'.Nodup)
  | _, _, _, i, .nil, l => absurd l (by simp)
  | _, _, fp, 0, .any r, _ => ⟨p ++ fp, .val h r, fun a z => List.mem_append.mp z, fun n1 n2 d => List.nodup_append.mpr ⟨n1, n2, fun a ha b hb q => d a ha (q ▸ hb)⟩⟩
  | _, _, _, 0, .val (p := p0) (fp := fp) _ r, _ => ⟨p ++ fp, .val h r, fun a z => (List.mem_append.mp z).imp id fun w => List.mem_append_right _ w, fun n1 n2 d => List.nodup_append.mpr ⟨n1, (List.nodup_append.mp n2).2.1, fun a ha b hb q => d a ha (List.mem_append_right _ (q ▸ hb))⟩⟩
  | _, _, fp, i + 1, .any r, l => by
    obtain ⟨fp', h1, h2, h3⟩ := Sls.set h i r (by simpa using l)
    exact ⟨fp', .any h1, h2, h3⟩
  | _, _, _, i + 1, .val (p := p0) (fp := fp) h0 r, l => by
    obtain ⟨fp', h1, h2, h3⟩ := Sls.set h i r (by simpa using l)
    refine ⟨p0 ++ fp', .val h0 h1, fun a z => ?_, fun n1 n2 d => ?_⟩
    · rcases List.mem_append.mp z with z | z
      · exact .inr (List.mem_append_left _ z)
      · exact (h2 a z).imp id fun w => List.mem_append_right _ w
    · obtain ⟨a1, a2, a3⟩ := List.nodup_append.mp n2
      refine List.nodup_append.mpr ⟨a1, h3 n1 a2 fun a ha z => d a ha (List.mem_append_right _ z), fun a ha b hb q => ?_⟩
      subst q
      rcases h2 a hb with z | z
      · exact d a z (List.mem_append_left _ ha)
      · exact a3 a ha a z rfl

/-- what slot i bears is altered, the rest stays -/
theorem Sls.alter {K : PySem.W.Frag} {A H : Hp} {m : M} : ∀ {σ : L2.St} {ρ : Rhm} {fp : List Addr} (i : Nat), Sls K A H σ ρ fp → ρ[i]? = some (some m) → fp.Nodup →
    ∃ v p, σ[i]? = some (some v) ∧ RM K A H v m p ∧ (∀ a ∈ p, a ∈ fp) ∧ p.Nodup ∧ ∀ A' H' m' p', Same A A' → (∀ a ∈ fp, a ∉ p → H' a = H a ∧ A' a = none) → RM K A' H' v m' p' → p'.Nodup → (∀ a ∈ p', a ∈ p ∨ a ∉ fp) →
      ∃ fp', Sls K A' H' σ (ρ.set i (some m')) fp' ∧ fp'.Nodup ∧ ∀ a ∈ fp', a ∈ p' ∨ (a ∈ fp ∧ a ∉ p)
  | _, _, _, i, .nil, h, _ => by simp at h
  | _, _, _, 0, .any r, h, _ => by simp at h
  | _, _, fp, i + 1, .any r, h, n => by
    obtain ⟨v, p, h1, h2, h3, h4, h5⟩ := Sls.alter i r (by simpa using h) n
    refine ⟨v, p, by simpa using h1, h2, h3, h4, fun A' H' m' p' e k r' n' d => ?_⟩
    obtain ⟨fp', q1, q2, q3⟩ := h5 A' H' m' p' e k r' n' d
    exact ⟨fp', .any q1, q2, q3⟩
  | _, _, _, 0, .val (v := v) (m := m0) (p := p0) (fp := fp) h0 r, h, n => by
    have e0 : m0 = m := by simpa using h
    subst e0
    obtain ⟨n1, n2, n3⟩ := List.nodup_append.mp n
    refine ⟨v, p0, rfl, h0, fun a z => List.mem_append_left _ z, n1, fun A' H' m' p' e k r' n' d => ?_⟩
    have out : ∀ a ∈ fp, a ∉ p0 := fun a z w => n3 a w a z rfl
    refine ⟨p' ++ fp, .val r' (Sls.mono e r (fun a z => (k a (List.mem_append_right _ z) (out a z)).1) fun a z => (k a (List.mem_append_right _ z) (out a z)).2), List.nodup_append.mpr ⟨n', n2, fun a ha b hb q => ?_⟩, fun a z => ?_⟩
    · subst q
      rcases d a ha with z | z
      · exact out a hb z
      · exact z (List.mem_append_right _ hb)
    · rcases List.mem_append.mp z with z | z
      · exact .inl z
      · exact .inr ⟨List.mem_append_right _ z, out a z⟩
  | _, _, _, i + 1, .val (v := v0) (m := m0) (p := p0) (fp := fp) h0 r, h, n => by
    obtain ⟨n1, n2, n3⟩ := List.nodup_append.mp n
    obtain ⟨v, p, h1, h2, h3, h4, h5⟩ := Sls.alter i r (by simpa using h) n2
    have out : ∀ a ∈ p0, a ∉ p := fun a z w => n3 a z a (h3 a w) rfl
    refine ⟨v, p, by simpa using h1, h2, fun a z => List.mem_append_right _ (h3 a z), h4, fun A' H' m' p' e k r' n' d => ?_⟩
    obtain ⟨fp', q1, q2, q3⟩ := h5 A' H' m' p' e (fun a z w => k a (List.mem_append_right _ z) w) r' n' fun a z => (d a z).imp id fun w u => w (List.mem_append_right _ u)
    refine ⟨p0 ++ fp', .val (h0.mono e (fun a z => (k a (List.mem_append_left _ z) (out a z)).1) fun a z => (k a (List.mem_append_left _ z) (out a z)).2) q1, List.nodup_append.mpr ⟨n1, q2, fun a ha b hb q => ?_⟩, fun a z => ?_⟩
    · subst q
      rcases q3 a hb with z | z
      · rcases d a z with w | w
        · exact out a ha w
        · exact w (List.mem_append_left _ ha)
      · exact n3 a ha a z.1 rfl
    · rcases List.mem_append.mp z with z | z
      · exact .inr ⟨List.mem_append_left _ z, out a z⟩
      · exact (q3 a z).imp id fun w => ⟨List.mem_append_right _ w.1, w.2⟩

/-- where a def stands: its context; the places that may change, the anchor and the heap of the entry; the tables -/
structure Fc where
  X : Cx
  T : List Addr
  F : List Addr
  A0 : Hp
  H0 : Hp
  P : List Hp := []
  S0 : Option V := none
/-- the state of a frame -/
structure Es (c : Fc) (A H : Hp) (σ : L2.St) (ρ : Rhm) (fp : List Addr) : Prop where
  ok : Ok c.T A H
  x : Ext c.F c.A0 c.H0 A H
  sl : Sls c.X.K A H σ ρ fp
  nd : fp.Nodup
  own : ∀ a ∈ fp, a ∈ c.F ∨ c.H0 a = none
  pn : ∀ B ∈ c.P, Same B A
  fix : ∀ v, c.S0 = some v → σ[0]? = some (some v)
def Nx (c : Fc) (P : L2.St → Hp → Prop) (ρ : Rhm) : Prop := ∀ A H σ fp, Es c A H σ ρ fp → P σ H
/-- what follows a value handed back that is new or data -/
def Rt (c : Fc) (R : VK) (m : M) : Prop := ∀ v A H fp, Ok c.T A H → Ext c.F c.A0 c.H0 A H → RM c.X.K A H v m fp → fp.Nodup → Fresh c.H0 fp → R v H
def Ss (c : Fc) (st : Stmt) (D : Ends) (ρ : Rhm) : Prop := Nx c (tws c.X st D) ρ
def Gs (c : Fc) (sts : List Stmt) (D : Ends) (ρ : Rhm) : Prop := Nx c (twss c.X sts D) ρ

section
variable {c : Fc} {st : Stmt} {sts : List Stmt} {D : Ends} {ρ : Rhm} {e : Expr} {m : M} {d : Kf.D} {k : Bool} {pos : Pos} {A H : Hp} {σ : L2.St} {fp : List Addr}
theorem ss_of {t : TS} (h : PS c.X st t) (q : Nx c (t D) ρ) : Ss c st D ρ := fun A H σ fp es => ⟨fun pins s I => h.run pins s σ H D I (q A H σ fp es)⟩
theorem gs_of {t : TS} (h : PSs c.X sts t) (q : Nx c (t D) ρ) : Gs c sts D ρ := fun A H σ fp es => ⟨fun pins s I => h.run pins s σ H D I (q A H σ fp es)⟩
theorem gs_nil (q : Nx c D.nx ρ) : Gs c [] D ρ := gs_of pss_nil q
theorem gs_cons (h : Ss c st { D with nx := twss c.X sts D } ρ) : Gs c (st :: sts) D ρ := gs_of (pss_cons ps_tw pss_tw) h
theorem gs_one (h : Ss c st D ρ) : Gs c [st] D ρ := gs_of (pss_one ps_tw) h

theorem Sls.sl {K : PySem.W.Frag} {A H : Hp} : ∀ {σ : L2.St} {ρ : Rhm} {fp : List Addr}, Sls K A H σ ρ fp → Sl K A H σ ρ
  | _, _, _, .nil => fun i m h => by simp at h
  | _, _, _, .any r => fun i m h => by
    cases i with
    | zero => simp at h
    | succ i => exact Sls.sl r i m (by simpa using h)
  | _, _, _, .val (v := v) (m := m0) (p := p) h r => fun i m q => by
    cases i with
    | zero =>
      have e2 : m0 = m := by simpa using q
      subst e2
      exact ⟨v, p, rfl, h⟩
    | succ i => exact Sls.sl r i m (by simpa using q)
/-- what an expression is worth here -/
abbrev Asks (c : Fc) (ρ : Rhm) (e : Expr) (m : M) : Prop := Me c.X c.T e ρ m
theorem ask_h (h : Me c.X c.T e ρ m) : Asks c ρ e m := h
theorem ask_f (h : Me c.X c.T e (frzR ρ) m) (s : safe m = true) : Asks c ρ e m := me_fz h s
theorem Es.ask {R : V → Hp → Prop} (es : Es c A H σ ρ fp) (h : Asks c ρ e m)
    (q : ∀ v A2 H2 p, Ex0 A H A2 H2 → Ok c.T A2 H2 → RM c.X.K A2 H2 v m p → Fresh H p → p.Nodup → R v H2) : tw c.X e σ H R :=
  h A H σ es.ok es.sl.sl R fun v A2 H2 p x r f n => q v A2 H2 p x (x.ok es.ok) r f n
theorem Es.askT {R : Bool → Hp → Prop} (es : Es c A H σ ρ fp) (h : Te c.X c.T e ρ k) (q : ∀ A2 H2, Ex0 A H A2 H2 → Ok c.T A2 H2 → R k H2) : twT c.X e σ H R :=
  h A H σ es.ok es.sl.sl R fun A2 H2 x => q A2 H2 x (x.ok es.ok)
theorem Es.step0 (es : Es c A H σ ρ fp) {A' H' : Hp} (x : Ex0 A H A' H') : Es c A' H' σ ρ fp := ⟨x.ok es.ok, es.x.tr0 x, es.sl.step x (fun _ _ z => nomatch z), es.nd, es.own, fun B h => (es.pn B h).trans x.aa, es.fix⟩
theorem Es.live (es : Es c A H σ ρ fp) : ∀ a ∈ fp, H a ≠ none := fun a z w => by
  have q := (es.sl.there a z).2
  rw [w] at q
  exact q
theorem fresh_back {p : List Addr} (x : Ext c.F c.A0 c.H0 A H) (f : Fresh H p) : Fresh c.H0 p := fun a z => by
  cases q : c.H0 a with
  | none => rfl
  | some o => exact absurd (f a z) (x.dm a (by rw [q]; simp))
theorem fix_set {i : Nat} {v : V} {S : Option V} (h0 : S = none ∨ i ≠ 0) (h : ∀ v, S = some v → σ[0]? = some (some v)) : ∀ w, S = some w → (σ.set i (some v))[0]? = some (some w) := fun w e => by
  rcases h0 with z | z
  · rw [z] at e; cases e
  · rw [List.getElem?_set_ne z]
    exact h w e
theorem Es.put (es : Es c A H σ ρ fp) {i : Nat} {v : V} {p : List Addr} {A' H' : Hp} (x : Ex0 A H A' H') (r : RM c.X.K A' H' v m p) (f : Fresh H p) (n : p.Nodup) (hi : i < ρ.length) (h0 : c.S0 = none ∨ i ≠ 0) : ∃ fp', Es c A' H' (σ.set i (some v)) (ρ.set i (some m)) fp' := by
  have es' := es.step0 x
  obtain ⟨fp', h1, h2, h3⟩ := Sls.set r i es'.sl hi
  refine ⟨fp', es'.ok, es'.x, h1, h3 n es.nd fun a z w => es.live a w (f a z), fun a z => ?_, es'.pn, fix_set h0 es.fix⟩
  rcases h2 a z with w | w
  · exact .inr (fresh_back es.x f a w)
  · exact es.own a w

/-! ### statements -/
theorem ss_pass (q : Nx c D.nx ρ) : Ss c (.Pass pos) D ρ := ss_of ps_pass q
theorem ss_break (q : Nx c D.bk ρ) : Ss c (.Break pos) D ρ := ss_of ps_break q
theorem ss_continue (q : Nx c D.ct ρ) : Ss c (.Continue pos) D ρ := ss_of ps_continue q
/-- x = e -/
theorem ss_set {i : Nat} {x : Str} {pos' : Pos} (h : Asks c ρ e m) (hN : c.X.N.Nodup) (hi : c.X.N[i]? = some x) (hx : Loc c.X.env.scope x) (q : Nx c D.nx (ρ.set i (some m))) (hl : i < ρ.length := by exact of_decide_eq_true rfl) (h0 : c.S0 = none ∨ i ≠ 0 := by first | exact .inl rfl | exact .inr (by decide))
    (hw : swapsWith e (some (.Name x pos')) pos.line c.X.env = pure false := by rfl) (hf : c.X.fn x = true ∨ c.X.env.scope.names.lookup x = some .local := by first | exact .inl rfl | exact .inr rfl) : Ss c (.Assign [.Name x pos'] e pos) D ρ :=
  ss_of (L2.ps_set hN hi hx pe_tw hw hf) fun A H σ fp es => es.ask h fun v A2 H2 p x _ r f n => by
    obtain ⟨fp', es'⟩ := es.put x r f n hl h0
    exact q A2 H2 _ fp' es'
theorem ss_ret (h : Asks c ρ e m) (q : Rt c D.rt m) : Ss c (.Return (some e) pos) D ρ :=
  ss_of (ps_ret pe_tw) fun A H σ fp es => es.ask h fun v A2 H2 p x ok r f n => q v A2 H2 p ok (es.x.tr0 x) r n (fresh_back es.x f)
theorem ss_retN (q : Rt c D.rt (.im .non)) : Ss c (.Return none pos) D ρ := ss_of ps_retN fun A H σ fp es => q .non A H [] es.ok es.x (.im .non) List.nodup_nil fun _ z => nomatch z
theorem ss_if {t : Expr} {a b : List Stmt} (h : Te c.X c.T t ρ k) (ha : k = true → Gs c a D ρ) (hb : k = false → Gs c b D ρ) : Ss c (.If t a b pos) D ρ :=
  ss_of (ps_if pt_tw pss_tw pss_tw) fun A H σ fp es => es.askT h fun A2 H2 x _ => by
    have es' := es.step0 x
    cases k with
    | true => exact (iteT (ha rfl A2 H2 σ fp es'))
    | false => exact (iteF (hb rfl A2 H2 σ fp es'))
theorem ss_drop (h : Asks c ρ e m) (q : Nx c D.nx ρ) (hw : swapsWith e none pos.line c.X.env = pure false := by rfl) : Ss c (.Expr e pos) D ρ :=
  ss_of (ps_expr pe_tw hw) fun A H σ fp es => es.ask h fun v A2 H2 p x _ r f n => q A2 H2 σ fp (es.step0 x)
/-- a way that can't be -/
theorem ss_no (h : False) : Ss c st D ρ := h.elim
theorem nx_mono {P P' : L2.St → Hp → Prop} (q : Nx c P ρ) (h : ∀ σ H, P σ H → P' σ H) : Nx c P' ρ := fun A H σ fp es => h σ H (q A H σ fp es)
/-- while, by a word over what is held and a measure -/
theorem ss_while {t : Expr} {body : List Stmt} (hp : PassesOwn (model c.X.prog c.X.w) c.X.A c.X.env c.X.xe) (W : Nat → Rhm → Prop) (μ : Nat) (w0 : W μ ρ)
    (turn : ∀ μ ρ', W μ ρ' → ∃ k, Te c.X c.T t ρ' k ∧ (k = true → ∀ N : L2.St → Hp → Prop, (∀ μ' ρ2, μ' < μ → W μ' ρ2 → Nx c N ρ2) → Gs c body { D with nx := N, ct := N, bk := D.nx } ρ') ∧ (k = false → Nx c D.nx ρ')) : Ss c (.While t body [] pos) D ρ :=
  ss_of (ps_while hp pt_tw pss_tw) fun A H σ fp es => by
    refine ⟨fun μ σ H => ∃ ρ' A fp, W μ ρ' ∧ Es c A H σ ρ' fp, ⟨μ, ρ, A, fp, w0, es⟩, ?_⟩
    rintro μ σ H ⟨ρ', A, fp, w, es⟩
    obtain ⟨k, ht, h1, h2⟩ := turn μ ρ' w
    refine es.askT ht fun A2 H2 x _ => ?_
    have es' := es.step0 x
    cases k with
    | true =>
      refine iteT ⟨fun σ' H' => ∃ m', m' < μ ∧ ∃ ρ2 A fp, W m' ρ2 ∧ Es c A H' σ' ρ2 fp, fun _ _ h => h, ?_⟩
      exact h1 rfl _ (fun μ' ρ2 hl w2 A3 H3 σ3 fp3 e3 => ⟨μ', hl, ρ2, A3, fp3, w2, e3⟩) A2 H2 σ fp es'
    | false => exact (iteF (h2 rfl A2 H2 σ fp es'))

/-! ### forgetting -/
inductive Weak : Rhm → Rhm → Prop
  | nil : Weak [] []
  | keep {o : Option M} {ρ ρ' : Rhm} : Weak ρ ρ' → Weak (o :: ρ) (o :: ρ')
  | drop {o : Option M} {ρ ρ' : Rhm} : Weak ρ ρ' → Weak (o :: ρ) (none :: ρ')
theorem Sls.weak {K : PySem.W.Frag} {A H : Hp} : ∀ {ρ ρ' : Rhm} {σ : L2.St} {fp : List Addr}, Weak ρ ρ' → Sls K A H σ ρ fp → fp.Nodup → ∃ fp', Sls K A H σ ρ' fp' ∧ fp'.Nodup ∧ ∀ a ∈ fp', a ∈ fp
  | _, _, _, _, .nil, .nil, n => ⟨[], .nil, n, fun _ z => z⟩
  | _, _, _, _, .keep w, .any r, n => by
    obtain ⟨fp', h1, h2, h3⟩ := Sls.weak w r n
    exact ⟨fp', .any h1, h2, h3⟩
  | _, _, _, _, .keep w, .val (p := p) h r, n => by
    obtain ⟨n1, n2, n3⟩ := List.nodup_append.mp n
    obtain ⟨fp', h1, h2, h3⟩ := Sls.weak w r n2
    exact ⟨p ++ fp', .val h h1, List.nodup_append.mpr ⟨n1, h2, fun a ha b hb => n3 a ha b (h3 b hb)⟩, fun a z => (List.mem_append.mp z).elim (fun w => List.mem_append_left _ w) fun w => List.mem_append_right _ (h3 a w)⟩
  | _, _, _, _, .drop w, .any r, n => by
    obtain ⟨fp', h1, h2, h3⟩ := Sls.weak w r n
    exact ⟨fp', .any h1, h2, h3⟩
  | _, _, _, _, .drop w, .val h r, n => by
    obtain ⟨fp', h1, h2, h3⟩ := Sls.weak w r (List.nodup_append.mp n).2.1
    exact ⟨fp', .any h1, h2, fun a z => List.mem_append_right _ (h3 a z)⟩
theorem nx_weak {P : L2.St → Hp → Prop} {ρ' : Rhm} (w : Weak ρ ρ') (q : Nx c P ρ') : Nx c P ρ := fun A H σ fp es => by
  obtain ⟨fp', h1, h2, h3⟩ := Sls.weak w es.sl es.nd
  exact q A H σ fp' ⟨es.ok, es.x, h1, h2, fun a z => es.own a (h3 a z), es.pn, es.fix⟩
abbrev Fc.pin (c : Fc) (B : Hp) : Fc := { c with P := B :: c.P }
theorem Es.unpin {B : Hp} (es : Es (c.pin B) A H σ ρ fp) : Es c A H σ ρ fp := ⟨es.ok, es.x, es.sl, es.nd, es.own, fun C h => es.pn C (List.mem_cons_of_mem _ h), es.fix⟩
theorem nx_pin {P : L2.St → Hp → Prop} {B : Hp} (q : Nx c P ρ) : Nx (c.pin B) P ρ := fun A H σ fp es => q A H σ fp es.unpin

/-! ### changes at owned places -/
theorem ext_mut {T : List Addr} {A H : Hp} {p : Addr} {o o' : HO} (e : Ok T A H) (h : H p = some o) (mu : Mut (some o)) (n : A p = none) : Ext [p] A H A (upd H p o') where
  aa := Same.refl A
  hh := fun a u q _ z => by rw [upd_ne fun w => z (by rw [w]; exact List.mem_cons_self ..)]; exact q
  ah := fun a u q => by rw [upd_ne fun w => by rw [w, n] at q; cases q]; exact e.s _ _ q
  nt := e.nt
  nw := fun _ _ => rfl
  dm := dm_upd
  tb := fun a ⟨ps, q, t⟩ => ⟨ps, by rw [upd_ne fun w => by rw [w, h] at q; cases q; exact mu]; exact q, t⟩
/-- the thing in slot i is altered at its own places -/
theorem Es.alter (es : Es c A H σ ρ fp) {i : Nat} (hi : ρ[i]? = some (some m)) : ∃ v p, σ[i]? = some (some v) ∧ RM c.X.K A H v m p ∧ p.Nodup ∧ (∀ a ∈ p, a ∈ fp) ∧
    ∀ A' H' m' p', Ext p A H A' H' → RM c.X.K A' H' v m' p' → p'.Nodup → (∀ a ∈ p', a ∈ p ∨ H a = none) → ∃ fp', Es c A' H' σ (ρ.set i (some m')) fp' ∧ ∀ a ∈ fp', a ∈ p' ∨ a ∈ fp := by
  obtain ⟨v, p, h1, h2, h3, h4, h5⟩ := es.sl.alter i hi es.nd
  refine ⟨v, p, h1, h2, h4, h3, fun A' H' m' p' x r n f => ?_⟩
  have lv := es.live
  obtain ⟨fp', q1, q2, q3⟩ := h5 A' H' m' p' x.aa (fun a z w => by
    obtain ⟨t1, t2⟩ := es.sl.there a z
    refine ⟨?_, (x.nw a (lv a z)).trans t1⟩
    cases q : H a with
    | none => exact absurd q (lv a z)
    | some o =>
      rw [q] at t2
      exact x.hh a o q (mut_noTab t2) w) r n fun a z => (f a z).imp id fun w u => lv a u w
  refine ⟨fp', ⟨x.ok es.ok, es.x.trans x fun a z => es.own a (h3 a z), q1, q2, fun a z => ?_, fun B h => (es.pn B h).trans x.aa, es.fix⟩, fun a z => (q3 a z).imp id fun w => w.1⟩
  rcases q3 a z with w | w
  · rcases f a w with u | u
    · exact es.own a (h3 a u)
    · exact .inr (fresh_back (p := [a]) es.x (fun b hb => by
        rcases List.mem_cons.mp hb with e | e
        · rw [e]; exact u
        · cases e) a (List.mem_cons_self ..))
  · exact es.own a w.1
end
end Kf

set_option maxHeartbeats 1000000
/-! Kf: rules: operators, loops, comprehensions, defs, calls. -/
namespace Kf
open PySem L2

section
variable {X : Cx} {T : List Addr} {ρ : Rho} {e a b : Expr} {es : List Expr} {m : M} {d d1 d2 : D} {ds xs ys : List D} {pos : Pos} {i j : Int} {x y : Str}
/-! ### ints -/
theorem op_int {f : Value → Value → Sem Value} {g : Int → Int → V} {z : D} (h : OpR X f (rI0 g)) (r : ∀ A, Rp X.K A (g i j) z) : Op X T f (.int i) (.int j) (.im z) := op_of h fun A H v u s rv ru Q k => by
  cases rv; cases ru
  exact ⟨i, j, rfl, rfl, k.now s (r A)⟩
theorem op_intC {f : Value → Value → Sem Value} {C : Int → Int → Prop} {g : Int → Int → V} {z : D} (h : OpR X f (rI C g)) (hc : C i j) (r : ∀ A, Rp X.K A (g i j) z) : Op X T f (.int i) (.int j) (.im z) := op_of h fun A H v u s rv ru Q k => by
  cases rv; cases ru
  exact ⟨i, j, rfl, rfl, hc, k.now s (r A)⟩
theorem o_add : Op X T (binaryOp .Add) (.int i) (.int j) (.im (.int (i + j))) := op_int op_add fun _ => .int _
theorem o_sub : Op X T (binaryOp .Sub) (.int i) (.int j) (.im (.int (i - j))) := op_int op_sub fun _ => .int _
theorem o_mul (h : CMul i j) : Op X T (binaryOp .Mult) (.int i) (.int j) (.im (.int (i * j))) := op_intC op_mul h fun _ => .int _
theorem o_mod (h : 0 < j) : Op X T (binaryOp .Mod) (.int i) (.int j) (.im (.int (i % j))) := op_intC op_mod h fun _ => .int _
theorem o_fdiv (h : CDiv i j) : Op X T (binaryOp .FloorDiv) (.int i) (.int j) (.im (.int (i / j))) := op_intC op_fdiv h fun _ => .int _
theorem o_pow (h : CPow i j) : Op X T (binaryOp .Pow) (.int i) (.int j) (.im (.int (i ^ j.toNat))) := op_intC op_pow h fun _ => .int _
theorem o_lt : Op X T (compareOp .Lt) (.int i) (.int j) (.im (.bl (decide (i < j)))) := op_int op_lt fun _ => .bl _
theorem o_le : Op X T (compareOp .LtE) (.int i) (.int j) (.im (.bl (decide (i ≤ j)))) := op_int op_le fun _ => .bl _
theorem o_gt : Op X T (compareOp .Gt) (.int i) (.int j) (.im (.bl (decide (j < i)))) := op_int op_gt fun _ => .bl _
theorem o_ge : Op X T (compareOp .GtE) (.int i) (.int j) (.im (.bl (decide (j ≤ i)))) := op_int op_ge fun _ => .bl _
/-! ### == and != of flat things -/
def flat1 : D → Option V
  | .non => some .non | .bl b => some (.bl b) | .int i => some (.int i) | .str x => some (.str x)
  | _ => none
theorem flat1_rp {K : PySem.W.Frag} {A : Hp} {v z : V} (h : flat1 d = some z) (r : Rp K A v d) : v = z := by
  cases r <;> simp [flat1] at h <;> exact h
theorem o_eqF {v1 v2 : V} (h1 : flat1 d1 = some v1) (h2 : flat1 d2 = some v2) (h : scal v1 v2 = true) : Op X T (compareOp .Eq) d1 d2 (.im (.bl (decide (v1 = v2)))) := op_of op_eq fun A H v u s rv ru Q k => by
  rw [flat1_rp h1 rv, flat1_rp h2 ru]
  exact ⟨h, k.now s (.bl _)⟩
theorem o_neF {v1 v2 : V} (h1 : flat1 d1 = some v1) (h2 : flat1 d2 = some v2) (h : scal v1 v2 = true) : Op X T (compareOp .NotEq) d1 d2 (.im (.bl (!decide (v1 = v2)))) := op_of op_ne fun A H v u s rv ru Q k => by
  rw [flat1_rp h1 rv, flat1_rp h2 ru]
  exact ⟨h, k.now s (.bl _)⟩
theorem o_eqI : Op X T (compareOp .Eq) (.int i) (.int j) (.im (.bl (decide (i = j)))) := by
  have h := o_eqF (X := X) (T := T) (d1 := .int i) (d2 := .int j) rfl rfl rfl
  rwa [show decide (V.int i = V.int j) = decide (i = j) by simp] at h
theorem o_neI : Op X T (compareOp .NotEq) (.int i) (.int j) (.im (.bl (!decide (i = j)))) := by
  have h := o_neF (X := X) (T := T) (d1 := .int i) (d2 := .int j) rfl rfl rfl
  rwa [show decide (V.int i = V.int j) = decide (i = j) by simp] at h
theorem o_eqS : Op X T (compareOp .Eq) (.str x) (.str y) (.im (.bl (decide (x = y)))) := by
  have h := o_eqF (X := X) (T := T) (d1 := .str x) (d2 := .str y) rfl rfl rfl
  rwa [show decide (V.str x = V.str y) = decide (x = y) by simp] at h
theorem o_neS : Op X T (compareOp .NotEq) (.str x) (.str y) (.im (.bl (!decide (x = y)))) := by
  have h := o_neF (X := X) (T := T) (d1 := .str x) (d2 := .str y) rfl rfl rfl
  rwa [show decide (V.str x = V.str y) = decide (x = y) by simp] at h
def isNon : D → Bool
  | .non => true
  | _ => false
theorem isNon_rp {K : PySem.W.Frag} {A : Hp} {v : V} (r : Rp K A v d) : decide (v = .non) = isNon d := by
  cases r <;> simp [isNon]
theorem o_isN : Op X T (compareOp .Is) d .non (.im (.bl (isNon d))) := op_of op_isN fun A H v u s rv ru Q k => by
  cases ru
  rw [isNon_rp rv]
  exact ⟨rfl, k.now s (.bl _)⟩
theorem o_notN : Op X T (compareOp .IsNot) d .non (.im (.bl (!isNon d))) := op_of op_notN fun A H v u s rv ru Q k => by
  cases ru
  rw [isNon_rp rv]
  exact ⟨rfl, k.now s (.bl _)⟩
/-! ### texts, lists, tuples joined -/
theorem o_addS (h : x.length + y.length ≤ sizeLine) : Op X T (binaryOp .Add) (.str x) (.str y) (.im (.str (x ++ y))) := op_of op_add_str fun A H v u s rv ru Q k => by
  cases rv; cases ru
  exact ⟨x, y, rfl, rfl, h, k.now s (.str _)⟩
theorem RpL.append {K : PySem.W.Frag} {A : Hp} : ∀ {vs us : List V} {ds es : List D}, RpL K A vs ds → RpL K A us es → RpL K A (vs ++ us) (ds ++ es)
  | _, _, _, _, .nil, q => q
  | _, _, _, _, .cons h r, q => .cons h (RpL.append r q)
theorem RpL.take {K : PySem.W.Frag} {A : Hp} : ∀ {vs : List V} {ds : List D} (n : Nat), RpL K A vs ds → RpL K A (vs.take n) (ds.take n)
  | _, _, 0, _ => .nil
  | _, _, _ + 1, .nil => .nil
  | _, _, n + 1, .cons h r => .cons h (RpL.take n r)
theorem RpL.drop {K : PySem.W.Frag} {A : Hp} : ∀ {vs : List V} {ds : List D} (n : Nat), RpL K A vs ds → RpL K A (vs.drop n) (ds.drop n)
  | _, _, 0, r => r
  | _, _, _ + 1, .nil => .nil
  | _, _, n + 1, .cons _ r => RpL.drop n r
theorem RpL.get {K : PySem.W.Frag} {A : Hp} : ∀ {vs : List V} {ds : List D} {n : Nat} {d : D}, RpL K A vs ds → ds[n]? = some d → ∃ v, vs[n]? = some v ∧ Rp K A v d
  | _, _, _, _, .nil, h => by simp at h
  | _, _, 0, _, .cons h _, q => by
    simp at q; subst q
    exact ⟨_, rfl, h⟩
  | _, _, n + 1, _, .cons _ r, q => by simpa using RpL.get r (by simpa using q)
theorem RpL.of {K : PySem.W.Frag} {A : Hp} : ∀ {vs : List V} {ds : List D} {n : Nat} {v : V}, RpL K A vs ds → vs[n]? = some v → ∃ d, ds[n]? = some d ∧ Rp K A v d
  | _, _, _, _, .nil, h => by simp at h
  | _, _, 0, _, .cons h _, q => by
    simp at q; subst q
    exact ⟨_, rfl, h⟩
  | _, _, n + 1, _, .cons _ r, q => by simpa using RpL.of r (by simpa using q)
theorem o_addL (h : xs.length + ys.length ≤ sizeLine) : Op X T (binaryOp .Add) (.lst xs) (.lst ys) (.ls (xs ++ ys)) := op_of op_cat fun A H v u s rv ru Q k => by
  cases rv with
  | lst e1 r1 =>
    cases ru with
    | lst e2 r2 => exact ⟨_, _, _, _, rfl, rfl, s.s _ _ e1, s.s _ _ e2, by rw [r1.len, r2.len]; exact h, fun p hp => k.ls s hp (r1.append r2)⟩
theorem o_mulL {n : Int} (h : -(2 ^ 63) ≤ n ∧ n < 2 ^ 63 ∧ xs.length * n.toNat ≤ sizeLine) : Op X T (binaryOp .Mult) (.lst xs) (.int n) (.ls (List.replicate n.toNat xs).flatten) := op_of op_rep fun A H v u s rv ru Q k => by
  cases rv with
  | lst e1 r1 =>
    cases ru
    obtain ⟨h1, h2, h3⟩ := h
    refine ⟨_, _, _, rfl, rfl, s.s _ _ e1, h1, h2, by rw [r1.len]; exact h3, fun p hp => ?_⟩
    refine k.ls s hp ?_
    clear h1 h2 h3
    generalize n.toNat = q
    induction q with
    | zero => exact .nil
    | succ q ih => rw [List.replicate_succ, List.replicate_succ, List.flatten_cons, List.flatten_cons]; exact r1.append ih
/-! ### subscripts -/
def Ix (X : Cx) (T : List Addr) (d1 d2 : D) (m : M) : Prop := ∃ r, IxR X r ∧ Dop T X.K r d1 d2 m
theorem me_ix (h1 : Ie X T a ρ d1) (h2 : Ie X T b ρ d2) (h : Ix X T d1 d2 m) (hs : PlainIx b := by exact fun _ _ => rfl) : Me X T (.Subscript a b pos) ρ m := by
  obtain ⟨r, hr, q⟩ := h
  exact me_of (pe_ix hr pe_tw pe_tw hs) (den_op h1 h2 q)
theorem atI_bind {α : Type} {xs : List α} {i : Int} {v : α} {n : Nat} (h1 : ixN xs.length i = some n) (h2 : xs[n]? = some v) : atI xs i = some v := by
  unfold atI
  rw [h1]
  exact h2
theorem at_of {K : PySem.W.Frag} {A : Hp} {vs : List V} (r : RpL K A vs xs) (h : atI xs i = some d) : ∃ v, atI vs i = some v ∧ Rp K A v d := by
  unfold atI at h
  cases q : ixN xs.length i with
  | none => rw [q] at h; cases h
  | some n =>
    rw [q] at h
    obtain ⟨v, h1, h2⟩ := r.get h
    exact ⟨v, atI_bind (by rw [r.len]; exact q) h1, h2⟩
theorem ix_l (h : atI xs i = some d) : Ix X T (.lst xs) (.int i) (.im d) := ⟨_, ix_list, fun A H v u s rv ru Q k => by
  cases rv with
  | lst e1 r1 =>
    cases ru
    obtain ⟨w, h1, h2⟩ := at_of r1 h
    exact ⟨_, _, _, w, rfl, rfl, SqL.of (s.s _ _ e1), h1, k.now s h2⟩⟩
theorem ix_f (h : atI xs i = some d) : Ix X T (.fls xs) (.int i) (.im d) := ⟨_, ix_list, fun A H v u s rv ru Q k => by
  cases rv with
  | fls e1 r1 =>
    cases ru
    obtain ⟨w, h1, h2⟩ := at_of r1 h
    exact ⟨_, _, _, w, rfl, rfl, s.s.seq e1, h1, k.now s h2⟩⟩
theorem ix_t (h : atI xs i = some d) : Ix X T (.tup xs) (.int i) (.im d) := ⟨_, ix_tup, fun A H v u s rv ru Q k => by
  cases rv with
  | tup e1 r1 =>
    cases ru
    obtain ⟨w, h1, h2⟩ := at_of r1 h
    exact ⟨_, _, _, w, rfl, rfl, seqT_mono s.s e1, h1, k.now s h2⟩⟩
theorem ix_s {c : Nat} (hz : x.length ≤ sizeLine) (h : atI x.cps.toList i = some c) : Ix X T (.str x) (.int i) (.im (.str ⟨#[c]⟩)) := ⟨_, ix_str, fun A H v u s rv ru Q k => by
  cases rv; cases ru
  exact ⟨_, _, _, rfl, rfl, hz, h, k.now s (.str _)⟩⟩
/-! ### slices -/
def Sc (X : Cx) (T : List Addr) (d : D) (lo hi : Option Int) (m : M) : Prop := ∃ r, SlR X r ∧ ∀ A H v, Ok T A H → Rp X.K A v d → ∀ Q : VK, KM X.K A H m Q → r v lo hi H Q
def Po (X : Cx) (T : List Addr) (o : Option Expr) (ρ : Rho) (i : Option Int) : Prop := match o, i with
  | none, none => True
  | some e, some i => Ie X T e ρ (.int i)
  | _, _ => False
theorem me_sl {lo hi : Option Expr} {l u : Option Int} {p2 : Pos} (h1 : Ie X T a ρ d1) (hl : Po X T lo ρ l) (hu : Po X T hi ρ u) (h : Sc X T d1 l u m) : Me X T (.Subscript a (.Slice lo hi none p2) pos) ρ m := by
  obtain ⟨r, hr, q⟩ := h
  have part : ∀ {o : Option Expr} {i : Option Int}, Po X T o ρ i → ∃ t : TO, PO X o t ∧ ∀ A H σ, Ok T A H → Sl X.K A H σ ρ → ∀ Q : Option Int → Hp → Prop, (∀ A2 H2, Ex0 A H A2 H2 → Q i H2) → t σ H Q := by
    intro o i h
    cases o with
    | none =>
      cases i with
      | none => exact ⟨_, po_none, fun A H σ s _ Q k => k A H (Ext.refl s)⟩
      | some _ => exact h.elim
    | some e =>
      cases i with
      | none => exact h.elim
      | some i => exact ⟨_, po_some pe_tw, fun A H σ s l Q k => h A H σ s l _ fun v A2 H2 x r => by cases r; exact ⟨i, rfl, k A2 H2 x⟩⟩
  obtain ⟨tl, pl, ql⟩ := part hl
  obtain ⟨tu, pu, qu⟩ := part hu
  exact me_of (pe_slice hr pe_tw pl pu) fun A H σ s l Q k => h1 A H σ s l _ fun v A1 H1 x1 r1 => ql A1 H1 σ (x1.ok s) (l.step x1) _ fun A2 H2 x2 => qu A2 H2 σ (x2.ok (x1.ok s)) ((l.step x1).step x2) _ fun A3 H3 x3 =>
    q A3 H3 v (x3.ok (x2.ok (x1.ok s))) ((r1.mono x2.aa).mono x3.aa) Q (k.back ((x1.tr0 x2).tr0 x3))
def cutD {α : Type} (xs : List α) (lo hi : Option Int) : List α := (xs.drop (HT.sIx xs.length 0 lo)).take (HT.sIx xs.length xs.length hi - HT.sIx xs.length 0 lo)
theorem RpL.cut {K : PySem.W.Frag} {A : Hp} {vs : List V} (r : RpL K A vs xs) (lo hi : Option Int) : RpL K A (cutV vs lo hi) (cutD xs lo hi) := by
  unfold cutV cutD
  rw [r.len]
  exact (r.drop _).take _
theorem sc_l {lo hi : Option Int} : Sc X T (.lst xs) lo hi (.ls (cutD xs lo hi)) := ⟨_, sl_list, fun A H v s rv Q k => by
  cases rv with
  | lst e1 r1 => exact ⟨_, _, rfl, SqL.of (s.s _ _ e1), fun p hp => k.ls s hp (r1.cut lo hi)⟩⟩
theorem sc_s {lo hi : Option Int} (hz : x.length ≤ sizeLine) : Sc X T (.str x) lo hi (.im (.str (cutS x lo hi))) := ⟨_, sl_str, fun A H v s rv Q k => by
  cases rv
  exact ⟨_, rfl, hz, k.now s (.str _)⟩⟩
/-! ### calls of built-ins -/
def Cl (X : Cx) (T : List Addr) (f : Value) (ds : List D) (m : M) : Prop := ∃ r, CallR X f r ∧ ∀ A H vs, Ok T A H → RpL X.K A vs ds → ∀ Q : VK, KM X.K A H m Q → r vs H Q
theorem me_bi {id : String} {x : Str} {p : Pos} (ha : As X T (e :: es) ρ ds) (h : Cl X T (.builtin id) ds m) (hm : X.mg x = none) (hv : bootBuiltins x = some (.builtin id)) (hg : Gl X x := by rfl) (hn : x ≠ "__name__" := by decide)
    (hdb : (x == ("__debug__" : Str)) = false := by decide) (hs : starEach (e :: es) X.env = (false, eval e X.env) :: starEach es X.env := by rfl) (hpl : (backTo pos (starEach es X.env)).any (·.1) = false := by rfl) : Me X T (.Call (.Name x p) (e :: es) [] pos) ρ m := by
  obtain ⟨r, hr, q⟩ := h
  exact me_of (pe_callB hr hg hm hv pa_tw hn hdb hs hpl) fun A H σ s l Q k => ha A H σ s l _ fun vs A1 H1 x1 r1 => q A1 H1 vs (x1.ok s) r1 Q (k.back x1)
theorem me_ty {id : String} {x : Str} {p : Pos} (ha : As X T (e :: es) ρ ds) (h : Cl X T (.type id) ds m) (hm : X.mg x = none) (hv : bootBuiltins x = some (.type id)) (hg : Gl X x := by rfl) (hn : x ≠ "__name__" := by decide)
    (hdb : (x == ("__debug__" : Str)) = false := by decide) (hs : starEach (e :: es) X.env = (false, eval e X.env) :: starEach es X.env := by rfl) (hpl : (backTo pos (starEach es X.env)).any (·.1) = false := by rfl) : Me X T (.Call (.Name x p) (e :: es) [] pos) ρ m := by
  obtain ⟨r, hr, q⟩ := h
  exact me_of (pe_callTy hr hg hm hv pa_tw hn hdb hs hpl) fun A H σ s l Q k => ha A H σ s l _ fun vs A1 H1 x1 r1 => q A1 H1 vs (x1.ok s) r1 Q (k.back x1)
theorem RpL.one {K : PySem.W.Frag} {A : Hp} {vs : List V} (r : RpL K A vs [d]) : ∃ v, vs = [v] ∧ Rp K A v d := by
  cases r with
  | cons h r => cases r; exact ⟨_, rfl, h⟩
theorem cl_lenL : Cl X T (.builtin "len") [.lst xs] (.im (.int xs.length)) := ⟨_, call_len_seq, fun A H vs s r Q k => by
  obtain ⟨v, rfl, r0⟩ := r.one
  cases r0 with
  | lst e1 r1 => exact ⟨_, _, rfl, .inl (SqL.of (s.s _ _ e1)), by rw [r1.len]; exact k.now s (.int _)⟩⟩
theorem cl_lenF : Cl X T (.builtin "len") [.fls xs] (.im (.int xs.length)) := ⟨_, call_len_seq, fun A H vs s r Q k => by
  obtain ⟨v, rfl, r0⟩ := r.one
  cases r0 with
  | fls e1 r1 => exact ⟨_, _, rfl, .inl (s.s.seq e1), by rw [r1.len]; exact k.now s (.int _)⟩⟩
theorem cl_lenT : Cl X T (.builtin "len") [.tup xs] (.im (.int xs.length)) := ⟨_, call_len_seq, fun A H vs s r Q k => by
  obtain ⟨v, rfl, r0⟩ := r.one
  cases r0 with
  | tup e1 r1 => exact ⟨_, _, rfl, .inr (seqT_mono s.s e1), by rw [r1.len]; exact k.now s (.int _)⟩⟩
theorem cl_lenS (h : x.length ≤ sizeLine) : Cl X T (.builtin "len") [.str x] (.im (.int x.length)) := ⟨_, call_len, fun A H vs s r Q k => by
  obtain ⟨v, rfl, r0⟩ := r.one
  cases r0
  exact ⟨_, x.length, rfl, ⟨h, rfl⟩, k.now s (.int _)⟩⟩
theorem cl_int : Cl X T (.type "int") [.int i] (.im (.int i)) := ⟨_, call_int1, fun A H vs s r Q k => by
  obtain ⟨v, rfl, r0⟩ := r.one
  cases r0
  exact .inl ⟨_, rfl, k.now s (.int _)⟩⟩
theorem cl_str (h : i.natAbs.log2 < 1920) : Cl X T (.type "str") [.int i] (.im (.str (toString i))) := ⟨_, call_str_int, fun A H vs s r Q k => by
  obtain ⟨v, rfl, r0⟩ := r.one
  cases r0
  exact ⟨_, rfl, h, k.now s (.str _)⟩⟩
theorem cl_list : Cl X T (.type "list") [.lst xs] (.ls xs) := ⟨_, call_list_of, fun A H vs s r Q k => by
  obtain ⟨v, rfl, r0⟩ := r.one
  cases r0 with
  | lst e1 r1 => exact ⟨_, _, rfl, .inl (SqL.of (s.s _ _ e1)), fun p hp => k.ls s hp r1⟩⟩
theorem cl_tup : Cl X T (.type "tuple") [.lst xs] (.im (.tup xs)) := ⟨_, call_tuple_of, fun A H vs s r Q k => by
  obtain ⟨v, rfl, r0⟩ := r.one
  cases r0 with
  | lst e1 r1 => exact ⟨_, _, rfl, .inl ⟨SqL.of (s.s _ _ e1), fun p hp => k.tup s hp r1⟩⟩⟩
end
end Kf

set_option maxHeartbeats 1000000
/-! Kf: loops, comprehensions, defs and their calls. -/
namespace Kf
open PySem L2

theorem Sls.set0 {K : PySem.W.Frag} {A H : Hp} {σ : L2.St} {ρ : Rhm} {fp : List Addr} {d : D} {i : Nat} (s : Sls K A H σ ρ fp) {v : V} (r : Rp K A v d) (n : fp.Nodup) (hi : i < ρ.length) : ∃ fp', Sls K A H (σ.set i (some v)) (ρ.set i (some (.im d))) fp' ∧ fp'.Nodup ∧ ∀ a ∈ fp', a ∈ fp := by
  obtain ⟨fp', h1, h2, h3⟩ := Sls.set (.im r) i s hi
  exact ⟨fp', h1, h3 List.nodup_nil n fun _ z => (nomatch z), fun a z => (h2 a z).elim (fun w => nomatch w) id⟩
section
variable {c : Fc} {D : Ends} {ρ : Rhm} {e l : Expr} {m : M} {d : Kf.D} {ds : List Kf.D} {body : List Stmt} {pos px : Pos} {i : Nat} {x : Str} {st : Stmt}
theorem Es.seti {A H : Hp} {σ : L2.St} {fp : List Addr} (es : Es c A H σ ρ fp) {v : V} (r : Rp c.X.K A v d) (hi : i < ρ.length) (h0 : c.S0 = none ∨ i ≠ 0) : ∃ fp', Es c A H (σ.set i (some v)) (ρ.set i (some (.im d))) fp' := by
  obtain ⟨fp', h1, h2, h3⟩ := es.sl.set0 r es.nd hi
  exact ⟨fp', es.ok, es.x, h1, h2, fun a z => es.own a (h3 a z), es.pn, fix_set h0 es.fix⟩
theorem Es.pinned {A H : Hp} {σ : L2.St} {fp : List Addr} (es : Es c A H σ ρ fp) : Es (c.pin A) A H σ ρ fp := ⟨es.ok, es.x, es.sl, es.nd, es.own, fun B h => by
  rcases List.mem_cons.mp h with e | e
  · rw [e]; exact Same.refl _
  · exact es.pn B e, es.fix⟩
/-! ### for: W tells what is held ahead of turn j -/
/-- for x in e, e data of a list -/
theorem ss_for (hps : PS c.X st (tFor (iList c.X.K (tw c.X l)) (gName i) (twss c.X body))) (h : Me c.X c.T l ρ (.im (.lst ds)))
    (W : Nat → Rhm → Prop) (w0 : W 0 ρ) (wl : ∀ j ρ', W j ρ' → i < ρ'.length)
    (turn : ∀ B j d ρ', ds[j]? = some d → W j ρ' → ∀ N : L2.St → Hp → Prop, (∀ ρ2, W (j + 1) ρ2 → Nx (c.pin B) N ρ2) → Gs (c.pin B) body { D with nx := N, ct := N, bk := D.nx } (ρ'.set i (some (.im d))))
    (hd : ∀ ρ', W ds.length ρ' → Nx c D.nx ρ') (h0 : c.S0 = none ∨ i ≠ 0 := by first | exact .inl rfl | exact .inr (by decide)) : Ss c st D ρ :=
  ss_of hps fun A H σ fp es => es.ask (ask_h h) fun v A2 H2 p xx ok r f n => by
    have es2 := es.step0 xx
    cases r with
    | im r =>
    cases r with
    | @lst a xs _ e1 r1 =>
    refine ⟨a, rfl, ⟨xs, SqL.of (ok.s _ _ e1)⟩, for_list (xs := xs) (fun j σ H => ∃ ρ' A fp, W j ρ' ∧ Es (c.pin A2) A H σ ρ' fp) ⟨ρ, A2, fp, w0, es2.pinned⟩ ?_ ?_ ?_⟩
    · rintro j σ H _ ⟨ρ', A3, fp, _, es⟩
      exact SqL.of (es.ok.s _ _ (es.pn A2 (List.mem_cons_self ..) _ _ e1))
    · rintro j y σ H hj ⟨ρ', A3, fp, w, es⟩
      obtain ⟨d, hd', rd⟩ := r1.of hj
      obtain ⟨fp', es'⟩ := es.seti (rd.mono (es.pn A2 (List.mem_cons_self ..))) (wl j ρ' w) h0
      exact turn A2 j d ρ' hd' w _ (fun ρ2 w2 A4 H4 σ4 fp4 es4 => ⟨ρ2, A4, fp4, w2, es4⟩) A3 H _ fp' es'
    · rintro σ H ⟨ρ', A3, fp, w, es⟩
      rw [r1.len] at w
      exact hd ρ' w A3 H σ fp es.unpin
/-- .. data of a tuple -/
theorem ss_forT (hps : PS c.X st (tFor (iTup c.X.K (tw c.X l)) (gName i) (twss c.X body))) (h : Me c.X c.T l ρ (.im (.tup ds)))
    (W : Nat → Rhm → Prop) (w0 : W 0 ρ) (wl : ∀ j ρ', W j ρ' → i < ρ'.length)
    (turn : ∀ B j d ρ', ds[j]? = some d → W j ρ' → ∀ N : L2.St → Hp → Prop, (∀ ρ2, W (j + 1) ρ2 → Nx (c.pin B) N ρ2) → Gs (c.pin B) body { D with nx := N, ct := N, bk := D.nx } (ρ'.set i (some (.im d))))
    (hd : ∀ ρ', W ds.length ρ' → Nx c D.nx ρ') (h0 : c.S0 = none ∨ i ≠ 0 := by first | exact .inl rfl | exact .inr (by decide)) : Ss c st D ρ :=
  ss_of hps fun A H σ fp es => es.ask (ask_h h) fun v A2 H2 p xx ok r f n => by
    have es2 := es.step0 xx
    cases r with
    | im r =>
    cases r with
    | @tup a xs _ e1 r1 =>
    refine ⟨a, rfl, ⟨xs, seqT_mono ok.s e1⟩, for_tup (xs := xs) (fun j σ H => ∃ ρ' A fp, W j ρ' ∧ Es (c.pin A2) A H σ ρ' fp) ⟨ρ, A2, fp, w0, es2.pinned⟩ ?_ ?_ ?_⟩
    · rintro j σ H _ ⟨ρ', A3, fp, _, es⟩
      exact seqT_mono es.ok.s (seqT_mono (es.pn A2 (List.mem_cons_self ..)) e1)
    · rintro j y σ H hj ⟨ρ', A3, fp, w, es⟩
      obtain ⟨d, hd', rd⟩ := r1.of hj
      obtain ⟨fp', es'⟩ := es.seti (rd.mono (es.pn A2 (List.mem_cons_self ..))) (wl j ρ' w) h0
      exact turn A2 j d ρ' hd' w _ (fun ρ2 w2 A4 H4 σ4 fp4 es4 => ⟨ρ2, A4, fp4, w2, es4⟩) A3 H _ fp' es'
    · rintro σ H ⟨ρ', A3, fp, w, es⟩
      rw [r1.len] at w
      exact hd ρ' w A3 H σ fp es.unpin
/-- for x in range(n) -/
theorem ss_range {n : Int} (hps : PS c.X st (tFor (iRng1 (twA c.X [e])) (gName i) (twss c.X body))) (h : As c.X c.T [e] ρ [.int n]) (hn : -(2 ^ 62) ≤ n ∧ n < 2 ^ 62)
    (W : Nat → Rhm → Prop) (w0 : W 0 ρ) (wl : ∀ j ρ', W j ρ' → i < ρ'.length)
    (turn : ∀ (j : Nat) ρ', (j : Int) < n → W j ρ' → ∀ N : L2.St → Hp → Prop, (∀ ρ2, W (j + 1) ρ2 → Nx c N ρ2) → Gs c body { D with nx := N, ct := N, bk := D.nx } (ρ'.set i (some (.im (.int j)))))
    (hd : ∀ ρ', W n.toNat ρ' → Nx c D.nx ρ') (h0 : c.S0 = none ∨ i ≠ 0 := by first | exact .inl rfl | exact .inr (by decide)) : Ss c st D ρ :=
  ss_of hps fun A H σ fp es => h A H σ es.ok es.sl.sl _ fun vs A2 H2 xx r => by
    have es2 := es.step0 xx
    obtain ⟨v, rfl, r0⟩ := r.one
    cases r0
    refine ⟨n, rfl, hn.1, hn.2, for_range (lo := 0) (n := n.toNat) (fun j σ H => ∃ ρ' A fp, W j ρ' ∧ Es c A H σ ρ' fp) ⟨ρ, A2, fp, w0, es2⟩ ?_ ?_⟩
    · rintro j σ H hj ⟨ρ', A3, fp, w, es⟩
      obtain ⟨fp', es'⟩ := es.seti (i := i) (d := .int (j : Int)) (.int _) (wl j ρ' w) h0
      show twss c.X body _ (σ.set i (some (.int (0 + (j : Int))))) H
      rw [Int.zero_add]
      exact turn j ρ' (by omega) w _ (fun ρ2 w2 A4 H4 σ4 fp4 es4 => ⟨ρ2, A4, fp4, w2, es4⟩) A3 H _ fp' es'
    · rintro σ H ⟨ρ', A3, fp, w, es⟩
      exact hd ρ' w A3 H σ fp es
/-- for x in e, e a text -/
theorem ss_forS {z : Str} (hps : PS c.X st (tFor (iStr (tw c.X l)) (gName i) (twss c.X body))) (h : Ie c.X c.T l ρ (.str z))
    (W : Nat → Rhm → Prop) (w0 : W 0 ρ) (wl : ∀ j ρ', W j ρ' → i < ρ'.length)
    (turn : ∀ j k ρ', z.cps.toList[j]? = some k → W j ρ' → ∀ N : L2.St → Hp → Prop, (∀ ρ2, W (j + 1) ρ2 → Nx c N ρ2) → Gs c body { D with nx := N, ct := N, bk := D.nx } (ρ'.set i (some (.im (.str ⟨#[k]⟩)))))
    (hd : ∀ ρ', W z.cps.toList.length ρ' → Nx c D.nx ρ') (h0 : c.S0 = none ∨ i ≠ 0 := by first | exact .inl rfl | exact .inr (by decide)) : Ss c st D ρ :=
  ss_of hps fun A H σ fp es => h A H σ es.ok es.sl.sl _ fun v A2 H2 xx r => by
    have es2 := es.step0 xx
    cases r
    refine ⟨z, rfl, fun j m σ H => m = z.cps.toList.length - j ∧ j ≤ z.cps.toList.length ∧ ∃ ρ' A fp, W j ρ' ∧ Es c A H σ ρ' fp, ⟨_, rfl, Nat.zero_le _, ρ, A2, fp, w0, es2⟩, ?_⟩
    rintro j m σ H ⟨rfl, hj, ρ', A3, fp3, w, es⟩
    by_cases hlt : j < z.cps.toList.length
    · refine .inr ⟨?_, fun σ H => ∃ ρ' A fp, W (j + 1) ρ' ∧ Es c A H σ ρ' fp, fun σ' H' q => ⟨z.cps.toList.length - (j + 1), by omega, rfl, hlt, q⟩, ?_⟩
      · show j < z.cps.size
        simpa using hlt
      · rintro y H' hy
        obtain ⟨rfl, k, hk, rfl⟩ := (show H' = H ∧ ∃ k, z.cps[j]? = some k ∧ y = .str ⟨#[k]⟩ from hy)
        obtain ⟨fp', es'⟩ := es.seti (i := i) (d := .str ⟨#[k]⟩) (.str _) (wl j ρ' w) h0
        exact turn j k ρ' (by rw [Array.getElem?_toList]; exact hk) w _ (fun ρ2 w2 A4 H4 σ4 fp4 es4 => ⟨ρ2, A4, fp4, w2, es4⟩) A3 H' _ fp' es'
    · have e : j = z.cps.toList.length := by omega
      subst e
      exact .inl ⟨by show z.cps.size ≤ z.cps.toList.length; simp, hd ρ' w A3 H σ fp3 es⟩
/-! ### xs.append(e), xs an owned name -/
theorem ss_app (hps : PS c.X st (tDrop (tBM c.X.K "list" rAppend (tVar i) (tCons (tw c.X e) tNil)))) (hr : ρ[i]? = some (some (.ls ds))) (h : Asks c ρ e (.im d)) (hz : ds.length < sizeLine) (q : Nx c D.nx (ρ.set i (some (.ls (ds ++ [d]))))) : Ss c st D ρ :=
  ss_of hps fun A H σ fp es => by
    obtain ⟨v, p, h1, h2, h3, h4, h5⟩ := es.alter hr
    have h2' := h2
    cases h2 with
    | @ls a xs _ e1 n1 r1 =>
    refine ⟨_, h1, .inl ⟨rfl, xs, SqL.of e1⟩, es.ask h fun v A2 H2 p x ok r f n => ?_⟩
    cases r with
    | im rd =>
    have e2 := x.same a _ e1 (fun _ z => nomatch z)
    have n2 : A2 a = none := (x.nw a (by rw [e1]; simp)).trans n1
    obtain ⟨v3, p3, g1, g2, g3, g4, g5⟩ := (es.step0 x).alter hr
    rw [h1] at g1
    obtain rfl := Option.some.inj (Option.some.inj g1)
    cases g2 with
    | @ls _ xs3 _ e3 n3 r3 =>
    rw [e2] at e3
    cases e3
    have mx := ext_mut (o' := .lst (xs ++ [v])) ok e2 trivial n2
    obtain ⟨fp', es', _⟩ := g5 A2 _ (.ls (ds ++ [d])) [a] mx (.ls upd_same n2 (r3.append (.cons rd .nil))) (by simp) fun b z => .inl z
    exact ⟨_, _, _, rfl, rfl, e2, by rw [r1.len]; exact hz, q A2 _ σ fp' es'⟩
/-- return xs, xs an owned name -/
theorem ss_retO (hps : PS c.X st (tRet (tVar i))) (hr : ρ[i]? = some (some m)) (hF : c.F = []) (q : Rt c D.rt m) : Ss c st D ρ :=
  ss_of hps fun A H σ fp es => by
    obtain ⟨v, p, h1, h2, h3, h4, _⟩ := es.alter hr
    refine ⟨v, h1, q v A H p es.ok es.x h2 h3 fun a z => ?_⟩
    rcases es.own a (h4 a z) with w | w
    · rw [hF] at w; cases w
    · exact w
end
/-! ### comprehensions -/
def twB (X : Cx) (scope : Scope) (e : Expr) : TE := fun σ H Q => ∀ (s : Shared) (H' : Hp) (C : Addr) (cl : List (Str × Addr)) (fp : List Addr), tw (X.blk s H' scope (compEnvC scope cl C X.env) fp) e σ H Q
theorem pe_twB {X : Cx} {scope : Scope} {e : Expr} (s : Shared) (H' : Hp) (C : Addr) (cl : List (Str × Addr)) (fp : List Addr) : PE (X.blk s H' scope (compEnvC scope cl C X.env) fp) e (twB X scope e) := ⟨fun pins st _ _ _ I h => (h s H' C cl fp).go pins st I⟩
def twBT (X : Cx) (scope : Scope) (e : Expr) : TT := fun σ H Q => ∀ (s : Shared) (H' : Hp) (C : Addr) (cl : List (Str × Addr)) (fp : List Addr), twT (X.blk s H' scope (compEnvC scope cl C X.env) fp) e σ H Q
theorem pt_twB {X : Cx} {scope : Scope} {e : Expr} (s : Shared) (H' : Hp) (C : Addr) (cl : List (Str × Addr)) (fp : List Addr) : PT (X.blk s H' scope (compEnvC scope cl C X.env) fp) e (twBT X scope e) := ⟨fun pins st _ _ _ I h => (h s H' C cl fp).go pins st I⟩
/-- an element's worth in the block of a comprehension -/
def Be (X : Cx) (T : List Addr) (scope : Scope) (e : Expr) (ρ : Rho) (d : D) : Prop := ∀ (s : Shared) (H' : Hp) (C : Addr) (cl : List (Str × Addr)) (fp : List Addr), Ie (X.blk s H' scope (compEnvC scope cl C X.env) fp) T e ρ d
def Bt (X : Cx) (T : List Addr) (scope : Scope) (e : Expr) (ρ : Rho) (b : Bool) : Prop := ∀ (s : Shared) (H' : Hp) (C : Addr) (cl : List (Str × Addr)) (fp : List Addr), Te (X.blk s H' scope (compEnvC scope cl C X.env) fp) T e ρ b
section
variable {X : Cx} {T : List Addr} {ρ : Rho} {m : M} {d : D} {ds : List D} {i : Nat} {scope : Scope} {elt l t : Expr} {e : Expr}
theorem Be.did (h : Be X T scope e ρ d) : Did T X.K (twB X scope e) ρ d := fun A H σ s l Q k s' H' C cl fp => h s' H' C cl fp A H σ s l Q k
theorem Bt.dit {b : Bool} (h : Bt X T scope e ρ b) : Dit T X.K (twBT X scope e) ρ b := fun A H σ s l Q k s' H' C cl fp => h s' H' C cl fp A H σ s l Q k
/-- what has been made so far -/
def Acc (K : PySem.W.Frag) (T : List Addr) (A1 H1 : Hp) (Dl : Addr) (out : List D) (H : Hp) : Prop := ∃ A acc, Ok T A H ∧ Ex0 A1 H1 A H ∧ A Dl = none ∧ H Dl = some (.lst acc) ∧ RpL K A acc out
theorem Acc.first {K : PySem.W.Frag} {A1 H1 : Hp} {Dl : Addr} (s : Ok T A1 H1) (h : H1 Dl = none) : Acc K T A1 H1 Dl [] (upd H1 Dl (.lst [])) :=
  ⟨A1, [], (ext_new s h).ok s, ext_new s h, s.none h, upd_same, .nil⟩
theorem Acc.more {K : PySem.W.Frag} {A1 H1 A H A2 H2 : Hp} {Dl : Addr} {out : List D} {acc : List V} {v : V} (h0 : H1 Dl = none) (x : Ex0 A1 H1 A H) (n : A Dl = none) (h : H Dl = some (.lst acc)) (r : RpL K A acc out)
    (y : Ex0 A H A2 H2) (s : Ok T A2 H2) (rv : Rp K A2 v d) : Acc K T A1 H1 Dl (out ++ [d]) (upd H2 Dl (.lst (acc ++ [v]))) := by
  have e2 := y.same Dl _ h (fun _ z => nomatch z)
  have n2 : A2 Dl = none := (y.nw Dl (by rw [h]; simp)).trans n
  have mx := ext_mut (o' := .lst (acc ++ [v])) s e2 trivial n2
  refine ⟨A2, acc ++ [v], mx.ok s, (x.tr0 y).trans mx fun a z => .inr ?_, n2, upd_same, (r.mono y.aa).append (.cons rv .nil)⟩
  rcases List.mem_cons.mp z with e | e
  · rw [e]; exact h0
  · cases e
theorem Acc.out {K : PySem.W.Frag} {A1 H1 H : Hp} {Dl : Addr} {Q : VK} (h0 : H1 Dl = none) (k : KM K A1 H1 (.ls ds) Q) (h : Acc K T A1 H1 Dl ds H) : Q (.ref Dl) H := by
  obtain ⟨A, acc, s, x, n, e, r⟩ := h
  refine k _ A H [Dl] x (.ls e n r) (fun a z => ?_) (by simp)
  rcases List.mem_cons.mp z with q | q
  · rw [q]; exact h0
  · cases q
theorem Sl.blk {K : PySem.W.Frag} {A H : Hp} {σ : L2.St} {v : V} (l : Sl K A H σ ρ) (r : Rp K A v d) (hi : i < σ.length) : Sl K A H ((wipe σ [i]).set i (some v)) ((ρ.set i none).set i (some (.im d))) := fun j m' h => by
  show ∃ v' fp, ((σ.set i none).set i (some v))[j]? = some (some v') ∧ _
  rw [List.set_set] at h ⊢
  by_cases e : i = j
  · subst e
    rw [List.getElem?_set_self hi]
    by_cases hr : i < ρ.length
    · rw [List.getElem?_set_self hr] at h
      cases h
      exact ⟨v, [], rfl, .im r⟩
    · rw [List.getElem?_eq_none (by rw [List.length_set]; omega)] at h
      cases h
  · rw [List.getElem?_set_ne e] at h ⊢
    exact l j m' h
theorem tyes {σ : L2.St} {H : Hp} {Q : Bool → Hp → Prop} (h : Q true H) : tYes σ H Q := h
/-- [elt for x in l], l data of a list -/
theorem me_lc (hpe : PE X e (tLc (iList X.K (tw X l)) (gName i) tYes (twB X scope elt) [i])) (hl : Ie X T l ρ (.lst ds)) (f : D → D) (hz : ds.length < sizeLine) (hi : i < X.N.length)
    (he : ∀ d ∈ ds, Be X T scope elt ((ρ.set i none).set i (some (.im d))) (f d)) : Me X T e ρ (.ls (ds.map f)) := by
  intro A H σ s l0 Q k
  refine ⟨fun pins st I => ?_⟩
  have hσ : i < σ.length := by rw [I.len]; exact hi
  refine hpe.run pins st σ H Q I (hl A H σ s l0 _ fun v A1 H1 x1 r1 => ?_)
  cases r1 with
  | @lst a xs _ e1 r1 =>
  refine ⟨a, rfl, ⟨xs, SqL.of ((x1.ok s).s _ _ e1)⟩, fun Dl hD => lc_list (xs := xs) (fun j H => Acc X.K T A1 H1 Dl ((ds.take j).map f) H) (Acc.first (x1.ok s) hD) ?_ ?_ ?_⟩
  · rintro j H _ ⟨A2, acc, ok, x, _⟩
    exact SqL.of (ok.s _ _ (x.aa _ _ e1))
  · rintro j y H hj ⟨A2, acc, ok, x, n, ha, ra⟩
    obtain ⟨d, hd, rd⟩ := r1.of hj
    refine ⟨?_, ?_⟩
    · show ((σ.set i none).set i (some y)).set i none = σ.set i none
      rw [List.set_set, List.set_set]
    · refine tyes ?_
      rw [if_pos rfl]
      refine (he d (List.mem_of_getElem? hd)).did A2 H _ ok (((l0.step x1).step x).blk (rd.mono x.aa) hσ) _ fun v2 A3 H3 x3 r3 => ?_
      refine ⟨acc, x3.same _ _ ha (fun _ z => nomatch z), ?_, ?_⟩
      · rw [ra.len, List.length_map, List.length_take]
        omega
      · have q := Acc.more hD x n ha ra x3 (x3.ok ok) r3
        have e2 : (ds.take (j + 1)).map f = (ds.take j).map f ++ [f d] := by
          rw [List.take_add_one, hd, List.map_append]
          rfl
        rw [e2]
        exact q
  · intro H h
    rw [r1.len, List.take_length] at h
    exact h.out hD (k.back x1)
end
end Kf

set_option maxHeartbeats 1000000
/-! Kf: defs over data, and their calls. -/
namespace Kf
open PySem L2

section
variable {X : Cx} {T : List Addr} {ρ : Rho} {m : M} {d : D} {ds : List D} {i : Nat} {scope : Scope} {elt l t : Expr} {e : Expr}
/-- [elt for x in range(n)] -/
theorem me_lcR {n : Int} (hpe : PE X e (tLc (iRng1 (twA X [l])) (gName i) tYes (twB X scope elt) [i])) (hl : Ie X T l ρ (.int n)) (f : Nat → D) (hn : 0 ≤ n ∧ n < sizeLine) (hi : i < X.N.length)
    (he : ∀ j : Nat, (j : Int) < n → Be X T scope elt ((ρ.set i none).set i (some (.im (.int j)))) (f j)) (hs : starEach [l] X.env = (false, eval l X.env) :: starEach [] X.env := by rfl) : Me X T e ρ (.ls ((List.range n.toNat).map f)) := by
  intro A H σ s l0 Q k
  refine ⟨fun pins st I => ?_⟩
  have hσ : i < σ.length := by rw [I.len]; exact hi
  refine hpe.run pins st σ H Q I (as_cons hl as_nil hs A H σ s l0 _ fun vs A1 H1 x1 r1 => ?_)
  obtain ⟨v, rfl, r0⟩ := r1.one
  cases r0
  have hb : (sizeLine : Int) < 2 ^ 62 := by rw [show (sizeLine : Nat) = 16777216 from by rw [sizeLine_eq]]; decide
  refine ⟨n, rfl, by omega, by omega, fun Dl hD => lc_range (lo := 0) (n := n.toNat) (fun j H => Acc X.K T A1 H1 Dl ((List.range j).map f) H) (Acc.first (x1.ok s) hD) ?_ ?_⟩
  · rintro j H hj ⟨A2, acc, ok, x, n2, ha, ra⟩
    refine ⟨?_, ?_⟩
    · show ((σ.set i none).set i (some (V.int (0 + (j : Int))))).set i none = σ.set i none
      rw [List.set_set, List.set_set]
    · refine tyes ?_
      rw [if_pos rfl]
      have rj : Rp X.K A2 (V.int (0 + (j : Int))) (.int (j : Int)) := by rw [Int.zero_add]; exact .int _
      refine (he j (by omega)).did A2 H _ ok (((l0.step x1).step x).blk rj hσ) _ fun v2 A3 H3 x3 r3 => ?_
      refine ⟨acc, x3.same _ _ ha (fun _ z => nomatch z), ?_, ?_⟩
      · rw [ra.len, List.length_map, List.length_range]
        omega
      · have q := Acc.more hD x n2 ha ra x3 (x3.ok ok) r3
        rw [List.range_succ, List.map_append]
        exact q
  · intro H h
    exact h.out hD (k.back x1)
/-- [elt for x in l if t], l data of a list -/
theorem me_lcf (hpe : PE X e (tLc (iList X.K (tw X l)) (gName i) (twBT X scope t) (twB X scope elt) [i])) (hl : Ie X T l ρ (.lst ds)) (f : D → D) (g : D → Bool) (hz : ds.length < sizeLine) (hi : i < X.N.length)
    (ht : ∀ d ∈ ds, Bt X T scope t ((ρ.set i none).set i (some (.im d))) (g d)) (he : ∀ d ∈ ds, g d = true → Be X T scope elt ((ρ.set i none).set i (some (.im d))) (f d)) : Me X T e ρ (.ls ((ds.filter g).map f)) := by
  intro A H σ s l0 Q k
  refine ⟨fun pins st I => ?_⟩
  have hσ : i < σ.length := by rw [I.len]; exact hi
  refine hpe.run pins st σ H Q I (hl A H σ s l0 _ fun v A1 H1 x1 r1 => ?_)
  cases r1 with
  | @lst a xs _ e1 r1 =>
  refine ⟨a, rfl, ⟨xs, SqL.of ((x1.ok s).s _ _ e1)⟩, fun Dl hD => lc_list (xs := xs) (fun j H => Acc X.K T A1 H1 Dl (((ds.take j).filter g).map f) H) (Acc.first (x1.ok s) hD) ?_ ?_ ?_⟩
  · rintro j H _ ⟨A2, acc, ok, x, _⟩
    exact SqL.of (ok.s _ _ (x.aa _ _ e1))
  · rintro j y H hj ⟨A2, acc, ok, x, n, ha, ra⟩
    obtain ⟨d, hd, rd⟩ := r1.of hj
    have e2 : ds.take (j + 1) = ds.take j ++ [d] := by rw [List.take_add_one, hd]; rfl
    refine ⟨?_, ?_⟩
    · show ((σ.set i none).set i (some y)).set i none = σ.set i none
      rw [List.set_set, List.set_set]
    · refine (ht d (List.mem_of_getElem? hd)).dit A2 H _ ok (((l0.step x1).step x).blk (rd.mono x.aa) hσ) _ fun A3 H3 x3 => ?_
      cases hg : g d with
      | false =>
        rw [if_neg Bool.false_ne_true]
        refine ⟨A3, acc, x3.ok ok, x.tr0 x3, (x3.nw Dl (by rw [ha]; simp)).trans n, x3.same _ _ ha (fun _ z => nomatch z), ?_⟩
        rw [e2, List.filter_append, List.filter_cons, if_neg (by rw [hg]; exact Bool.false_ne_true), List.filter_nil, List.append_nil]
        exact ra.mono x3.aa
      | true =>
        rw [if_pos rfl]
        refine (he d (List.mem_of_getElem? hd) hg).did A3 H3 _ (x3.ok ok) ((((l0.step x1).step x).step x3).blk ((rd.mono x.aa).mono x3.aa) hσ) _ fun v2 A4 H4 x4 r4 => ?_
        have ha3 := x3.same _ _ ha (fun _ z => nomatch z)
        refine ⟨acc, x4.same _ _ ha3 (fun _ z => nomatch z), ?_, ?_⟩
        · rw [ra.len, List.length_map]
          have h9 := List.length_filter_le g (ds.take j)
          rw [List.length_take] at h9
          omega
        · have q := Acc.more hD (x.tr0 x3) ((x3.nw Dl (by rw [ha]; simp)).trans n) ha3 (ra.mono x3.aa) x4 (x4.ok (x3.ok ok)) r4
          rw [e2, List.filter_append, List.filter_cons, if_pos hg, List.filter_nil, List.map_append]
          exact q
  · intro H h
    rw [r1.len, List.take_length] at h
    exact h.out hD (k.back x1)
end

/-! ### defs -/
/-- the promise of a def over data: from such data that; the tables T stand -/
def spP (K : PySem.W.Frag) (T : List Addr) (rel : List D → M → Prop) : Sp := fun vs H Q _ => ∃ A ds m, Ok T A H ∧ RpL K A vs ds ∧ rel ds m ∧ KM K A H m Q
/-- what the frame of a def holds ahead of it -/
def begun (N : List Str) (ds : List D) : Rhm := ds.map (fun d => some (.im d)) ++ List.replicate (N.length - ds.length) none
theorem begun_sls {K : PySem.W.Frag} {A H : Hp} : ∀ {vs : List V} {ds : List D} {n : Nat}, RpL K A vs ds → Sls K A H (vs.map some ++ List.replicate n none) (ds.map (fun d => some (.im d)) ++ List.replicate n none) []
  | _, _, 0, .nil => .nil
  | _, _, n + 1, .nil => .any (begun_sls .nil)
  | _, _, n, .cons h r => .val (.im h) (begun_sls r)
section
variable {P : Program} {w : World} {K : PySem.W.Frag} {mg : Str → Option Value} {base : Heap} {T : List Addr} {N ps : List Str} {x qual : Str} {st : Stmt} {f : Addr} {fd : FuncData} {k : Nat} {rel : List D → M → Prop}
/-- THE RULE for a def over data that raises nothing -/
theorem fn_ok (F : FunD K x qual (defArgs st) (defBody st) (defScope st) [] [] f fd) (S : FnScope N ps (defScope st)) (len : ∀ ds m, rel ds m → ds.length = ps.length)
    (hb : ∀ (cdv : Value) (A : Around) (outer : List Env) (s : Shared) (H A0 : Hp) (E : XK), Room k (A.deeper (PyProof.Rows.envOfC qual (defScope st) s.heap.objs.size f cdv)) → PySem.W.codeIn K cdv qual = true → ∀ ds m, rel ds m → ∀ D : Ends,
      Rt ⟨(cxOf CX0 P w K mg base N qual (defScope st) f cdv A outer s H E).nox, T, [], A0, H, [], none⟩ D.rt m →
      (∀ ρ, m = .im .non → Nx ⟨(cxOf CX0 P w K mg base N qual (defScope st) f cdv A outer s H E).nox, T, [], A0, H, [], none⟩ D.nx ρ) →
      Gs ⟨(cxOf CX0 P w K mg base N qual (defScope st) f cdv A outer s H E).nox, T, [], A0, H, [], none⟩ (defBody st) D (begun N ds)) : FnOk P w K mg base CX0 (k + 1) f fd ps (spP K T rel) := by
  have hlen : ∀ vs H Q E, spP K T rel vs H Q E → vs.length = ps.length := fun vs H Q E ⟨A, ds, m, _, r, h, _⟩ => by rw [r.len]; exact len ds m h
  obtain ⟨oc, od, dV, kV, doc, pm, an, cdv0, ct, osl, rfl, lk, hcd, hdV, _⟩ := F.ex
  refine fn_of lk hcd S hlen fun A outer s H vs Q E hr hsp => ?_
  obtain ⟨A0, ds, m, ok, r, h, kk⟩ := hsp
  refine ⟨twss (cxOf CX0 P w K mg base N qual (defScope st) f cdv0 A outer s H E).nox (defBody st), PSs.nox pss_tw, ?_⟩
  refine hb cdv0 A outer s H A0 E hr hcd ds m h { nx := fun _ H' => Q .non H', rt := Q } (fun v A2 H2 fp _ x2 r2 n2 f2 => kk v A2 H2 fp x2 r2 f2 n2) (fun ρ e A2 H2 σ2 fp2 es => ?_) A0 H _ [] ⟨ok, Ext.refl ok, ?_, List.nodup_nil, fun _ z => (nomatch z), fun _ z => (nomatch z), fun _ z => nomatch z⟩
  · subst e
    exact kk.im .non A2 H2 es.x .non
  · unfold L2.start begun
    rw [r.len]
    exact begun_sls r
/-- a def as it stands for its callers -/
structure Fn (P : Program) (w : World) (K : PySem.W.Frag) (mg : Str → Option Value) (base : Heap) (T : List Addr) (x : Str) (k : Nat) (rel : List D → M → Prop) : Prop where
  ex : ∃ f fd ps, FnOk P w K mg base CX0 k f fd ps (spP K T rel) ∧ mg x = some (.ref f) ∧ PySem.W.keepIn K (.ref f) = true ∧ Binds K fd ps []
end
section
variable {X : Cx} {T : List Addr} {ρ : Rho} {m : M} {d : D} {ds : List D} {e o : Expr} {es : List Expr} {k : Nat} {rel : List D → M → Prop} {x : Str} {p pos apos : Pos}
/-- f(e, ..) -/
theorem me_call (G : Fn X.prog X.w X.K X.mg X.base T x k rel) (ha : As X T (e :: es) ρ ds) (h : rel ds m) (hr : Room k X.A) (hg : Gl X x := by rfl) (hd : (x == ("__debug__" : Str)) = false := by decide)
    (hs : starEach (e :: es) X.env = (false, eval e X.env) :: starEach es X.env := by rfl) (hpl : (backTo pos (starEach es X.env)).any (·.1) = false := by rfl) : Me X T (.Call (.Name x p) (e :: es) [] pos) ρ m := by
  obtain ⟨f, fd, ps, F, hm, hk, hb⟩ := G.ex
  exact me_of (pe_call F hr hg hm hk hb .nil pass0 pa_tw hd hs hpl) fun A H σ s l Q q => ha A H σ s l _ fun vs A1 H1 x1 r1 => ⟨A1, ds, m, x1.ok s, by rw [List.append_nil]; exact r1, h, q.back x1⟩
end
end Kf

set_option maxHeartbeats 2000000
/-! Kf: an own error over ValueError whose __init__ says super().__init__(..) and then keeps one field. -/
namespace Kf
open PySem L2
open PySem.W (Frag InstAt Looks kxs_mw)

/-- where such an __init__ runs -/
def cxI (P : Program) (w : World) (K : Frag) (mg : Str → Option Value) (base : Heap) (N : List Str) (qual : Str) (scope : Scope) (f cda cc : Addr) (A : Around) (outer : List Env) (s : Shared) (H : Hp) : Cx where
  prog := P
  w := w
  K := K
  mg := mg
  base := base
  A := A.deeper (PySem.W.envX qual scope s.heap.objs.size f (.ref cda) [("__class__", cc)])
  N := N
  s_0 := s
  H_0 := H
  env := PySem.W.envX qual scope s.heap.objs.size f (.ref cda) [("__class__", cc)]
  outer := outer
  stack := PySem.W.envX qual scope s.heap.objs.size f (.ref cda) [("__class__", cc)] :: outer
  ex := []
  calm := true
  fn := fun _ => false
  pn := []
  xe := fun _ _ => False
/-- what the written part says of the class at C, its __init__ at f, the cell of its name at cc -/
structure XcF (P : Program) (K : Frag) (mg : Str → Option Value) (qual : Str) (params : Arguments) (body : List Stmt) (scope : Scope) (C f cda cc : Addr) (fd : FuncData) : Prop where
  oex : OexC K C
  fdE : ∃ dV kV doc pm an ct, fd = PySem.W.fnX "__init__" qual params body scope [("__class__", cc)] dV kV doc pm an (.ref cda) ct
  lk : ∃ oc od osl, K.lookup f = some ⟨oc, od, .func fd, osl⟩
  code : PySem.W.codeIn K (.ref cda) qual = true
  file : ∃ ccl cdd vs ccs fl tf, K.lookup cda = some ⟨ccl, cdd, .fields vs, ccs⟩ ∧ vs[2]? = some (.str fl tf) ∧ ((P.main.file : Str) == fl) = true
  cell : ∃ cl cld csl, K.lookup cc = some ⟨cl, cld, .cell (some (.ref C)), csl⟩
  sup : PySem.W.ks_superIn K C C "__init__" = some (some (.builtin "ValueError.__init__"))
  third : PySem.W.nsIn K cStatics "thirdparty.any" = some none
  sub : PySem.W.mroIn K C (.ref C) = some true
  ve : PySem.W.subIn K (.ref C) (.type "ValueError") = some true
  free : mg "super" = none
  top : (P.main.scope.names.lookup ("super" : Str)).isSome = false
/-- the scope of such an __init__: self, one parameter; super global, __class__ captured -/
structure XcS (N : List Str) (scope : Scope) (a : Str) : Prop where
  eN : N = [("self" : Str), a]
  kind : scope.kind = .function
  co : scope.isCoroutine = false
  gen : scope.isGenerator = false
  nd : N.Nodup
  ps : scope.names.lookup ("self" : Str) = some .local
  pa : scope.names.lookup a = some .local
  sup : scope.names.lookup ("super" : Str) = some .globalImplicit
  cls : scope.names.lookup ("__class__" : Str) = some .free
  only : ∀ y ∈ scope.names, y.2 = .free ∨ y.2 = .cell → y.1 = "__class__"
  noc : ∀ y ∈ scope.names, y.2 ≠ .cell

theorem lookup_one {α : Type} {x k : Str} {v c : α} (h : [(k, v)].lookup x = some c) : x = k ∧ c = v := by
  rw [List.lookup_cons] at h
  cases e : x == k with
  | true =>
    rw [e] at h
    exact ⟨by simpa using e, (Option.some.inj h).symm⟩
  | false => rw [e] at h; cases h

section
variable {P : Program} {w : World} {K : Frag} {mg : Str → Option Value} {base : Heap} {qual a : Str} {params : Arguments} {body : List Stmt} {scope : Scope} {C f cda cc : Addr} {fd : FuncData} {N : List Str} {A : Around} {outer : List Env} {s s1 : Shared} {H : Hp}
theorem inv_init (S : XcS N scope a) (F : XcF P K mg qual params body scope C f cda cc fd) (hd : A.handled = none) (e0 : Env0 P w K mg base A outer s H) {v1 v2 : V} {u1 u2 : Value} (r1 : RelV v1 u1) (r2 : RelV v2 u2) {h1 : Heap} {tk : Nat}
    (ns : h1.Ns s.heap.objs.size fun x => [(("self" : Str), u1), (a, u2)].reverse.lookup x) (hk : ∀ b o, s.heap.get? b = some o → h1.get? b = some o) :
    Inv (cxI P w K mg base N qual scope f cda cc A outer s H) [] [some v1, some v2] H { s with heap := h1, toks := tk } := by
  have KX : K.In s.heap := e0.mod.kin.keeps fun b o e => (e0.bs b o e).1
  obtain ⟨cl, cld, csl, hcell⟩ := F.cell
  have hcc : s.heap.get? cc = some ⟨cl, cld, .cell (some (.ref C)), csl⟩ := KX _ _ hcell
  have hbc : base.get? cc = some ⟨cl, cld, .cell (some (.ref C)), csl⟩ := e0.mod.kin _ _ hcell
  have oneC : ∀ {x : Str} {c : Addr}, (cxI P w K mg base N qual scope f cda cc A outer s H).env.cells.lookup x = some c → x = "__class__" ∧ c = cc := fun h => lookup_one h
  have nil : ∀ b : Addr, b ∉ (cxI P w K mg base N qual scope f cda cc A outer s H).ex := fun b z => nomatch (show b ∈ ([] : List Addr) from z)
  have okk : (cxI P w K mg base N qual scope f cda cc A outer s H).Ok := {
    mod := e0.mod
    kind := S.kind
    glob := rfl
    blt := rfl
    above := Nat.le_refl _
    inj := fun x y c h1 h2 => (oneC h1).1.trans (oneC h2).1.symm
    has := fun x hx => by
      have hx' : scope.names.lookup x = some .cell ∨ scope.names.lookup x = some .free := hx
      have e : x = "__class__" := by
        rcases hx' with h | h
        · exact S.only _ (PySem.mem_of_lookup h) (.inr rfl)
        · exact S.only _ (PySem.mem_of_lookup h) (.inl rfl)
      rw [e]
      exact ⟨cc, rfl⟩
    cab := fun x c h => nomatch (show false = true from h)
    hd := fun _ => hd
    frames := Around.frames_deeper e0.frames
    stk := .inr ⟨rfl, rfl⟩
    exf := fun b z => absurd z (nil b)
    bs := e0.bs
    bsz := e0.bsz
    noex := fun b _ _ => nil b
    exfs := fun b z => absurd z (nil b)
    funs := e0.funs
    frf := e0.frf }
  refine ⟨okk, rfl, e0.bare, Un.kept hk, ⟨_, ns, fun i y v g1 g2 g3 => ?_⟩, fun x c h => ?_, e0.hok.fresh (Nat.le_refl _), fun x c h => ?_, fun p hp => ?_, e0.hok.kept hk, ?_⟩
  · have g1' : N[i]? = some y := g1
    rw [S.eN] at g1'
    have nda : ("self" : Str) ≠ a := by
      have q := S.nd
      rw [S.eN] at q
      intro e
      rw [e] at q
      simp at q
    match i, g1', g2 with
    | 0, g1', g2 =>
      have e1 : "self" = y := by simpa using g1'
      have e2 : v1 = v := by simpa using g2
      subst e1 e2
      refine ⟨u1, r1, .inl ⟨S.ps, ?_⟩⟩
      show List.lookup ("self" : Str) [(a, u2), ("self", u1)] = some u1
      have ne : (("self" : Str) == a) = false := by simpa using nda
      rw [List.lookup_cons, ne, List.lookup_cons, beq_self_eq_true]
    | 1, g1', g2 =>
      have e1 : a = y := by simpa using g1'
      have e2 : v2 = v := by simpa using g2
      subst e1 e2
      refine ⟨u2, r2, .inl ⟨S.pa, ?_⟩⟩
      show List.lookup a [(a, u2), ("self", u1)] = some u2
      rw [List.lookup_cons, beq_self_eq_true]
    | n + 2, g1', g2 => simp at g1'
  · obtain ⟨_, rfl⟩ := oneC h
    exact ⟨_, _, hk _ _ hcc, rfl⟩
  · obtain ⟨_, rfl⟩ := oneC h
    exact (e0.bs _ _ hbc).2
  · exact nomatch (show p ∈ ([] : List (Addr × Obj)) from hp)
  · show 2 = N.length
    rw [S.eN]
    rfl
end

section
variable {X : Cx} {pins : List (Addr × Obj)} {σ : L2.St} {H : Hp} {s : Shared} {a C u : Addr}
/-- the bound ValueError.__init__ called: the exception's args are laid anew -/
theorem mw_call {us : List Value} {Q : Value → Shared → Prop} {A : Around} (T : OexC X.K C) (I : Inv X pins σ H s) (e : H a = some (exo a C none)) (hu : s.heap.get? u = some (kxs_mw "ValueError.__init__" a)) (hl : us.length ≤ sizeLine)
    (h : ∀ s', Inv X pins σ H s' → Q .none s') : wpAny (model X.prog X.w) A (call (.ref u) us) Q X.xe s := by
  obtain ⟨nm, q, N, bs, bm, sn, sub, ab, col, dd, k0, k1, k2, k3, k5, hC, hbm⟩ := T.cls
  obtain ⟨t1, ho⟩ := exo_at I.hok e
  obtain ⟨hp, g, d, t, os⟩ := s
  refine wpAny_call (codeAny_of_tree ?_)
  show wpAny _ A.in1 (callAny (.ref u) ⟨us, []⟩) _ _ _
  simp only [callAny]
  refine wpAny_bind (wpAny_load hu ?_)
  simp only [kxs_mw, show (Value.type "method-wrapper" == Value.type "method" || Value.type "method-wrapper" == Value.type "builtin_function_or_method" || Value.type "method-wrapper" == Value.type "method-wrapper") = true by decide, if_true]
  refine W.KFB.if_so (by decide) (wpAny_bind (ESX.check_bound F.excBase_ValueError (I.kIn _ _ hC) ho rfl (wpAny_bind (wpAny_pure (wpAny_pure ?_)))))
  refine ⟨Code.quiet_builtin _ (by decide +kernel), codeAny_builtin F.excBase_ValueError.initEntry ?_⟩
  rw [Around.under_plainId F.excBase_ValueError.init.plain _]
  wp_walk
  have fin : ∀ h' t2, (∀ b o, b ≠ a → hp.get? b = some o → h'.get? b = some o) → h'.get? a = some ({ cls := .ref C, data := .fields #[.ref t2, .none, .none, .none, .bool false, .none] } : Obj) → Q .none ⟨h', g, d, t, os⟩ := fun h' t2 k hx => by
    have J := I.write (t' := t) (x := a) (e := a) (o := exo a C none) (by rw [e]; trivial) (.inl rfl) k ⟨_, hx⟩ (exo_ok hx)
    have eu : upd H a (exo a C none) = H := by
      funext b
      by_cases hb : b = a
      · rw [hb, upd_same, e]
      · rw [upd_ne hb]
    rw [eu] at J
    exact h _ J
  refine fin _ hp.objs.size (fun b o hb ho' => ?_) ?_
  · rw [Heap.get?_update_other _ _ (Ne.symm hb)]
    exact Heap.get?_push_of_some _ ho'
  · rw [Heap.get?_update_self _ (Heap.get?_push_of_some _ ho) rfl]
    rfl
end

/-- the promise of such an __init__: the exception at e gets its dict, which holds the field -/
def spXI (okv : V → Prop) (C : Addr) (fld : Str) : Sp := fun vs H Q _ => ∃ (e : Addr) (v : V), vs = [.ref e, v] ∧ okv v ∧ H e = some (exo e C none) ∧ ∀ dx, H dx = none → dx ≠ e → Q .non (upd (upd H dx (exd dx [(fld, v)])) e (exo e C (some dx)))
section
variable {P : Program} {w : World} {K : Frag} {mg : Str → Option Value} {base : Heap} {qual a fld : Str} {params : Arguments} {scope : Scope} {C f cda cc : Addr} {fd : FuncData} {N : List Str} {arg : Expr} {p0 p1 pa pc pe q1 q2 q3 q4 : Pos} {okv : V → Prop}
theorem xinit_ok (S : XcS N scope a) (F : XcF P K mg qual params [.Expr (.Call (.Attribute (.Call (.Name "super" p0) [] [] p1) "__init__" pa) [arg] [] pc) pe, .Assign [.Attribute (.Name "self" q1) fld q2] (.Name a q3) q4] scope C f cda cc fd)
    (hno : PySem.W.findIn K (.ref C) fld = some none) (hpar : ∃ ar, (params.posonlyargs ++ params.args).head? = some ar ∧ ar.arg = "self")
    (hA : ∀ (A : Around) (outer : List Env) (s : Shared) (H : Hp) (v : V), okv v → A.units + 64 < cLine → ∃ ta, PA (cxI P w K mg base N qual scope f cda cc A outer s H) [arg] ta ∧ ∀ (e : Addr) (H' : Hp) (Q : List V → Hp → Prop), (∀ x, Q [x] H') → ta [some (.ref e), some v] H' Q)
    (hw : ∀ (env : Env), env.scope = scope → swapsWith (.Call (.Attribute (.Call (.Name "super" p0) [] [] p1) "__init__" pa) [arg] [] pc) none pe.line env = pure false)
    (hw2 : ∀ (env : Env), env.scope = scope → swapsWith (.Name a q3) (some (.Attribute (.Name "self" q1) fld q2)) q4.line env = pure false)
    (he : ∀ (env : Env), env.scope = scope → ∃ pl, eval (.Call (.Attribute (.Call (.Name "super" p0) [] [] p1) "__init__" pa) [arg] [] pc) env = (do
      let ov ← attributeBase (.Call (.Name "super" p0) [] [] p1) "__init__" env (eval (.Call (.Name "super" p0) [] [] p1) env)
      standAt pa.atName
      let (f, first) ← holding [ov] (getMethod ov "__init__" pl)
      callWith pc f first (backTo pc (starEach [arg] env)) []))
    (hs : ∀ (env : Env), starEach [arg] env = (false, eval arg env) :: starEach [] env)
    (hadb : (a == ("__debug__" : Str)) = false) (hacd : (a == ("__classdict__" : Str)) = false) : FnOk P w K mg base CX0 1 f fd N (spXI okv C fld) := by
  obtain ⟨dV, kV, doc, pm, an, ct, rfl⟩ := F.fdE
  refine ⟨fun vs H Q E ⟨e, v, h, _⟩ => by rw [h, S.eN]; rfl, fun A outer s H args us vs Q E hr e0 hb r hsp => ?_⟩
  obtain ⟨e, v, rfl, hv, he0, hQ⟩ := hsp
  obtain ⟨oc, od, osl, lk⟩ := F.lk
  have KX : K.In s.heap := e0.mod.kin.keeps fun b o e => (e0.bs b o e).1
  have lim : s.heap.NoLimit := e0.mod.nolimit.keeps fun b o e => (e0.bs b o e).1
  cases r with
  | @cons _ u1 _ us' r1 r' =>
  cases r' with
  | @cons _ u2 _ us'' r2 r'' =>
  cases r''
  have hb' : BindsTo s (PySem.W.fnX "__init__" qual params [.Expr (.Call (.Attribute (.Call (.Name "super" p0) [] [] p1) "__init__" pa) [arg] [] pc) pe, .Assign [.Attribute (.Name "self" q1) fld q2] (.Name a q3) q4] scope [("__class__", cc)] dV kV doc pm an (.ref cda) ct) args [(("self" : Str), u1), (a, u2)] := by
    rw [S.eN] at hb
    exact hb
  refine PySem.ks_codeAny_call_defAt hr.depth (KX _ _ lk) rfl lim (PySem.W.codeRec_of KX F.code) rfl hb' S.noc (fun y hy => ?_) (fun h1 ns hk => ?_) S.co S.gen S.kind
  · rcases List.mem_cons.mp hy with z | hy
    · rw [z]; exact S.ps
    · rcases List.mem_cons.mp hy with z | hy
      · rw [z]; exact S.pa
      · cases hy
  have I0 := inv_init (tk := s.toks + 2) S F hr.hd e0 r1 r2 ns hk
  have KX1 : K.In h1 := KX.keeps hk
  obtain ⟨ar, hpar1, hpar2⟩ := hpar
  obtain ⟨ccl, cdd, fvs, ccs, fl, tf, hcode, hvs, hfile⟩ := F.file
  obtain ⟨cl, cld, csl, hcell⟩ := F.cell
  obtain ⟨nm, q, Nc, bs, bm, sn, sub, ab, col, dd, k0, k1, k2, k3, k5, hC, hbm⟩ := F.oex.cls
  have hcl : PySem.W.clsIn K C = some { name := nm, bases := bs, mro := .ref C :: bm, ns := Nc, qualname := q, hasDict := true, slotNames := sn, subclasses := sub, abstract := ab, collection := col, hasDel := false } := by unfold PySem.W.clsIn; rw [hC] <;> rfl
  have hsup : PySem.W.alongIn K "__init__" (((Value.ref C :: bm).dropWhile (· != .ref C)).drop 1) = some (some (.builtin "ValueError.__init__")) := by
    have z := F.sup
    unfold PySem.W.ks_superIn at z
    rw [hcl] at z
    exact z
  have eu1 : u1 = Value.ref e := r1
  subst eu1
  obtain ⟨pl, hev⟩ := he (PySem.W.envX qual scope s.heap.objs.size f (.ref cda) [("__class__", cc)]) rfl
  obtain ⟨ta, hta, qta⟩ := hA A outer s H v hv hr.units
  obtain ⟨mb, hmb1, hmb2⟩ := e0.mod.blt
  have kb : ∀ b o, base.get? b = some o → h1.get? b = some o := fun b o z => hk b o (e0.bs b o z).1
  refine PySem.ks_wpAt_execs_cons (PySem.ks_wpAt_Expr_any (PySem.ks_wpAt_MethodCall (pl := pl) ?_ hev) (by simp [interactive, PySem.callEnv, PySem.newEnv, S.kind]) (hw _ rfl))
  refine PySem.ks_wpAt_super_base (ar := ar) S.sup S.cls (by decide) rfl (KX1 _ _ lk) rfl hpar1 rfl (KX1 _ _ hcode) rfl hvs hfile F.top ?_
  refine PySem.W.ks_loadName_global S.kind S.sup (Calls.loadGlobal_builtin (e0.mod.glob.keeps kb) F.free (hmb1.keeps kb) ((hmb2 _ (by decide)).trans (by decide +kernel)) ⟨rfl, ?_⟩)
  refine wpAny_loadName_free S.kind S.cls rfl ⟨_, KX1 _ _ hcell, rfl⟩ ?_
  rw [hpar2]
  have hself : ([(("self" : Str), Value.ref e), (a, u2)].reverse.lookup ("self" : Str)) = some (.ref e) := by
    have nda : ("self" : Str) ≠ a := by
      have q := S.nd
      rw [S.eN] at q
      intro e
      rw [e] at q
      simp at q
    show List.lookup ("self" : Str) [(a, u2), ("self", Value.ref e)] = _
    rw [List.lookup_cons, show (("self" : Str) == a) = false by simpa using nda, List.lookup_cons, beq_self_eq_true]
  refine wpAny_loadName_local S.kind S.ps ns hself ?_
  refine PySem.ks_wpAny_isType_cls (KX1 _ _ hC) rfl ⟨rfl, ?_⟩
  obtain ⟨t1, hx⟩ := exo_at I0.hok he0
  refine PySem.ks_wpAny_call_super (KX1 _ _ hC) rfl hx rfl (fun c z => by cases z) (PySem.W.looks_mroIn KX1 F.sub) fun h2 eso k2 => ?_
  have I1 : Inv (cxI P w K mg base N qual scope f cda cc A outer s H) [] [some (.ref e), some v] H { s with heap := h2, toks := s.toks + 2 } := I0.kept k2
  have KX2 : K.In h2 := KX1.keeps k2
  have J2 : PySem.W.InstAt h2 e { cls := .ref C, dict := none, data := .fields #[.ref t1, .none, .none, .none, .bool false, .none] } C none := ⟨k2 _ _ hx, rfl, rfl, trivial⟩
  refine PySem.W.kxs_getMethod PySem.W.kxs_ValueError eso (PySem.W.looks_opaque KX2 F.third) (l₀ := Value.ref C :: bm) (fun A Q E s k q => wpAny_bind ((PySem.W.looks_clsIn KX2 hcl) A _ E s k (wpAny_pure q))) rfl KX2 hsup (J2.type.andThen (PySem.W.looks_subIn KX2 F.ve)) (PySem.W.ks_ne KX2 J2 hcl) (by decide) ?_
  have I2 : Inv (cxI P w K mg base N qual scope f cda cc A outer s H) [] [some (.ref e), some v] H { s with heap := h2.push (kxs_mw "ValueError.__init__" e), toks := s.toks + 2 + 1 } := I1.kept fun b o z => Heap.get?_push_of_some _ z
  have hu0 : (h2.push (kxs_mw "ValueError.__init__" e)).get? h2.objs.size = some (kxs_mw "ValueError.__init__" e) := Heap.get?_push_size _ rfl
  have I3 := I2.pinned (fp := [h2.objs.size]) (fun b hb => by
    rcases List.mem_cons.mp hb with z | z
    · rw [z]
      exact I1.fpOk (Nat.le_refl _) (I1.hok.fresh (Nat.le_refl _))
    · cases z) (fun b hb => by
    rcases List.mem_cons.mp hb with z | z
    · rw [z]
      exact ⟨_, hu0, fun v z => by cases z⟩
    · cases z)
  have hrun := hta.run pc _ _ _ H (fun vs H' => ∃ x, vs = [x] ∧ H' = H) I3 (qta e H _ fun x => ⟨x, rfl, rfl⟩)
  have hse := hs (PySem.W.envX qual scope s.heap.objs.size f (.ref cda) [("__class__", cc)])
  show wpAny (model P w) _ (callWith pc (.ref h2.objs.size) [] (backTo pc (starEach [arg] (PySem.W.envX qual scope s.heap.objs.size f (.ref cda) [("__class__", cc)]))) []) _ _ _
  have hrun' : wpAny (model P w) (A.deeper (PySem.W.envX qual scope s.heap.objs.size f (.ref cda) [("__class__", cc)])) (spliced (backTo pc (starEach [arg] (PySem.W.envX qual scope s.heap.objs.size f (.ref cda) [("__class__", cc)])))) _ _ _ := hrun
  rw [hse] at hrun' ⊢
  refine PySem.W.kxs_callWith (i := "ValueError.__init__") (x := e) rfl (Calls.evalArgs_plain (wpAny_mono hrun' (fun us3 s3 hq3 => ?_) fun _ _ z => (show False from z).elim))
  obtain ⟨vs3, H3, I4, rv3, x3, rfl, rfl⟩ := hq3
  have hu4 : s3.heap.get? h2.objs.size = some (kxs_mw "ValueError.__init__" e) := (I4.pin (h2.objs.size, kxs_mw "ValueError.__init__" e) (List.mem_append_right _ (List.mem_append_right _ (mem_pinsAt (List.mem_cons_self ..) hu0)))).1
  refine ⟨hu4, ?_⟩
  have hl3 : us3.length ≤ sizeLine := by
    rw [← Paired.length rv3, sizeLine_eq]
    show 1 ≤ 16777216
    decide
  refine wpAny_mono (mw_call F.oex I4 he0 hu4 hl3 (Q := fun u s' => Inv (cxI P w K mg base N qual scope f cda cc A outer s H3) ([] ++ pinsAt [h2.objs.size] (h2.push (kxs_mw "ValueError.__init__" e))) [some (.ref e), some v] H3 s') fun s' J => J) (fun u s5 I5 => ?_) fun _ _ z => (show False from z).elim
  have I6 := I5.unpinned
  refine wpAt_of_wpAny ?_
  have hN0 : (cxI P w K mg base N qual scope f cda cc A outer s H3).N[0]? = some ("self" : Str) := by show N[0]? = _; rw [S.eN]; rfl
  have hN1 : (cxI P w K mg base N qual scope f cda cc A outer s H3).N[1]? = some a := by show N[1]? = _; rw [S.eN]; rfl
  have hst : PSs (cxI P w K mg base N qual scope f cda cc A outer s H3) [.Assign [.Attribute (.Name "self" q1) fld q2] (.Name a q3) q4] (tOst K fld (tVar 0) (tVar 1)) :=
    pss_one (ps_ost (pe_var (i := 0) hN0 (.inl S.ps)) (pe_var (i := 1) hN1 (.inl S.pa) hadb hacd) (hw2 _ rfl))
  refine wpAny_mono (hst.run [] s5 _ H3 { nx := fun _ H' => Q .non H', rt := fun _ _ => False } I6 ?_) (fun fl s6 hf => ?_) fun _ _ z => (show False from z).elim
  · exact ⟨v, rfl, .ref e, rfl, e, C, rfl, F.oex, hno, .inl ⟨he0, fun dx n ne => hQ dx n ne⟩⟩
  · have fin : ∀ {σ' : L2.St} {H' : Hp}, Inv (cxI P w K mg base N qual scope f cda cc A outer s H3) [] σ' H' s6 → Q .non H' → CE outer P w H3 s Q .none s6 := fun {σ' H'} J q => ⟨.non, H', J.os, J.bare, J.base, J.hok, rfl, q⟩
    cases fl with
    | next =>
      obtain ⟨σ', H', J, q⟩ := hf
      exact fin J q
    | brk =>
      obtain ⟨_, _, _, q⟩ := hf
      exact q.elim
    | cont =>
      obtain ⟨_, _, _, q⟩ := hf
      exact q.elim
    | ret u =>
      obtain ⟨_, _, _, _, _, q⟩ := hf
      exact q.elim
end
end Kf

set_option maxHeartbeats 1000000
/-! Kf: calls that change what the frame holds, or raise. -/
namespace Kf
open PySem L2

/-! ### expressions that change what is held -/
inductive Oc where
  | ret (m : M) (ρ : Rhm)
  | exc (C : Addr) (f : Str) (d : D) (ρ : Rhm)
/-- what must follow at the end of an expression -/
def After (c : Fc) (W : WX) (A : Hp) (σ : L2.St) (Q : VK) : Oc → Prop
  | .ret m ρ => ∀ v A2 H2 q fp, Es c A2 H2 σ ρ fp → Same A A2 → RM c.X.K A2 H2 v m q → q.Nodup → (∀ a ∈ q, a ∉ fp ∧ c.H0 a = none) → Q v H2
  | .exc C f d ρ => ∀ A2 H2 fp e v, Es c A2 H2 σ ρ fp → Same A A2 → H2 e = some (.xd [(f, v)]) → Rp c.X.K A2 v d → W (.ref C) (some e) σ H2
def Eo (c : Fc) (W : WX) (e : Expr) (ρ : Rhm) (o : Oc) : Prop := ∀ A H σ fp, Es c A H σ ρ fp → ∀ Q : VK, After c W A σ Q o → tw c.X e σ H Q
/-- a test that changes what is held -/
def Et (c : Fc) (e : Expr) (ρ : Rhm) (k : Bool) (ρ' : Rhm) : Prop := ∀ A H σ fp, Es c A H σ ρ fp → ∀ Q : Bool → Hp → Prop, (∀ A2 H2 fp', Es c A2 H2 σ ρ' fp' → Same A A2 → Q k H2) → twT c.X e σ H Q
def Ew (c : Fc) (e : Expr) (ρ : Rhm) (k : Bool) (ρ' : Rhm) : Prop := ∀ A H σ fp, Es c A H σ ρ fp → ∀ Q : Bool → Hp → Prop, (∀ A2 H2 fp', Es c A2 H2 σ ρ' fp' → Same A A2 → Q k H2) → twW c.X e σ H Q
section
variable {c : Fc} {W : WX} {D : Ends} {ρ ρ' ρ1 ρ2 : Rhm} {e a b t : Expr} {m : M} {d d1 d2 : Kf.D} {k k1 k2 : Bool} {pos : Pos} {st : Stmt} {i : Nat} {o : Oc} {es : List Expr} {ds : List Kf.D}
theorem eo_of (h : Asks c ρ e m) : Eo c W e ρ (.ret m ρ) := fun A H σ fp es Q q => es.ask h fun v A2 H2 p x ok r f n => by
  have es2 := es.step0 x
  exact q v A2 H2 p fp es2 x.aa r n fun a z => ⟨fun w => es.live a w (f a z), fresh_back es.x f a z⟩
theorem et_of (h : Te c.X c.T e ρ k) : Et c e ρ k ρ := fun A H σ fp es Q q => es.askT h fun A2 H2 x _ => q A2 H2 fp (es.step0 x) x.aa
theorem et_cmp {op : CmpOp} (h1 : Eo c W a ρ (.ret (.im d1) ρ1)) (h2 : Eo c W b ρ1 (.ret (.im d2) ρ2)) (ho : Op c.X c.T (compareOp op) d1 d2 (.im (.bl k))) (hm : behindInMarks op b = false := by first | rfl | exact nomark _) : Et c (.Compare a [op] [b] pos) ρ k ρ2 := fun A H σ fp es Q q => by
  refine ⟨fun pins s I => ?_⟩
  refine (pt_cmpR (pos := pos) op_tw pe_tw pe_tw hm).run pins s σ H Q I (h1 A H σ fp es _ fun v A1 H1 q1 fp1 es1 s1 r1 _ _ => h2 A1 H1 σ fp1 es1 _ fun u A2 H2 q2 fp2 es2 s2 r2 _ _ => ?_)
  cases r1 with
  | im r1 =>
  cases r2 with
  | im r2 =>
  refine ho A2 H2 v u es2.ok (r1.mono s2) r2 _ fun z A3 H3 p x r _ _ => ?_
  cases r with
  | im r =>
  cases r
  exact ⟨k, rfl, q A3 H3 fp2 (es2.step0 x) ((s1.trans s2).trans x.aa)⟩
theorem et_val (h : Eo c W e ρ (.ret (.im (.bl k)) ρ')) (he : ∀ whole, isTrue e c.X.env whole = (do let v ← whole; standAt e.pos; holding [v] (truthy v)) := by intro _; rfl) : Et c e ρ k ρ' := fun A H σ fp es Q q => by
  refine ⟨fun pins s I => ?_⟩
  refine (pt_val pe_tw he).run pins s σ H Q I (h A H σ fp es _ fun v A1 H1 q1 fp1 es1 s1 r1 _ _ => ?_)
  cases r1 with
  | im r1 =>
  cases r1
  exact ⟨k, rfl, q A1 H1 fp1 es1 s1⟩
theorem et_not (h : Et c e ρ k ρ') : Et c (.UnaryOp .Not e pos) ρ (!k) ρ' := fun A H σ fp es Q q => ⟨fun pins s I => (pt_not pt_tw).run pins s σ H Q I (h A H σ fp es _ q)⟩
theorem et_w (h : Ew c e ρ k ρ') : Et c e ρ k ρ' := fun A H σ fp es Q q => ⟨fun pins s I => (pw_tw.pt).run pins s σ H Q I (h A H σ fp es _ q)⟩
theorem ew_and1 (h : Et c a ρ k ρ') : Ew c (.BoolOp .And [a] pos) ρ k ρ' := fun A H σ fp es Q q => ⟨fun wh pins s I => (pw_and1 pt_tw).run wh pins s σ H Q I (h A H σ fp es _ q)⟩
theorem ew_or1 (h : Et c a ρ k ρ') : Ew c (.BoolOp .Or [a] pos) ρ k ρ' := fun A H σ fp es Q q => ⟨fun wh pins s I => (pw_or1 pt_tw).run wh pins s σ H Q I (h A H σ fp es _ q)⟩
theorem ew_and {rest : List Expr} (h : Et c a ρ k1 ρ1) (hr : k1 = true → Ew c (.BoolOp .And (b :: rest) pos) ρ1 k2 ρ2) (e0 : k1 = false → k = false ∧ ρ' = ρ1) (e1 : k1 = true → k = k2 ∧ ρ' = ρ2) : Ew c (.BoolOp .And (a :: b :: rest) pos) ρ k ρ' := fun A H σ fp es Q q => by
  refine ⟨fun wh pins s I => ?_⟩
  exact (pw_and pt_tw pw_tw).run wh pins s σ H Q I (h A H σ fp es _ fun A1 H1 fp1 es1 s1 => by
    cases k1 with
    | true =>
      obtain ⟨rfl, rfl⟩ := e1 rfl
      exact iteT (hr rfl A1 H1 σ fp1 es1 _ fun A2 H2 fp2 es2 s2 => q A2 H2 fp2 es2 (s1.trans s2))
    | false =>
      obtain ⟨rfl, rfl⟩ := e0 rfl
      exact iteF (q A1 H1 fp1 es1 s1))
theorem ew_or {rest : List Expr} (h : Et c a ρ k1 ρ1) (hr : k1 = false → Ew c (.BoolOp .Or (b :: rest) pos) ρ1 k2 ρ2) (e0 : k1 = true → k = true ∧ ρ' = ρ1) (e1 : k1 = false → k = k2 ∧ ρ' = ρ2) : Ew c (.BoolOp .Or (a :: b :: rest) pos) ρ k ρ' := fun A H σ fp es Q q => by
  refine ⟨fun wh pins s I => ?_⟩
  exact (pw_or pt_tw pw_tw).run wh pins s σ H Q I (h A H σ fp es _ fun A1 H1 fp1 es1 s1 => by
    cases k1 with
    | false =>
      obtain ⟨rfl, rfl⟩ := e1 rfl
      exact iteF (hr rfl A1 H1 σ fp1 es1 _ fun A2 H2 fp2 es2 s2 => q A2 H2 fp2 es2 (s1.trans s2))
    | true =>
      obtain ⟨rfl, rfl⟩ := e0 rfl
      exact iteT (q A1 H1 fp1 es1 s1))
/-! ### statements over them -/
/-- what follows an error that has come -/
def Xx (c : Fc) (W : WX) (C : Addr) (f : Str) (d : Kf.D) (ρ : Rhm) : Prop := ∀ A H σ fp e v, Es c A H σ ρ fp → H e = some (.xd [(f, v)]) → Rp c.X.K A v d → W (.ref C) (some e) σ H
def Then (c : Fc) (W : WX) (K : M → Rhm → Prop) : Oc → Prop
  | .ret m ρ => K m ρ
  | .exc C f d ρ => Xx c W C f d ρ
theorem ss_ifE {t : Expr} {x y : List Stmt} (h : Et c t ρ k ρ') (ha : k = true → Gs c x D ρ') (hb : k = false → Gs c y D ρ') : Ss c (.If t x y pos) D ρ :=
  ss_of (ps_if pt_tw pss_tw pss_tw) fun A H σ fp es => h A H σ fp es _ fun A2 H2 fp' es' _ => by
    cases k with
    | true => exact (iteT (ha rfl A2 H2 σ fp' es'))
    | false => exact (iteF (hb rfl A2 H2 σ fp' es'))
theorem Es.put2 {A H : Hp} {σ : L2.St} {fp : List Addr} (es : Es c A H σ ρ fp) {v : V} {p : List Addr} (r : RM c.X.K A H v m p) (n : p.Nodup) (f : ∀ a ∈ p, a ∉ fp ∧ c.H0 a = none) (hi : i < ρ.length) (h0 : c.S0 = none ∨ i ≠ 0) : ∃ fp', Es c A H (σ.set i (some v)) (ρ.set i (some m)) fp' := by
  obtain ⟨fp', h1, h2, h3⟩ := Sls.set r i es.sl hi
  refine ⟨fp', es.ok, es.x, h1, h3 n es.nd fun a z => (f a z).1, fun a z => ?_, es.pn, fix_set h0 es.fix⟩
  rcases h2 a z with w | w
  · exact .inr (f a w).2
  · exact es.own a w
theorem ss_setE {x : Str} {pos' : Pos} (h : Eo c W e ρ o) (hN : c.X.N.Nodup) (hi : c.X.N[i]? = some x) (hx : Loc c.X.env.scope x) (q : Then c W (fun m ρ' => i < ρ'.length ∧ Nx c D.nx (ρ'.set i (some m))) o) (h0 : c.S0 = none ∨ i ≠ 0 := by first | exact .inl rfl | exact .inr (by decide))
    (hw : swapsWith e (some (.Name x pos')) pos.line c.X.env = pure false := by rfl) (hf : c.X.fn x = true ∨ c.X.env.scope.names.lookup x = some .local := by first | exact .inl rfl | exact .inr rfl) : Ss c (.Assign [.Name x pos'] e pos) D ρ :=
  ss_of (L2.ps_set hN hi hx pe_tw hw hf) fun A H σ fp es => by
    cases o with
    | ret m ρ' =>
      refine h A H σ fp es _ fun v A2 H2 p fp' es' _ r n f => ?_
      obtain ⟨fp2, es2⟩ := es'.put2 r n f q.1 h0
      exact q.2 A2 H2 _ fp2 es2
    | exc C f d ρ' => exact h A H σ fp es _ fun A2 H2 fp' e v es' _ he r => q A2 H2 σ fp' e v es' he r
theorem ss_dropE (h : Eo c W e ρ o) (q : Then c W (fun m ρ' => Nx c D.nx ρ') o) (hw : swapsWith e none pos.line c.X.env = pure false := by rfl) : Ss c (.Expr e pos) D ρ :=
  ss_of (ps_expr pe_tw hw) fun A H σ fp es => by
    cases o with
    | ret m ρ' => exact h A H σ fp es _ fun v A2 H2 p fp' es' _ r n f => q A2 H2 σ fp' es'
    | exc C f d ρ' => exact h A H σ fp es _ fun A2 H2 fp' e v es' _ he r => q A2 H2 σ fp' e v es' he r
/-- what follows a value handed back, with what is held -/
def Rh (c : Fc) (R : VK) (m : M) (ρ : Rhm) : Prop := ∀ v A H σ q fp, Es c A H σ ρ fp → RM c.X.K A H v m q → q.Nodup → (∀ a ∈ q, a ∉ fp ∧ c.H0 a = none) → R v H
theorem ss_retE (h : Eo c W e ρ o) (q : Then c W (fun m ρ' => Rh c D.rt m ρ') o) : Ss c (.Return (some e) pos) D ρ :=
  ss_of (ps_ret pe_tw) fun A H σ fp es => by
    cases o with
    | ret m ρ' => exact h A H σ fp es _ fun v A2 H2 p fp' es' _ r n f => q v A2 H2 σ p fp' es' r n f
    | exc C f d ρ' => exact h A H σ fp es _ fun A2 H2 fp' e v es' _ he r => q A2 H2 σ fp' e v es' he r
theorem rh_of {R : VK} (q : Rt c R m) : Rh c R m ρ := fun v A H σ p fp es r n f => q v A H p es.ok es.x r n fun a z => (f a z).2
end
end Kf

set_option maxHeartbeats 1000000
/-! Kf: defs whose first argument may change, that may raise; objects made; fields. -/
namespace Kf
open PySem L2

/-! ### fields -/
def putM (f : Str) (m : M) : List (Str × M) → List (Str × M)
  | [] => [(f, m)]
  | (g, x) :: r => if g = f then (g, m) :: r else (g, x) :: putM f m r
theorem RMs.look {K : PySem.W.Frag} {A H : Hp} {f : Str} : ∀ {fs : List (Str × V)} {ms : List (Str × M)} {fp : List Addr}, RMs K A H Str fs ms fp → (ms.lookup f = none → fs.lookup f = none) ∧ ∀ m, ms.lookup f = some m → ∃ v p, fs.lookup f = some v ∧ RM K A H v m p ∧ ∀ a ∈ p, a ∈ fp
  | _, _, _, .nil => ⟨fun _ => rfl, fun m h => by cases h⟩
  | _, _, _, .cons (k := k) (p := p) h r => by
    have ih := RMs.look (f := f) r
    refine ⟨fun z => ?_, fun m z => ?_⟩
    · rw [List.lookup_cons] at z ⊢
      cases e : f == k with
      | true => rw [e] at z; cases z
      | false =>
        rw [e] at z
        exact ih.1 z
    · rw [List.lookup_cons] at z
      rw [List.lookup_cons]
      cases e : f == k with
      | true =>
        rw [e] at z
        cases z
        exact ⟨_, _, rfl, h, fun a w => List.mem_append_left _ w⟩
      | false =>
        rw [e] at z
        obtain ⟨v, p2, h1, h2, h3⟩ := ih.2 m z
        exact ⟨v, p2, h1, h2, fun a w => List.mem_append_right _ (h3 a w)⟩
theorem RMs.put {K : PySem.W.Frag} {A H : Hp} {f : Str} {v : V} {m : M} {p : List Addr} (h0 : RM K A H v m p) : ∀ {fs : List (Str × V)} {ms : List (Str × M)} {fp : List Addr}, RMs K A H Str fs ms fp → p.Nodup → fp.Nodup → (∀ a ∈ p, a ∉ fp) →
    ∃ fp', RMs K A H Str (putF f v fs) (putM f m ms) fp' ∧ fp'.Nodup ∧ ∀ a ∈ fp', a ∈ p ∨ a ∈ fp
  | _, _, _, .nil, n, _, _ => ⟨p ++ [], .cons h0 .nil, by rw [List.append_nil]; exact n, fun a z => .inl (by rw [List.append_nil] at z; exact z)⟩
  | _, _, _, .cons (k := k) (p := q) (q := fp) h r, n, n2, d => by
    obtain ⟨n3, n4, n5⟩ := List.nodup_append.mp n2
    unfold putF putM
    by_cases e : k = f
    · rw [if_pos e, if_pos e]
      exact ⟨p ++ fp, .cons h0 r, List.nodup_append.mpr ⟨n, n4, fun a ha b hb z => d a ha (List.mem_append_right _ (z ▸ hb))⟩, fun a z => (List.mem_append.mp z).imp id fun w => List.mem_append_right _ w⟩
    · rw [if_neg e, if_neg e]
      obtain ⟨fp', h1, h2, h3⟩ := RMs.put h0 r n n4 fun a ha z => d a ha (List.mem_append_right _ z)
      refine ⟨q ++ fp', .cons h h1, List.nodup_append.mpr ⟨n3, h2, fun a ha b hb z => ?_⟩, fun a z => ?_⟩
      · subst z
        rcases h3 a hb with w | w
        · exact d a w (List.mem_append_left _ ha)
        · exact n5 a ha a w rfl
      · rcases List.mem_append.mp z with w | w
        · exact .inr (List.mem_append_left _ w)
        · exact (h3 a w).imp id fun u => List.mem_append_right _ u
theorem RMs.length {K : PySem.W.Frag} {A H : Hp} {κ : Type} : ∀ {fs : List (κ × V)} {ms : List (κ × M)} {fp : List Addr}, RMs K A H κ fs ms fp → fs.length = ms.length
  | _, _, _, .nil => rfl
  | _, _, _, .cons _ r => by simp [RMs.length r]
theorem RpM.look {K : PySem.W.Frag} {A : Hp} {f : Str} {d : D} : ∀ {fs : List (Str × V)} {ds : List (Str × D)}, RpM K A Str fs ds → ds.lookup f = some d → ∃ v, fs.lookup f = some v ∧ Rp K A v d
  | _, _, .nil, h => by cases h
  | _, _, .cons (k := k) h r, z => by
    rw [List.lookup_cons] at z ⊢
    cases e : f == k with
    | true =>
      rw [e] at z
      cases z
      exact ⟨_, rfl, h⟩
    | false =>
      rw [e] at z
      exact RpM.look r z
theorem RpM.lookN {K : PySem.W.Frag} {A : Hp} {f : Str} : ∀ {fs : List (Str × V)} {ds : List (Str × D)}, RpM K A Str fs ds → ds.lookup f = none → fs.lookup f = none
  | _, _, .nil, _ => rfl
  | _, _, .cons (k := k) h r, z => by
    rw [List.lookup_cons] at z ⊢
    cases e : f == k with
    | true => rw [e] at z; cases z
    | false =>
      rw [e] at z
      exact RpM.lookN r z
section
variable {X : Cx} {T : List Addr} {ρ : Rho} {o : Expr} {f : Str} {C : Addr} {fs : List (Str × D)} {d : D} {pos : Pos}
/-- o.f, o data of an instance -/
theorem ie_fld (h : Ie X T o ρ (.ins C fs)) (hl : fs.lookup f = some d) (hc : Cls X.K C) (hn : NoAttr X.K C f) (hb : attributeBase o f X.env (eval o X.env) = eval o X.env := by rfl) : Ie X T (.Attribute o f pos) ρ d :=
  ie_of (pe_fld pe_tw hb) fun A H σ s l Q k => h A H σ s l _ fun v A1 H1 x1 r1 => by
    cases r1 with
    | ins e1 r1 =>
    obtain ⟨v, h1, h2⟩ := r1.look hl
    exact ⟨_, C, _, _, v, rfl, (x1.ok s).s _ _ e1, hc, hn, h1, k v A1 H1 x1 h2⟩
end

/-! ### promises -/
inductive Om where
  | ret (r : M) (m : M)
  | exc (C : Addr) (f : Str) (d : D) (m : M)
def Om.oc (i : Nat) (ρ : Rhm) : Om → Oc
  | .ret r m => .ret r (ρ.set i (some m))
  | .exc C f d m => .exc C f d (ρ.set i (some m))
/-- what must follow the call, by its outcome -/
def Ret (K : PySem.W.Frag) (T : List Addr) (A H : Hp) (v0 : V) (p : List Addr) (Q : VK) (E : XK) : Om → Prop
  | .ret r m => ∀ v A2 H2 q p', Ok T A2 H2 → Ext p A H A2 H2 → RM K A2 H2 v r q → RM K A2 H2 v0 m p' → (q ++ p').Nodup → Fresh H q → (∀ a ∈ p', a ∈ p ∨ H a = none) → Q v H2
  | .exc C f d m => ∀ A2 H2 e v p', Ok T A2 H2 → Ext p A H A2 H2 → RM K A2 H2 v0 m p' → p'.Nodup → (∀ a ∈ p', a ∈ p ∨ H a = none) → H2 e = some (.xd [(f, v)]) → Rp K A2 v d → E (.ref C) (some e) H2
/-- the promise of a def: from its first argument, which may change, and further data -/
def spM (K : PySem.W.Frag) (T : List Addr) (rel : M → List D → Om → Prop) : Sp := fun vs H Q E => ∃ A v0 vs' m ds p o, vs = v0 :: vs' ∧ Ok T A H ∧ RM K A H v0 m p ∧ p.Nodup ∧ RpL K A vs' ds ∧ rel m ds o ∧ Ret K T A H v0 p Q E o
def begunM (N : List Str) (m : M) (ds : List D) : Rhm := some m :: (ds.map (fun d => some (.im d)) ++ List.replicate (N.length - 1 - ds.length) none)
/-- what a body must come to -/
def EndM (c : Fc) (W : WX) (Z : Ends) : Om → Prop
  | .ret r m => (∀ ρ, ρ[0]? = some (some m) → Rh c Z.rt r ρ) ∧ (r = .im .non → ∀ ρ, ρ[0]? = some (some m) → Nx c Z.nx ρ)
  | .exc C f d m => ∀ ρ, ρ[0]? = some (some m) → Xx c W C f d ρ
abbrev cxM (P : Program) (w : World) (K : PySem.W.Frag) (mg : Str → Option Value) (base : Heap) (N : List Str) (qual : Str) (scope : Scope) (f : Addr) (cd : Value) (A : Around) (outer : List Env) (s : Shared) (H : Hp) (E : XK) : Cx :=
  cxOf (L2.CX P w) P w K mg base N qual scope f cd A outer s H E
section
variable {P : Program} {w : World} {K : PySem.W.Frag} {mg : Str → Option Value} {base : Heap} {T : List Addr} {N ps : List Str} {x qual : Str} {st : Stmt} {f : Addr} {fd : FuncData} {k : Nat} {rel : M → List D → Om → Prop}
theorem fn_okM (F : FunD K x qual (defArgs st) (defBody st) (defScope st) [] [] f fd) (S : FnScope N ps (defScope st)) (len : ∀ m ds o, rel m ds o → ds.length + 1 = ps.length)
    (hb : ∀ (cdv : Value) (A : Around) (outer : List Env) (s : Shared) (H A0 : Hp) (E : XK) (v0 : V) (p : List Addr), Room k (A.deeper (PyProof.Rows.envOfC qual (defScope st) s.heap.objs.size f cdv)) → PySem.W.codeIn K cdv qual = true → ∀ m ds o, rel m ds o → ∀ Z : Ends,
      Takes (cxM P w K mg base N qual (defScope st) f cdv A outer s H E) (fun cls d _ H => E cls d H) → PassesOwn (model P w) (A.deeper (PyProof.Rows.envOfC qual (defScope st) s.heap.objs.size f cdv)) (PyProof.Rows.envOfC qual (defScope st) s.heap.objs.size f cdv) (cxM P w K mg base N qual (defScope st) f cdv A outer s H E).xe →
      EndM ⟨cxM P w K mg base N qual (defScope st) f cdv A outer s H E, T, p, A0, H, [], some v0⟩ (fun cls d _ H => E cls d H) Z o →
      Gs ⟨cxM P w K mg base N qual (defScope st) f cdv A outer s H E, T, p, A0, H, [], some v0⟩ (defBody st) Z (begunM N m ds)) : FnOk P w K mg base (L2.CX P w) (k + 1) f fd ps (spM K T rel) := by
  have hlen : ∀ vs H Q E, spM K T rel vs H Q E → vs.length = ps.length := fun vs H Q E ⟨A, v0, vs', m, ds, p, o, e, _, _, _, r, h, _⟩ => by
    rw [e, List.length_cons, r.len]
    exact len m ds o h
  obtain ⟨oc, od, dV, kV, doc, pm, an, cdv0, ct, osl, rfl, lk, hcd, hdV, _⟩ := F.ex
  refine fn_of lk hcd S hlen fun A outer s H vs Q E hr hsp => ?_
  obtain ⟨A0, v0, vs', m, ds, p, o, rfl, ok, r0, n0, r, h, kk⟩ := hsp
  refine ⟨twss (cxM P w K mg base N qual (defScope st) f cdv0 A outer s H E) (defBody st), pss_tw, ?_⟩
  refine hb cdv0 A outer s H A0 E v0 p hr hcd m ds o h { nx := fun _ H' => Q .non H', rt := Q } (takes_of rfl rfl rfl rfl) (passes_of rfl) ?_ A0 H _ p ⟨ok, Ext.refl ok, ?_, n0, fun a z => .inl z, fun _ z => (nomatch z), fun v e => ?_⟩
  · have at0 : ∀ {A2 H2 : Hp} {σ : L2.St} {ρ : Rhm} {fp : List Addr} {m' : M}, Es ⟨cxM P w K mg base N qual (defScope st) f cdv0 A outer s H E, T, p, A0, H, [], some v0⟩ A2 H2 σ ρ fp → ρ[0]? = some (some m') → ∃ p', RM K A2 H2 v0 m' p' ∧ p'.Nodup ∧ ∀ a ∈ p', a ∈ fp := fun es e => by
      obtain ⟨v, p', h1, h2, h3, h4, _⟩ := es.alter e
      have q := es.fix v0 rfl
      rw [h1] at q
      obtain rfl := Option.some.inj (Option.some.inj q)
      exact ⟨p', h2, h3, h4⟩
    cases o with
    | ret r m' =>
      refine ⟨fun ρ e v A2 H2 σ q fp es rv n f => ?_, fun e0 ρ e A2 H2 σ fp es => ?_⟩
      · obtain ⟨p', h2, h3, h4⟩ := at0 es e
        exact kk v A2 H2 q p' es.ok es.x rv h2 (List.nodup_append.mpr ⟨n, h3, fun a ha b hb z => (f a ha).1 (z ▸ h4 b hb)⟩) (fun a z => (f a z).2) fun a z => es.own a (h4 a z)
      · subst e0
        obtain ⟨p', h2, h3, h4⟩ := at0 es e
        exact kk .non A2 H2 [] p' es.ok es.x (.im .non) h2 (by simpa using h3) (fun _ z => nomatch z) fun a z => es.own a (h4 a z)
    | exc C g d m' =>
      intro ρ e A2 H2 σ fp ea v es he rd
      obtain ⟨p', h2, h3, h4⟩ := at0 es e
      exact kk A2 H2 ea v p' es.ok es.x h2 h3 (fun a z => es.own a (h4 a z)) he rd
  · unfold L2.start begunM
    rw [List.length_cons, r.len]
    have e1 : N.length - (ds.length + 1) = N.length - 1 - ds.length := by omega
    rw [e1]
    have q := Sls.val r0 (begun_sls (n := N.length - 1 - ds.length) (H := H) r)
    rw [List.append_nil] at q
    exact q
  · have e' : v0 = v := Option.some.inj e
    rw [← e']
    rfl
structure FnM (P : Program) (w : World) (K : PySem.W.Frag) (mg : Str → Option Value) (base : Heap) (T : List Addr) (x : Str) (k : Nat) (rel : M → List D → Om → Prop) : Prop where
  ex : ∃ f fd ps, FnOk P w K mg base (L2.CX P w) k f fd ps (spM K T rel) ∧ mg x = some (.ref f) ∧ PySem.W.keepIn K (.ref f) = true ∧ Binds K fd ps []
structure MtM (P : Program) (w : World) (K : PySem.W.Frag) (mg : Str → Option Value) (base : Heap) (T : List Addr) (C : Addr) (x : Str) (k : Nat) (rel : M → List D → Om → Prop) : Prop where
  ex : ∃ f fd ps, FnOk P w K mg base (L2.CX P w) k f fd ps (spM K T rel) ∧ Cls K C ∧ Meth K C x f ∧ Binds K fd ps []
/-- a class as it is made: x its name, C its place -/
structure MkM (P : Program) (w : World) (K : PySem.W.Frag) (mg : Str → Option Value) (base : Heap) (T : List Addr) (x : Str) (C : Addr) (k : Nat) (rel : M → List D → Om → Prop) : Prop where
  ex : ∃ f fd ps, FnOk P w K mg base (L2.CX P w) k f fd ps (spM K T rel) ∧ mg x = some (.ref C) ∧ Mk K C f ∧ Binds K fd ps []
end
/-! ### calls -/
def tMethW (C : Addr) (m : Str) (sp : Sp) (W : WX) (ta : TE) (t : TA) : TE := fun σ H Q => ta σ H fun x H1 => ∃ a dx fs, x = .ref a ∧ H1 a = some (.ins C dx fs) ∧ fs.lookup m = none ∧ t σ H1 fun vs H2 => sp (x :: vs) H2 Q (WE W σ)
section
variable {X : Cx} {k : Nat} {f C : Addr} {fd : FuncData} {ps : List Str} {sp : Sp} {W : WX} {m : Str} {pos apos : Pos} {e o : Expr} {es : List Expr} {ta : TE} {t : TA}
theorem pe_methW {pl : Sem Bool} (tk : Takes X W) (he : PE X o ta) (c : Cls X.K C) (hm : Meth X.K C m f) (F : FnOk X.prog X.w X.K X.mg X.base (L2.CX X.prog X.w) k f fd ps sp) (hr : Room k X.A) (hb : Binds X.K fd ps []) (ha : PA X (e :: es) t)
    (hst : starEach (e :: es) X.env = (false, eval e X.env) :: starEach es X.env := by rfl) (hpl : (backTo pos (starEach es X.env)).any (·.1) = false := by rfl)
    (ht : eval (.Call (.Attribute o m apos) (e :: es) [] pos) X.env = (do
      let ov ← eval o X.env
      standAt apos.atName
      let (f, first) ← holding [ov] (getMethod ov m pl)
      callWith pos f first (backTo pos (starEach (e :: es) X.env)) (backToKw pos (keywordEach [] X.env))) := by rfl) : PE X (.Call (.Attribute o m apos) (e :: es) [] pos) (tMethW C m sp W ta t) := by
  constructor
  intro pins s σ H Q I h
  refine PySem.W.methodCall_KW (pl := pl) (thn (he.run pins s σ H _ I h) fun u s1 hu => ?_) ht
  obtain ⟨x, H1, I1, rx, a, dx, fs, rfl, ea, l, q⟩ := hu
  have eu : u = Value.ref a := rx
  subst eu
  refine getmeth_ok I1 ea c hm l (PySem.W.callWith_K (first := [.ref a]) (h₀ := X.base) I.ok.mod.kin hm.kp (thn (ha.run pos pins s1 σ H1 _ I1 q) fun us s2 hq => ?_) hst hpl)
  obtain ⟨vs, H2, I2, r, q2⟩ := hq
  exact ⟨I2.kIn, run_fnS (us := .ref a :: us) (vs := .ref a :: vs) F hr hb (passAt tk σ) I2 (.cons rfl r) q2⟩
theorem pe_methW0 {pl : Sem Bool} (tk : Takes X W) (he : PE X o ta) (c : Cls X.K C) (hm : Meth X.K C m f) (F : FnOk X.prog X.w X.K X.mg X.base (L2.CX X.prog X.w) k f fd ps sp) (hr : Room k X.A) (hb : Binds X.K fd ps [])
    (ht : eval (.Call (.Attribute o m apos) [] [] pos) X.env = (do
      let ov ← eval o X.env
      standAt apos.atName
      let (f, first) ← holding [ov] (getMethod ov m pl)
      callWith pos f first (backTo pos (starEach [] X.env)) (backToKw pos (keywordEach [] X.env))) := by rfl) : PE X (.Call (.Attribute o m apos) [] [] pos) (tMethW C m sp W ta tNil) := by
  constructor
  intro pins s σ H Q I h
  refine PySem.W.methodCall_KW (pl := pl) (thn (he.run pins s σ H _ I h) fun u s1 hu => ?_) ht
  obtain ⟨x, H1, I1, rx, a, dx, fs, rfl, ea, l, q⟩ := hu
  have eu : u = Value.ref a := rx
  subst eu
  exact getmeth_ok I1 ea c hm l (PySem.W.callWith_K0 (first := [.ref a]) I1.kIn hm.kp (run_fnS (us := [.ref a]) (vs := [.ref a]) F hr hb (passAt tk σ) I1 (.cons rfl .nil) q))
end
/-- the class and the attributes' names of what may be called -/
def insOf : M → Option (Addr × List Str)
  | .ob C ms => some (C, ms.map (·.1))
  | .im (.ins C fs) => some (C, fs.map (·.1))
  | _ => none
theorem lookup_keys {α : Type} {f : Str} : ∀ {l : List (Str × α)}, f ∉ l.map (·.1) → l.lookup f = none
  | [], _ => rfl
  | (k, v) :: r, h => by
    rw [List.lookup_cons]
    have h1 : f ≠ k := fun e => h (by rw [e]; exact List.mem_cons_self ..)
    rw [show (f == k) = false by simpa using h1]
    exact lookup_keys fun z => h (List.mem_cons_of_mem _ z)
theorem RM.ins {K : PySem.W.Frag} {A H : Hp} {v : V} {m : M} {p : List Addr} {C : Addr} {ns : List Str} {f : Str} (r : RM K A H v m p) (s : Same A H) (h : insOf m = some (C, ns)) (hn : f ∉ ns) : ∃ a dx fs, v = .ref a ∧ H a = some (.ins C dx fs) ∧ fs.lookup f = none := by
  cases r with
  | im r =>
    cases r <;> simp [insOf] at h
    next e r =>
      obtain ⟨rfl, rfl⟩ := h
      exact ⟨_, _, _, rfl, s _ _ e, r.lookN (lookup_keys hn)⟩
  | ls => simp [insOf] at h
  | dc => simp [insOf] at h
  | ob e n r =>
    simp [insOf] at h
    obtain ⟨rfl, rfl⟩ := h
    exact ⟨_, _, _, rfl, e, (r.look).1 (lookup_keys hn)⟩
section
variable {c : Fc} {W : WX} {D : Ends} {ρ : Rhm} {e : Expr} {es : List Expr} {m : M} {d : Kf.D} {ds : List Kf.D} {i k : Nat} {x y mn : Str} {p py pos apos : Pos} {rel : M → List Kf.D → Om → Prop} {o : Om} {C : Addr} {ns : List Str} {st : Stmt}
/-- the arguments -/
abbrev AskA (c : Fc) (ρ : Rhm) (es : List Expr) (ds : List Kf.D) : Prop := As c.X c.T es ρ ds
theorem aska_h (h : As c.X c.T es ρ ds) : AskA c ρ es ds := h
theorem aska_f (h : As c.X c.T es (frzR ρ) ds) (s : flatDs ds = true) : AskA c ρ es ds := as_fz h s
theorem Es.askA {A H : Hp} {σ : L2.St} {fp : List Addr} {R : List V → Hp → Prop} (es' : Es c A H σ ρ fp) (h : AskA c ρ es ds) (q : ∀ vs A2 H2, Ex0 A H A2 H2 → Ok c.T A2 H2 → RpL c.X.K A2 vs ds → R vs H2) : twA c.X es σ H R :=
  h A H σ es'.ok es'.sl.sl R fun vs A2 H2 x r => q vs A2 H2 x (x.ok es'.ok) r
/-- behind a call on slot i -/
theorem after_call {A H A1 H1 : Hp} {σ : L2.St} {fp : List Addr} {v0 : V} {Q : VK} (es : Es c A H σ ρ fp) (x1 : Ex0 A H A1 H1) (hi : ρ[i]? = some (some m)) (h1 : σ[i]? = some (some v0)) (q : After c W A σ Q (o.oc i ρ)) :
    ∃ p, RM c.X.K A1 H1 v0 m p ∧ p.Nodup ∧ Ret c.X.K c.T A1 H1 v0 p Q (WE W σ) o := by
  have es1 := es.step0 x1
  obtain ⟨v, p, g1, g2, g3, g4, g5⟩ := es1.alter hi
  rw [h1] at g1
  obtain rfl := Option.some.inj (Option.some.inj g1)
  refine ⟨p, g2, g3, ?_⟩
  cases o with
  | ret r m' =>
    intro v A2 H2 q2 p' ok x r1 r2 n f1 f2
    obtain ⟨n1, n2, n3⟩ := List.nodup_append.mp n
    obtain ⟨fp', es2, g6⟩ := g5 A2 H2 m' p' x r2 n2 f2
    refine q v A2 H2 q2 fp' es2 (x1.aa.trans x.aa) r1 n1 fun a z => ⟨fun w => ?_, fresh_back es1.x f1 a z⟩
    rcases g6 a w with u | u
    · exact n3 a z a u rfl
    · exact es1.live a u (f1 a z)
  | exc C f d m' =>
    intro A2 H2 e v p' ok x r2 n f2 he rd
    obtain ⟨fp', es2, _⟩ := g5 A2 H2 m' p' x r2 n f2
    exact q A2 H2 fp' e v es2 (x1.aa.trans x.aa) he rd
/-- o.m(e, ..), o the name of slot i -/
theorem eo_meth {e : Expr} {pl : Sem Bool} (G : MtM c.X.prog c.X.w c.X.K c.X.mg c.X.base c.T C mn k rel) (tk : Takes c.X W) (hv : PE c.X (.Name y py) (tVar i)) (hi : ρ[i]? = some (some m)) (hc : insOf m = some (C, ns)) (hn : mn ∉ ns) (ha : AskA c ρ (e :: es) ds) (h : rel m ds o) (hr : Room k c.X.A)
    (hst : starEach (e :: es) c.X.env = (false, eval e c.X.env) :: starEach es c.X.env := by rfl) (hpl : (backTo pos (starEach es c.X.env)).any (·.1) = false := by rfl)
    (ht : eval (.Call (.Attribute (.Name y py) mn apos) (e :: es) [] pos) c.X.env = (do
      let ov ← eval (.Name y py) c.X.env
      standAt apos.atName
      let (f, first) ← holding [ov] (getMethod ov mn pl)
      callWith pos f first (backTo pos (starEach (e :: es) c.X.env)) (backToKw pos (keywordEach [] c.X.env))) := by rfl) : Eo c W (.Call (.Attribute (.Name y py) mn apos) (e :: es) [] pos) ρ (o.oc i ρ) := fun A H σ fp es0 Q q => by
  refine ⟨fun pins s I => ?_⟩
  obtain ⟨f, fd, ps, F, hcl, hm, hb⟩ := G.ex
  obtain ⟨v0, p, g1, g2, _⟩ := es0.alter hi
  obtain ⟨a, dx, fs, rfl, ea, el⟩ := g2.ins es0.ok.s hc hn
  refine (pe_methW tk hv hcl hm F hr hb pa_tw hst hpl ht).run pins s σ H Q I ⟨_, g1, a, dx, fs, rfl, ea, el, es0.askA ha fun vs A2 H2 x ok r => ?_⟩
  obtain ⟨p, r0, n0, k0⟩ := after_call es0 x hi g1 q
  exact ⟨A2, .ref a, vs, m, ds, p, o, rfl, ok, r0, n0, r, h, k0⟩
theorem eo_meth0 {pl : Sem Bool} (G : MtM c.X.prog c.X.w c.X.K c.X.mg c.X.base c.T C mn k rel) (tk : Takes c.X W) (hv : PE c.X (.Name y py) (tVar i)) (hi : ρ[i]? = some (some m)) (hc : insOf m = some (C, ns)) (hn : mn ∉ ns) (h : rel m [] o) (hr : Room k c.X.A)
    (ht : eval (.Call (.Attribute (.Name y py) mn apos) [] [] pos) c.X.env = (do
      let ov ← eval (.Name y py) c.X.env
      standAt apos.atName
      let (f, first) ← holding [ov] (getMethod ov mn pl)
      callWith pos f first (backTo pos (starEach [] c.X.env)) (backToKw pos (keywordEach [] c.X.env))) := by rfl) : Eo c W (.Call (.Attribute (.Name y py) mn apos) [] [] pos) ρ (o.oc i ρ) := fun A H σ fp es0 Q q => by
  refine ⟨fun pins s I => ?_⟩
  obtain ⟨f, fd, ps, F, hcl, hm, hb⟩ := G.ex
  obtain ⟨v0, p, g1, g2, _⟩ := es0.alter hi
  obtain ⟨a, dx, fs, rfl, ea, el⟩ := g2.ins es0.ok.s hc hn
  refine (pe_methW0 tk hv hcl hm F hr hb ht).run pins s σ H Q I ⟨_, g1, a, dx, fs, rfl, ea, el, ?_⟩
  obtain ⟨p, r0, n0, k0⟩ := after_call es0 (Ext.refl es0.ok) hi g1 q
  exact ⟨A, .ref a, [], m, [], p, o, rfl, es0.ok, r0, n0, .nil, h, k0⟩
/-- f(x, e, ..), x the name of slot i -/
theorem eo_call {p0 : Pos} (G : FnM c.X.prog c.X.w c.X.K c.X.mg c.X.base c.T x k rel) (tk : Takes c.X W) (hv : PE c.X (.Name y py) (tVar i)) (hi : ρ[i]? = some (some m)) (ha : AskA c ρ es ds) (h : rel m ds o) (hr : Room k c.X.A) (hg : Gl c.X x := by rfl) (hd : (x == ("__debug__" : Str)) = false := by decide)
    (hs : starEach (.Name y py :: es) c.X.env = (false, eval (.Name y py) c.X.env) :: starEach es c.X.env := by rfl) (hpl : (backTo pos (starEach es c.X.env)).any (·.1) = false := by rfl) : Eo c W (.Call (.Name x p0) (.Name y py :: es) [] pos) ρ (o.oc i ρ) := fun A H σ fp es0 Q q => by
  refine ⟨fun pins s I => ?_⟩
  obtain ⟨f, fd, ps, F, hm, hk, hb⟩ := G.ex
  obtain ⟨v0, p, g1, g2, _⟩ := es0.alter hi
  refine (pe_callS F hr hg hm hk hb (fun σ => passAt tk σ) (pa_cons hv pa_tw hs) hd hs hpl).run pins s σ H Q I ⟨_, g1, es0.askA ha fun vs A2 H2 x ok r => ?_⟩
  obtain ⟨p, r0, n0, k0⟩ := after_call es0 x hi g1 q
  exact ⟨A2, v0, vs, m, ds, p, o, rfl, ok, r0, n0, r, h, k0⟩
/-- C(e, ..) -/
theorem passes_no {P : Program} {w : World} {X : Cx} : Passes (L2.CX P w) X (fun _ _ _ => False) := fun _ _ _ _ _ _ _ h => by
  obtain ⟨_, _, _, _, _, _, _, _, _, _, _, _, z⟩ := h
  exact z.elim
theorem made {K : PySem.W.Frag} {T : List Addr} {A H : Hp} {vs : List V} {Q : VK} {m' : M} {E : XK} (ok : Ok T A H) (r : RpL K A vs ds) (h : rel (.ob C []) ds (.ret (.im .non) m')) (q : KM K A H m' Q) (a dx : Addr) (na : H a = none) (nd : H dx = none) (ne : dx ≠ a) :
    spM K T rel (.ref a :: vs) (upd (upd H dx (.own a)) a (.ins C dx [])) (fun v H2 => v = .non ∧ Q (.ref a) H2) E := by
  have x1 := ext_new (o := .own a) ok nd
  have na1 : upd H dx (.own a) a = none := by rw [upd_ne (Ne.symm ne)]; exact na
  have x2 := ext_new (o := .ins C dx []) (x1.ok ok) na1
  have xx := x1.tr0 x2
  refine ⟨A, .ref a, vs, .ob C [], ds, [a], .ret (.im .non) m', rfl, xx.ok ok, .ob upd_same (ok.none na) .nil, by simp, r, h, fun v A2 H2 q2 p' ok2 x3 r1 r2 n f1 f2 => ?_⟩
  cases r1 with
  | im r1 =>
  cases r1
  have fr : ∀ b ∈ p', H b = none := fun b hb => by
    rcases f2 b hb with z | z
    · rcases List.mem_cons.mp z with e | e
      · rw [e]; exact na
      · cases e
    · cases e : H b with
      | none => rfl
      | some o => exact absurd z (xx.dm b (by rw [e]; simp))
  refine ⟨rfl, q _ A2 H2 p' (xx.trans x3 fun b hb => ?_) r2 fr (by simpa using n)⟩
  rcases List.mem_cons.mp hb with e | e
  · rw [e]; exact .inr na
  · cases e
end
section
variable {X : Cx} {T : List Addr} {ρ : Rho} {e : Expr} {es : List Expr} {ds : List D} {k : Nat} {x : Str} {C : Addr} {rel : M → List D → Om → Prop} {m' : M} {p pos : Pos}
theorem me_make (G : MkM X.prog X.w X.K X.mg X.base T x C k rel) (ha : As X T (e :: es) ρ ds) (h : rel (.ob C []) ds (.ret (.im .non) m')) (hr : Room (k + 1) X.A) (hg : Gl X x := by rfl) (hd : (x == ("__debug__" : Str)) = false := by decide)
    (hs : starEach (e :: es) X.env = (false, eval e X.env) :: starEach es X.env := by rfl) (hpl : (backTo pos (starEach es X.env)).any (·.1) = false := by rfl) : Me X T (.Call (.Name x p) (e :: es) [] pos) ρ m' := by
  obtain ⟨f, fd, ps, F, hm, hk, hb⟩ := G.ex
  exact me_of (pe_make hk F hr hg hm hb .nil passes_no pa_tw hd hs hpl) fun A H σ s l Q q => ha A H σ s l _ fun vs A1 H1 x1 r1 a dx na nd ne => by
    rw [List.append_nil]
    exact made (x1.ok s) r1 h (q.back x1) a dx na nd ne
theorem me_make0 (G : MkM X.prog X.w X.K X.mg X.base T x C k rel) (h : rel (.ob C []) [] (.ret (.im .non) m')) (hr : Room (k + 1) X.A) (hg : Gl X x := by rfl) (hd : (x == ("__debug__" : Str)) = false := by decide) : Me X T (.Call (.Name x p) [] [] pos) ρ m' := by
  obtain ⟨f, fd, ps, F, hm, hk, hb⟩ := G.ex
  exact me_of (pe_make0 hk F hr hg hm hb .nil passes_no hd) fun A H σ s l Q q a dx na nd ne => made s .nil h q a dx na nd ne
end
section
variable {c : Fc} {W : WX} {D : Ends} {ρ : Rhm} {e : Expr} {m : M} {i : Nat} {f : Str} {C : Addr} {ms : List (Str × M)} {st : Stmt} {tv : TE}
/-- x.f = e, x the name of slot i -/
theorem ss_fld (hps : PS c.X st (sFld c.X.K (tVar i) (tw c.X e) f)) (h : Asks c ρ e m) (hi : ρ[i]? = some (some (.ob C ms))) (hc : Cls c.X.K C) (hn : NoAttr c.X.K C f) (hl : ms.length < 1000) (q : Nx c D.nx (ρ.set i (some (.ob C (putM f m ms))))) : Ss c st D ρ :=
  ss_of hps fun A H σ fp es => es.ask h fun y A2 H2 p x ok r fr n => by
    obtain ⟨v0, p0, g1, g2, g3, g4, g5⟩ := es.alter hi
    cases g2 with
    | @ob a _ dx fs _ fp0 e1 n1 r1 =>
    obtain ⟨n3, n4⟩ := List.nodup_cons.mp g3
    have lv := es.live
    have dis : ∀ b ∈ p, b ∉ a :: fp0 := fun b hb z => lv b (g4 b z) (fr b hb)
    have la : H a ≠ none := lv a (g4 a (List.mem_cons_self ..))
    have e2 : H2 a = some (.ins C dx fs) := x.hh a _ e1 (mut_noTab trivial) fun z => nomatch z
    have n2a : A2 a = none := (x.nw a la).trans n1
    have r1' : RMs c.X.K A2 H2 Str fs ms fp0 := RMs.mono x.aa r1 (fun b hb => by
      obtain ⟨_, t2⟩ := RMs.there r1 b hb
      cases q0 : H b with
      | none => rw [q0] at t2; exact t2.elim
      | some o0 =>
        rw [q0] at t2
        exact x.hh b o0 q0 (mut_noTab t2) fun z => nomatch z) fun b hb => (x.nw b (lv b (g4 b (List.mem_cons_of_mem _ hb)))).trans (RMs.there r1 b hb).1
    obtain ⟨fp', r2, n2, f2⟩ := RMs.put (f := f) r r1' n n4 fun b hb z => dis b hb (List.mem_cons_of_mem _ z)
    have na' : ∀ b ∈ fp', b ≠ a := fun b hb z => by
      subst z
      rcases f2 b hb with w | w
      · exact dis b w (List.mem_cons_self ..)
      · exact n3 w
    have mx := ext_mut (o' := .ins C dx (putF f y fs)) ok e2 trivial n2a
    have r3 : RMs c.X.K A2 (upd H2 a (.ins C dx (putF f y fs))) Str (putF f y fs) (putM f m ms) fp' := RMs.mono (Same.refl _) r2 (fun b hb => upd_ne (na' b hb)) fun b hb => (RMs.there r2 b hb).1
    have xm : Ext (a :: fp0) A H A2 (upd H2 a (.ins C dx (putF f y fs))) := Ext.trans ⟨x.aa, fun b o z w u => x.hh b o z w fun q => (nomatch q), x.ah, x.nt, x.nw, x.dm, x.tb⟩ mx fun b hb => by
      rcases List.mem_cons.mp hb with e | e
      · exact .inl (e ▸ List.mem_cons_self ..)
      · cases e
    obtain ⟨fp2, es3, _⟩ := g5 A2 _ (.ob C (putM f m ms)) (a :: fp') xm (.ob upd_same n2a r3) (List.nodup_cons.mpr ⟨fun z => na' a z rfl, n2⟩) fun b hb => by
        rcases List.mem_cons.mp hb with w | w
        · exact .inl (w ▸ List.mem_cons_self ..)
        · rcases f2 b w with u | u
          · exact .inr (fr b u)
          · exact .inl (List.mem_cons_of_mem _ u)
    exact ⟨_, g1, a, C, dx, fs, rfl, e2, hc, hn, by rw [r1.length]; exact hl, q A2 _ σ fp2 es3⟩
end
end Kf

set_option maxHeartbeats 1000000
/-! Kf: methods that only look; raise, try; targets of tuples; == of data. -/
namespace Kf
open PySem L2

/-! ### methods that only look -/
structure Mt (P : Program) (w : World) (K : PySem.W.Frag) (mg : Str → Option Value) (base : Heap) (T : List Addr) (C : Addr) (x : Str) (k : Nat) (rel : List D → M → Prop) : Prop where
  ex : ∃ f fd ps, FnOk P w K mg base CX0 k f fd ps (spP K T rel) ∧ Cls K C ∧ Meth K C x f ∧ Binds K fd ps []
section
variable {X : Cx} {T : List Addr} {ρ : Rho} {m : M} {d : D} {ds : List D} {e o : Expr} {es : List Expr} {k : Nat} {rel : List D → M → Prop} {x mn : Str} {C : Addr} {fs : List (Str × D)} {p pos apos : Pos}
theorem me_meth {pl : Sem Bool} (G : Mt X.prog X.w X.K X.mg X.base T C mn k rel) (ho : Ie X T o ρ (.ins C fs)) (hn : mn ∉ fs.map (·.1)) (ha : As X T (e :: es) ρ ds) (h : rel (.ins C fs :: ds) m) (hr : Room k X.A)
    (hst : starEach (e :: es) X.env = (false, eval e X.env) :: starEach es X.env := by rfl) (hpl : (backTo pos (starEach es X.env)).any (·.1) = false := by rfl)
    (ht : eval (.Call (.Attribute o mn apos) (e :: es) [] pos) X.env = (do
      let ov ← eval o X.env
      standAt apos.atName
      let (f, first) ← holding [ov] (getMethod ov mn pl)
      callWith pos f first (backTo pos (starEach (e :: es) X.env)) (backToKw pos (keywordEach [] X.env))) := by rfl) : Me X T (.Call (.Attribute o mn apos) (e :: es) [] pos) ρ m := by
  obtain ⟨f, fd, ps, F, hcl, hm, hb⟩ := G.ex
  refine me_of (pe_meth pe_tw hcl hm F hr hb .nil pass0 pa_tw hst hpl ht) fun A H σ s l Q q => ho A H σ s l _ fun v A1 H1 x1 r1 => ?_
  have r1' := r1
  cases r1 with
  | ins e1 r1 =>
  exact ⟨_, _, _, rfl, (x1.ok s).s _ _ e1, r1.lookN (lookup_keys hn), ha A1 H1 σ (x1.ok s) (l.step x1) _ fun vs A2 H2 x2 r2 => ⟨A2, .ins C fs :: ds, m, x2.ok (x1.ok s), by rw [List.append_nil]; exact .cons (r1'.mono x2.aa) r2, h, q.back (x1.tr0 x2)⟩⟩
theorem me_meth0 {pl : Sem Bool} (G : Mt X.prog X.w X.K X.mg X.base T C mn k rel) (ho : Ie X T o ρ (.ins C fs)) (hn : mn ∉ fs.map (·.1)) (h : rel [.ins C fs] m) (hr : Room k X.A)
    (ht : eval (.Call (.Attribute o mn apos) [] [] pos) X.env = (do
      let ov ← eval o X.env
      standAt apos.atName
      let (f, first) ← holding [ov] (getMethod ov mn pl)
      callWith pos f first (backTo pos (starEach [] X.env)) (backToKw pos (keywordEach [] X.env))) := by rfl) : Me X T (.Call (.Attribute o mn apos) [] [] pos) ρ m := by
  obtain ⟨f, fd, ps, F, hcl, hm, hb⟩ := G.ex
  refine me_of (pe_meth0 pe_tw hcl hm F hr hb .nil pass0 ht) fun A H σ s l Q q => ho A H σ s l _ fun v A1 H1 x1 r1 => ?_
  have r1' := r1
  cases r1 with
  | ins e1 r1 =>
  exact ⟨_, _, _, rfl, (x1.ok s).s _ _ e1, r1.lookN (lookup_keys hn), ⟨A1, [.ins C fs], m, x1.ok s, .cons r1' .nil, h, q.back x1⟩⟩
end

/-! ### raise -/
/-- an own error class as it stands for those who raise it -/
structure XcM (P : Program) (w : World) (K : PySem.W.Frag) (mg : Str → Option Value) (base : Heap) (x : Str) (C : Addr) (fld : Str) (okv : V → Prop) : Prop where
  oex : OexC K C
  mgx : mg x = some (.ref C)
  ex : ∃ f fd ps, FnOk P w K mg base CX0 1 f fd ps (spXI okv C fld) ∧ Binds K fd ps [] ∧ PySem.W.findIn K (.ref C) "__init__" = some (some (.ref f)) ∧ PySem.W.typeIn K (.ref f) = some (.type "function")
section
variable {c : Fc} {W : WX} {D : Ends} {ρ : Rhm} {e : Expr} {m : M} {d : Kf.D} {i : Nat} {x fld : Str} {C : Addr} {okv : V → Prop} {p p2 pos : Pos}
theorem upd_over {H : Hp} {a b : Addr} {o1 o2 o3 o4 : HO} (na : H a = none) (ne : b ≠ a) : upd (del (upd (upd (upd H a o1) b o2) a o3) a) b o4 = upd H b o4 := by
  funext z
  by_cases h : z = b
  · rw [h, upd_same, upd_same]
  · rw [upd_ne h, upd_ne h]
    by_cases h2 : z = a
    · rw [h2, del_same, na]
    · rw [del_ne h2, upd_ne h2, upd_ne h, upd_ne h2]
theorem ss_raise (G : XcM c.X.prog c.X.w c.X.K c.X.mg c.X.base x C fld okv) (hc : c.X.calm = true) (tk : Takes c.X W) (h : AskA c ρ [e] [d]) (hok : ∀ A v, Rp c.X.K A v d → okv v) (q : Xx c W C fld d ρ) (hr : Room 2 c.X.A) (hg : Gl c.X x := by rfl) (hd : (x == ("__debug__" : Str)) = false := by decide)
    (he : starEach [e] c.X.env = (false, eval e c.X.env) :: starEach [] c.X.env := by rfl) : Ss c (.Raise (some (.Call (.Name x p) [e] [] p2)) none pos) D ρ := by
  obtain ⟨f, fd, ps, F, hb, i1, i2⟩ := G.ex
  refine ss_of (ps_raise hc tk (pmk_oex G.oex i1 i2 F hr hb .nil pass0 hg G.mgx pa_tw hd he rfl)) fun A H σ fp es => ?_
  show twA c.X [e] σ H _
  refine es.askA h fun vs A2 H2 x2 ok r => ?_
  obtain ⟨v, rfl, r0⟩ := r.one
  refine ⟨(by simp : [v].length ≤ 1000), fun a na => ⟨a, v, rfl, hok _ _ r0, upd_same, fun dx nd ne => ⟨rfl, dx, [(fld, v)], upd_same, by rw [upd_ne ne, upd_same], ?_, ?_⟩⟩⟩
  · rw [upd_ne ne] at nd; exact nd
  · rw [upd_ne ne] at nd
    rw [upd_over na ne]
    have x3 := ext_new (o := .xd [(fld, v)]) ok nd
    exact q A2 _ σ fp dx v ((es.step0 x2).step0 x3) upd_same r0
end

/-! ### try -/
abbrev Fc.at (c : Fc) (X : Cx) : Fc := { c with X := X }
theorem Es.to {c : Fc} {X : Cx} {A H : Hp} {σ : L2.St} {ρ : Rhm} {fp : List Addr} (es : Es c A H σ ρ fp) (hK : X.K = c.X.K := by rfl) : Es (c.at X) A H σ ρ fp := ⟨es.ok, es.x, by show Sls X.K A H σ ρ fp; rw [hK]; exact es.sl, es.nd, es.own, es.pn, es.fix⟩
theorem Es.fro {c : Fc} {X : Cx} {A H : Hp} {σ : L2.St} {ρ : Rhm} {fp : List Addr} (es : Es (c.at X) A H σ ρ fp) (hK : X.K = c.X.K := by rfl) : Es c A H σ ρ fp := ⟨es.ok, es.x, by have h : Sls X.K A H σ ρ fp := es.sl; rw [hK] at h; exact h, es.nd, es.own, es.pn, es.fix⟩
def twTry (X : Cx) (sts : List Stmt) (W : WX) : TS := fun D σ H => ∀ (pn : List (Addr × Obj)) (xe : Value → Shared → Prop), Takes (X.tr pn xe) W → PassesOwn (model X.prog X.w) X.A X.env xe → twss (X.tr pn xe) sts D σ H
def twSui (X : Cx) (sts : List Stmt) (a : Addr) (cls : Value) (d : Option Addr) : TS := fun D σ H => ∀ (oe : Obj) (pn : List (Addr × Obj)), Zc cls d oe → (∃ vs, oe.data = .fields vs) → twss (X.suite a ((a, oe) :: pn)) sts D σ H
/-- the ends of a suite: the error's name goes -/
def sEnds (D : Ends) (i : Nat) : Ends := { nx := fun σ' H' => D.nx (σ'.set i none) H', rt := D.rt, bk := fun σ' H' => D.bk (σ'.set i none) H', ct := fun σ' H' => D.ct (σ'.set i none) H' }
/-- what an except suite comes to: from an error of the class at C, held by slot i -/
def Cau (c : Fc) (i : Nat) (b : List Stmt) (D : Ends) (C : Addr) (f : Str) (d : Kf.D) (ρ : Rhm) : Prop :=
  ∀ A H σ fp a e v, Es c A H σ ρ fp → H a = none → H e = some (.xd [(f, v)]) → Rp c.X.K A v d → twSui c.X b a (.ref C) (some e) (sEnds D i) (σ.set i (some (.ref a))) H
def CauO (c : Fc) (b : List Stmt) (D : Ends) (C : Addr) (f : Str) (d : Kf.D) (ρ : Rhm) : Prop :=
  ∀ A H σ fp a e v, Es c A H σ ρ fp → H a = none → H e = some (.xd [(f, v)]) → Rp c.X.K A v d → twSui c.X b a (.ref C) (some e) D σ H
section
variable {c : Fc} {W : WX} {D : Ends} {ρ : Rhm} {e : Expr} {m : M} {d : Kf.D} {i : Nat} {x n f : Str} {C : Addr} {cc : Value} {body suite : List Stmt} {b₀ : Stmt} {np pos pos' : Pos}
theorem ss_tryAs (HX : Addr → Str → Kf.D → Rhm → Prop) (hs : c.X.stack = c.X.env :: c.X.outer) (hf : c.X.env.frame = some c.X.env.locals) (hN : c.X.N.Nodup) (hi : c.X.N[i]? = some n) (hln : c.X.env.kindOf n = some .local) (hc : Names c.X x cc) (tk : Takes c.X W)
    (hb : ∀ (W' : WX) (pn : List (Addr × Obj)) (xe : Value → Shared → Prop), Takes (c.X.tr pn xe) W' → PassesOwn (model c.X.prog c.X.w) c.X.A c.X.env xe → (∀ C f d ρ', HX C f d ρ' → Xx (c.at (c.X.tr pn xe)) W' C f d ρ') → Gs (c.at (c.X.tr pn xe)) body D ρ)
    (hx : ∀ C f d ρ', HX C f d ρ' → (PySem.W.exmOne c.X.K (.ref C) cc = some true ∧ Cau c i (b₀ :: suite) D C f d ρ') ∨ (PySem.W.exmOne c.X.K (.ref C) cc = some false ∧ Xx c W C f d ρ')) :
    Ss c (.Try body [.ExceptHandler (some (.Name x np)) (some n) (b₀ :: suite) pos'] [] [] pos) D ρ := by
  refine ss_of (ps_try_as (tb := twTry c.X body) (ts := twSui c.X (b₀ :: suite)) hs hf hN hi hln hc tk (fun W' pn xe tk' pa => ⟨fun pins s σ H D' I h => (h pn xe tk' pa).go pins s I⟩) fun a oe cls dd pn hz hv => ⟨fun pins s σ H D' I h => (h oe pn hz hv).go pins s I⟩) fun A H σ fp es => ?_
  intro pn xe tk' pa
  refine hb _ pn xe tk' pa (fun C f d ρ' hX A2 H2 σ2 fp2 ea v es2 he rd => ?_) A H σ fp es.to
  rcases hx C f d ρ' hX with ⟨h1, h2⟩ | ⟨h1, h2⟩
  · exact ⟨true, h1, fun _ a na => h2 A2 H2 σ2 fp2 a ea v es2.fro na he rd, fun z => nomatch z⟩
  · exact ⟨false, h1, fun z => (nomatch z), fun _ => h2 A2 H2 σ2 fp2 ea v es2.fro he rd⟩
theorem ss_tryO (HX : Addr → Str → Kf.D → Rhm → Prop) (hs : c.X.stack = c.X.env :: c.X.outer) (hf : c.X.env.frame = some c.X.env.locals) (hc : Names c.X x cc) (tk : Takes c.X W)
    (hb : ∀ (W' : WX) (pn : List (Addr × Obj)) (xe : Value → Shared → Prop), Takes (c.X.tr pn xe) W' → PassesOwn (model c.X.prog c.X.w) c.X.A c.X.env xe → (∀ C f d ρ', HX C f d ρ' → Xx (c.at (c.X.tr pn xe)) W' C f d ρ') → Gs (c.at (c.X.tr pn xe)) body D ρ)
    (hx : ∀ C f d ρ', HX C f d ρ' → (PySem.W.exmOne c.X.K (.ref C) cc = some true ∧ CauO c (b₀ :: suite) D C f d ρ') ∨ (PySem.W.exmOne c.X.K (.ref C) cc = some false ∧ Xx c W C f d ρ')) :
    Ss c (.Try body [.ExceptHandler (some (.Name x np)) none (b₀ :: suite) pos'] [] [] pos) D ρ := by
  refine ss_of (ps_try_only (tb := twTry c.X body) (ts := twSui c.X (b₀ :: suite)) hs hf hc tk (fun W' pn xe tk' pa => ⟨fun pins s σ H D' I h => (h pn xe tk' pa).go pins s I⟩) fun a oe cls dd pn hz hv => ⟨fun pins s σ H D' I h => (h oe pn hz hv).go pins s I⟩) fun A H σ fp es => ?_
  intro pn xe tk' pa
  refine hb _ pn xe tk' pa (fun C f d ρ' hX A2 H2 σ2 fp2 ea v es2 he rd => ?_) A H σ fp es.to
  rcases hx C f d ρ' hX with ⟨h1, h2⟩ | ⟨h1, h2⟩
  · exact ⟨true, h1, fun _ a na => h2 A2 H2 σ2 fp2 a ea v es2.fro na he rd, fun z => nomatch z⟩
  · exact ⟨false, h1, fun z => (nomatch z), fun _ => h2 A2 H2 σ2 fp2 ea v es2.fro he rd⟩
/-- a wish that can't be met: nothing is raised -/
def wNo : WX := fun _ _ _ _ => False
theorem takes_no {X : Cx} : Takes X wNo := fun u s' ⟨_, _, _, _, _, _, _, _, _, _, _, _, _, _, _, _, z⟩ => z.elim
/-- return e.f, in a suite -/
theorem cau_ret {p1 p2 p3 : Pos} (T : XfC c.X.K C) (hno : PySem.W.findIn c.X.K (.ref C) f = some none) (hN : c.X.N[i]? = some n) (hl : Vis c.X.env.scope n) (hdb : (n == ("__debug__" : Str)) = false := by decide) (hdc : (n == ("__classdict__" : Str)) = false := by decide) (hi : i < ρ.length) (q : Rh c D.rt (.im d) ρ) :
    Cau c i [.Return (some (.Attribute (.Name n p1) f p2)) p3] D C f d ρ := fun A H σ fp a e v es na he rd oe pn hz hv => by
  refine ⟨fun pins s I => (pss_one (ps_ret (pe_xf (d := some e) T hno hz hv (pe_var (i := i) hN hl hdb hdc)))).run pins s _ H _ I ?_⟩
  have hs : i < σ.length := by rw [es.sl.len]; exact hi
  exact ⟨.ref a, by rw [List.getElem?_set_self hs], rfl, rfl, e, _, v, rfl, he, by rw [List.lookup_cons, beq_self_eq_true], q v A H σ [] fp es (.im rd) List.nodup_nil fun _ z => nomatch z⟩
end

/-! ### a, b, .. = e, e a tuple -/
def gNames : List Nat → TGs
  | [] => gNil
  | i :: r => gCons (gName i) (gNames r)
def setAll (ρ : Rhm) : List Nat → List Kf.D → Rhm
  | i :: is, d :: ds => setAll (ρ.set i (some (.im d))) is ds
  | _, _ => ρ
section
variable {c : Fc} {D : Ends} {ρ : Rhm} {e : Expr} {m : M} {d : Kf.D} {ds : List Kf.D} {is : List Nat} {st : Stmt} {n : Nat}
theorem es_setAll {K : PySem.W.Frag} : ∀ (is : List Nat) (ds : List Kf.D) (vs : List V) {ρ : Rhm} {A H : Hp} {σ : L2.St} {fp : List Addr}, Es c A H σ ρ fp → RpL c.X.K A vs ds → is.length = ds.length → (∀ i ∈ is, i < ρ.length ∧ (c.S0 = none ∨ i ≠ 0)) → ∀ {Q : L2.St → Hp → Prop}, (∀ σ' fp', Es c A H σ' (setAll ρ is ds) fp' → Q σ' H) → gNames is vs σ H Q
  | [], [], _, _, _, _, _, _, es, .nil, _, _, _, q => ⟨rfl, q _ _ es⟩
  | i :: is, d :: ds, _, ρ, A, H, σ, fp, es, .cons (v := v) h r, l, b, Q, q => by
    obtain ⟨fp', es'⟩ := es.seti h (b i (List.mem_cons_self ..)).1 (b i (List.mem_cons_self ..)).2
    exact ⟨v, _, rfl, es_setAll (K := K) is ds _ es' r (by simpa using l) (fun j hj => ⟨by rw [List.length_set]; exact (b j (List.mem_cons_of_mem _ hj)).1, (b j (List.mem_cons_of_mem _ hj)).2⟩) q⟩
theorem ss_unp (hps : PS c.X st (tAsg (tw c.X e) (gTup c.X.K n (gNames is)))) (h : Asks c ρ e (.im (.tup ds))) (hl : ds.length = n) (hn : is.length = n) (hi : ∀ i ∈ is, i < ρ.length ∧ (c.S0 = none ∨ i ≠ 0)) (q : Nx c D.nx (setAll ρ is ds)) : Ss c st D ρ :=
  ss_of hps fun A H σ fp es => es.ask h fun v A2 H2 p x ok r f nd => by
    have es2 := es.step0 x
    cases r with
    | im r =>
    cases r with
    | @tup a xs _ e1 r1 =>
    exact ⟨a, xs, rfl, seqT_mono ok.s e1, by rw [r1.len]; exact hl, es_setAll (K := c.X.K) is ds xs es2 r1 (by rw [hl, hn]) hi fun σ' fp' es' => q A2 H2 σ' fp' es'⟩
end

/-! ### == of data -/
mutual
def py : D → PyData
  | .non => .none
  | .bl b => .bool b
  | .int i => .int i
  | .str x => .str x
  | .lst ds => .list (pys ds)
  | .fls ds => .list (pys ds)
  | .tup ds => .tuple (pys ds)
  | .dic _ => .none
  | .ins _ _ => .none
def pys : List D → List PyData
  | [] => []
  | d :: ds => py d :: pys ds
end
mutual
/-- no dict, no instance -/
def pyb : D → Bool
  | .lst ds => pybs ds
  | .fls ds => pybs ds
  | .tup ds => pybs ds
  | .dic _ => false
  | .ins _ _ => false
  | _ => true
def pybs : List D → Bool
  | [] => true
  | d :: ds => pyb d && pybs ds
end
mutual
theorem Rp.dp {K : PySem.W.Frag} {A H : Hp} (s : Same A H) : ∀ {v : V} {d : D}, Rp K A v d → pyb d = true → Dp K H v (py d)
  | _, _, .non, _ => by rw [py]; exact .non
  | _, _, .bl b, _ => by rw [py]; exact .bl b
  | _, _, .int i, _ => by rw [py]; exact .int i
  | _, _, .str x, _ => by rw [py]; exact .str x
  | _, _, .lst h r, z => by rw [py]; rw [pyb] at z; exact .lst (SqL.of (s _ _ h)) (RpL.dp s r z)
  | _, _, .fls h r, z => by rw [py]; rw [pyb] at z; exact .lst (s.seq h) (RpL.dp s r z)
  | _, _, .tup h r, z => by rw [py]; rw [pyb] at z; exact .tup (seqT_mono s h) (RpL.dp s r z)
  | _, _, .dic h r, z => by rw [pyb] at z; cases z
  | _, _, .ins h r, z => by rw [pyb] at z; cases z
theorem RpL.dp {K : PySem.W.Frag} {A H : Hp} (s : Same A H) : ∀ {vs : List V} {ds : List D}, RpL K A vs ds → pybs ds = true → DpAll K H vs (pys ds)
  | _, _, .nil, _ => by rw [pys]; exact .nil
  | _, _, .cons h r, z => by
    rw [pys]
    rw [pybs, Bool.and_eq_true] at z
    exact .cons (Rp.dp s h z.1) (RpL.dp s r z.2)
end
/-- may be compared -/
def cmpD (d : D) : Bool := pyb d && SeqAt.shaped (py d)
def eqD (d e : D) : Bool := PyData.eqv (py d) (py e)
section
variable {X : Cx} {T : List Addr} {d1 d2 : D}
theorem o_eqD (h1 : cmpD d1 = true) (h2 : cmpD d2 = true) (hu : X.A.units + 64 < cLine) : Op X T (compareOp .Eq) d1 d2 (.im (.bl (eqD d1 d2))) := op_of (op_eqD hu) fun A H v u s rv ru Q k => by
  obtain ⟨a1, a2⟩ := (Bool.and_eq_true _ _).mp h1
  obtain ⟨b1, b2⟩ := (Bool.and_eq_true _ _).mp h2
  exact ⟨_, _, rv.dp s.s a1, ru.dp s.s b1, a2, b2, k.now s (.bl _)⟩
theorem o_neD (h1 : cmpD d1 = true) (h2 : cmpD d2 = true) (hu : X.A.units + 64 < cLine) : Op X T (compareOp .NotEq) d1 d2 (.im (.bl (!eqD d1 d2))) := op_of (op_neD hu) fun A H v u s rv ru Q k => by
  obtain ⟨a1, a2⟩ := (Bool.and_eq_true _ _).mp h1
  obtain ⟨b1, b2⟩ := (Bool.and_eq_true _ _).mp h2
  exact ⟨_, _, rv.dp s.s a1, ru.dp s.s b1, a2, b2, k.now s (.bl _)⟩
theorem eqD_refl {d : D} (h : cmpD d = true) : eqD d d = true := PySem.SeqAt.eqv_refl _ (SeqAt.canLay_of_shaped ((Bool.and_eq_true _ _).mp h).2)
end
end Kf

set_option maxHeartbeats 1000000
/-! Kf: comprehensions over tuples; small rules. -/
namespace Kf
open PySem L2
section
variable {X : Cx} {T : List Addr} {ρ : Rho} {m : M} {d : D} {ds : List D} {i : Nat} {scope : Scope} {elt l t : Expr} {e : Expr}
/-- [elt for x in l], l data of a tuple -/
theorem me_lcT (hpe : PE X e (tLc (iTup X.K (tw X l)) (gName i) tYes (twB X scope elt) [i])) (hl : Ie X T l ρ (.tup ds)) (f : D → D) (hz : ds.length < sizeLine) (hi : i < X.N.length)
    (he : ∀ d ∈ ds, Be X T scope elt ((ρ.set i none).set i (some (.im d))) (f d)) : Me X T e ρ (.ls (ds.map f)) := by
  intro A H σ s l0 Q k
  refine ⟨fun pins st I => ?_⟩
  have hσ : i < σ.length := by rw [I.len]; exact hi
  refine hpe.run pins st σ H Q I (hl A H σ s l0 _ fun v A1 H1 x1 r1 => ?_)
  cases r1 with
  | @tup a xs _ e1 r1 =>
  refine ⟨a, rfl, ⟨xs, seqT_mono (x1.ok s).s e1⟩, fun Dl hD => lc_tup (xs := xs) (fun j H => Acc X.K T A1 H1 Dl ((ds.take j).map f) H) (Acc.first (x1.ok s) hD) ?_ ?_ ?_⟩
  · rintro j H _ ⟨A2, acc, ok, x, _⟩
    exact seqT_mono ok.s (seqT_mono x.aa e1)
  · rintro j y H hj ⟨A2, acc, ok, x, n, ha, ra⟩
    obtain ⟨d, hd, rd⟩ := r1.of hj
    refine ⟨?_, ?_⟩
    · show ((σ.set i none).set i (some y)).set i none = σ.set i none
      rw [List.set_set, List.set_set]
    · refine tyes ?_
      rw [if_pos rfl]
      refine (he d (List.mem_of_getElem? hd)).did A2 H _ ok (((l0.step x1).step x).blk (rd.mono x.aa) hσ) _ fun v2 A3 H3 x3 r3 => ?_
      refine ⟨acc, x3.same _ _ ha (fun _ z => nomatch z), ?_, ?_⟩
      · rw [ra.len, List.length_map, List.length_take]
        omega
      · have q := Acc.more hD x n ha ra x3 (x3.ok ok) r3
        have e2 : (ds.take (j + 1)).map f = (ds.take j).map f ++ [f d] := by
          rw [List.take_add_one, hd, List.map_append]
          rfl
        rw [e2]
        exact q
  · intro H h
    rw [r1.len, List.take_length] at h
    exact h.out hD (k.back x1)
/-- [elt for x in l if t], l data of a tuple -/
theorem me_lcfT (hpe : PE X e (tLc (iTup X.K (tw X l)) (gName i) (twBT X scope t) (twB X scope elt) [i])) (hl : Ie X T l ρ (.tup ds)) (f : D → D) (g : D → Bool) (hz : ds.length < sizeLine) (hi : i < X.N.length)
    (ht : ∀ d ∈ ds, Bt X T scope t ((ρ.set i none).set i (some (.im d))) (g d)) (he : ∀ d ∈ ds, g d = true → Be X T scope elt ((ρ.set i none).set i (some (.im d))) (f d)) : Me X T e ρ (.ls ((ds.filter g).map f)) := by
  intro A H σ s l0 Q k
  refine ⟨fun pins st I => ?_⟩
  have hσ : i < σ.length := by rw [I.len]; exact hi
  refine hpe.run pins st σ H Q I (hl A H σ s l0 _ fun v A1 H1 x1 r1 => ?_)
  cases r1 with
  | @tup a xs _ e1 r1 =>
  refine ⟨a, rfl, ⟨xs, seqT_mono (x1.ok s).s e1⟩, fun Dl hD => lc_tup (xs := xs) (fun j H => Acc X.K T A1 H1 Dl (((ds.take j).filter g).map f) H) (Acc.first (x1.ok s) hD) ?_ ?_ ?_⟩
  · rintro j H _ ⟨A2, acc, ok, x, _⟩
    exact seqT_mono ok.s (seqT_mono x.aa e1)
  · rintro j y H hj ⟨A2, acc, ok, x, n, ha, ra⟩
    obtain ⟨d, hd, rd⟩ := r1.of hj
    have e2 : ds.take (j + 1) = ds.take j ++ [d] := by rw [List.take_add_one, hd]; rfl
    refine ⟨?_, ?_⟩
    · show ((σ.set i none).set i (some y)).set i none = σ.set i none
      rw [List.set_set, List.set_set]
    · refine (ht d (List.mem_of_getElem? hd)).dit A2 H _ ok (((l0.step x1).step x).blk (rd.mono x.aa) hσ) _ fun A3 H3 x3 => ?_
      cases hg : g d with
      | false =>
        rw [if_neg Bool.false_ne_true]
        refine ⟨A3, acc, x3.ok ok, x.tr0 x3, (x3.nw Dl (by rw [ha]; simp)).trans n, x3.same _ _ ha (fun _ z => nomatch z), ?_⟩
        rw [e2, List.filter_append, List.filter_cons, if_neg (by rw [hg]; exact Bool.false_ne_true), List.filter_nil, List.append_nil]
        exact ra.mono x3.aa
      | true =>
        rw [if_pos rfl]
        refine (he d (List.mem_of_getElem? hd) hg).did A3 H3 _ (x3.ok ok) ((((l0.step x1).step x).step x3).blk ((rd.mono x.aa).mono x3.aa) hσ) _ fun v2 A4 H4 x4 r4 => ?_
        have ha3 := x3.same _ _ ha (fun _ z => nomatch z)
        refine ⟨acc, x4.same _ _ ha3 (fun _ z => nomatch z), ?_, ?_⟩
        · rw [ra.len, List.length_map]
          have h9 := List.length_filter_le g (ds.take j)
          rw [List.length_take] at h9
          omega
        · have q := Acc.more hD (x.tr0 x3) ((x3.nw Dl (by rw [ha]; simp)).trans n) ha3 (ra.mono x3.aa) x4 (x4.ok (x3.ok ok)) r4
          rw [e2, List.filter_append, List.filter_cons, if_pos hg, List.filter_nil, List.map_append]
          exact q
  · intro H h
    rw [r1.len, List.take_length] at h
    exact h.out hD (k.back x1)
/-- a reading's worth where slot i is at hand -/
def Dln (T : List Addr) (K : PySem.W.Frag) (i : Nat) (te : TE) (ρ : Rho) (m : M) : Prop := ∀ A H σ, Ok T A H → Sl K A H σ ρ → i < σ.length → ∀ Q : VK, KM K A H m Q → te σ H Q
theorem den_lc (hl : Ie X T l ρ (.lst ds)) (f : D → D) (hz : ds.length < sizeLine)     (he : ∀ d ∈ ds, Be X T scope elt ((ρ.set i none).set i (some (.im d))) (f d)) : Dln T X.K i (tLc (iList X.K (tw X l)) (gName i) tYes (twB X scope elt) [i]) ρ (.ls (ds.map f)) := by
  intro A H σ s l0 hσ Q k
  refine (hl A H σ s l0 _ fun v A1 H1 x1 r1 => ?_)
  cases r1 with
  | @lst a xs _ e1 r1 =>
  refine ⟨a, rfl, ⟨xs, SqL.of ((x1.ok s).s _ _ e1)⟩, fun Dl hD => lc_list (xs := xs) (fun j H => Acc X.K T A1 H1 Dl ((ds.take j).map f) H) (Acc.first (x1.ok s) hD) ?_ ?_ ?_⟩
  · rintro j H _ ⟨A2, acc, ok, x, _⟩
    exact SqL.of (ok.s _ _ (x.aa _ _ e1))
  · rintro j y H hj ⟨A2, acc, ok, x, n, ha, ra⟩
    obtain ⟨d, hd, rd⟩ := r1.of hj
    refine ⟨?_, ?_⟩
    · show ((σ.set i none).set i (some y)).set i none = σ.set i none
      rw [List.set_set, List.set_set]
    · refine tyes ?_
      rw [if_pos rfl]
      refine (he d (List.mem_of_getElem? hd)).did A2 H _ ok (((l0.step x1).step x).blk (rd.mono x.aa) hσ) _ fun v2 A3 H3 x3 r3 => ?_
      refine ⟨acc, x3.same _ _ ha (fun _ z => nomatch z), ?_, ?_⟩
      · rw [ra.len, List.length_map, List.length_take]
        omega
      · have q := Acc.more hD x n ha ra x3 (x3.ok ok) r3
        have e2 : (ds.take (j + 1)).map f = (ds.take j).map f ++ [f d] := by
          rw [List.take_add_one, hd, List.map_append]
          rfl
        rw [e2]
        exact q
  · intro H h
    rw [r1.len, List.take_length] at h
    exact h.out hD (k.back x1)
theorem den_lcf (hl : Ie X T l ρ (.lst ds)) (f : D → D) (g : D → Bool) (hz : ds.length < sizeLine)     (ht : ∀ d ∈ ds, Bt X T scope t ((ρ.set i none).set i (some (.im d))) (g d)) (he : ∀ d ∈ ds, g d = true → Be X T scope elt ((ρ.set i none).set i (some (.im d))) (f d)) : Dln T X.K i (tLc (iList X.K (tw X l)) (gName i) (twBT X scope t) (twB X scope elt) [i]) ρ (.ls ((ds.filter g).map f)) := by
  intro A H σ s l0 hσ Q k
  refine (hl A H σ s l0 _ fun v A1 H1 x1 r1 => ?_)
  cases r1 with
  | @lst a xs _ e1 r1 =>
  refine ⟨a, rfl, ⟨xs, SqL.of ((x1.ok s).s _ _ e1)⟩, fun Dl hD => lc_list (xs := xs) (fun j H => Acc X.K T A1 H1 Dl (((ds.take j).filter g).map f) H) (Acc.first (x1.ok s) hD) ?_ ?_ ?_⟩
  · rintro j H _ ⟨A2, acc, ok, x, _⟩
    exact SqL.of (ok.s _ _ (x.aa _ _ e1))
  · rintro j y H hj ⟨A2, acc, ok, x, n, ha, ra⟩
    obtain ⟨d, hd, rd⟩ := r1.of hj
    have e2 : ds.take (j + 1) = ds.take j ++ [d] := by rw [List.take_add_one, hd]; rfl
    refine ⟨?_, ?_⟩
    · show ((σ.set i none).set i (some y)).set i none = σ.set i none
      rw [List.set_set, List.set_set]
    · refine (ht d (List.mem_of_getElem? hd)).dit A2 H _ ok (((l0.step x1).step x).blk (rd.mono x.aa) hσ) _ fun A3 H3 x3 => ?_
      cases hg : g d with
      | false =>
        rw [if_neg Bool.false_ne_true]
        refine ⟨A3, acc, x3.ok ok, x.tr0 x3, (x3.nw Dl (by rw [ha]; simp)).trans n, x3.same _ _ ha (fun _ z => nomatch z), ?_⟩
        rw [e2, List.filter_append, List.filter_cons, if_neg (by rw [hg]; exact Bool.false_ne_true), List.filter_nil, List.append_nil]
        exact ra.mono x3.aa
      | true =>
        rw [if_pos rfl]
        refine (he d (List.mem_of_getElem? hd) hg).did A3 H3 _ (x3.ok ok) ((((l0.step x1).step x).step x3).blk ((rd.mono x.aa).mono x3.aa) hσ) _ fun v2 A4 H4 x4 r4 => ?_
        have ha3 := x3.same _ _ ha (fun _ z => nomatch z)
        refine ⟨acc, x4.same _ _ ha3 (fun _ z => nomatch z), ?_, ?_⟩
        · rw [ra.len, List.length_map]
          have h9 := List.length_filter_le g (ds.take j)
          rw [List.length_take] at h9
          omega
        · have q := Acc.more hD (x.tr0 x3) ((x3.nw Dl (by rw [ha]; simp)).trans n) ha3 (ra.mono x3.aa) x4 (x4.ok (x3.ok ok)) r4
          rw [e2, List.filter_append, List.filter_cons, if_pos hg, List.filter_nil, List.map_append]
          exact q
  · intro H h
    rw [r1.len, List.take_length] at h
    exact h.out hD (k.back x1)
theorem den_lcR {n : Int} (hl : Ie X T l ρ (.int n)) (f : Nat → D) (hn : 0 ≤ n ∧ n < sizeLine)     (he : ∀ j : Nat, (j : Int) < n → Be X T scope elt ((ρ.set i none).set i (some (.im (.int j)))) (f j)) (hs : starEach [l] X.env = (false, eval l X.env) :: starEach [] X.env := by rfl) : Dln T X.K i (tLc (iRng1 (twA X [l])) (gName i) tYes (twB X scope elt) [i]) ρ (.ls ((List.range n.toNat).map f)) := by
  intro A H σ s l0 hσ Q k
  refine (as_cons hl as_nil hs A H σ s l0 _ fun vs A1 H1 x1 r1 => ?_)
  obtain ⟨v, rfl, r0⟩ := r1.one
  cases r0
  have hb : (sizeLine : Int) < 2 ^ 62 := by rw [show (sizeLine : Nat) = 16777216 from by rw [sizeLine_eq]]; decide
  refine ⟨n, rfl, by omega, by omega, fun Dl hD => lc_range (lo := 0) (n := n.toNat) (fun j H => Acc X.K T A1 H1 Dl ((List.range j).map f) H) (Acc.first (x1.ok s) hD) ?_ ?_⟩
  · rintro j H hj ⟨A2, acc, ok, x, n2, ha, ra⟩
    refine ⟨?_, ?_⟩
    · show ((σ.set i none).set i (some (V.int (0 + (j : Int))))).set i none = σ.set i none
      rw [List.set_set, List.set_set]
    · refine tyes ?_
      rw [if_pos rfl]
      have rj : Rp X.K A2 (V.int (0 + (j : Int))) (.int (j : Int)) := by rw [Int.zero_add]; exact .int _
      refine (he j (by omega)).did A2 H _ ok (((l0.step x1).step x).blk rj hσ) _ fun v2 A3 H3 x3 r3 => ?_
      refine ⟨acc, x3.same _ _ ha (fun _ z => nomatch z), ?_, ?_⟩
      · rw [ra.len, List.length_map, List.length_range]
        omega
      · have q := Acc.more hD x n2 ha ra x3 (x3.ok ok) r3
        rw [List.range_succ, List.map_append]
        exact q
  · intro H h
    exact h.out hD (k.back x1)

theorem den_lcT (hl : Ie X T l ρ (.tup ds)) (f : D → D) (hz : ds.length < sizeLine)     (he : ∀ d ∈ ds, Be X T scope elt ((ρ.set i none).set i (some (.im d))) (f d)) : Dln T X.K i (tLc (iTup X.K (tw X l)) (gName i) tYes (twB X scope elt) [i]) ρ (.ls (ds.map f)) := by
  intro A H σ s l0 hσ Q k
  refine (hl A H σ s l0 _ fun v A1 H1 x1 r1 => ?_)
  cases r1 with
  | @tup a xs _ e1 r1 =>
  refine ⟨a, rfl, ⟨xs, seqT_mono (x1.ok s).s e1⟩, fun Dl hD => lc_tup (xs := xs) (fun j H => Acc X.K T A1 H1 Dl ((ds.take j).map f) H) (Acc.first (x1.ok s) hD) ?_ ?_ ?_⟩
  · rintro j H _ ⟨A2, acc, ok, x, _⟩
    exact seqT_mono ok.s (seqT_mono x.aa e1)
  · rintro j y H hj ⟨A2, acc, ok, x, n, ha, ra⟩
    obtain ⟨d, hd, rd⟩ := r1.of hj
    refine ⟨?_, ?_⟩
    · show ((σ.set i none).set i (some y)).set i none = σ.set i none
      rw [List.set_set, List.set_set]
    · refine tyes ?_
      rw [if_pos rfl]
      refine (he d (List.mem_of_getElem? hd)).did A2 H _ ok (((l0.step x1).step x).blk (rd.mono x.aa) hσ) _ fun v2 A3 H3 x3 r3 => ?_
      refine ⟨acc, x3.same _ _ ha (fun _ z => nomatch z), ?_, ?_⟩
      · rw [ra.len, List.length_map, List.length_take]
        omega
      · have q := Acc.more hD x n ha ra x3 (x3.ok ok) r3
        have e2 : (ds.take (j + 1)).map f = (ds.take j).map f ++ [f d] := by
          rw [List.take_add_one, hd, List.map_append]
          rfl
        rw [e2]
        exact q
  · intro H h
    rw [r1.len, List.take_length] at h
    exact h.out hD (k.back x1)
theorem den_lcfT (hl : Ie X T l ρ (.tup ds)) (f : D → D) (g : D → Bool) (hz : ds.length < sizeLine)     (ht : ∀ d ∈ ds, Bt X T scope t ((ρ.set i none).set i (some (.im d))) (g d)) (he : ∀ d ∈ ds, g d = true → Be X T scope elt ((ρ.set i none).set i (some (.im d))) (f d)) : Dln T X.K i (tLc (iTup X.K (tw X l)) (gName i) (twBT X scope t) (twB X scope elt) [i]) ρ (.ls ((ds.filter g).map f)) := by
  intro A H σ s l0 hσ Q k
  refine (hl A H σ s l0 _ fun v A1 H1 x1 r1 => ?_)
  cases r1 with
  | @tup a xs _ e1 r1 =>
  refine ⟨a, rfl, ⟨xs, seqT_mono (x1.ok s).s e1⟩, fun Dl hD => lc_tup (xs := xs) (fun j H => Acc X.K T A1 H1 Dl (((ds.take j).filter g).map f) H) (Acc.first (x1.ok s) hD) ?_ ?_ ?_⟩
  · rintro j H _ ⟨A2, acc, ok, x, _⟩
    exact seqT_mono ok.s (seqT_mono x.aa e1)
  · rintro j y H hj ⟨A2, acc, ok, x, n, ha, ra⟩
    obtain ⟨d, hd, rd⟩ := r1.of hj
    have e2 : ds.take (j + 1) = ds.take j ++ [d] := by rw [List.take_add_one, hd]; rfl
    refine ⟨?_, ?_⟩
    · show ((σ.set i none).set i (some y)).set i none = σ.set i none
      rw [List.set_set, List.set_set]
    · refine (ht d (List.mem_of_getElem? hd)).dit A2 H _ ok (((l0.step x1).step x).blk (rd.mono x.aa) hσ) _ fun A3 H3 x3 => ?_
      cases hg : g d with
      | false =>
        rw [if_neg Bool.false_ne_true]
        refine ⟨A3, acc, x3.ok ok, x.tr0 x3, (x3.nw Dl (by rw [ha]; simp)).trans n, x3.same _ _ ha (fun _ z => nomatch z), ?_⟩
        rw [e2, List.filter_append, List.filter_cons, if_neg (by rw [hg]; exact Bool.false_ne_true), List.filter_nil, List.append_nil]
        exact ra.mono x3.aa
      | true =>
        rw [if_pos rfl]
        refine (he d (List.mem_of_getElem? hd) hg).did A3 H3 _ (x3.ok ok) ((((l0.step x1).step x).step x3).blk ((rd.mono x.aa).mono x3.aa) hσ) _ fun v2 A4 H4 x4 r4 => ?_
        have ha3 := x3.same _ _ ha (fun _ z => nomatch z)
        refine ⟨acc, x4.same _ _ ha3 (fun _ z => nomatch z), ?_, ?_⟩
        · rw [ra.len, List.length_map]
          have h9 := List.length_filter_le g (ds.take j)
          rw [List.length_take] at h9
          omega
        · have q := Acc.more hD (x.tr0 x3) ((x3.nw Dl (by rw [ha]; simp)).trans n) ha3 (ra.mono x3.aa) x4 (x4.ok (x3.ok ok)) r4
          rw [e2, List.filter_append, List.filter_cons, if_pos hg, List.filter_nil, List.map_append]
          exact q
  · intro H h
    rw [r1.len, List.take_length] at h
    exact h.out hD (k.back x1)
end
section
variable {c : Fc} {D : Ends} {ρ : Rhm} {m : M} {st : Stmt} {A H : Hp} {σ : L2.St} {fp : List Addr}
theorem dln_fz {X : Cx} {T : List Addr} {te : TE} {i : Nat} {ρ : Rho} (h : Dln T X.K i te (frzR ρ) m) (hs : safe m = true) : Dln T X.K i te ρ m := fun A H σ s l hi Q q => by
  refine h (glueP A H) H σ (glueP_ok s).2 (l.frz s) hi Q fun v A2 H2 fp x r f n => ?_
  obtain ⟨B, xx, b1, b2, n2⟩ := unglue s x
  refine q v B H2 fp xx (r.safe (fun a o w nm => ?_) hs fun a z => ?_) f n
  · rw [b2 a fun z => nm (by rw [← w, n2 a z]; exact z.2)]
    exact w
  · by_cases w : A a = none ∧ Mut (H a)
    · exact b1 a w
    · rw [b2 a w]; exact (r.there a z).1
theorem Es.askL {te : TE} {i : Nat} {R : V → Hp → Prop} (es : Es c A H σ ρ fp) (h : Dln c.T c.X.K i te ρ m) (hi : i < ρ.length)
    (q : ∀ v A2 H2 p, Ex0 A H A2 H2 → Ok c.T A2 H2 → RM c.X.K A2 H2 v m p → Fresh H p → p.Nodup → R v H2) : te σ H R :=
  h A H σ es.ok es.sl.sl (by rw [es.sl.len]; exact hi) R fun v A2 H2 p x r f n => q v A2 H2 p x (x.ok es.ok) r f n

/-- name = [.. for ..] -/
theorem ss_setL {te : TE} {i j : Nat} (hps : PS c.X st (tAsg te (gName i))) (h : Dln c.T c.X.K j te ρ m) (hj : j < ρ.length) (hi : i < ρ.length) (q : Nx c D.nx (ρ.set i (some m))) (h0 : c.S0 = none ∨ i ≠ 0 := by first | exact .inl rfl | exact .inr (by decide)) : Ss c st D ρ :=
  ss_of hps fun A H σ fp es => es.askL h hj fun v A2 H2 p x _ r f n => by
    obtain ⟨fp', es'⟩ := es.put x r f n hi h0
    exact q A2 H2 _ fp' es'
end
section
variable {X : Cx} {T : List Addr} {ρ : Rho} {d : D} {x : Str} {pos : Pos}
/-- constants of the module -/
theorem ie_gI {i : Int} (hm : ∃ t, X.mg x = some (.int i t)) (hg : Gl X x := by rfl) (hd : (x == ("__debug__" : Str)) = false := by decide) : Ie X T (.Name x pos) ρ (.int i) := by
  obtain ⟨t, hm⟩ := hm
  exact ie_c (pe_glob hg hm (v := .int i) ⟨t, rfl⟩ hd) fun _ => .int i
theorem ie_gS {y : Str} (hm : ∃ t, X.mg x = some (.str y t)) (hg : Gl X x := by rfl) (hd : (x == ("__debug__" : Str)) = false := by decide) : Ie X T (.Name x pos) ρ (.str y) := by
  obtain ⟨t, hm⟩ := hm
  exact ie_c (pe_glob hg hm (v := .str y) ⟨t, rfl⟩ hd) fun _ => .str y
end
section
variable {c : Fc} {D : Ends} {ρ : Rhm} {m : M} {pos : Pos} {st : Stmt}
theorem ss_retNh (q : Rh c D.rt (.im .non) ρ) : Ss c (.Return none pos) D ρ := ss_of ps_retN fun A H σ fp es => q .non A H σ [] fp es (.im .non) List.nodup_nil fun _ z => nomatch z
/-- return e, where what is held counts -/
theorem ss_reth {e : Expr} (h : Asks c ρ e m) (q : Rh c D.rt m ρ) : Ss c (.Return (some e) pos) D ρ := ss_of (ps_ret pe_tw) fun A H σ fp es => es.ask h fun v A2 H2 p x ok r f n => by
  have es2 := es.step0 x
  exact q v A2 H2 σ p fp es2 r n fun a z => ⟨fun w => es.live a w (f a z), fresh_back es.x f a z⟩
end
theorem flatDs_str : ∀ xs : List Str, flatDs (xs.map D.str) = true
  | [] => rfl
  | x :: xs => by rw [List.map_cons, flatDs, flatDs_str xs]; rfl
theorem flatDs_int : ∀ xs : List Int, flatDs (xs.map D.int) = true
  | [] => rfl
  | x :: xs => by rw [List.map_cons, flatDs, flatDs_int xs]; rfl
theorem safe_strs (xs : List Str) : safe (.ls (xs.map D.str)) = true := by rw [safe]; exact flatDs_str xs
/-! ### the scope of a comprehension -/
def blkB (N : List Str) (sc scope : Scope) (own : List (Str × Nat)) : Bool :=
  (match scope.kind with | .function => true | _ => false) && scope.names.all (fun y => decide (scope.names.lookup y.1 = some y.2)) && own.all (fun p => decide (N[p.2]? = some p.1)) && scope.names.all (fun y => decide (y.2 ≠ .free) || decide (sc.names.lookup y.1 = some .cell) || decide (sc.names.lookup y.1 = some .free)) &&
    scope.names.all fun y => !(decide (y.2 = .local) || decide (y.2 = .cell)) || decide (y.1 ∈ own.map (·.1)) || decide (y.1 ∉ N)
theorem blk {N : List Str} {sc scope : Scope} {own : List (Str × Nat)} (h : blkB N sc scope own = true) : BlkOk N sc scope own := by
  unfold blkB at h
  simp only [Bool.and_eq_true, List.all_eq_true, Bool.or_eq_true, decide_eq_true_eq, Bool.not_eq_true', Bool.or_eq_false_iff, decide_eq_false_iff_not] at h
  obtain ⟨⟨⟨⟨h1, h2⟩, h3⟩, h4⟩, h5⟩ := h
  refine ⟨?_, h2, h3, fun y hy e => ?_, fun y hy e => ?_⟩
  · revert h1; cases scope.kind <;> simp
  · rcases h4 y hy with (h | h) | h
    · exact absurd e h
    · exact .inl h
    · exact .inr h
  · rcases h5 y hy with (h | h) | h
    · rcases e with e | e
      · exact absurd e h.1
      · exact absurd e h.2
    · exact .inl h
    · exact .inr h
section
variable {X : Cx} {T : List Addr} {d : D} {c : Fc} {D : Ends} {st : Stmt} {ρ : Rhm}
theorem o_neR (h : cmpD d = true) (hu : X.A.units + 64 < cLine) : Op X T (compareOp .NotEq) d d (.im (.bl false)) := by
  have q := o_neD (X := X) (T := T) h h hu
  rw [eqD_refl h] at q
  exact q
theorem o_eqR (h : cmpD d = true) (hu : X.A.units + 64 < cLine) : Op X T (compareOp .Eq) d d (.im (.bl true)) := by
  have q := o_eqD (X := X) (T := T) h h hu
  rw [eqD_refl h] at q
  exact q
/-- what is behind a statement, said once -/
theorem ss_then (P : Rhm → Prop) (q : ∀ ρ', P ρ' → Nx c D.nx ρ') (h : (∀ ρ', P ρ' → Nx c D.nx ρ') → Ss c st D ρ) : Ss c st D ρ := h q
end
theorem app_len (x y : Str) : (x ++ y).length = x.length + y.length := Array.size_append
/-! ### texts that may be compared -/
theorem strOk_of (s : String) : PyData.strOk (Str.ofString s) = true := by
  rw [Str.ofString_eq_toList]
  unfold PyData.strOk
  rw [List.all_toArray]
  refine List.all_eq_true.mpr fun n hn => ?_
  obtain ⟨ch, _, rfl⟩ := List.mem_map.mp hn
  have h := ch.valid
  have ht : ch.toNat = ch.val.toNat := rfl
  rw [ht]
  refine decide_eq_true ?_
  simp only [UInt32.isValidChar, Nat.isValidChar] at h
  omega
theorem strOk_app {x y : Str} (h1 : PyData.strOk x = true) (h2 : PyData.strOk y = true) : PyData.strOk (x ++ y) = true := by
  show Array.all (x.cps ++ y.cps) _ = true
  rw [Array.all_append]
  exact Bool.and_eq_true_iff.mpr ⟨h1, h2⟩
theorem pys_str : ∀ xs : List Str, pys (xs.map D.str) = xs.map PyData.str
  | [] => rfl
  | x :: xs => by rw [List.map_cons, pys, pys_str xs, py]; rfl
theorem pybs_str : ∀ xs : List Str, pybs (xs.map D.str) = true
  | [] => rfl
  | x :: xs => by rw [List.map_cons, pybs, pybs_str xs, pyb] <;> simp
theorem depthAll_str : ∀ xs : List Str, PyData.depthAll (xs.map PyData.str) = 0
  | [] => rfl
  | x :: xs => by rw [List.map_cons, PyData.depthAll, depthAll_str xs]; rfl
theorem canLayAll_str : ∀ xs : List Str, (∀ x ∈ xs, PyData.strOk x = true) → PyData.canLayAll0 (xs.map PyData.str) = true
  | [], _ => rfl
  | x :: xs, h => by
    rw [List.map_cons, PyData.canLayAll0, canLayAll_str xs fun y hy => h y (List.mem_cons_of_mem _ hy), Bool.and_true]
    show PyData.canLay0 (.str x) = true
    rw [PyData.canLay0]
    exact h x (List.mem_cons_self ..)
theorem cmp_strs {xs : List Str} (h : ∀ x ∈ xs, PyData.strOk x = true) : cmpD (.lst (xs.map D.str)) = true := by
  unfold cmpD SeqAt.shaped
  rw [pyb, pybs_str, py, pys_str, PyData.canLay0, canLayAll_str xs h, PyData.depth, depthAll_str]
  rfl
theorem cmp_str {x : Str} (h : PyData.strOk x = true) : cmpD (.str x) = true := by
  unfold cmpD SeqAt.shaped
  rw [pyb, py, PyData.canLay0, h, PyData.depth] <;> simp
/-- two numbers by a test -/
theorem at2 {a b : Int} (x : Int) : atI [D.int a, D.int b] (x % 2) = some (D.int (if x % 2 = 0 then a else b)) := by
  rcases Int.emod_two_eq x with h | h <;> rw [h] <;> rfl
theorem len_int : ∀ k : Fin 1000, (Str.ofString (toString ((k.val : Nat) : Int))).length ≤ 10 := by decide +kernel
theorem len_nat {k : Nat} (h : k < 1000) : (Str.ofString (toString (k : Int))).length ≤ 10 := len_int ⟨k, h⟩
theorem log_nat {k : Nat} (h : k < 2 ^ 64) : ((k : Nat) : Int).natAbs.log2 < 1920 := by
  rw [Int.natAbs_natCast]
  by_cases z : k = 0
  · subst z; decide
  · exact Nat.lt_of_lt_of_le ((Nat.log2_lt z).mpr h) (by decide)
end Kf

set_option maxHeartbeats 1000000
/-! the laws' own cell and draws as plain functions -/
namespace Kf.L
open PySem L2
theorem bt_int : bootBuiltins "int" = some (.type "int") := by decide +kernel
theorem bt_str : bootBuiltins "str" = some (.type "str") := by decide +kernel
theorem bt_list : bootBuiltins "list" = some (.type "list") := by decide +kernel
theorem bt_tuple : bootBuiltins "tuple" = some (.type "tuple") := by decide +kernel
def cellZ (ns : List Int) (k : Nat) : Int := ns.getD k 0
def r_cell : List D → M → Prop := fun ds m => ∃ (ns : List Int) (k : Nat), ds = [.fls (ns.map D.int), .int k] ∧ m = .im (.int (cellZ ns k))
theorem ixN_nat' {n j : Nat} (hj : j < n) : ixN n (j : Int) = some j := by
  unfold ixN
  rw [if_pos (by omega), if_pos (by omega)]
  simp
theorem cell_at {ns : List Int} {k : Nat} (h : k < ns.length) : atI (ns.map D.int) (k : Int) = some (.int (cellZ ns k)) := by
  refine atI_bind (n := k) ?_ ?_
  · rw [List.length_map]; exact ixN_nat' h
  · rw [List.getElem?_map, List.getElem?_eq_getElem h]
    unfold cellZ
    rw [List.getD_eq_getElem?_getD, List.getElem?_eq_getElem h]
    rfl
theorem cell_no {ns : List Int} {k : Nat} (h : ns.length ≤ k) : cellZ ns k = 0 := by
  unfold cellZ
  rw [List.getD_eq_getElem?_getD, List.getElem?_eq_none h]
  rfl
def wideZ (z : Int) : Bool := decide ((10 : Int) ^ (18 : Int).toNat ≤ z)
/-- the cell behind j turns -/
def drawZ (z : Int) : Nat → Int
  | 0 => z
  | j + 1 => if wideZ z = true then drawZ z j / 1009 else z
def mixZ (z : Int) (j : Nat) : Int := (z * 48271 + (j : Int) * 69621) % 2147483647
def drawn (z : Int) (j : Nat) : Int := if wideZ z = true then drawZ z j % 1009 else (mixZ z j * mixZ z j + z * 31 + (j : Int)) % 1000003
def draws (z : Int) (n : Nat) : List Int := (List.range n).map (drawn z)
def r_draws : List D → M → Prop := fun ds m => ∃ (z n : Int), ds = [.int z, .int n] ∧ (0 ≤ n ∧ n ≤ 1000) ∧ m = .ls ((draws z n.toNat).map D.int)
theorem draws_len (z : Int) (n : Nat) : (draws z n).length = n := by simp [draws]
theorem draws_succ (z : Int) (j : Nat) : draws z (j + 1) = draws z j ++ [drawn z j] := by simp [draws, List.range_succ]
theorem drawZ_wide {z : Int} {j : Nat} (q : wideZ z = true) : drawZ z (j + 1) = drawZ z j / 1009 := by simp [drawZ, q]
theorem drawZ_no {z : Int} (q : wideZ z = false) : ∀ j, drawZ z j = z
  | 0 => rfl
  | j + 1 => by simp [drawZ, q]
theorem drawZ_thin {z : Int} {j : Nat} (q : wideZ z = false) : drawZ z (j + 1) = drawZ z j := by rw [drawZ_no q, drawZ_no q]
theorem draws_wide {z : Int} {j : Nat} (q : wideZ z = true) : draws z (j + 1) = draws z j ++ [drawZ z j % 1009] := by rw [draws_succ]; simp [drawn, q]
theorem draws_thin {z : Int} {j : Nat} (q : wideZ z = false) : draws z (j + 1) = draws z j ++ [(mixZ (drawZ z j) j * mixZ (drawZ z j) j + drawZ z j * 31 + (j : Int)) % 1000003] := by rw [draws_succ, drawZ_no q]; simp [drawn, q]
theorem mix_small (x : Int) : -(2 ^ 64) < x % 2147483647 ∧ x % 2147483647 < 2 ^ 64 := by omega
theorem drawn_bound (z : Int) (j : Nat) : 0 ≤ drawn z j ∧ drawn z j < 1000003 := by
  unfold drawn
  split <;> omega
theorem draws_at {z : Int} {n j : Nat} (h : j < n) : atI ((draws z n).map D.int) (j : Int) = some (.int (drawn z j)) := by
  refine atI_bind (n := j) ?_ ?_
  · rw [List.length_map, draws_len]; exact ixN_nat' h
  · simp [draws, h]
section
variable {X : Cx} {T : List Addr} {ρ : Rho} {e : Expr} {z : Int} {n j : Nat} {p p2 p3 p4 : Pos} {q : Nat}
/-- int(d[j]), d the draws of a cell -/
theorem ie_draw (h : Ie X T e ρ (.lst ((draws z n).map D.int))) (hint : X.mg "int" = none) (hj : j < n) (hg : Gl X "int" := by rfl) : Ie X T (.Call (.Name "int" p) [.Subscript e (.Constant (.int (j : Int)) q p2) p3] [] p4) ρ (.int (drawn z j)) :=
  ie_im (me_ty (as_cons (ie_im (me_ix h ie_int (ix_l (draws_at hj)))) as_nil) cl_int hint bt_int hg)
/-- d[j], d the draws of a cell -/
theorem ie_drw (h : Ie X T e ρ (.lst ((draws z n).map D.int))) (hj : j < n) : Ie X T (.Subscript e (.Constant (.int (j : Int)) q p2) p3) ρ (.int (drawn z j)) := ie_im (me_ix h ie_int (ix_l (draws_at hj)))
end
end Kf.L

set_option maxHeartbeats 2000000
/-! Kf: the head of a law, with own error classes; a law's end. -/
namespace Kf
open PySem L2
open He (Fa DefD AlD SaysD obsD valD frT asD frG ga ma fAd ba Defn cT tabsB emptyTab emptyTab_eq frT_none frT_in codeOf tabOf)

/-! ### own error classes as they are found -/
/-- an own error class: its name, the names and texts of its __init__, its field -/
structure XD where
  x : Str
  qual : Str
  params : Arguments
  body : List Stmt
  scope : Scope
  fld : Str
abbrev FnX : Type := Option (Str × Str × Arguments × FuncBody × Scope × Addr × List Str × Addr)
def fnXo (K : PySem.W.Frag) (x : Str) : FnX := match K.lookup (ma K (ga K x) "__init__") with
  | some ⟨_, _, .func fd, _⟩ => some (fd.name, fd.qualname, fd.params, fd.body, fd.scope, fd.globals, fd.closure.map (·.1), fd.builtins)
  | _ => none
def XD.val (d : XD) : FnX := some ("__init__", d.qual, d.params, .stmts d.body, d.scope, mainGlobals, ["__class__"], builtinsNs)
def oexB (K : PySem.W.Frag) (C : Addr) : Bool := match K.lookup C with
  | some ⟨.type t, _, .cls cd, sl⟩ => (match cd.mro, sl.toList with
    | .ref C' :: bm, [_, _, _, _, some (.builtin n), _] => decide (t = "type") && (decide (C' = C) && (decide (n = "ValueError.__new__") && (!cd.hasDel && (cd.hasDict && PySem.HandSPX.refsVE bm))))
    | _, _ => false)
  | _ => false
def oexF (K : PySem.W.Frag) (C : Addr) : Bool := oexB K C && (decide (PySem.W.findIn K (.ref C) "__setattr__" = some (some (.builtin "object.__setattr__"))) && (decide (PySem.W.subIn K (.ref C) (.type "BaseException") = some true) && (decide (PySem.W.typeIn K (.ref C) = some (.type "type")) && PySem.W.keepIn K (.ref C))))
theorem oexF_ok {K : PySem.W.Frag} {C : Addr} (h : oexF K C = true) : OexC K C := by
  obtain ⟨h0, h⟩ := ba h
  obtain ⟨h1, h⟩ := ba h
  obtain ⟨h2, h⟩ := ba h
  obtain ⟨h3, h4⟩ := ba h
  refine ⟨?_, of_decide_eq_true h1, of_decide_eq_true h2, of_decide_eq_true h3, h4⟩
  unfold oexB at h0
  split at h0
  · rename_i t dd cd sl ho
    split at h0
    · rename_i C' bm k0 k1 k2 k3 n k5 hm hs
      simp only [Bool.and_eq_true, decide_eq_true_eq, Bool.not_eq_true'] at h0
      obtain ⟨rfl, rfl, rfl, e3, e4, g0⟩ := h0
      obtain ⟨nm, bs, mro, ns, qn, hd, sn, sub, ab, col, del⟩ := cd
      dsimp only at hm e3 e4
      subst hm e3 e4
      have hsl : sl = #[k0, k1, k2, k3, some (.builtin "ValueError.__new__"), k5] := by
        obtain ⟨l⟩ := sl
        simp only at hs
        rw [hs]
      subst hsl
      exact ⟨nm, qn, ns, bs, bm, sn, sub, ab, col, dd, k0, k1, k2, k3, k5, ho, g0⟩
    · cases h0
  · cases h0
/-- the __init__'s own: its code, the file, the cell of the class -/
def xiB (K : PySem.W.Frag) (file : Str) (qual : Str) (C f : Addr) : Bool := match K.lookup f with
  | some ⟨_, _, .func fd, _⟩ => (match fd.closure, fd.code, fd.defaults with
    | [(_, cc)], .ref cda, .none => PySem.W.codeIn K (.ref cda) qual && ((match K.lookup cda with
      | some ⟨_, _, .fields vs, _⟩ => (match (vs[2]? : Option Value) with
        | some (Value.str fl _) => file == fl
        | _ => false)
      | _ => false) && (match K.lookup cc with
      | some ⟨_, _, .cell (some (.ref D)), _⟩ => decide (D = C)
      | _ => false))
    | _, _, _ => false)
  | _ => false
def xcB (K : PySem.W.Frag) (file : Str) (d : XD) : Bool :=
  oexF K (ga K d.x) && (xfB K (ga K d.x) && (xiB K file d.qual (ga K d.x) (ma K (ga K d.x) "__init__") && (decide (PySem.W.ks_superIn K (ga K d.x) (ga K d.x) "__init__" = some (some (.builtin "ValueError.__init__"))) && (decide (PySem.W.nsIn K cStatics "thirdparty.any" = some none) &&
    (decide (PySem.W.mroIn K (ga K d.x) (.ref (ga K d.x)) = some true) && (decide (PySem.W.subIn K (.ref (ga K d.x)) (.type "ValueError") = some true) && (decide (PySem.W.findIn K (.ref (ga K d.x)) d.fld = some none) &&
    (decide (PySem.W.findIn K (.ref (ga K d.x)) "__init__" = some (some (.ref (ma K (ga K d.x) "__init__")))) && decide (PySem.W.typeIn K (.ref (ma K (ga K d.x) "__init__")) = some (.type "function"))))))))))
structure XcAll (P : Program) (K : PySem.W.Frag) (mg : Str → Option Value) (d : XD) (f : Addr) (fd : FuncData) : Prop where
  xf : XfC K (ga K d.x)
  fld : PySem.W.findIn K (.ref (ga K d.x)) d.fld = some none
  ini : PySem.W.findIn K (.ref (ga K d.x)) "__init__" = some (some (.ref f))
  ty : PySem.W.typeIn K (.ref f) = some (.type "function")
  F : ∃ cda cc, XcF P K mg d.qual d.params d.body d.scope (ga K d.x) f cda cc fd
  dfl : fd.defaults = .none
theorem xc_all {P : Program} {K : PySem.W.Frag} {mg : Str → Option Value} {d : XD} (e : fnXo K d.x = d.val) (h : xcB K P.main.file d = true) (fr : mg "super" = none) (top : (P.main.scope.names.lookup ("super" : Str)).isSome = false) : ∃ f fd, XcAll P K mg d f fd := by
  obtain ⟨a1, h⟩ := ba h
  obtain ⟨a2, h⟩ := ba h
  obtain ⟨a3, h⟩ := ba h
  obtain ⟨a4, h⟩ := ba h
  obtain ⟨a5, h⟩ := ba h
  obtain ⟨a6, h⟩ := ba h
  obtain ⟨a7, h⟩ := ba h
  obtain ⟨a8, h⟩ := ba h
  obtain ⟨a9, a10⟩ := ba h
  have b4 := of_decide_eq_true a4
  have b5 := of_decide_eq_true a5
  have b6 := of_decide_eq_true a6
  have b7 := of_decide_eq_true a7
  have b8 := of_decide_eq_true a8
  have b9 := of_decide_eq_true a9
  have b10 := of_decide_eq_true a10
  unfold fnXo at e
  unfold xiB at a3
  split at a3
  · rename_i oc od fd osl lk
    rw [lk] at e
    split at a3
    · rename_i nm cc cda hcl hco hdf
      obtain ⟨c1, a3⟩ := ba a3
      obtain ⟨c2, c3⟩ := ba a3
      obtain ⟨n1, n2, n3, n4, n5, n6, n7, n8, n9, n10, n11, n12, n13, n14, n15⟩ := fd
      dsimp only at hcl hco hdf
      subst hcl hco hdf
      have e2 : (some (n1, n2, n3, n4, n5, n6, [nm], n15) : FnX) = some (("__init__" : Str), d.qual, d.params, FuncBody.stmts d.body, d.scope, mainGlobals, [("__class__" : Str)], builtinsNs) := e
      simp only [Option.some.injEq, Prod.mk.injEq, List.cons.injEq, and_true] at e2
      obtain ⟨h1, h2, h3, h4, h5, h6, h7, h8⟩ := e2
      subst h1 h2 h3 h4 h5 h6 h7 h8
      refine ⟨_, _, ⟨xfB_ok a2, b8, b9, b10, ⟨cda, cc, ⟨oexF_ok a1, ⟨_, _, _, _, _, _, rfl⟩, ⟨_, _, _, lk⟩, c1, ?_, ?_, b4, b5, b6, b7, fr, top⟩⟩, rfl⟩⟩
      · split at c2
        · rename_i ccl cdd vs ccs lc
          split at c2
          · rename_i fl tf hv
            exact ⟨_, _, _, _, _, _, lc, hv, c2⟩
          · cases c2
        · cases c2
      · split at c3
        · rename_i cl cld D csl lc
          have c3 := of_decide_eq_true c3
          subst c3
          exact ⟨_, _, _, lc⟩
        · cases c3
    · cases a3
  · cases a3
/-! ### the Hook -/
abbrev AlK : Type := AlD × (List FnX × Bool)
def asK (g : Addr → Option Obj) (n : Nat) : List Addr := asD g n ++ [cStatics]
def obsK (n : Nat) (file : Str) (fa : List Fa) (fn : List DefD) (xs : List XD) (tf : List Defn) (ex : PySem.W.Frag → Bool) (g : Addr → Option Obj) : AlK :=
  (obsD fa fn (frT g (asK g n)), (xs.map (fun d => fnXo (frT g (asK g n)) d.x), (xs.all fun d => xcB (frT g (asK g n)) file d) && (ex (frT g (asK g n)) && tabsB g tf (frT g (asK g n)))))
def valK (fn : List DefD) (xs : List XD) : AlK := (valD fn, (xs.map XD.val, true))
structure SaysK (file : Str) (fa : List Fa) (fn : List DefD) (xs : List XD) (tf : List Defn) (ex : PySem.W.Frag → Bool) (h : Heap) (K : PySem.W.Frag) : Prop where
  d : SaysD fa fn K
  x : ∀ d ∈ xs, fnXo K d.x = d.val ∧ xcB K file d = true
  more : ex K = true
  hd : ∀ p ∈ tf, PySem.W.codeHdIn K (cT K p).1 (cT K p).2 = true
  out : ∀ p ∈ tf, K.lookup (cT K p).2 = none
  empty : ∀ p ∈ tf, h.get? (cT K p).2 = some { cls := .none, data := .fields #[] }
theorem map_eq_mem {α β : Type} {f g : α → β} : ∀ {l : List α}, l.map f = l.map g → ∀ x ∈ l, f x = g x
  | [], _, _, h => nomatch h
  | y :: l, e, x, h => by
    obtain ⟨e1, e2⟩ := List.cons.inj e
    rcases List.mem_cons.mp h with z | z
    · rw [z]; exact e1
    · exact map_eq_mem e2 x z
theorem saysK_of {n : Nat} {file : Str} {fa : List Fa} {fn : List DefD} {xs : List XD} {tf : List Defn} {ex : PySem.W.Frag → Bool} {h : Heap} (e : obsK n file fa fn xs tf ex h.get? = valK fn xs) : SaysK file fa fn xs tf ex h (frT h.get? (asK h.get? n)) := by
  have e1 : obsD fa fn (frT h.get? (asK h.get? n)) = valD fn := congrArg (fun z : AlK => z.1) e
  have e2 : xs.map (fun d => fnXo (frT h.get? (asK h.get? n)) d.x) = xs.map XD.val := congrArg (fun z : AlK => z.2.1) e
  have e3 : ((xs.all fun d => xcB (frT h.get? (asK h.get? n)) file d) && (ex (frT h.get? (asK h.get? n)) && tabsB h.get? tf (frT h.get? (asK h.get? n)))) = true := congrArg (fun z : AlK => z.2.2) e
  obtain ⟨h0, h1⟩ := ba e3
  obtain ⟨h1, h2⟩ := ba h1
  have key : ∀ p ∈ tf, PySem.W.codeHdIn (frT h.get? (asK h.get? n)) (cT (frT h.get? (asK h.get? n)) p).1 (cT (frT h.get? (asK h.get? n)) p).2 = true ∧ ∃ o, h.get? (cT (frT h.get? (asK h.get? n)) p).2 = some o ∧ emptyTab o = true := fun p hp => by
    obtain ⟨h3, h4⟩ := ba (List.all_eq_true.mp h2 p hp)
    refine ⟨h3, ?_⟩
    cases q : h.get? (cT (frT h.get? (asK h.get? n)) p).2 with
    | none => rw [q] at h4; cases h4
    | some o => rw [q] at h4; exact ⟨o, rfl, h4⟩
  exact ⟨e1, fun d hd => ⟨map_eq_mem e2 d hd, List.all_eq_true.mp h0 d hd⟩, h1, fun p hp => (key p hp).1, fun p hp => by
    obtain ⟨_, o, q, z⟩ := key p hp
    exact frT_none q z, fun p hp => by
    obtain ⟨_, o, q, z⟩ := key p hp
    rw [q, emptyTab_eq z]⟩
def hookK (n : Nat) (file : Str) (fa : List Fa) (fn : List DefD) (xs : List XD) (tf : List Defn) (ex : PySem.W.Frag → Bool) : PySem.W.Hook where
  α := AlK
  obs := fun s => obsK n file fa fn xs tf ex s.heap.get?
  val := fun _ => valK fn xs
  says := fun _ h => ∃ K : PySem.W.Frag, K.In h ∧ SaysK file fa fn xs tf ex h K
  of := fun _ _ e => ⟨_, frT_in, saysK_of e⟩
  keeps := fun _ _ _ ⟨K, hK, c⟩ k => ⟨K, PySem.W.Frag.In.keeps hK k, ⟨c.d, c.x, c.more, c.hd, c.out, fun p hp => k _ _ (c.empty p hp)⟩⟩
theorem obsK_eq {n : Nat} {file : Str} {fa : List Fa} {fn : List DefD} {xs : List XD} {tf : List Defn} {ex : PySem.W.Frag → Bool} {g : Addr → Option Obj} {s : Shared} (h : ∀ a, g a = s.heap.get? a) : obsK n file fa fn xs tf ex g = (hookK n file fa fn xs tf ex).obs s := by
  have e : g = s.heap.get? := funext h
  rw [e] <;> rfl
/-! ### an own error class for those who raise it -/
theorem xcM_of {P : Program} {w : World} {K : PySem.W.Frag} {mg : Str → Option Value} {base : Heap} {d : XD} {f : Addr} {fd : FuncData} {okv : V → Prop} {N : List Str} (A : XcAll P K mg d f fd) (mgx : mg d.x = some (.ref (ga K d.x)))
    (FX : FnOk P w K mg base CX0 1 f fd N (spXI okv (ga K d.x) d.fld)) (hb : ∀ (kV doc pm : Value) (an : Option Addr) (cdv ct : Value) (cl : List (Str × Addr)) (us : List Value), us.length = N.length → bindArgs (PySem.W.fnX "__init__" d.qual d.params d.body d.scope cl .none kV doc pm an cdv ct) ⟨us, []⟩ = pure (N.zip us)) : XcM P w K mg base d.x (ga K d.x) d.fld okv := by
  obtain ⟨cda, cc, F⟩ := A.F
  refine ⟨F.oex, mgx, f, fd, N, FX, .all fun us hl => ?_, A.ini, A.ty⟩
  have hd := A.dfl
  obtain ⟨dV, kV, doc, pm, an, ct, rfl⟩ := F.fdE
  have e : dV = .none := hd
  subst e
  exact hb kV doc pm an _ ct _ us hl
/-! ### the end -/
def rLaw : List D → M → Prop := fun ds m => ∃ zs : List Int, zs.length ≤ 63 ∧ (∀ z ∈ zs, Builtin.Int.intBits z ≤ 1048576) ∧ ds = [.fls (zs.map D.int)] ∧ m = .im (.bl true)
theorem rpl_ints {K : PySem.W.Frag} {A : Hp} : ∀ ns : List Int, RpL K A (ns.map V.int) (ns.map D.int)
  | [] => .nil
  | n :: ns => .cons (.int n) (rpl_ints ns)
theorem sp_law {K : PySem.W.Frag} {cs : List Addr} {H : Hp} {a : Addr} {ns : List Int} {E : XK} (hl : ns.length ≤ 63) (hb : ∀ z ∈ ns, Builtin.Int.intBits z ≤ 1048576) (hT : ∀ p ∈ cs, H p = some (.tbl #[])) (hS : SqL K H a (ns.map V.int)) : spP K cs rLaw [.ref a] H (fun v _ => v = .bl true) E := by
  obtain ⟨A, hA⟩ : ∃ A : Hp, A = fun b => match H b with
    | some (.tbl _) => none
    | o => o := ⟨_, rfl⟩
  have a1 : ∀ b o, A b = some o → H b = some o ∧ noTab o := fun b o h => by
    rw [hA] at h
    dsimp only at h
    cases e : H b with
    | none => rw [e] at h; cases h
    | some u =>
      rw [e] at h
      cases u <;> first | (cases h; done) | (cases h; exact ⟨rfl, fun _ z => nomatch z⟩)
  have a2 : ∀ b o, H b = some o → noTab o → A b = some o := fun b o h n => by
    rw [hA]
    dsimp only
    rw [h]
    cases o <;> first | rfl | exact absurd rfl (n _)
  refine ⟨A, [.fls (ns.map D.int)], .im (.bl true), ⟨fun b o h => (a1 b o h).1, fun b o h => (a1 b o h).2, fun P hP => ⟨#[], hT P hP, ?_⟩⟩, .cons (.fls ?_ (rpl_ints ns)) .nil, ⟨ns, hl, hb, rfl, rfl⟩, fun v A2 H2 fp x r f n => ?_⟩
  · first | trivial | exact .nil | exact (fun _ h => nomatch h) | decide
  · rcases hS with (h | ⟨o, h⟩) | h
    · exact .inl (.inl (a2 _ _ h fun _ z => nomatch z))
    · exact .inl (.inr ⟨o, a2 _ _ h fun _ z => nomatch z⟩)
    · exact .inr h
  · cases r with
    | im r => cases r; rfl
theorem end_law {l : PySem.W.OpenLaw} {k : Nat} {q : Program} {loose : List Str} {XP : (Str → Option Value) → Heap → Prop} {YP : World → Heap → Prop} {d : DefRec} {x : Str}
    (hn : l.most = some 63) (hdf : d.params.defaults = []) (hr : Room k callerA)
    (F : ∀ (w : World) (mg : Str → Option Value) (fa : Addr) (h : Heap), YP w h → h.Ns mainGlobals mg → mg d.name = some (.ref fa) → ∃ K : PySem.W.Frag, K.In h ∧ ∃ (fd : FuncData) (cs : List (Addr × Addr)),
      (∀ p ∈ cs, h.get? p.2 = some { cls := .none, data := .fields #[] }) ∧ (∀ p ∈ cs, K.lookup p.2 = none) ∧ (∀ p ∈ cs, PySem.W.CodeHd h p.1 p.2) ∧ (∀ (s : Shared) (u : Value), BindsTo s fd ⟨[u], []⟩ [(x, u)]) ∧
      ∀ base : Heap, K.In base → base.Ns mainGlobals mg → (∀ p ∈ cs, LamX.TabB base mg p.1 p.2) → FnOk l.prog w K mg base CX0 k fa fd [x] (spP K (cs.map (·.2)) rLaw)) : PySem.W.WalkO q loose XP YP l.row.toRowW d [] (fun f vs => PySem.call f vs) :=
  LamX.walk_ofTsE (n := 63) (k := k) (x := x) (CX := fun _ => CX0) hn (by rw [sizeLine_eq]; decide) hdf hr (fun w mg fa h Y G hm => by
    obtain ⟨K, KX, fd, cs, t1, t2, t3, hb, hF⟩ := F w mg fa h Y G hm
    exact ⟨K, KX, fd, cs, spP K (cs.map (·.2)) rLaw, t1, t2, t3, hb, fun H a ns hl hbits hT hS => sp_law hl hbits (fun p hp => by
      obtain ⟨c, hc, rfl⟩ := List.mem_map.mp hp
      exact hT c hc) hS, hF⟩) fun _ _ _ _ _ z => z
end Kf

set_option maxHeartbeats 1000000
/-! Kf: views of what is owned. -/
namespace Kf
open PySem L2
/-- an expression that names what is owned: m stands at its worth, as long as nothing changes -/
def Vw (X : Cx) (T : List Addr) (e : Expr) (ρ : Rho) (m : M) : Prop := ∀ A H σ, Ok T A H → Sl X.K A H σ ρ → ∀ Q : VK, (∀ v A2 H2 fp, Ex0 A H A2 H2 → RM X.K A2 H2 v m fp → Q v H2) → tw X e σ H Q
section
variable {X : Cx} {T : List Addr} {ρ : Rho} {m : M} {d : D} {ds xs ys : List D} {i : Nat} {scope : Scope} {elt l t a b : Expr} {e o : Expr} {x f : Str} {pos p2 : Pos} {C : Addr} {ms : List (Str × M)} {K : PySem.W.Frag} {A H : Hp} {v : V} {fp : List Addr}
theorem vw_var {i : Nat} (h : PE X (.Name x pos) (tVar i)) (hr : ρ[i]? = some (some m)) : Vw X T (.Name x pos) ρ m := fun A H σ s l Q k => ⟨fun pins st I => h.run pins st σ H Q I (by
  obtain ⟨v, fp, h1, h2⟩ := l i m hr
  exact ⟨v, h1, k v A H fp (Ext.refl s) h2⟩)⟩
theorem vw_me (h : Me X T e ρ m) : Vw X T e ρ m := fun A H σ s l Q k => h A H σ s l Q fun v A2 H2 fp x r _ _ => k v A2 H2 fp x r
theorem ie_vw (h : Vw X T e ρ (.im d)) : Ie X T e ρ d := fun A H σ s l Q k => h A H σ s l Q fun v A2 H2 fp x r => by
  cases r with
  | im r => exact k v A2 H2 x r
/-- o.f -/
theorem vw_fld (h : Vw X T o ρ (.ob C ms)) (hl : ms.lookup f = some m) (hc : Cls X.K C) (hn : NoAttr X.K C f) (hb : attributeBase o f X.env (eval o X.env) = eval o X.env := by rfl) : Vw X T (.Attribute o f pos) ρ m :=
  fun A H σ s l Q k => ⟨fun pins st I => (pe_fld pe_tw hb).run pins st σ H Q I (h A H σ s l _ fun v A1 H1 fp x1 r1 => by
    cases r1 with
    | @ob a _ dx fs _ fp0 e1 n1 r1 =>
    obtain ⟨v, p, h1, h2, _⟩ := (r1.look (f := f)).2 m hl
    exact ⟨_, C, _, _, v, rfl, e1, hc, hn, h1, k v A1 H1 p x1 h2⟩)⟩
/-- a + b, a names an owned list -/
theorem me_addV (h1 : Vw X T a ρ (.ls xs)) (h2 : Me X T b ρ (.ls ys)) (hz : xs.length + ys.length ≤ sizeLine) : Me X T (.BinOp a .Add b pos) ρ (.ls (xs ++ ys)) :=
  me_of (pe_op op_cat pe_tw pe_tw) fun A H σ s l Q k => h1 A H σ s l _ fun v A1 H1 fp1 x1 r1 => h2 A1 H1 σ (x1.ok s) (l.step x1) _ fun u A2 H2 fp2 x2 r2 _ _ => by
    have r9 := r1.step0 x2
    cases r9 with
    | @ls p1 vs1 _ e1 n1 r8 =>
    cases r2 with
    | @ls p2 vs2 _ e2 n2 r7 =>
    exact ⟨_, _, _, _, rfl, rfl, e1, e2, by rw [r8.len, r7.len]; exact hz, fun p hp => (k.back (x1.tr0 x2)).ls (x2.ok (x1.ok s)) hp (r8.append r7)⟩
/-- a + b, both name owned lists -/
theorem me_addVV (h1 : Vw X T a ρ (.ls xs)) (h2 : Vw X T b ρ (.ls ys)) (hz : xs.length + ys.length ≤ sizeLine) : Me X T (.BinOp a .Add b pos) ρ (.ls (xs ++ ys)) :=
  me_of (pe_op op_cat pe_tw pe_tw) fun A H σ s l Q k => h1 A H σ s l _ fun v A1 H1 fp1 x1 r1 => h2 A1 H1 σ (x1.ok s) (l.step x1) _ fun u A2 H2 fp2 x2 r2 => by
    have r9 := r1.step0 x2
    cases r9 with
    | @ls p1 vs1 _ e1 n1 r8 =>
    cases r2 with
    | @ls p2 vs2 _ e2 n2 r7 =>
    exact ⟨_, _, _, _, rfl, rfl, e1, e2, by rw [r8.len, r7.len]; exact hz, fun p hp => (k.back (x1.tr0 x2)).ls (x2.ok (x1.ok s)) hp (r8.append r7)⟩
/-- a[i] -/
theorem ie_ixV {j : Int} (h1 : Vw X T a ρ (.ls xs)) (h2 : Ie X T b ρ (.int j)) (h : atI xs j = some d) (hs : PlainIx b := by exact fun _ _ => rfl) : Ie X T (.Subscript a b pos) ρ d :=
  ie_of (pe_ix ix_list pe_tw pe_tw hs) fun A H σ s l Q k => h1 A H σ s l _ fun v A1 H1 fp1 x1 r1 => h2 A1 H1 σ (x1.ok s) (l.step x1) _ fun u A2 H2 x2 r2 => by
    have r9 := r1.step0 x2
    cases r2
    cases r9 with
    | @ls p1 vs1 _ e1 n1 r8 =>
    obtain ⟨w, g1, g2⟩ := at_of r8 h
    exact ⟨_, _, _, w, rfl, rfl, SqL.of e1, g1, k w A2 H2 (x1.tr0 x2) g2⟩
/-- a[lo:hi] -/
theorem me_slV {lo hi : Option Expr} {l0 u0 : Option Int} (h1 : Vw X T a ρ (.ls xs)) (hl : Po X T lo ρ l0) (hu : Po X T hi ρ u0) : Me X T (.Subscript a (.Slice lo hi none p2) pos) ρ (.ls (cutD xs l0 u0)) := by
  have part : ∀ {o : Option Expr} {i : Option Int}, Po X T o ρ i → ∃ t : TO, PO X o t ∧ ∀ A H σ, Ok T A H → Sl X.K A H σ ρ → ∀ Q : Option Int → Hp → Prop, (∀ A2 H2, Ex0 A H A2 H2 → Q i H2) → t σ H Q := by
    intro o i h
    cases o with
    | none =>
      cases i with
      | none => exact ⟨_, po_none, fun A H σ s _ Q k => k A H (Ext.refl s)⟩
      | some _ => exact h.elim
    | some e =>
      cases i with
      | none => exact h.elim
      | some i => exact ⟨_, po_some pe_tw, fun A H σ s l Q k => h A H σ s l _ fun v A2 H2 x r => by cases r; exact ⟨i, rfl, k A2 H2 x⟩⟩
  obtain ⟨tl, pl, ql⟩ := part hl
  obtain ⟨tu, pu, qu⟩ := part hu
  exact me_of (pe_slice sl_list pe_tw pl pu) fun A H σ s l Q k => h1 A H σ s l _ fun v A1 H1 fp1 x1 r1 => ql A1 H1 σ (x1.ok s) (l.step x1) _ fun A2 H2 x2 => qu A2 H2 σ (x2.ok (x1.ok s)) ((l.step x1).step x2) _ fun A3 H3 x3 => by
    have r9 := (r1.step0 x2).step0 x3
    cases r9 with
    | @ls p1 vs1 _ e1 n1 r8 =>
    exact ⟨_, _, rfl, SqL.of e1, fun p hp => (k.back ((x1.tr0 x2).tr0 x3)).ls (x3.ok (x2.ok (x1.ok s))) hp (r8.cut l0 u0)⟩
theorem den_lcV (hl : Vw X T l ρ (.ls ds)) (f : D → D) (hz : ds.length < sizeLine)     (he : ∀ d ∈ ds, Be X T scope elt ((ρ.set i none).set i (some (.im d))) (f d)) : Dln T X.K i (tLc (iList X.K (tw X l)) (gName i) tYes (twB X scope elt) [i]) ρ (.ls (ds.map f)) := by
  intro A H σ s l0 hσ Q k
  refine (hl A H σ s l0 _ fun v A1 H1 fp1 x1 r1 => ?_)
  cases r1 with
  | @ls a xs _ e1 n1 r1 =>
  refine ⟨a, rfl, ⟨xs, SqL.of e1⟩, fun Dl hD => lc_list (xs := xs) (fun j H => Acc X.K T A1 H1 Dl ((ds.take j).map f) H) (Acc.first (x1.ok s) hD) ?_ ?_ ?_⟩
  · rintro j H _ ⟨A2, acc, ok, x, _⟩
    exact SqL.of (x.same _ _ e1 fun _ z => nomatch z)
  · rintro j y H hj ⟨A2, acc, ok, x, n, ha, ra⟩
    obtain ⟨d, hd, rd⟩ := r1.of hj
    refine ⟨?_, ?_⟩
    · show ((σ.set i none).set i (some y)).set i none = σ.set i none
      rw [List.set_set, List.set_set]
    · refine tyes ?_
      rw [if_pos rfl]
      refine (he d (List.mem_of_getElem? hd)).did A2 H _ ok (((l0.step x1).step x).blk (rd.mono x.aa) hσ) _ fun v2 A3 H3 x3 r3 => ?_
      refine ⟨acc, x3.same _ _ ha (fun _ z => nomatch z), ?_, ?_⟩
      · rw [ra.len, List.length_map, List.length_take]
        omega
      · have q := Acc.more hD x n ha ra x3 (x3.ok ok) r3
        have e2 : (ds.take (j + 1)).map f = (ds.take j).map f ++ [f d] := by
          rw [List.take_add_one, hd, List.map_append]
          rfl
        rw [e2]
        exact q
  · intro H h
    rw [r1.len, List.take_length] at h
    exact h.out hD (k.back x1)

theorem den_lcfV (hl : Vw X T l ρ (.ls ds)) (f : D → D) (g : D → Bool) (hz : ds.length < sizeLine)     (ht : ∀ d ∈ ds, Bt X T scope t ((ρ.set i none).set i (some (.im d))) (g d)) (he : ∀ d ∈ ds, g d = true → Be X T scope elt ((ρ.set i none).set i (some (.im d))) (f d)) : Dln T X.K i (tLc (iList X.K (tw X l)) (gName i) (twBT X scope t) (twB X scope elt) [i]) ρ (.ls ((ds.filter g).map f)) := by
  intro A H σ s l0 hσ Q k
  refine (hl A H σ s l0 _ fun v A1 H1 fp1 x1 r1 => ?_)
  cases r1 with
  | @ls a xs _ e1 n1 r1 =>
  refine ⟨a, rfl, ⟨xs, SqL.of e1⟩, fun Dl hD => lc_list (xs := xs) (fun j H => Acc X.K T A1 H1 Dl (((ds.take j).filter g).map f) H) (Acc.first (x1.ok s) hD) ?_ ?_ ?_⟩
  · rintro j H _ ⟨A2, acc, ok, x, _⟩
    exact SqL.of (x.same _ _ e1 fun _ z => nomatch z)
  · rintro j y H hj ⟨A2, acc, ok, x, n, ha, ra⟩
    obtain ⟨d, hd, rd⟩ := r1.of hj
    have e2 : ds.take (j + 1) = ds.take j ++ [d] := by rw [List.take_add_one, hd]; rfl
    refine ⟨?_, ?_⟩
    · show ((σ.set i none).set i (some y)).set i none = σ.set i none
      rw [List.set_set, List.set_set]
    · refine (ht d (List.mem_of_getElem? hd)).dit A2 H _ ok (((l0.step x1).step x).blk (rd.mono x.aa) hσ) _ fun A3 H3 x3 => ?_
      cases hg : g d with
      | false =>
        rw [if_neg Bool.false_ne_true]
        refine ⟨A3, acc, x3.ok ok, x.tr0 x3, (x3.nw Dl (by rw [ha]; simp)).trans n, x3.same _ _ ha (fun _ z => nomatch z), ?_⟩
        rw [e2, List.filter_append, List.filter_cons, if_neg (by rw [hg]; exact Bool.false_ne_true), List.filter_nil, List.append_nil]
        exact ra.mono x3.aa
      | true =>
        rw [if_pos rfl]
        refine (he d (List.mem_of_getElem? hd) hg).did A3 H3 _ (x3.ok ok) ((((l0.step x1).step x).step x3).blk ((rd.mono x.aa).mono x3.aa) hσ) _ fun v2 A4 H4 x4 r4 => ?_
        have ha3 := x3.same _ _ ha (fun _ z => nomatch z)
        refine ⟨acc, x4.same _ _ ha3 (fun _ z => nomatch z), ?_, ?_⟩
        · rw [ra.len, List.length_map]
          have h9 := List.length_filter_le g (ds.take j)
          rw [List.length_take] at h9
          omega
        · have q := Acc.more hD (x.tr0 x3) ((x3.nw Dl (by rw [ha]; simp)).trans n) ha3 (ra.mono x3.aa) x4 (x4.ok (x3.ok ok)) r4
          rw [e2, List.filter_append, List.filter_cons, if_pos hg, List.filter_nil, List.map_append]
          exact q
  · intro H h
    rw [r1.len, List.take_length] at h
    exact h.out hD (k.back x1)

end
/-! ### slices and conversions of tuples -/
section
variable {X : Cx} {T : List Addr} {xs ys : List D} {i j : Int}
theorem cutD_all {α : Type} {xs : List α} {lo hi : Option Int} (h1 : HT.sIx xs.length 0 lo = 0) (h2 : HT.sIx xs.length xs.length hi = xs.length) : cutD xs lo hi = xs := by
  unfold cutD
  rw [h1, h2, List.drop_zero, Nat.sub_zero, List.take_length]
theorem sc_t {lo hi : Option Int} : Sc X T (.tup xs) lo hi (.im (.tup (cutD xs lo hi))) := ⟨_, sl_tupA, fun A H v s rv Q k => by
  cases rv with
  | tup e1 r1 =>
    refine ⟨_, _, rfl, seqT_mono s.s e1, fun w => ?_, fun w p hp => k.tup s hp (r1.cut lo hi)⟩
    rw [r1.len] at w
    rw [cutD_all w.1 w.2] at k
    exact k.now s (.tup e1 r1)⟩
theorem cl_listT : Cl X T (.type "list") [.tup xs] (.ls xs) := ⟨_, call_list_of, fun A H vs s r Q k => by
  obtain ⟨v, rfl, r0⟩ := r.one
  cases r0 with
  | tup e1 r1 => exact ⟨_, _, rfl, .inr (seqT_mono s.s e1), fun p hp => k.ls s hp r1⟩⟩
theorem cl_tupT : Cl X T (.type "tuple") [.tup xs] (.im (.tup xs)) := ⟨_, call_tuple_of, fun A H vs s r Q k => by
  obtain ⟨v, rfl, r0⟩ := r.one
  cases r0 with
  | tup e1 r1 => exact ⟨_, _, rfl, .inr ⟨seqT_mono s.s e1, k.now s (.tup e1 r1)⟩⟩⟩
theorem cl_min2 (hc : X.calm = true) : Cl X T (.builtin "min") [.int i, .int j] (.im (.int (min i j))) := ⟨_, call_min2 hc, fun A H vs s r Q k => by
  cases r with
  | cons r1 r =>
  cases r with
  | cons r2 r =>
  cases r
  cases r1
  cases r2
  refine ⟨i, j, rfl, ?_⟩
  have e : (if j < i then j else i) = min i j := by omega
  rw [e]
  exact k.now s (.int _)⟩
theorem o_addT (hx : xs ≠ []) (h : xs.length + ys.length ≤ sizeLine) : Op X T (binaryOp .Add) (.tup xs) (.tup ys) (.im (.tup (xs ++ ys))) := op_of op_catT fun A H v u s rv ru Q k => by
  have rv0 := rv
  cases rv with
  | @tup a vs _ e1 r1 =>
  cases ru with
  | @tup b us _ e2 r2 =>
  refine ⟨a, b, vs, us, rfl, rfl, seqT_mono s.s e1, seqT_mono s.s e2, fun z => hx ?_, by rw [r1.len, r2.len]; exact h, fun z => ?_, fun _ p hp => k.tup s hp (r1.append r2)⟩
  · subst z; cases r1; rfl
  · subst z
    cases r2
    rw [List.append_nil] at k
    exact k.now s rv0
/-! ### truth -/
def tru : D → Option Bool
  | .non => some false
  | .bl b => some b
  | .int i => some (i != 0)
  | .lst xs => some (!xs.isEmpty)
  | .fls xs => some (!xs.isEmpty)
  | .tup xs => some (!xs.isEmpty)
  | _ => none
theorem RpL.emp {K : PySem.W.Frag} {A : Hp} {vs : List V} {ds : List D} (r : RpL K A vs ds) : vs.isEmpty = ds.isEmpty := by cases r <;> rfl
theorem Rp.tru {K : PySem.W.Frag} {A H : Hp} {v : V} {d : D} {k : Bool} (s : Same A H) (r : Rp K A v d) (h : tru d = some k) : TruV K v H k := by
  cases r with
  | non => exact (Option.some.inj h).symm
  | bl => exact (Option.some.inj h).symm
  | int => exact (Option.some.inj h).symm
  | str => cases h
  | lst e r => exact .inl ⟨_, SqL.of (s _ _ e), by rw [r.emp]; exact (Option.some.inj h).symm⟩
  | fls e r => exact .inl ⟨_, s.seq e, by rw [r.emp]; exact (Option.some.inj h).symm⟩
  | tup e r => exact .inr (.inl ⟨_, seqT_mono s e, by rw [r.emp]; exact (Option.some.inj h).symm⟩)
  | dic => cases h
  | ins => cases h
theorem te_tru {e : Expr} {ρ : Rho} {d : D} {k : Bool} (h : Ie X T e ρ d) (ht : tru d = some k) (he : ∀ whole, isTrue e X.env whole = (do let v ← whole; standAt e.pos; holding [v] (truthy v)) := by intro _; rfl) : Te X T e ρ k :=
  te_of (pt_truth pe_tw he) fun A H σ s l Q q => h A H σ s l _ fun v A2 H2 x r => ⟨k, r.tru (x.ok s).s ht, q A2 H2 x⟩
/-- .. of an owned list -/
theorem te_truV {e : Expr} {ρ : Rho} (h : Vw X T e ρ (.ls xs)) (he : ∀ whole, isTrue e X.env whole = (do let v ← whole; standAt e.pos; holding [v] (truthy v)) := by intro _; rfl) : Te X T e ρ (!xs.isEmpty) :=
  te_of (pt_truth pe_tw he) fun A H σ s l Q q => h A H σ s l _ fun v A2 H2 fp x r => by
    cases r with
    | @ls p1 vs1 _ e1 n1 r1 => exact ⟨_, .inl ⟨_, SqL.of e1, by rw [r1.emp]⟩, q A2 H2 x⟩
/-! ### isinstance -/
/-- an own class whose instances are asked -/
structure TyC (K : PySem.W.Frag) (C : Addr) : Prop where
  cl : Cls K C
  ha : PySem.W.findIn K (.ref C) "__class__" = some (some (.builtin "object.__class__"))
  hn : PySem.W.specialIn K (.builtin "object.__class__") "__get__" = some (some (.builtin "getset_descriptor.__get__"))
  tk : PySem.W.takesIn K (.builtin "object.__class__") = some true
  hm : PySem.W.mroIn K C (.type "object") = some true
def tyD : D → Value
  | .non => .type "NoneType"
  | .bl _ => .type "bool"
  | .int _ => .type "int"
  | .str _ => .type "str"
  | .lst _ => .type "list"
  | .fls _ => .type "list"
  | .tup _ => .type "tuple"
  | .dic _ => .type "dict"
  | .ins C _ => .ref C
theorem Rp.ty {K : PySem.W.Frag} {A H : Hp} {v : V} {d : D} (s : Same A H) (r : Rp K A v d) (hc : ∀ C fs, d = .ins C fs → TyC K C) : TyX K H v (tyD d) := by
  cases r with
  | non => exact .base .non
  | bl b => exact .base (.bl b)
  | int i => exact .base (.int i)
  | str x => exact .base (.str x)
  | lst e r => exact .base (.lst (s _ _ e))
  | fls e r =>
    rcases s.seq e with (e | ⟨o, e⟩) | ⟨o, its, n, e, h1, _⟩
    · exact .base (.lst e)
    · exact .base (.frz e)
    · exact .kList e h1
  | tup e r =>
    rcases seqT_mono s e with (e | ⟨o, e⟩) | ⟨o, its, n, e, h1, _⟩
    · exact .base (.tup e)
    · exact .fTuple e
    · exact .kTuple e h1
  | dic e r => exact .base (.dK (s _ _ e))
  | ins e r =>
    obtain ⟨c1, c2, c3, c4, c5⟩ := hc _ _ rfl
    exact .base (.ins (s _ _ e) c1 c2 c3 c4 c5)
/-- isinstance(e, c), c the name of a class of one's own or a built-in one -/
theorem ie_isiC {e : Expr} {ρ : Rho} {d : D} {k : Bool} {x : Str} {C : Addr} {p p2 pos : Pos} (h : Ie X T e ρ d) (hm : X.mg x = some (.ref C)) (hk : PySem.W.kitOne X.K (tyD d) (.ref C) = some k) (hi : X.mg "isinstance" = none) (hc : ∀ C fs, d = .ins C fs → TyC X.K C) (hg : Gl X x := by rfl) (hg2 : Gl X "isinstance" := by rfl) (hd : (x == ("__debug__" : Str)) = false := by decide)
    (hs : starEach [e, .Name x p2] X.env = (false, eval e X.env) :: starEach [.Name x p2] X.env := by rfl) (hs2 : starEach [.Name x p2] X.env = (false, eval (.Name x p2) X.env) :: starEach [] X.env := by rfl) (hpl : (backTo pos (starEach [.Name x p2] X.env)).any (·.1) = false := by rfl) : Ie X T (.Call (.Name "isinstance" p) [e, .Name x p2] [] pos) ρ (.bl k) :=
  ie_of (pe_callB call_isi hg2 hi (by decide +kernel) (pa_cons pe_tw (pa_cons (pe_glob hg hm (v := .ref C) rfl hd) pa_nil hs2) hs) (by decide) (by decide) hs hpl) fun A H σ s l Q q => h A H σ s l _ fun v A2 H2 x r =>
    ⟨v, .ref C, tyD d, .ref C, k, rfl, .own C, r.ty (x.ok s).s hc, hk, q _ A2 H2 x (.bl _)⟩
theorem ie_isiT {e : Expr} {ρ : Rho} {d : D} {k : Bool} {x : Str} {n : String} {p p2 pos : Pos} (h : Ie X T e ρ d) (hm : X.mg x = none) (hv : bootBuiltins x = some (.type n)) (hk : PySem.W.kitOne X.K (tyD d) (.type n) = some k) (hi : X.mg "isinstance" = none) (hc : ∀ C fs, d = .ins C fs → TyC X.K C) (hg : Gl X x := by rfl) (hg2 : Gl X "isinstance" := by rfl) (hnn : x ≠ "__name__" := by decide) (hd : (x == ("__debug__" : Str)) = false := by decide)
    (hs : starEach [e, .Name x p2] X.env = (false, eval e X.env) :: starEach [.Name x p2] X.env := by rfl) (hs2 : starEach [.Name x p2] X.env = (false, eval (.Name x p2) X.env) :: starEach [] X.env := by rfl) (hpl : (backTo pos (starEach [.Name x p2] X.env)).any (·.1) = false := by rfl) : Ie X T (.Call (.Name "isinstance" p) [e, .Name x p2] [] pos) ρ (.bl k) :=
  ie_of (pe_callB call_isi hg2 hi (by decide +kernel) (pa_cons pe_tw (pa_cons (pe_bltn hg hm hv (v := .ty n) rfl hnn hd) pa_nil hs2) hs) (by decide) (by decide) hs hpl) fun A H σ s l Q q => h A H σ s l _ fun v A2 H2 x r =>
    ⟨v, .ty n, tyD d, .type n, k, rfl, .ty n, r.ty (x.ok s).s hc, hk, q _ A2 H2 x (.bl _)⟩
end
end Kf

set_option maxHeartbeats 1000000
/-! Kf: more that changes what is held. -/
namespace Kf
open PySem L2
section
variable {c : Fc} {W : WX} {D : Ends} {ρ ρ' ρ1 ρ2 : Rhm} {e o : Expr} {es : List Expr} {m : M} {d : Kf.D} {ds xs : List Kf.D} {i : Nat} {st : Stmt} {A H : Hp} {σ : L2.St} {fp q : List Addr} {v : V} {f x : Str} {C : Addr} {pos p : Pos} {k : Nat} {rel : M → List Kf.D → Om → Prop} {m' : M}
/-- what is new is frozen -/
theorem Es.frzq (es : Es c A H σ ρ fp) (r : RM c.X.K A H v m q) (f : ∀ a ∈ q, a ∉ fp ∧ c.H0 a = none) : ∃ A', Es c A' H σ ρ fp ∧ Same A A' ∧ Rp c.X.K A' v (frz m) := by
  have t := r.there
  obtain ⟨g1, g2⟩ := glue_ok es.ok t
  refine ⟨glue A H q, ⟨g2, es.x.glued t fun a z => (f a z).2, ?_, es.nd, es.own, fun B h => (es.pn B h).trans g1, es.fix⟩, g1, r.frz g1 fun a z => glue_in z⟩
  exact Sls.mono g1 es.sl (fun a z => rfl) fun a z => by
    rw [glue_out fun w => (f a w).1 z]
    exact (es.sl.there a z).1
theorem eo_frz (h : Eo c W e ρ (.ret m ρ')) : Eo c W e ρ (.ret (.im (frz m)) ρ') := fun A H σ fp es Q k => h A H σ fp es Q fun v A2 H2 q fp2 es2 s2 r n f => by
  obtain ⟨A3, es3, s3, r3⟩ := es2.frzq r f
  exact k v A3 H2 [] fp2 es3 (s2.trans s3) (.im r3) List.nodup_nil fun _ z => nomatch z
/-- a slot's thing becomes data -/
theorem nx_frz {P : L2.St → Hp → Prop} (hi : ρ[i]? = some (some m)) (hF : c.F = []) (q : Nx c P (ρ.set i (some (.im (frz m))))) : Nx c P ρ := fun A H σ fp es => by
  obtain ⟨v, p, h1, h2, h3, h4, h5⟩ := es.sl.alter i hi es.nd
  have t := h2.there
  obtain ⟨g1, g2⟩ := glue_ok es.ok t
  obtain ⟨fp', q1, q2, q3⟩ := h5 (glue A H p) H (.im (frz m)) [] g1 (fun a z w => ⟨rfl, by rw [glue_out w]; exact (es.sl.there a z).1⟩) (.im (h2.frz g1 fun a z => glue_in z)) List.nodup_nil fun _ z => nomatch z
  refine q (glue A H p) H σ fp' ⟨g2, ?_, q1, q2, fun a z => es.own a ?_, fun B h => (es.pn B h).trans g1, es.fix⟩
  · refine ⟨es.x.aa.trans g1, es.x.hh, g2.s, g2.nt, fun a w => ?_, es.x.dm, es.x.tb⟩
    by_cases z : a ∈ p
    · rcases es.own a (h3 a z) with u | u
      · rw [hF] at u; cases u
      · exact absurd u w
    · rw [glue_out z]; exact es.x.nw a w
  · rcases q3 a z with w | w
    · cases w
    · exact w.1
/-- xs.pop(), xs an owned list's name -/
theorem RpL.last {K : PySem.W.Frag} {A : Hp} {vs : List V} (r : RpL K A vs ds) (h : ds[ds.length - 1]? = some d) : ∃ y, vs[vs.length - 1]? = some y ∧ Rp K A y d := by
  rw [r.len]
  exact r.get h
theorem RpL.dropLast {K : PySem.W.Frag} {A : Hp} {vs : List V} (r : RpL K A vs ds) : RpL K A vs.dropLast ds.dropLast := by
  rw [List.dropLast_eq_take, List.dropLast_eq_take, r.len]
  exact r.take _
theorem eo_pop (hpe : PE c.X e (tBM0 c.X.K "list" rPop (tVar i))) (hi : ρ[i]? = some (some (.ls ds))) (hl : ds[ds.length - 1]? = some d) : Eo c W e ρ (.ret (.im d) (ρ.set i (some (.ls ds.dropLast)))) := fun A H σ fp es Q k => by
  refine ⟨fun pins s I => ?_⟩
  obtain ⟨v, p, h1, h2, h3, h4, h5⟩ := es.alter hi
  cases h2 with
  | @ls a xs _ e1 n1 r1 =>
  obtain ⟨y, hy, ry⟩ := r1.last hl
  have mx := ext_mut (o' := .lst xs.dropLast) es.ok e1 trivial n1
  obtain ⟨fp', es', _⟩ := h5 A _ (.ls ds.dropLast) [a] mx (.ls upd_same n1 r1.dropLast) (by simp) fun b z => .inl z
  exact hpe.run pins s σ H Q I ⟨_, h1, .inl ⟨rfl, xs, SqL.of e1⟩, a, xs, y, rfl, rfl, e1, hy, k y A _ [] fp' es' (Same.refl _) (.im ry) List.nodup_nil fun _ z => nomatch z⟩
/-- e.f, e changes what is held -/
theorem eo_fld {fs : List (Str × Kf.D)} (h : Eo c W o ρ (.ret (.im (.ins C fs)) ρ')) (hl : fs.lookup f = some d) (hc : Cls c.X.K C) (hn : NoAttr c.X.K C f) (hb : attributeBase o f c.X.env (eval o c.X.env) = eval o c.X.env := by rfl) : Eo c W (.Attribute o f pos) ρ (.ret (.im d) ρ') := fun A H σ fp es Q k => by
  refine ⟨fun pins s I => ?_⟩
  exact (pe_fld pe_tw hb).run pins s σ H Q I (h A H σ fp es _ fun v A1 H1 q1 fp1 es1 s1 r1 _ _ => by
    cases r1 with
    | im r1 =>
    cases r1 with
    | @ins a _ dx vs _ e1 r1 =>
    obtain ⟨v, g1, g2⟩ := r1.look hl
    exact ⟨a, C, dx, vs, v, rfl, es1.ok.s _ _ e1, hc, hn, g1, k v A1 H1 [] fp1 es1 s1 (.im g2) List.nodup_nil fun _ z => nomatch z⟩)
/-! ### arguments that change what is held -/
def Ea (c : Fc) (es : List Expr) (ρ : Rhm) (ds : List Kf.D) (ρ' : Rhm) : Prop := ∀ A H σ fp, Es c A H σ ρ fp → ∀ Q : List V → Hp → Prop, (∀ vs A2 H2 fp', Es c A2 H2 σ ρ' fp' → Same A A2 → RpL c.X.K A2 vs ds → Q vs H2) → twA c.X es σ H Q
theorem ea_of (h : As c.X c.T es ρ ds) : Ea c es ρ ds ρ := fun A H σ fp es' Q q => h A H σ es'.ok es'.sl.sl Q fun vs A2 H2 x r => q vs A2 H2 fp (es'.step0 x) x.aa r
theorem ea_cons (h : Eo c wNo e ρ (.ret (.im d) ρ1)) (hr : Ea c es ρ1 ds ρ2) (hs : starEach (e :: es) c.X.env = (false, eval e c.X.env) :: starEach es c.X.env := by rfl) : Ea c (e :: es) ρ (d :: ds) ρ2 := fun A H σ fp es' Q q => by
  refine ⟨fun pos pins s I => ?_⟩
  exact (pa_cons pe_tw pa_tw hs).run pos pins s σ H Q I (h A H σ fp es' _ fun v A1 H1 q1 fp1 es1 s1 r1 _ _ => hr A1 H1 σ fp1 es1 _ fun vs A2 H2 fp2 es2 s2 r2 => by
    cases r1 with
    | im r1 => exact q _ A2 H2 fp2 es2 (s1.trans s2) (.cons (r1.mono s2) r2))
/-- C(e, ..), the arguments change what is held -/
theorem eo_make (G : MkM c.X.prog c.X.w c.X.K c.X.mg c.X.base c.T x C k rel) (ha : Ea c (e :: es) ρ ds ρ') (h : rel (.ob C []) ds (.ret (.im .non) m')) (hr : Room (k + 1) c.X.A) (hg : Gl c.X x := by rfl) (hd : (x == ("__debug__" : Str)) = false := by decide)
    (hs : starEach (e :: es) c.X.env = (false, eval e c.X.env) :: starEach es c.X.env := by rfl) (hpl : (backTo pos (starEach es c.X.env)).any (·.1) = false := by rfl) : Eo c W (.Call (.Name x p) (e :: es) [] pos) ρ (.ret m' ρ') := fun A H σ fp es' Q q => by
  refine ⟨fun pins s I => ?_⟩
  obtain ⟨f, fd, ps, F, hm, hk, hb⟩ := G.ex
  refine (pe_make hk F hr hg hm hb .nil passes_no pa_tw hd hs hpl).run pins s σ H Q I (ha A H σ fp es' _ fun vs A1 H1 fp1 es1 s1 r1 a dx na nd ne => ?_)
  rw [List.append_nil]
  refine made es1.ok r1 h (fun v A2 H2 fp2 x2 r2 f2 n2 => ?_) a dx na nd ne
  have es2 := es1.step0 x2
  exact q v A2 H2 fp2 fp1 es2 (s1.trans x2.aa) r2 n2 fun b z => ⟨fun w => es1.live b w (f2 b z), fresh_back es1.x f2 b z⟩
end
/-! ### changes below -/
def putG {κ : Type} [DecidableEq κ] (f : κ) (m : M) : List (κ × M) → List (κ × M)
  | [] => []
  | (g, x) :: r => if g = f then (g, m) :: r else (g, x) :: putG f m r
/-- the thing under the key f is altered at its own places -/
theorem RMs.alter {K : PySem.W.Frag} {A H : Hp} {κ : Type} [DecidableEq κ] {f : κ} {m : M} : ∀ {fs : List (κ × V)} {ms : List (κ × M)} {fp : List Addr}, RMs K A H κ fs ms fp → ms.lookup f = some m → fp.Nodup →
    ∃ v p, fs.lookup f = some v ∧ RM K A H v m p ∧ (∀ a ∈ p, a ∈ fp) ∧ p.Nodup ∧ ∀ A' H' m' p', Same A A' → (∀ a ∈ fp, a ∉ p → H' a = H a ∧ A' a = none) → RM K A' H' v m' p' → p'.Nodup → (∀ a ∈ p', a ∈ p ∨ a ∉ fp) →
      ∃ fp', RMs K A' H' κ fs (putG f m' ms) fp' ∧ fp'.Nodup ∧ ∀ a ∈ fp', a ∈ p' ∨ (a ∈ fp ∧ a ∉ p)
  | _, _, _, .nil, h, _ => by cases h
  | _, _, _, .cons (k := k) (v := v) (m := m0) (p := p0) (q := fp) h0 r, h, n => by
    obtain ⟨n1, n2, n3⟩ := List.nodup_append.mp n
    rw [List.lookup_cons] at h
    by_cases e : k = f
    · subst e
      rw [beq_self_eq_true] at h
      have e0 : m0 = m := Option.some.inj h
      subst e0
      refine ⟨v, p0, by rw [List.lookup_cons, beq_self_eq_true], h0, fun a z => List.mem_append_left _ z, n1, fun A' H' m' p' e k2 r' n' d => ?_⟩
      have out : ∀ a ∈ fp, a ∉ p0 := fun a z w => n3 a w a z rfl
      unfold putG
      rw [if_pos rfl]
      refine ⟨p' ++ fp, .cons r' (RMs.mono e r (fun a z => (k2 a (List.mem_append_right _ z) (out a z)).1) fun a z => (k2 a (List.mem_append_right _ z) (out a z)).2), List.nodup_append.mpr ⟨n', n2, fun a ha b hb q => ?_⟩, fun a z => ?_⟩
      · subst q
        rcases d a ha with z | z
        · exact out a hb z
        · exact z (List.mem_append_right _ hb)
      · rcases List.mem_append.mp z with z | z
        · exact .inl z
        · exact .inr ⟨List.mem_append_right _ z, out a z⟩
    · have ne : (f == k) = false := by simpa using fun z : f = k => e z.symm
      rw [ne] at h
      obtain ⟨v', p, h1, h2, h3, h4, h5⟩ := RMs.alter r h n2
      have out : ∀ a ∈ p0, a ∉ p := fun a z w => n3 a z a (h3 a w) rfl
      refine ⟨v', p, by rw [List.lookup_cons, ne]; exact h1, h2, fun a z => List.mem_append_right _ (h3 a z), h4, fun A' H' m' p' e2 k2 r' n' d => ?_⟩
      obtain ⟨fp', q1, q2, q3⟩ := h5 A' H' m' p' e2 (fun a z w => k2 a (List.mem_append_right _ z) w) r' n' fun a z => (d a z).imp id fun w u => w (List.mem_append_right _ u)
      unfold putG
      rw [if_neg e]
      refine ⟨p0 ++ fp', .cons (h0.mono e2 (fun a z => (k2 a (List.mem_append_left _ z) (out a z)).1) fun a z => (k2 a (List.mem_append_left _ z) (out a z)).2) q1, List.nodup_append.mpr ⟨n1, q2, fun a ha b hb q => ?_⟩, fun a z => ?_⟩
      · subst q
        rcases q3 a hb with z | z
        · rcases d a z with w | w
          · exact out a ha w
          · exact w (List.mem_append_left _ ha)
        · exact n3 a ha a z.1 rfl
      · rcases List.mem_append.mp z with z | z
        · exact .inr ⟨List.mem_append_left _ z, out a z⟩
        · exact (q3 a z).imp id fun w => ⟨List.mem_append_right _ w.1, w.2⟩
/-- the field f of an instance of one's own, altered -/
theorem RM.alterF {K : PySem.W.Frag} {A H : Hp} {v0 : V} {C : Addr} {ms : List (Str × M)} {fp : List Addr} {f : Str} {m : M} (r : RM K A H v0 (.ob C ms) fp) (h : ms.lookup f = some m) (n : fp.Nodup) :
    ∃ a dx fs v p, v0 = .ref a ∧ H a = some (.ins C dx fs) ∧ fs.lookup f = some v ∧ RM K A H v m p ∧ (∀ b ∈ p, b ∈ fp) ∧ p.Nodup ∧ ∀ A' H' m' p', Ext p A H A' H' → RM K A' H' v m' p' → p'.Nodup → (∀ b ∈ p', b ∈ p ∨ H b = none) →
      ∃ fp', RM K A' H' v0 (.ob C (putG f m' ms)) fp' ∧ fp'.Nodup ∧ ∀ b ∈ fp', b ∈ p' ∨ b ∈ fp := by
  have th := r.there
  cases r with
  | @ob a _ dx fs _ fp0 e1 n1 r1 =>
  obtain ⟨n3, n4⟩ := List.nodup_cons.mp n
  obtain ⟨v, p, h1, h2, h3, h4, h5⟩ := RMs.alter r1 h n4
  refine ⟨a, dx, fs, v, p, rfl, e1, h1, h2, fun b z => List.mem_cons_of_mem _ (h3 b z), h4, fun A' H' m' p' x r' n' d => ?_⟩
  have live : ∀ b ∈ a :: fp0, H b ≠ none := fun b z w => by
    have q := (th b z).2
    rw [w] at q
    exact q
  have keep : ∀ b ∈ a :: fp0, b ∉ p → H' b = H b ∧ A' b = none := fun b z w => by
    refine ⟨?_, (x.nw b (live b z)).trans (th b z).1⟩
    have t2 := (th b z).2
    cases q : H b with
    | none => exact absurd q (live b z)
    | some o =>
      rw [q] at t2
      exact x.hh b o q (mut_noTab t2) w
  obtain ⟨fp', q1, q2, q3⟩ := h5 A' H' m' p' x.aa (fun b z w => keep b (List.mem_cons_of_mem _ z) w) r' n' fun b z => (d b z).imp id fun w u => live b (List.mem_cons_of_mem _ u) w
  have ap : a ∉ p := fun z => n3 (h3 a z)
  obtain ⟨k1, k2⟩ := keep a (List.mem_cons_self ..) ap
  have afp : a ∉ fp' := fun z => by
    rcases q3 a z with w | w
    · rcases d a w with u | u
      · exact ap u
      · exact live a (List.mem_cons_self ..) u
    · exact n3 w.1
  refine ⟨a :: fp', .ob (k1.trans e1) k2 q1, List.nodup_cons.mpr ⟨afp, q2⟩, fun b z => ?_⟩
  rcases List.mem_cons.mp z with w | w
  · exact .inr (w ▸ List.mem_cons_self ..)
  · exact (q3 b w).imp id fun u => List.mem_cons_of_mem _ u.1
section
variable {c : Fc} {D : Ends} {ρ : Rhm} {e : Expr} {d : Kf.D} {ds : List Kf.D} {i : Nat} {f : Str} {C : Addr} {ms : List (Str × M)} {st : Stmt}
/-- x.f.append(e), x the name of slot i -/
theorem ss_appF (hps : PS c.X st (tDrop (tBM c.X.K "list" rAppend (tFld c.X.K (tVar i) f) (tCons (tw c.X e) tNil)))) (hr : ρ[i]? = some (some (.ob C ms))) (hm : ms.lookup f = some (.ls ds)) (hc : Cls c.X.K C) (hn : NoAttr c.X.K C f) (h : Asks c ρ e (.im d)) (hz : ds.length < sizeLine) (q : Nx c D.nx (ρ.set i (some (.ob C (putG f (.ls (ds ++ [d])) ms))))) : Ss c st D ρ :=
  ss_of hps fun A H σ fp es => by
    obtain ⟨v0, p0, h1, h2, h3, h4, h5⟩ := es.alter hr
    obtain ⟨a, dx, fs, v, p, rfl, g1, g2, g3, g4, g5, g6⟩ := h2.alterF hm h3
    have g3' := g3
    cases g3 with
    | @ls l xs _ e1 n1 r1 =>
    refine ⟨_, h1, a, C, dx, fs, _, rfl, g1, hc, hn, g2, .inl ⟨rfl, xs, SqL.of e1⟩, es.ask h fun v A2 H2 q2 x ok r fr nd => ?_⟩
    cases r with
    | im rd =>
    have es2 := es.step0 x
    obtain ⟨v3, p3, k1, k2, k3, k4, k5⟩ := es2.alter hr
    rw [h1] at k1
    obtain rfl := Option.some.inj (Option.some.inj k1)
    obtain ⟨a3, dx3, fs3, v4, p4, j0, j1, j2, j3, j4, j5, j6⟩ := k2.alterF hm k3
    cases j0
    have e9 := x.same a _ g1 (fun _ z => nomatch z)
    rw [e9] at j1
    cases j1
    rw [g2] at j2
    cases j2
    cases j3 with
    | @ls _ xs3 _ e3 n3 r3 =>
    have e2 := x.same l _ e1 (fun _ z => nomatch z)
    rw [e2] at e3
    cases e3
    have mx := ext_mut (o' := .lst (xs ++ [v])) ok e2 trivial n3
    obtain ⟨fp5, m1, m2, m3⟩ := j6 A2 _ (.ls (ds ++ [d])) [l] mx (.ls upd_same n3 (r3.append (.cons rd .nil))) (by simp) fun b z => .inl z
    have mx2 : Ext p3 A2 H2 A2 (upd H2 l (.lst (xs ++ [v]))) := ⟨mx.aa, fun b o z w u => mx.hh b o z w fun q => u (j4 b q), mx.ah, mx.nt, mx.nw, mx.dm, mx.tb⟩
    obtain ⟨fp6, es6, _⟩ := k5 A2 _ (.ob C (putG f (.ls (ds ++ [d])) ms)) fp5 mx2 m1 m2 fun b z => by
      rcases m3 b z with w | w
      · exact .inl (j4 b w)
      · exact .inl w
    exact ⟨l, xs, v, rfl, rfl, e2, by rw [r1.len]; exact hz, q A2 _ σ fp6 es6⟩
end
end Kf

set_option maxHeartbeats 1000000
/-! Kf: list comprehensions kept as data, over part of a range; texts compared. -/
namespace Kf
open PySem L2
section
variable {X : Cx} {T : List Addr} {ρ : Rho} {m : M} {d : D} {ds : List D} {i : Nat} {scope : Scope} {elt l u t : Expr} {e : Expr} {te : TE}
theorem dln_frz {K : PySem.W.Frag} (h : Dln T K i te ρ m) : Dln T K i te ρ (.im (frz m)) := fun A H σ s l hi Q k => h A H σ s l hi Q fun v A2 H2 fp x r f _ => by
  obtain ⟨A3, x3, _, r3⟩ := r.froze x f
  exact k.im v A3 H2 x3 r3
/-- [elt for x in range(a, b) if t] -/
theorem den_lcR2f {a b : Int} (hl : As X T [l, u] ρ [.int a, .int b]) (f : Nat → D) (g : Nat → Bool) (hn : -(2 ^ 61) ≤ a ∧ a ≤ 2 ^ 61 ∧ -(2 ^ 61) ≤ b ∧ b < a + sizeLine ∧ b ≤ 2 ^ 61)
    (ht : ∀ j : Nat, a + (j : Int) < b → Bt X T scope t ((ρ.set i none).set i (some (.im (.int (a + (j : Int)))))) (g j))
    (he : ∀ j : Nat, a + (j : Int) < b → g j = true → Be X T scope elt ((ρ.set i none).set i (some (.im (.int (a + (j : Int)))))) (f j)) : Dln T X.K i (tLc (iRng2 (twA X [l, u])) (gName i) (twBT X scope t) (twB X scope elt) [i]) ρ (.ls (((List.range (b - a).toNat).filter g).map f)) := by
  intro A H σ s l0 hσ Q k
  refine (hl A H σ s l0 _ fun vs A1 H1 x1 r1 => ?_)
  cases r1 with
  | cons r1 r2 =>
  cases r2 with
  | cons r2 r3 =>
  cases r3
  cases r1
  cases r2
  refine ⟨a, b, rfl, ⟨by omega, by omega, by omega, by omega⟩, fun Dl hD => lc_range (lo := a) (n := (b - a).toNat) (fun j H => Acc X.K T A1 H1 Dl (((List.range j).filter g).map f) H) (Acc.first (x1.ok s) hD) ?_ ?_⟩
  · rintro j H hj ⟨A2, acc, ok, x, n2, ha, ra⟩
    refine ⟨?_, ?_⟩
    · show ((σ.set i none).set i (some (V.int (a + (j : Int))))).set i none = σ.set i none
      rw [List.set_set, List.set_set]
    · refine (ht j (by omega)).dit A2 H _ ok (((l0.step x1).step x).blk (.int _) hσ) _ fun A3 H3 x3 => ?_
      cases hg : g j with
      | false =>
        rw [if_neg Bool.false_ne_true]
        refine ⟨A3, acc, x3.ok ok, x.tr0 x3, (x3.nw Dl (by rw [ha]; simp)).trans n2, x3.same _ _ ha (fun _ z => nomatch z), ?_⟩
        rw [List.range_succ, List.filter_append, List.filter_cons, if_neg (by rw [hg]; exact Bool.false_ne_true), List.filter_nil, List.append_nil]
        exact ra.mono x3.aa
      | true =>
        rw [if_pos rfl]
        refine (he j (by omega) hg).did A3 H3 _ (x3.ok ok) ((((l0.step x1).step x).step x3).blk (.int _) hσ) _ fun v2 A4 H4 x4 r4 => ?_
        have ha3 := x3.same _ _ ha (fun _ z => nomatch z)
        refine ⟨acc, x4.same _ _ ha3 (fun _ z => nomatch z), ?_, ?_⟩
        · rw [ra.len, List.length_map]
          have h9 := List.length_filter_le g (List.range j)
          rw [List.length_range] at h9
          omega
        · have q := Acc.more hD (x.tr0 x3) ((x3.nw Dl (by rw [ha]; simp)).trans n2) ha3 (ra.mono x3.aa) x4 (x4.ok (x3.ok ok)) r4
          rw [List.range_succ, List.filter_append, List.filter_cons, if_pos hg, List.filter_nil, List.map_append]
          exact q
  · intro H h
    exact h.out hD (k.back x1)
theorem eqv_strs : ∀ xs ys : List Str, PyData.eqvAll (xs.map .str) (ys.map .str) = decide (xs = ys)
  | [], [] => by simp [PyData.eqvAll]
  | [], _ :: _ => by simp [PyData.eqvAll]
  | _ :: _, [] => by simp [PyData.eqvAll]
  | x :: xs, y :: ys => by
    rw [List.map_cons, List.map_cons, PyData.eqvAll, eqv_strs xs ys, PyData.eqv]
    by_cases h1 : x = y <;> by_cases h2 : xs = ys <;> simp [h1, h2]
theorem eqD_strs (xs ys : List Str) : eqD (.lst (xs.map D.str)) (.lst (ys.map D.str)) = decide (xs = ys) := by
  unfold eqD
  rw [py, py, pys_str, pys_str, PyData.eqv]
  exact eqv_strs xs ys
theorem o_neStrs {xs ys : List Str} (h1 : ∀ x ∈ xs, PyData.strOk x = true) (h2 : ∀ x ∈ ys, PyData.strOk x = true) (hu : X.A.units + 64 < cLine) : Op X T (compareOp .NotEq) (.lst (xs.map D.str)) (.lst (ys.map D.str)) (.im (.bl (!decide (xs = ys)))) := by
  have q := o_neD (X := X) (T := T) (cmp_strs h1) (cmp_strs h2) hu
  rw [eqD_strs] at q
  exact q
theorem o_eqStrs {xs ys : List Str} (h1 : ∀ x ∈ xs, PyData.strOk x = true) (h2 : ∀ x ∈ ys, PyData.strOk x = true) (hu : X.A.units + 64 < cLine) : Op X T (compareOp .Eq) (.lst (xs.map D.str)) (.lst (ys.map D.str)) (.im (.bl (decide (xs = ys)))) := by
  have q := o_eqD (X := X) (T := T) (cmp_strs h1) (cmp_strs h2) hu
  rw [eqD_strs] at q
  exact q
end
section
variable {X : Cx} {T : List Addr} {ρ : Rho} {e : Expr} {j : Int} {pos : Pos}
theorem ie_neg (h : Ie X T e ρ (.int j)) : Ie X T (.UnaryOp .USub e pos) ρ (.int (-j)) := ie_of (pe_un un_neg pe_tw) fun A H σ s l Q k => h A H σ s l _ fun v A2 H2 x r => by
  cases r
  exact ⟨j, rfl, k _ A2 H2 x (.int _)⟩
theorem at_last {α : Type} {xs : List α} {z : α} (h : xs[xs.length - 1]? = some z) : atI xs (-1) = some z := by
  have hl : 0 < xs.length := by
    cases xs with
    | nil => simp at h
    | cons => simp
  refine atI_bind (n := xs.length - 1) ?_ h
  unfold ixN
  rw [if_neg (by omega), if_pos (by omega)]
  congr 1
  omega
end
end Kf

set_option maxHeartbeats 1000000
/-! Kf: several names at once. -/
namespace Kf
open PySem L2
section
variable {c : Fc} {D : Ends} {ρ : Rhm} {d1 d2 d3 : Kf.D} {es : List Expr} {i j l : Nat} {st : Stmt}
theorem ss_par3 (hps : PS c.X st (tPar3 i j l (twA c.X es))) (h : As c.X c.T es ρ [d1, d2, d3]) (hi : i < ρ.length) (hj : j < ρ.length) (hl : l < ρ.length) (q : Nx c D.nx (((ρ.set i (some (.im d1))).set j (some (.im d2))).set l (some (.im d3)))) (h0 : c.S0 = none ∨ (i ≠ 0 ∧ j ≠ 0 ∧ l ≠ 0) := by first | exact .inl rfl | exact .inr (by decide)) : Ss c st D ρ :=
  ss_of hps fun A H σ fp es' => es'.askA h fun vs A2 H2 x ok r => by
    have es2 := es'.step0 x
    cases r with
    | cons r1 r =>
    cases r with
    | cons r2 r =>
    cases r with
    | cons r3 r =>
    cases r
    obtain ⟨fp1, e1⟩ := es2.seti r1 hi (h0.imp id fun z => z.1)
    obtain ⟨fp2, e2⟩ := e1.seti r2 (by rw [List.length_set]; exact hj) (h0.imp id fun z => z.2.1)
    obtain ⟨fp3, e3⟩ := e2.seti r3 (by rw [List.length_set, List.length_set]; exact hl) (h0.imp id fun z => z.2.2)
    exact ⟨_, _, _, rfl, q A2 H2 _ fp3 e3⟩
theorem ss_par2 (hps : PS c.X st (tPar i j (twA c.X es))) (h : As c.X c.T es ρ [d1, d2]) (hi : i < ρ.length) (hj : j < ρ.length) (q : Nx c D.nx ((ρ.set i (some (.im d1))).set j (some (.im d2)))) (h0 : c.S0 = none ∨ (i ≠ 0 ∧ j ≠ 0) := by first | exact .inl rfl | exact .inr (by decide)) : Ss c st D ρ :=
  ss_of hps fun A H σ fp es' => es'.askA h fun vs A2 H2 x ok r => by
    have es2 := es'.step0 x
    cases r with
    | cons r1 r =>
    cases r with
    | cons r2 r =>
    cases r
    obtain ⟨fp1, e1⟩ := es2.seti r1 hi (h0.imp id fun z => z.1)
    obtain ⟨fp2, e2⟩ := e1.seti r2 (by rw [List.length_set]; exact hj) (h0.imp id fun z => z.2)
    exact ⟨_, _, rfl, q A2 H2 _ fp2 e2⟩
end
theorem at3 {X : Type} {a b c : X} (x : Int) : atI [a, b, c] (x % 3) = some (if x % 3 = 0 then a else if x % 3 = 1 then b else c) := by
  have h : x % 3 = 0 ∨ x % 3 = 1 ∨ x % 3 = 2 := by omega
  rcases h with h | h | h <;> rw [h] <;> rfl
theorem at2' {X : Type} {a b : X} (x : Int) : atI [a, b] (x % 2) = some (if x % 2 = 0 then a else b) := by
  rcases Int.emod_two_eq x with h | h <;> rw [h] <;> rfl
theorem We.to {X : Cx} {T : List Addr} {e : Expr} {ρ : Rho} {k1 k2 : Bool} (h : We X T e ρ k1) (q : k1 = k2) : We X T e ρ k2 := q ▸ h
end Kf

set_option maxHeartbeats 1000000
/-! Kf: what isinstance asks of own classes, found by the head. -/
namespace Kf
open PySem L2
open He (ga ba)
def tyB (K : PySem.W.Frag) (C : Addr) : Bool := decide (PySem.W.findIn K (.ref C) "__class__" = some (some (.builtin "object.__class__"))) && (decide (PySem.W.specialIn K (.builtin "object.__class__") "__get__" = some (some (.builtin "getset_descriptor.__get__"))) && (decide (PySem.W.takesIn K (.builtin "object.__class__") = some true) && decide (PySem.W.mroIn K C (.type "object") = some true)))
theorem tyB_ok {K : PySem.W.Frag} {C : Addr} (h : tyB K C = true) (c : Cls K C) : TyC K C := by
  obtain ⟨h1, h⟩ := ba h
  obtain ⟨h2, h⟩ := ba h
  obtain ⟨h3, h4⟩ := ba h
  exact ⟨c, of_decide_eq_true h1, of_decide_eq_true h2, of_decide_eq_true h3, of_decide_eq_true h4⟩
def kitB1 (K : PySem.W.Frag) (t : Value) (c : Value) (b : Bool) : Bool := decide (PySem.W.kitOne K t c = some b)
theorem kitB1_ok {K : PySem.W.Frag} {t c : Value} {b : Bool} (h : kitB1 K t c b = true) : PySem.W.kitOne K t c = some b := of_decide_eq_true h
end Kf

set_option maxHeartbeats 1000000
/-! Kf: generator expressions over anything that is walked; their tests may look at what stood there before. -/
namespace Kf
open PySem L2 GxR PyProof.Rows
/-- how a value is walked: n turns, turn i gives what Pf tells -/
def Itb (P : Program) (w : World) (xv : Value) (n : Nat) (Pf : Nat → Value → Prop) (s : Shared) : Prop :=
  ∀ (A : Around) (E : Value → Shared → Prop) (Q : Value → Shared → Prop), A.handled = none →
    (∀ (o : Obj) (fp : List Addr) (St : Nat → Heap → Prop), (∀ b ∈ fp, b < s.heap.objs.size + 1) → (∀ b ∈ fp, b ≠ s.heap.objs.size → ∃ u, s.heap.get? b = some u ∧ ∀ v, u.data ≠ .fields v) → (∀ A' : Around, A'.handled = none → Walks P w A' s.heap.objs.size fp [s.heap.objs.size] n Pf St) → St 0 (s.heap.push o) → Q (.ref s.heap.objs.size) { s with heap := s.heap.push o }) →
    wpAny (model P w) A (pyIter xv) Q E s
theorem itb_str {P : Program} {w : World} {x : Str} {t : Tok} {s : Shared} : Itb P w (.str x t) x.cps.size (SignAt x) s := fun A E Q _ q =>
  wpAny_pyIter_str fun o St W st => q o [s.heap.objs.size] St (fun b hb => by
    rw [List.mem_singleton] at hb
    rw [hb]
    exact Nat.lt_succ_self _) (fun b hb ne => absurd (List.mem_singleton.mp hb) ne) W st
theorem itb_list {P : Program} {w : World} {l : Addr} {items : Array Value} {s : Shared} (hl : s.heap.IsList l items) : Itb P w (.ref l) items.size (fun i v => items[i]? = some v) s := fun A E Q _ q => by
  obtain ⟨o, ho, hc, n, hdt⟩ := id hl
  have hlt : l < s.heap.objs.size := Heap.lt_size ho
  have hne : l ≠ s.heap.objs.size := Nat.ne_of_lt hlt
  refine wpAny_pyIter_list hl (q _ [s.heap.objs.size, l] _ (fun b hb => ?_) (fun b hb ne => ?_) (fun A' hA => Walks.list hA _ l hne items) ⟨?_, ?_⟩)
  · rcases List.mem_cons.mp hb with z | z
    · rw [z]; exact Nat.lt_succ_self _
    · rw [List.mem_singleton] at z
      rw [z]
      exact Nat.lt_succ_of_lt hlt
  · rcases List.mem_cons.mp hb with z | z
    · exact absurd z ne
    · rw [List.mem_singleton] at z
      rw [z]
      exact ⟨o, ho, fun v z => by rw [hdt] at z; cases z⟩
  · exact ⟨_, Heap.get?_push_size _ rfl, rfl, rfl⟩
  · exact hl.at fun o e => Heap.get?_push_of_some _ e
/-- the test of turn i: it may look at all that stood there when the generator was made, but the table P -/
def EltK (X : Cx) (P : Addr) (scope : Scope) (x : Str) (elt : Expr) (Pf : Nat → Value → Prop) (tr : Nat → Bool) (s1 : Shared) : Prop :=
  ∀ (cenv : Env) (A' : Around) (E' : Value → Shared → Prop) (i : Nat) (v : Value) (s2 : Shared) (m2 : Str → Option Value), cenv.scope = scope → cenv.globals = X.env.globals → cenv.cells = cloFrom X.env.cells scope.names [] → A'.handled = none → A'.units ≤ X.A.units + 8 → Pf i v → s2.heap.Ns cenv.locals m2 → m2 x = some v →
    (∀ b o, b ≠ P → s1.heap.get? b = some o → s2.heap.get? b = some o) → wpAny (model X.prog X.w) A' (eval elt cenv) (fun y s3 => y = .bool (tr i) ∧ Keeps s2 s3) E' s2
/-- a generator, made: what is known of it -/
def GenK (X : Cx) (pins : List (Addr × Obj)) (σ : L2.St) (H1 : Hp) (P : Addr) (n : Nat) (tr : Nat → Bool) (g : Addr) (s5 : Shared) : Prop :=
  ∃ (fp wr : List Addr) (G : Array GenState → Array GenState → Prop) (F : Nat → Value → Prop) (St : Nat → Shared → Prop), WalksS X.prog X.w X.A.in1 g fp wr G n F St ∧ St 0 s5 ∧ TruthOf X.prog X.w X.A.in1 F tr ∧ ∀ s', Moved wr G s5 s' → ∃ H2, Tabbed P H1 H2 ∧ Inv X pins σ H2 s'
section
variable {X : Cx} {pins : List (Addr × Obj)} {σ : L2.St} {s : Shared}
theorem gen_core {c P : Addr} {elt iter : Expr} {x : Str} {px gpos : Pos} {scope : Scope} {k : Nat} {Q' : Value → Shared → Prop} {R : Nat → (Nat → Bool) → Hp → Prop}
    (hr : Room k X.A) (TB : TabB X.base X.mg c P) (hcode : X.env.code = .ref c) (S : GenS X.env scope x) (hs : ∀ v, genFold iter X.env v = pure v)
    (hfree : ∀ y ∈ scope.names, y.2 = .free → ∃ c, X.env.cells.lookup y.1 = some c)
    (hit : wpAny (model X.prog X.w) X.A (eval iter X.env) (fun xv s1 => ∃ H1 n Pf tr, Inv X pins σ H1 s1 ∧ TabG H1 P ∧ Itb X.prog X.w xv n Pf s1 ∧ EltK X P scope x elt Pf tr s1 ∧ R n tr H1) X.xe s)
    (hQ : ∀ n tr H1 g s5, R n tr H1 → GenK X pins σ H1 P n tr g s5 → Q' (.ref g) s5) : wpAny (model X.prog X.w) X.A (eval (.GeneratorExp elt [⟨.Name x px, iter, [], 0⟩] scope gpos) X.env) Q' X.xe s := by
  refine wpAny_GeneratorExp_walksQD (cl := cloFrom X.env.cells scope.names []) hr.hd S.co (closure_ok S.free) S.cell S.dot S.loc S.kind hr.depth ?_ hs
  refine wpAny_mono hit (fun xv s1 hx => ?_) fun _ _ e => e
  obtain ⟨H1, n, Pf, tr, I1, ⟨ps, hP, ht⟩, hI, hE, hR⟩ := hx
  refine hI X.A X.xe _ hr.hd fun o fp St hfp hfd W st => ?_
  have hPs : s1.heap.get? P = some { cls := .none, data := .fields ps } := I1.hok P _ hP
  have hPl := Heap.lt_size hPs
  have pP : (s1.heap.push o).get? P = some { cls := .none, data := .fields ps } := Heap.get?_push_of_some _ hPs
  have hC : PySem.W.CodeHd (s1.heap.push o) c P := TB.code.keeps fun b u e => Heap.get?_push_of_some _ (I1.bk b u e)
  have hL : (s1.heap.push o).NoLimit := I1.nolimit.push o
  refine ⟨hL, ?_⟩
  have sz : (s1.heap.push o).objs.size = s1.heap.objs.size + 1 := Heap.size_push ..
  have key : ∀ (code : Value) (h3 : Heap) (tk : Nat) (more : Array Value), Heap.ExtBut P (s1.heap.push o) h3 → (s1.heap.push o).objs.size ≤ h3.objs.size → h3.get? P = some { cls := .none, data := .fields (ps ++ more) } → TriplesOk (ps ++ more).toList →
      wpAny (model X.prog X.w) X.A (builtinsFor X.env.globals X.env.builtins) (fun bi s4 =>
        ∃ J fp wr n0 Pg St0 pz F, Value.ref s1.heap.objs.size = .ref J ∧ (∀ A' : Around, A'.handled = none → Walks X.prog X.w A' J fp wr n0 Pg St0) ∧ St0 0 s4.heap ∧ (∀ b ∈ fp, b < s4.heap.objs.size) ∧ s4.heap.NoLimit ∧ cStatics ∉ wr ∧
          (∀ href : Heap, (∀ b o, s4.heap.get? b = some o → href.get? b = some o) → QuietGenD X.prog X.w (genEnv scope (cloFrom X.env.cells scope.names []) s4.heap.objs.size code bi X.env) x [] elt (List.range s4.heap.objs.size) wr Pg pz F href (X.A.depth + 1) (X.A.units + 8)) ∧
          (∀ a h5 tk gs, gs.bare = true → s4.heap.objs.size < a → h5.objs.size = a + 1 → (∀ b o, s4.heap.get? b = some o → h5.get? b = some o) →
            WalksS X.prog X.w X.A.in4 a (a :: s4.heap.objs.size :: List.range s4.heap.objs.size) (s4.heap.objs.size :: wr) (GenOnlyQ s4.gens.size) (passing pz n0 0).length (fun j y => ∃ i, (passing pz n0 0)[j]? = some i ∧ F i y) (GenAt X.prog X.w X.A.in4 a s4.gens.size s4.heap.objs.size (List.range s4.heap.objs.size) wr pz n0 F) →
            GenAt X.prog X.w X.A.in4 a s4.gens.size s4.heap.objs.size (List.range s4.heap.objs.size) wr pz n0 F 0 { s4 with gens := s4.gens.push gs, toks := tk, heap := h5 } → Q' (.ref a) { s4 with gens := s4.gens.push gs, toks := tk, heap := h5 })) X.xe { s1 with heap := h3, toks := tk } := by
    intro code h3 tk more hx hsz hP3 ht3
    obtain ⟨bm, ob, e1, e2, e3, e4, e5, e6, e7, e8⟩ := TB.bm
    have cP : cStatics ≠ P := fun e => by
      obtain ⟨_, ⟨o', es, ep, ho, hd, _⟩, _⟩ := I1.nolimit
      rw [e, hPs] at ho
      cases ho
      cases hd
    have cL : cStatics < s1.heap.objs.size := by
      obtain ⟨_, hns, _⟩ := I1.nolimit
      exact hns.lt
    have old : ∀ b u, b ≠ P → s1.heap.get? b = some u → h3.get? b = some u := fun b u ne e => hx b u ne (Heap.get?_push_of_some _ e)
    refine wpAny_builtinsFor (m := X.mg) (by rw [I1.ok.glob]; exact ((I1.mod.glob.keeps I1.bk).push o).extBut hx TB.gP) e1 e2 (old _ _ e4 (I1.bk _ _ e5)) e6 e7 e8 ?_
    have fpl : ∀ b ∈ fp, b < h3.objs.size := fun b hb => Nat.lt_of_lt_of_le (hfp b hb) (by rw [← sz]; exact hsz)
    refine ⟨s1.heap.objs.size, fp, [s1.heap.objs.size], n, Pf, St, fun _ => true, fun i y => y = .bool (tr i), rfl, W, ?_, fpl, hL.extBut hx cP, fun z => absurd (List.mem_singleton.mp z) (Nat.ne_of_lt cL), fun href hh => ⟨fun A' E' i v s2 m2 _ _ _ _ _ _ _ => ?_, fun A' E' i v s2 m2 hA hD hU hPv _ hn hm hk => ?_⟩, ?_⟩
    · refine (W X.A hr.hd).frame _ _ _ st fun b hb u e => hx b u (fun z => ?_) e
      by_cases zb : b = s1.heap.objs.size
      · exact absurd (zb.symm.trans z) (fun q => by rw [← q] at hPl; exact Nat.lt_irrefl _ hPl)
      · obtain ⟨u', h1, h2⟩ := hfd b hb zb
        rw [z, hPs] at h1
        cases h1
        exact h2 ps rfl
    · rw [List.forIn_nil]
      exact wpAny_pure ⟨rfl, keeps_refl _⟩
    · refine hE _ A' E' i v s2 m2 rfl rfl rfl hA hU hPv hn hm fun b u ne e => hk b ?_ ?_ u (hh _ _ (old b u ne e))
      · exact List.mem_range.mpr (Heap.lt_size (old b u ne e))
      · intro z
        have hb := Heap.lt_size e
        rw [List.mem_singleton.mp z] at hb
        exact Nat.lt_irrefl _ hb
    · intro a h5 tk5 gs hgb hag hsz5 hk5 W5 hat
      simp only [GxR.passing_true, List.length_range] at W5
      have ho5 : ∀ b u, b ≠ P → s1.heap.get? b = some u → h5.get? b = some u := fun b u ne e => hk5 b u (old b u ne e)
      refine hQ n tr H1 a _ hR ⟨_, _, _, _, _, W5.in4_1, hat, fun j y sj Qj Ej hy hq => ?_, fun s' hm => ?_⟩
      · obtain ⟨i, hij, rfl⟩ := hy
        obtain ⟨hj, ej⟩ := List.getElem?_eq_some_iff.mp hij
        rw [List.getElem_range] at ej
        subst ej
        exact wpAny_truthy_bool hq
      · have fresh : ∀ b u, s1.heap.get? b = some u → b ∉ h3.objs.size :: [s1.heap.objs.size] := fun b u e hb => by
          have hl := Heap.lt_size e
          rcases List.mem_cons.mp hb with z | z
          · have hl2 : s1.heap.objs.size < h3.objs.size := by
              have q := hsz
              rw [sz] at q
              exact q
            rw [z] at hl
            exact Nat.lt_asymm hl hl2
          · rw [List.mem_singleton.mp z] at hl
            exact Nat.lt_irrefl _ hl
        have J := inv_tab (more := more) (h' := s'.heap) (g' := s'.gens) (d' := s'.drawn) (t' := s'.toks) I1 hP (fun b u ne e => hm.heap b u (fresh b u e) (ho5 b u ne e)) (hm.heap P _ (fresh P _ hPs) (hk5 P _ hP3)) (AllBare.movedS (I1.bare.push hgb) hm)
        rw [sh_eta s1 s' hm.os] at J
        exact ⟨_, ⟨⟨ps ++ more, upd_same, ht3⟩, fun b hb => upd_ne hb⟩, J⟩
  cases hf : codeAmong gpos ps.toList with
  | some cv => exact wpAny_genexprCode_hit hcode (hC.code pP ht) hf (key cv _ s1.toks #[] (Heap.ExtBut.refl _ _) (Nat.le_refl _) (by rw [Array.append_empty]; exact pP) (by rw [Array.append_empty]; exact ht))
  | none =>
    refine wpAny_genexprCodeX hcode (hC.code pP ht) (hC.tab pP) hf fun c' h' tk hx h1 h2 hco _ htab _ => ?_
    obtain ⟨_, _, _, _, _, _, _, _, _, _, _, _, _, _, _, _, _, _, _, htr, _⟩ := hco
    exact key _ h' tk _ hx (Nat.le_trans h1 (Nat.le_of_lt h2)) htab.2 htr
end
end Kf

set_option maxHeartbeats 1000000
/-! Kf: any and all of generator expressions, over data. -/
namespace Kf
open PySem L2 GxR PyProof.Rows
section
variable {P : Program} {w : World} {K : PySem.W.Frag} {mg : Str → Option Value} {base : Heap} {T : List Addr} {N ps : List Str} {x qual : Str} {st : Stmt} {f : Addr} {fd : FuncData} {k : Nat} {rel : List D → M → Prop}
/-- fn_ok, with the def's code object -/
theorem fn_okC (F : FunD K x qual (defArgs st) (defBody st) (defScope st) [] [] f fd) (S : FnScope N ps (defScope st)) (len : ∀ ds m, rel ds m → ds.length = ps.length)
    (hb : ∀ (cdv : Value) (A : Around) (outer : List Env) (s : Shared) (H A0 : Hp) (E : XK), fd.code = cdv → Room k (A.deeper (PyProof.Rows.envOfC qual (defScope st) s.heap.objs.size f cdv)) → PySem.W.codeIn K cdv qual = true → ∀ ds m, rel ds m → ∀ D : Ends,
      Rt ⟨(cxOf CX0 P w K mg base N qual (defScope st) f cdv A outer s H E).nox, T, [], A0, H, [], none⟩ D.rt m →
      (∀ ρ, m = .im .non → Nx ⟨(cxOf CX0 P w K mg base N qual (defScope st) f cdv A outer s H E).nox, T, [], A0, H, [], none⟩ D.nx ρ) →
      Gs ⟨(cxOf CX0 P w K mg base N qual (defScope st) f cdv A outer s H E).nox, T, [], A0, H, [], none⟩ (defBody st) D (begun N ds)) : FnOk P w K mg base CX0 (k + 1) f fd ps (spP K T rel) := by
  have hlen : ∀ vs H Q E, spP K T rel vs H Q E → vs.length = ps.length := fun vs H Q E ⟨A, ds, m, _, r, h, _⟩ => by rw [r.len]; exact len ds m h
  obtain ⟨oc, od, dV, kV, doc, pm, an, cdv0, ct, osl, rfl, lk, hcd, hdV, _⟩ := F.ex
  refine fn_of lk hcd S hlen fun A outer s H vs Q E hr hsp => ?_
  obtain ⟨A0, ds, m, ok, r, h, kk⟩ := hsp
  refine ⟨twss (cxOf CX0 P w K mg base N qual (defScope st) f cdv0 A outer s H E).nox (defBody st), PSs.nox pss_tw, ?_⟩
  refine hb cdv0 A outer s H A0 E rfl hr hcd ds m h { nx := fun _ H' => Q .non H', rt := Q } (fun v A2 H2 fp _ x2 r2 n2 f2 => kk v A2 H2 fp x2 r2 f2 n2) (fun ρ e A2 H2 σ2 fp2 es => ?_) A0 H _ [] ⟨ok, Ext.refl ok, ?_, List.nodup_nil, fun _ z => (nomatch z), fun _ z => (nomatch z), fun _ z => nomatch z⟩
  · subst e
    exact kk.im .non A2 H2 es.x .non
  · unfold L2.start begun
    rw [r.len]
    exact begun_sls r
end
theorem ext_tab {T : List Addr} {A H H2 : Hp} {P : Addr} (e : Ok T A H) (hP : TabG H P) (t : Tabbed P H H2) : Ex0 A H A H2 := by
  obtain ⟨t1, t2⟩ := t
  obtain ⟨ps, hP, _⟩ := hP
  have ne : ∀ a o, H a = some o → noTab o → a ≠ P := fun a o h n z => by
    rw [z, hP] at h
    exact n ps (Option.some.inj h).symm
  refine ⟨Same.refl A, fun a o h n _ => (t2 a (ne a o h n)).trans h, fun a o h => ?_, e.nt, fun _ _ => rfl, fun a h => ?_, fun a h => ?_⟩
  · have h1 := e.s _ _ h
    exact (t2 a (ne a o h1 (e.nt _ _ h))).trans h1
  · by_cases z : a = P
    · rw [z]
      obtain ⟨ps2, h2, _⟩ := t1
      rw [h2]
      simp
    · rw [t2 a z]; exact h
  · by_cases z : a = P
    · rw [z]; exact t1
    · obtain ⟨ps2, h2, h3⟩ := h
      exact ⟨ps2, (t2 a z).trans h2, h3⟩
theorem boot_all2 : bootBuiltins "all" = some (.builtin "all") := by decide +kernel
theorem boot_any2 : bootBuiltins "any" = some (.builtin "any") := by decide +kernel
section
variable {X : Cx} {T : List Addr} {ρ : Rho} {iter elt : Expr} {d : D} {c P : Addr} {k n : Nat} {tr : Nat → Bool} {x : Str} {px p pos gpos : Pos} {scope : Scope}
/-- what must be known of the thing that is walked, and of the test -/
def Gen (X : Cx) (T : List Addr) (P : Addr) (scope : Scope) (x : Str) (elt : Expr) (ρ : Rho) (d : D) (n : Nat) (tr : Nat → Bool) : Prop :=
  ∀ (pins : List (Addr × Obj)) (σ : L2.St) (A H : Hp) (s1 : Shared) (v : V) (u : Value), Inv X pins σ H s1 → Ok T A H → Sl X.K A H σ ρ → Rp X.K A v d → RelV v u → ∃ Pf, Itb X.prog X.w u n Pf s1 ∧ EltK X P scope x elt Pf tr s1
theorem ie_any (h : Ie X T iter ρ d) (G : Gen X T P scope x elt ρ d n tr) (hP : P ∈ T) (hr : Room k X.A) (TB : TabB X.base X.mg c P) (hcode : X.env.code = .ref c) (S : GenS X.env scope x) (hm : X.mg "any" = none) (hg : Gl X "any" := by rfl) (hs : ∀ v, genFold iter X.env v = pure v := by intro _; rfl)
    (he : starEach [.GeneratorExp elt [⟨.Name x px, iter, [], 0⟩] scope gpos] X.env = (false, eval (.GeneratorExp elt [⟨.Name x px, iter, [], 0⟩] scope gpos) X.env) :: starEach [] X.env := by rfl) : Ie X T (.Call (.Name "any" p) [.GeneratorExp elt [⟨.Name x px, iter, [], 0⟩] scope gpos] [] pos) ρ (.bl ((List.range n).any tr)) := fun A H σ ok l Q q => by
  refine ⟨fun pins s I => ?_⟩
  refine wpAny_Call_Name_kw (ld_blt I hg hm boot_any2 (callWith_builtin1 ?_ he (by rfl)))
  rw [he]
  refine Calls.spliced_cons (gen_core (pins := pins) (σ := σ) (R := fun m t H1 => m = n ∧ t = tr ∧ ∀ H2, Tabbed P H1 H2 → Q (.bl ((List.range n).any tr)) H2) hr TB hcode S hs S.free ?_ fun m t H1 g s5 hR hG => ?_)
  · refine wpAny_mono ((h A H σ ok l (fun v H1 => ∃ A1, Ex0 A H A1 H1 ∧ Rp X.K A1 v d) (fun v A1 H1 x1 r1 => ⟨A1, x1, r1⟩)).go pins s I) (fun u s1 hu => ?_) fun _ _ e => e
    obtain ⟨v, H1, I1, rv, A1, x1, r1⟩ := hu
    have ok1 := x1.ok ok
    obtain ⟨Pf, i1, i2⟩ := G pins σ A1 H1 s1 v u I1 ok1 (l.step x1) r1 rv
    exact ⟨H1, n, Pf, tr, I1, ok1.tb P hP, i1, i2, rfl, rfl, fun H2 t => q _ A1 H2 (x1.tr0 (ext_tab ok1 (ok1.tb P hP) t)) (.bl _)⟩
  · obtain ⟨rfl, rfl, hR⟩ := hR
    obtain ⟨fp, wr, Gs', F, St, W, hst, htr, hI⟩ := hG
    refine Calls.spliced_nil ?_
    refine call_any_walkS (W.self 0 _ _ _ hst ⟨g, fp, wr, Gs', _, F, St, _, rfl, W, hst, htr, fun s' hmv => ?_⟩)
    obtain ⟨H2, hT, J⟩ := hI s' hmv
    exact ⟨.bl _, H2, J, rfl, hR H2 hT⟩
theorem ie_all (h : Ie X T iter ρ d) (G : Gen X T P scope x elt ρ d n tr) (hP : P ∈ T) (hr : Room k X.A) (TB : TabB X.base X.mg c P) (hcode : X.env.code = .ref c) (S : GenS X.env scope x) (hm : X.mg "all" = none) (hg : Gl X "all" := by rfl) (hs : ∀ v, genFold iter X.env v = pure v := by intro _; rfl)
    (he : starEach [.GeneratorExp elt [⟨.Name x px, iter, [], 0⟩] scope gpos] X.env = (false, eval (.GeneratorExp elt [⟨.Name x px, iter, [], 0⟩] scope gpos) X.env) :: starEach [] X.env := by rfl) : Ie X T (.Call (.Name "all" p) [.GeneratorExp elt [⟨.Name x px, iter, [], 0⟩] scope gpos] [] pos) ρ (.bl ((List.range n).all tr)) := fun A H σ ok l Q q => by
  refine ⟨fun pins s I => ?_⟩
  refine wpAny_Call_Name_kw (ld_blt I hg hm boot_all2 (callWith_builtin1 ?_ he (by rfl)))
  rw [he]
  refine Calls.spliced_cons (gen_core (pins := pins) (σ := σ) (R := fun m t H1 => m = n ∧ t = tr ∧ ∀ H2, Tabbed P H1 H2 → Q (.bl ((List.range n).all tr)) H2) hr TB hcode S hs S.free ?_ fun m t H1 g s5 hR hG => ?_)
  · refine wpAny_mono ((h A H σ ok l (fun v H1 => ∃ A1, Ex0 A H A1 H1 ∧ Rp X.K A1 v d) (fun v A1 H1 x1 r1 => ⟨A1, x1, r1⟩)).go pins s I) (fun u s1 hu => ?_) fun _ _ e => e
    obtain ⟨v, H1, I1, rv, A1, x1, r1⟩ := hu
    have ok1 := x1.ok ok
    obtain ⟨Pf, i1, i2⟩ := G pins σ A1 H1 s1 v u I1 ok1 (l.step x1) r1 rv
    exact ⟨H1, n, Pf, tr, I1, ok1.tb P hP, i1, i2, rfl, rfl, fun H2 t => q _ A1 H2 (x1.tr0 (ext_tab ok1 (ok1.tb P hP) t)) (.bl _)⟩
  · obtain ⟨rfl, rfl, hR⟩ := hR
    obtain ⟨fp, wr, Gs', F, St, W, hst, htr, hI⟩ := hG
    refine Calls.spliced_nil ?_
    refine call_all_walkS (W.self 0 _ _ _ hst ⟨g, fp, wr, Gs', _, F, St, _, rfl, W, hst, htr, fun s' hmv => ?_⟩)
    obtain ⟨H2, hT, J⟩ := hI s' hmv
    exact ⟨.bl _, H2, J, rfl, hR H2 hT⟩
end
end Kf

set_option maxHeartbeats 1000000
/-! Kf: tests of signs. -/
namespace Kf
open PySem L2 GxR PyProof.Rows
section
variable {X : Cx} {T : List Addr} {ρ : Rho} {P : Addr} {scope : Scope} {x g : Str} {z w : Str}
/-- the sign i of w is in the module's text z -/
def inT (z w : Str) (i : Nat) : Bool := match w.cps[i]? with
  | some c => decide (c ∈ z.cps.toList)
  | none => false
/-- x in G, G a text of the module, over the signs of a text -/
theorem gen_inG {p1 p2 p3 : Pos} (hz : ∃ t, X.mg g = some (.str z t)) (hP : mainGlobals ≠ P) (hk : scope.kind = .function) (hl : scope.names.lookup x = some .local) (hg : scope.names.lookup g = some .globalImplicit) (hd : (x == ("__debug__" : Str)) = false := by decide) (hd2 : (g == ("__debug__" : Str)) = false := by decide) :
    Gen X T P scope x (.Compare (.Name x p1) [.In] [.Name g p2] p3) ρ (.str w) w.cps.size (inT z w) := fun pins σ A H s1 v u I ok l r rv => by
  cases r
  obtain ⟨t, rfl⟩ := (show ∃ t, u = .str w t from rv)
  refine ⟨_, itb_str, fun cenv A' E' i v s2 m2 hs hgl _ hA hU hP2 hn hm hkp => ?_⟩
  obtain ⟨c, u, hc, rfl⟩ := hP2
  obtain ⟨tz, hz⟩ := hz
  refine wpAny_Compare1 (wpAny_Name (wpAny_loadName_local (by rw [hs]; exact hk) (show cenv.scope.names.lookup x = some .local by rw [hs]; exact hl) hn hm ?_) hd)
  refine Calls.Name_function_global (by rw [hs]; exact hk) (show cenv.scope.names.lookup g = some .globalImplicit by rw [hs]; exact hg) (Calls.loadGlobal_global (mg := X.mg) ?_ hz ?_) hd2
  · rw [hgl, I.ok.glob]
    exact (I.mod.glob.keeps I.bk).at' fun o e => hkp _ o hP e
  · refine in_str ⟨?_, keeps_refl _⟩
    rw [StrLaws.found_one]
    unfold inT
    rw [hc]
/-- the sign i of w is between two texts -/
def rngT (lo hi w : Str) (i : Nat) : Bool := match w.cps[i]? with
  | some c => (!decide ([c] < lo.cps.toList)) && !decide (hi.cps.toList < [c])
  | none => false
/-- 'lo' <= x <= 'hi' over the signs of a text -/
theorem gen_rng {lo hi : Str} {j1 j2 : Nat} {p1 p2 p3 p4 : Pos} (hk : scope.kind = .function) (hl : scope.names.lookup x = some .local) (hd : (x == ("__debug__" : Str)) = false := by decide) :
    Gen X T P scope x (.Compare (.Constant (.str lo) j1 p1) [.LtE, .LtE] [.Name x p2, .Constant (.str hi) j2 p3] p4) ρ (.str w) w.cps.size (rngT lo hi w) := fun pins σ A H s1 v u I ok l r rv => by
  cases r
  obtain ⟨t, rfl⟩ := (show ∃ t, u = .str w t from rv)
  refine ⟨_, itb_str, fun cenv A' E' i v s2 m2 hs hgl _ hA hU hP2 hn hm hkp => ?_⟩
  obtain ⟨c, u, hc, rfl⟩ := hP2
  have hn3 : ({ s2 with toks := s2.toks + 1 } : Shared).heap.Ns cenv.locals m2 := hn
  refine Compare_chain (Calls.Constant_str (chain_link (wpAny_Name (wpAny_loadName_local (by rw [hs]; exact hk) (show cenv.scope.names.lookup x = some .local by rw [hs]; exact hl) hn3 hm (PySem.P.le_str (wpAny_truthy_bool ?_))) hd)))
  have e : rngT lo hi w i = ((!decide ([c] < lo.cps.toList)) && !decide (hi.cps.toList < [c])) := by
    unfold rngT
    rw [hc]
  rw [e]
  show (if (!decide ([c] < lo.cps.toList)) = true then _ else _)
  cases q : !decide ([c] < lo.cps.toList) with
  | false =>
    rw [if_neg Bool.false_ne_true]
    exact ⟨rfl, keeps_tok _ _⟩
  | true =>
    rw [if_pos rfl]
    exact chain_last (Calls.Constant_str (PySem.P.le_str ⟨rfl, ⟨s2.heap, _, rfl, fun _ _ e => e⟩⟩))
end
end Kf

set_option maxHeartbeats 1000000
/-! Kf: chains, membership, texts' methods. -/
namespace Kf
open PySem L2
section
variable {X : Cx} {T : List Addr} {ρ : Rho} {a b c o e : Expr} {d1 d2 d3 : D} {k1 k2 : Bool} {pos apos : Pos} {xs : List Str} {x y : Str}
theorem rp_bl {K : PySem.W.Frag} {A : Hp} {z : V} (r : Rp K A z (.bl k1)) : z = .bl k1 := by cases r; rfl
/-- a op b op' c -/
theorem did_chain {op op' : CmpOp} (h1 : Ie X T a ρ d1) (h2 : Ie X T b ρ d2) (h3 : k1 = true → Ie X T c ρ d3) (ho : Op X T (compareOp op) d1 d2 (.im (.bl k1))) (ho' : k1 = true → Op X T (compareOp op') d2 d3 (.im (.bl k2))) : Did T X.K (tChain (twO X (compareOp op)) (twO X (compareOp op')) (tw X a) (tw X b) (tw X c)) ρ (.bl (k1 && k2)) := fun A H σ s l Q q => h1 A H σ s l _ fun v A1 H1 x1 r1 => h2 A1 H1 σ (x1.ok s) (l.step x1) _ fun u A2 H2 x2 r2 => ho A2 H2 v u (x2.ok (x1.ok s)) (r1.mono x2.aa) r2 _ fun z A3 H3 p x3 rz _ _ => by
    cases rz with
    | im rz =>
    have ez := rp_bl rz
    subst ez
    have ok3 := x3.ok (x2.ok (x1.ok s))
    refine ⟨k1, rfl, ?_⟩
    cases k1 with
    | false => exact iteF (q _ A3 H3 ((x1.tr0 x2).tr0 x3) (.bl _))
    | true => exact iteT (h3 rfl A3 H3 σ ok3 (((l.step x1).step x2).step x3) _ fun w A4 H4 x4 r4 => ho' rfl A4 H4 u w (x4.ok ok3) ((r2.mono x3.aa).mono x4.aa) r4 Q (KM.back (fun v A5 H5 p5 x5 r5 _ _ => by
        cases r5 with
        | im r5 => exact q v A5 H5 x5 (by simpa using r5)) (((x1.tr0 x2).tr0 x3).tr0 x4)))
theorem ie_chain {op op' : CmpOp} (h1 : Ie X T a ρ d1) (h2 : Ie X T b ρ d2) (h3 : k1 = true → Ie X T c ρ d3) (ho : Op X T (compareOp op) d1 d2 (.im (.bl k1))) (ho' : k1 = true → Op X T (compareOp op') d2 d3 (.im (.bl k2))) (hm : lastMarks [op, op'] [b, c] = false := by with_unfolding_all rfl) : Ie X T (.Compare a [op, op'] [b, c] pos) ρ (.bl (k1 && k2)) :=
  ie_of (pe_chain op_tw op_tw pe_tw pe_tw pe_tw hm) (did_chain h1 h2 h3 ho ho')
theorem te_chain {op op' : CmpOp} (h1 : Ie X T a ρ d1) (h2 : Ie X T b ρ d2) (h3 : k1 = true → Ie X T c ρ d3) (ho : Op X T (compareOp op) d1 d2 (.im (.bl k1))) (ho' : k1 = true → Op X T (compareOp op') d2 d3 (.im (.bl k2))) (hm : lastMarks [op, op'] [b, c] = false := by with_unfolding_all rfl) : Te X T (.Compare a [op, op'] [b, c] pos) ρ (k1 && k2) :=
  te_of (pt_chain op_tw op_tw pe_tw pe_tw pe_tw hm) fun A H σ s l Q q => did_chain h1 h2 h3 ho ho' A H σ s l _ fun v A2 H2 x r => by
    have e := rp_bl r
    subst e
    exact ⟨_, rfl, q A2 H2 x⟩
theorem inV_strs (x : Str) : ∀ {K : PySem.W.Frag} {A : Hp} {vs : List V} {ds : List D} {xs : List Str}, RpL K A vs ds → ds = xs.map D.str → vs.all flatV = true ∧ inV (.str x) vs = decide (x ∈ xs)
  | _, _, _, _, [], .nil, _ => ⟨rfl, by simp [inV]⟩
  | _, _, _, _, y :: ys, .nil, h => nomatch h
  | _, _, _, _, [], .cons _ _, h => nomatch h
  | _, _, _, _, y :: ys, .cons r rs, h => by
    rw [List.map_cons] at h
    obtain ⟨h1, h2⟩ := List.cons.inj h
    subst h1
    cases r
    obtain ⟨i1, i2⟩ := inV_strs x rs h2
    refine ⟨by rw [List.all_cons, i1]; rfl, ?_⟩
    unfold inV at i2 ⊢
    rw [List.any_cons, i2]
    have e : eqV (.str y) (.str x) = decide (x = y) := by
      show (y == x) = _
      by_cases q : x = y
      · subst q; simp
      · have q2 : (y == x) = false := by simpa using fun z : y = x => q z.symm
        rw [q2]; simp [q]
    rw [e]
    by_cases q : x = y <;> simp [q]
/-- a text in a tuple, a list of texts -/
theorem o_inT : Op X T (compareOp .In) (.str x) (.tup (xs.map D.str)) (.im (.bl (decide (x ∈ xs)))) := op_of op_in_seq fun A H v u s rv ru Q k => by
  cases rv
  cases ru with
  | @tup p vs _ e1 r1 =>
  obtain ⟨i1, i2⟩ := inV_strs x r1 rfl
  exact ⟨p, vs, rfl, .inr (seqT_mono s.s e1), rfl, i1, by rw [if_neg Bool.false_ne_true, i2]; exact k.now s (.bl _)⟩
theorem o_inL : Op X T (compareOp .In) (.str x) (.lst (xs.map D.str)) (.im (.bl (decide (x ∈ xs)))) := op_of op_in_seq fun A H v u s rv ru Q k => by
  cases rv
  cases ru with
  | @lst p vs _ e1 r1 =>
  obtain ⟨i1, i2⟩ := inV_strs x r1 rfl
  exact ⟨p, vs, rfl, .inl (SqL.of (s.s _ _ e1)), rfl, i1, by rw [if_neg Bool.false_ne_true, i2]; exact k.now s (.bl _)⟩
theorem o_notInL : Op X T (compareOp .NotIn) (.str x) (.lst (xs.map D.str)) (.im (.bl (!decide (x ∈ xs)))) := op_of op_notIn_seq fun A H v u s rv ru Q k => by
  cases rv
  cases ru with
  | @lst p vs _ e1 r1 =>
  obtain ⟨i1, i2⟩ := inV_strs x r1 rfl
  exact ⟨p, vs, rfl, .inl (SqL.of (s.s _ _ e1)), rfl, i1, by rw [if_pos rfl, i2]; exact k.now s (.bl _)⟩
theorem o_notInT : Op X T (compareOp .NotIn) (.str x) (.tup (xs.map D.str)) (.im (.bl (!decide (x ∈ xs)))) := op_of op_notIn_seq fun A H v u s rv ru Q k => by
  cases rv
  cases ru with
  | @tup p vs _ e1 r1 =>
  obtain ⟨i1, i2⟩ := inV_strs x r1 rfl
  exact ⟨p, vs, rfl, .inr (seqT_mono s.s e1), rfl, i1, by rw [if_pos rfl, i2]; exact k.now s (.bl _)⟩
theorem rpl_strs {K : PySem.W.Frag} {A : Hp} : ∀ {xs : List Str} {vs : List V}, RpL K A vs (xs.map D.str) → vs = xs.map V.str
  | [], _, .nil => rfl
  | y :: ys, _, .cons r rs => by
    cases r
    rw [List.map_cons, rpl_strs rs]
/-- text.find(e) -/
theorem ie_find (h1 : Ie X T o ρ (.str x)) (h2 : Ie X T e ρ (.str y)) (hs : starEach [e] X.env = [(false, eval e X.env)] := by rfl) (hbase : attributeBase o "find" X.env (eval o X.env) = eval o X.env := by rfl) (hline : (apos.endLine == pos.line) = true := by rfl) : Ie X T (.Call (.Attribute o "find" apos) [e] [] pos) ρ (.int (Txt.find x y)) :=
  ie_of (pe_m1 PySem.F.slot_str_find PySem.F.type_str_find mt_find pe_tw pe_tw hs hbase hline) fun A H σ s l Q q => h1 A H σ s l _ fun v A1 H1 x1 r1 => by
    cases r1
    exact ⟨⟨_, rfl⟩, h2 A1 H1 σ (x1.ok s) (l.step x1) _ fun u A2 H2 x2 r2 => by
      cases r2
      exact ⟨_, _, rfl, rfl, q _ A2 H2 (x1.tr0 x2) (.int _)⟩⟩
/-- sep.join(e), e data of a list of texts -/
theorem ie_join (h1 : Ie X T o ρ (.str x)) (h2 : Ie X T e ρ (.lst (xs.map D.str))) (hz : (xs.map (·.length)).sum + xs.length * x.length ≤ 16777216) (hs : starEach [e] X.env = [(false, eval e X.env)] := by rfl) (hbase : attributeBase o "join" X.env (eval o X.env) = eval o X.env := by rfl) (hline : (apos.endLine == pos.line) = true := by rfl) : Ie X T (.Call (.Attribute o "join" apos) [e] [] pos) ρ (.str (Txt.join x xs)) :=
  ie_of (pe_join pe_tw pe_tw hs hbase hline) fun A H σ s l Q q => h1 A H σ s l _ fun v A1 H1 x1 r1 => by
    cases r1
    exact ⟨⟨_, rfl⟩, h2 A1 H1 σ (x1.ok s) (l.step x1) _ fun u A2 H2 x2 r2 => by
      have ok2 := x2.ok (x1.ok s)
      cases r2 with
      | @lst p vs _ e1 r1 =>
      have ev : vs = xs.map V.str := rpl_strs r1
      subst ev
      exact ⟨_, p, xs, rfl, rfl, .inl (SqL.of (ok2.s _ _ e1)), hz, q _ A2 H2 (x1.tr0 x2) (.str _)⟩⟩
end
end Kf

set_option maxHeartbeats 1000000
/-! Kf: scopes of generator expressions without captured names; names and labels as plain functions. -/
namespace Kf
open PySem L2 GxR
def genSB (scope : Scope) (x : Str) : Bool :=
  (match scope.kind with | .function => true | _ => false) && !scope.isCoroutine && scope.names.all (fun y => !decide (y.2 = .cell) && !decide (y.2 = .free)) && decide (scope.names.lookup (".0" : Str) = some NameKind.local) && decide (scope.names.lookup x = some .local)
theorem genS {env : Env} {scope : Scope} {x : Str} (h : genSB scope x = true) : GenS env scope x := by
  unfold genSB at h
  simp only [Bool.and_eq_true, List.all_eq_true, decide_eq_true_eq, Bool.not_eq_true', decide_eq_false_iff_not] at h
  obtain ⟨⟨⟨⟨h1, h2⟩, h3⟩, h4⟩, h5⟩ := h
  refine ⟨?_, h2, fun y hy => (h3 y hy).1, h4, h5, fun y hy e => absurd e (h3 y hy).2⟩
  revert h1
  cases scope.kind <;> simp
namespace L
def signsS : Str := "abcdefghijklmnopqrstuvwxyz0123456789._-"
/-- a name; a label -/
def nameB (x : Str) : Bool := decide (1 ≤ x.length) && decide (x.length ≤ 8) && x.cps.toList.all fun c => decide (c ∈ signsS.cps.toList)
def labelB (x : Str) : Bool := decide (x.length ≤ 40) && x.cps.toList.all fun c => decide (32 ≤ c) && decide (c ≤ 126)
def nameD : D → Bool
  | .str x => nameB x
  | _ => false
def labelD : D → Bool
  | .str x => labelB x
  | _ => false
theorem all_range (w : Str) (f : Nat → Bool) (t : Nat → Bool) (h : ∀ i c, w.cps[i]? = some c → t i = f c) : (List.range w.cps.size).all t = w.cps.toList.all f := by
  rw [Bool.eq_iff_iff, List.all_eq_true, List.all_eq_true]
  constructor
  · intro h1 c hc
    obtain ⟨i, hi, e⟩ := List.mem_iff_getElem.mp hc
    have hi2 : i < w.cps.size := by simpa using hi
    have e2 : w.cps[i]? = some c := by
      rw [← Array.getElem?_toList, List.getElem?_eq_getElem hi, e]
    rw [← h i c e2]
    exact h1 i (List.mem_range.mpr hi2)
  · intro h1 i hi
    have hi2 : i < w.cps.size := List.mem_range.mp hi
    have e2 : w.cps[i]? = some w.cps[i] := Array.getElem?_eq_getElem hi2
    rw [h i _ e2]
    exact h1 _ (by simp)
theorem all_inT (z w : Str) : (List.range w.cps.size).all (inT z w) = w.cps.toList.all fun c => decide (c ∈ z.cps.toList) := all_range w _ _ fun i c h => by
  unfold inT
  rw [h]
theorem all_rngT (w : Str) : (List.range w.cps.size).all (rngT (Str.ofString " ") (Str.ofString "~") w) = w.cps.toList.all fun c => decide (32 ≤ c) && decide (c ≤ 126) := all_range w _ _ fun i c h => by
  unfold rngT
  rw [h]
  have e1 : (Str.ofString " ").cps.toList = [32] := by decide
  have e2 : (Str.ofString "~").cps.toList = [126] := by decide
  rw [e1, e2]
  have f1 : decide ([c] < [32]) = decide (c < 32) := by
    refine decide_eq_decide.mpr ⟨fun q => ?_, fun q => List.Lex.rel q⟩
    cases q with
    | rel h => exact h
    | cons h => cases h
  have f2 : decide ([126] < [c]) = decide (126 < c) := by
    refine decide_eq_decide.mpr ⟨fun q => ?_, fun q => List.Lex.rel q⟩
    cases q with
    | rel h => exact h
    | cons h => cases h
  show (!decide ([c] < [32]) && !decide ([126] < [c])) = _
  rw [f1, f2]
  by_cases a : c < 32 <;> by_cases b : 126 < c <;> simp [a, b] <;> omega
end L
end Kf

set_option maxHeartbeats 1000000
namespace Kf
open PySem L2 CwR
section
variable {X : Cx} {T : List Addr} {ρ : Rho} {o f : Expr} {tf to : TE} {x y z : Str} {s : Str}
theorem pe_opC {op : Operator} {r : R2} {j : Nat} {c0 pos : Pos} (ho : OpR X (binaryOp op) r) (hb : PET X f tf) : PE X (.BinOp (.Constant (.str x) j c0) op f pos) (tOp r (tC (.str x)) tf) := by
  refine ⟨fun pins s σ H Q I h => ?_⟩
  refine wpAny_BinOp (Calls.Constant_str ?_)
  exact thn (hb pins { s with toks := s.toks + 1 } σ H _ (by show 1 ≤ s.toks + 1; omega) (I.tok _) h) fun u s2 ⟨y, H2, I2, r2, q2⟩ => ho pins s2 σ H2 (.str x) y _ u Q I2 ⟨_, rfl⟩ r2 q2
theorem den_repl {K : PySem.W.Frag} (h : Did T K to ρ (.str s)) (hb : s.length + (s.length + 1) * z.length ≤ 16777216) : Did T K (tReplC to y z) ρ (.str (Txt.replace s y z)) := fun A H σ q l Q k =>
  h A H σ q l _ fun v A1 H1 x1 r1 => by
    cases r1
    exact ⟨_, rfl, hb, k _ A1 H1 x1 (.str _)⟩
theorem den_cS {K : PySem.W.Frag} : Did T K (tC (.str x)) ρ (.str x) := fun A H _ s _ _ k => k _ A H (Ext.refl s) (.str _)
end
end Kf
/-! ### one sign replaced -/
namespace Kf
open PySem
theorem repl_one (c : Nat) (z : List Nat) : ∀ l : List Nat, StrLaws.replL [c] z l = (l.map fun a => if a = c then z else [a]).flatten
  | [] => StrLaws.replL_nil
  | a :: l => by
    by_cases h : a = c
    · rw [StrLaws.replL_hit (by simp) (by simp [h])]
      simp only [List.length_cons, List.length_nil, Nat.zero_add, List.drop_succ_cons, List.drop_zero, List.map_cons, List.flatten_cons, h, if_true]
      rw [repl_one c z l]
    · rw [StrLaws.replL_miss (by simp [h]), repl_one c z l]
      simp only [List.map_cons, List.flatten_cons, h, if_false]
      rfl
/-- quote and backslash get a backslash ahead -/
def escL (l : List Nat) : List Nat := (l.map fun a => if a = 34 ∨ a = 92 then [92, a] else [a]).flatten
theorem escL_nil : escL [] = [] := rfl
theorem escL_cons (a : Nat) (l : List Nat) : escL (a :: l) = (if a = 34 ∨ a = 92 then [92, a] else [a]) ++ escL l := rfl
theorem repl_esc : ∀ l : List Nat, StrLaws.replL [34] [92, 34] (StrLaws.replL [92] [92, 92] l) = escL l := by
  intro l
  rw [repl_one, repl_one]
  induction l with
  | nil => rfl
  | cons a l ih =>
    rw [escL_cons, ← ih]
    by_cases h : a = 92
    · subst h; simp
    · by_cases h2 : a = 34
      · subst h2; simp
      · simp [h, h2]
def quoteS (s : Str) : Str := ⟨(34 :: (escL s.cps.toList ++ [34])).toArray⟩
theorem len_toL (s : Str) : s.length = s.cps.toList.length := by
  show s.cps.size = _
  simp
theorem escL_len : ∀ l : List Nat, (escL l).length ≤ 2 * l.length
  | [] => by simp [escL_nil]
  | a :: l => by
    rw [escL_cons]
    have := escL_len l
    split <;> simp <;> omega
theorem str_ext {a b : Str} (h : a.cps.toList = b.cps.toList) : a = b := by
  cases a with | mk x => cases b with | mk y =>
  have : x = y := by
    have h' : x.toList = y.toList := h
    rw [← Array.toArray_toList (xs := x), h', Array.toArray_toList]
  rw [this]
theorem app_toL (a b : Str) : (a ++ b).cps.toList = a.cps.toList ++ b.cps.toList := by
  show (a.cps ++ b.cps).toList = _
  simp
theorem quote_repl (s : Str) : (("\"" : Str) ++ Txt.replace (Txt.replace s "\\" "\\\\") "\"" "\\\"" ) ++ ("\"" : Str) = quoteS s := by
  apply str_ext
  rw [app_toL, app_toL, StrLaws.replace_list (by decide), StrLaws.replace_list (by decide)]
  have e := repl_esc s.cps.toList
  show [34] ++ StrLaws.replL [34] [92, 34] (StrLaws.replL [92] [92, 92] s.cps.toList) ++ [34] = 34 :: (escL s.cps.toList ++ [34])
  rw [e]; rfl
theorem quote_len (s : Str) : (quoteS s).length ≤ 2 * s.length + 2 := by
  rw [len_toL, len_toL]
  have := escL_len s.cps.toList
  show (34 :: (escL s.cps.toList ++ [34])).toArray.toList.length ≤ _
  simp
  omega
end Kf
/-! ### the label of a quoted label -/
namespace Kf
open PySem L2 CwR
theorem sg_eq (c d : Nat) : decide ((⟨#[c]⟩ : Str) = ⟨#[d]⟩) = decide (c = d) := by
  refine decide_eq_decide.mpr ⟨fun h => ?_, fun h => by rw [h]⟩
  have e := congrArg (fun s : Str => s.cps.toList) h
  simpa using e
section
variable {X : Cx} {T : List Addr} {c : Nat} {z : Str}
theorem o_notInS : Op X T (compareOp .NotIn) (.str ⟨#[c]⟩) (.str z) (.im (.bl (!decide (c ∈ z.cps.toList)))) := op_of op_notIn_str fun A H v u s rv ru Q k => by
  cases rv
  cases ru
  refine ⟨_, _, rfl, rfl, ?_⟩
  rw [StrLaws.found_one]
  exact k.im _ A H (Ext.refl s) (.bl _)
end
def unqP : List Nat → Option (List Nat)
  | [] => some []
  | [a] => if a = 92 ∨ a = 34 then none else some [a]
  | a :: b :: l => if a = 92 then (if b = 34 ∨ b = 92 then (unqP l).map (b :: ·) else none) else if a = 34 then none else (unqP (b :: l)).map (a :: ·)
theorem unqP_other {a : Nat} (h1 : a ≠ 92) (h2 : a ≠ 34) : ∀ l : List Nat, unqP (a :: l) = (unqP l).map (a :: ·)
  | [] => by simp [unqP, h1, h2]
  | b :: l => by simp [unqP, h1, h2]
theorem unqP_q : ∀ l : List Nat, unqP (34 :: l) = none
  | [] => by simp [unqP]
  | b :: l => by simp [unqP]
theorem unqP_esc {b : Nat} (h : b = 34 ∨ b = 92) (l : List Nat) : unqP (92 :: b :: l) = (unqP l).map (b :: ·) := by simp [unqP, h]
theorem unqP_bad {b : Nat} (h : ¬ (b = 34 ∨ b = 92)) (l : List Nat) : unqP (92 :: b :: l) = none := by simp [unqP, h]
theorem unqP_end : unqP [92] = none := by simp [unqP]
theorem unqP_escL : ∀ r : List Nat, unqP (escL r) = some r
  | [] => rfl
  | a :: r => by
    rw [escL_cons]
    by_cases h : a = 34 ∨ a = 92
    · rw [if_pos h]
      show unqP (92 :: a :: escL r) = _
      rw [unqP_esc h, unqP_escL r]; rfl
    · rw [if_neg h]
      show unqP (a :: escL r) = _
      rw [unqP_other (fun e => h (.inr e)) (fun e => h (.inl e)), unqP_escL r]; rfl
theorem escL_unqP : ∀ (n : Nat) (l r : List Nat), l.length ≤ n → unqP l = some r → escL r = l
  | _, [], r, _, h => by simp [unqP] at h; subst h; rfl
  | n + 1, a :: l, r, hn, h => by
    by_cases h1 : a = 92
    · subst h1
      cases l with
      | nil => rw [unqP_end] at h; cases h
      | cons b l =>
        by_cases h2 : b = 34 ∨ b = 92
        · rw [unqP_esc h2] at h
          cases e : unqP l with
          | none => rw [e] at h; cases h
          | some q =>
            rw [e] at h
            cases h
            rw [escL_cons, if_pos h2, escL_unqP n l q (by simp at hn; omega) e]; rfl
        · rw [unqP_bad h2] at h; cases h
    · by_cases h2 : a = 34
      · subst h2; rw [unqP_q] at h; cases h
      · rw [unqP_other h1 h2] at h
        cases e : unqP l with
        | none => rw [e] at h; cases h
        | some q =>
          rw [e] at h
          cases h
          rw [escL_cons, if_neg (by simp [h1, h2]), escL_unqP n l q (by simp at hn; omega) e]; rfl
def rst (L : List Nat) (j : Nat) : List Nat := (L.take (L.length - 1)).drop j
theorem rst_cons {L : List Nat} {j : Nat} (h : j + 1 < L.length) : ∃ c, L[j]? = some c ∧ rst L j = c :: rst L (j + 1) := by
  refine ⟨L[j], List.getElem?_eq_getElem (by omega), ?_⟩
  unfold rst
  rw [List.drop_eq_getElem_cons (by simp; omega), List.getElem_take]
theorem rst_nil {L : List Nat} {j : Nat} (h : L.length ≤ j + 1) : rst L j = [] := List.drop_eq_nil_of_le (by simp; omega)
def finL : Option (List Nat) → D
  | some r => if L.labelB ⟨r.toArray⟩ = true then .str ⟨r.toArray⟩ else .non
  | none => .non
def headBad (L : List Nat) : Bool := decide (L.length < 2) || (!decide (L[0]? = some 34) || !decide (L[L.length - 1]? = some 34))
def unqD (t : Str) : D := if headBad t.cps.toList = true then .non else finL (unqP (rst t.cps.toList 1))
theorem str_snoc (r : List Nat) (c : Nat) : (⟨r.toArray⟩ : Str) ++ (⟨#[c]⟩ : Str) = ⟨(r ++ [c]).toArray⟩ := by
  apply str_ext
  rw [app_toL]
theorem str_nil : ("" : Str) = ⟨([] : List Nat).toArray⟩ := rfl
theorem str_len (r : List Nat) : (⟨r.toArray⟩ : Str).length = r.length := by rw [len_toL]
end Kf

set_option maxHeartbeats 1000000
/-! the law's own reading of a quoted label, and that it is the same -/
namespace Kf
open PySem
theorem escL_app : ∀ a b : List Nat, escL (a ++ b) = escL a ++ escL b
  | [], _ => rfl
  | x :: a, b => by rw [List.cons_append, escL_cons, escL_cons, escL_app a b, List.append_assoc]
def decP : List Nat → List Nat
  | [] => []
  | [_] => []
  | a :: b :: l => if a = 92 then b :: decP l else a :: decP (b :: l)
theorem decP_esc (b : Nat) (l : List Nat) : decP (92 :: b :: l) = b :: decP l := by simp [decP]
theorem decP_other {a b : Nat} (h : a ≠ 92) (l : List Nat) : decP (a :: b :: l) = a :: decP (b :: l) := by simp [decP, h]
theorem decP_escL : ∀ r : List Nat, decP (escL r ++ [34]) = r
  | [] => rfl
  | a :: r => by
    rw [escL_cons]
    by_cases h : a = 34 ∨ a = 92
    · rw [if_pos h]
      show decP (92 :: a :: (escL r ++ [34])) = _
      rw [decP_esc, decP_escL r]
    · rw [if_neg h]
      show decP (a :: (escL r ++ [34])) = _
      have h2 : a ≠ 92 := fun e => h (.inr e)
      cases e : escL r ++ [34] with
      | nil => simp at e
      | cons b l => rw [decP_other h2, ← e, decP_escL r]
def lunqD (t : Str) : D := if quoteS ⟨(decP (t.cps.toList.drop 1)).toArray⟩ = t ∧ (decP (t.cps.toList.drop 1)).length ≤ 40 then .str ⟨(decP (t.cps.toList.drop 1)).toArray⟩ else .non
theorem quoteS_toL (r : List Nat) : (quoteS ⟨r.toArray⟩).cps.toList = 34 :: (escL r ++ [34]) := rfl
theorem rst_q (E : List Nat) : rst (34 :: (E ++ [34])) 1 = E := by
  unfold rst
  simp
theorem head_q (E : List Nat) : headBad (34 :: (E ++ [34])) = false := by
  unfold headBad
  simp
theorem quote_of {L : List Nat} (h : headBad L = false) : L = 34 :: (rst L 1 ++ [34]) := by
  unfold headBad at h
  simp only [Bool.or_eq_false_iff, decide_eq_false_iff_not, Bool.not_eq_false', decide_eq_true_eq] at h
  obtain ⟨h1, h2, h3⟩ := h
  cases L with
  | nil => cases h2
  | cons a l =>
    cases h2
    refine congrArg (34 :: ·) ?_
    unfold rst
    simp only [List.length_cons, Nat.add_sub_cancel] at h3 ⊢
    have hl : l ≠ [] := by
      intro e; subst e; simp at h1
    have e : l.dropLast ++ [l.getLast hl] = l := List.dropLast_concat_getLast hl
    have e2 : (34 :: l)[l.length]? = some (l.getLast hl) := by
      have : 0 < l.length := List.length_pos_iff.mpr hl
      rw [List.getLast_eq_getElem, List.getElem?_cons]
      rw [if_neg (by omega), List.getElem?_eq_getElem (by omega)]
    rw [e2] at h3
    have h3 := Option.some.inj h3
    rw [h3] at e
    have e3 : ((34 :: l).take l.length).drop 1 = l.dropLast := by
      have : 0 < l.length := List.length_pos_iff.mpr hl
      obtain ⟨n, hn⟩ : ∃ n, l.length = n + 1 := ⟨l.length - 1, by omega⟩
      rw [hn, List.take_succ_cons, List.drop_succ_cons, List.drop_zero, List.dropLast_eq_take, hn]
      rfl
    rw [e3, e]
theorem mem_escL {a : Nat} : ∀ {r : List Nat}, a ∈ r → a ∈ escL r
  | x :: r, h => by
    rw [escL_cons]
    cases h with
    | head => split <;> simp
    | tail _ h => exact List.mem_append_right _ (mem_escL h)
theorem unq_same (t : Str) (h : ∀ c ∈ t.cps.toList, 32 ≤ c ∧ c ≤ 126) : unqD t = lunqD t := by
  have hne : ∀ r : List Nat, quoteS ⟨r.toArray⟩ = t → t.cps.toList = 34 :: (escL r ++ [34]) := fun r e => by rw [← e, quoteS_toL]
  unfold unqD
  cases hb : headBad t.cps.toList with
  | true =>
    rw [if_pos rfl]
    unfold lunqD
    rw [if_neg]
    rintro ⟨e, _⟩
    rw [hne _ e, head_q] at hb
    cases hb
  | false =>
    rw [if_neg Bool.false_ne_true]
    have hq := quote_of hb
    cases hu : unqP (rst t.cps.toList 1) with
    | none =>
      unfold lunqD
      rw [if_neg]
      · rfl
      rintro ⟨e, _⟩
      rw [hne _ e, rst_q, unqP_escL] at hu
      cases hu
    | some r =>
      have e1 := escL_unqP _ _ r (Nat.le_refl _) hu
      have e2 : quoteS ⟨r.toArray⟩ = t := by
        apply str_ext
        rw [quoteS_toL, e1, ← hq]
      have e3 : decP (t.cps.toList.drop 1) = r := by
        rw [hne r e2]
        exact decP_escL r
      unfold lunqD
      rw [e3]
      show (if L.labelB ⟨r.toArray⟩ = true then _ else _) = _
      have e4 : L.labelB ⟨r.toArray⟩ = decide (r.length ≤ 40) := by
        unfold L.labelB
        rw [str_len]
        have : (r.all fun c => decide (32 ≤ c) && decide (c ≤ 126)) = true := by
          rw [List.all_eq_true]
          intro c hc
          have := h c (by rw [hne r e2]; exact List.mem_cons_of_mem _ (List.mem_append_left _ (mem_escL hc)))
          simp [this.1, this.2]
        show (_ && (r.all fun c => decide (32 ≤ c) && decide (c ≤ 126))) = _
        rw [this, Bool.and_true]
      rw [e4]
      by_cases hl : r.length ≤ 40
      · rw [if_pos (decide_eq_true hl), if_pos ⟨e2, hl⟩]
      · rw [if_neg (by simp [hl]), if_neg fun z => hl z.2]
/-- unquoted undoes quoted -/
theorem unq_quote (s : Str) (h : L.labelB s = true) : unqD (quoteS s) = .str s := by
  have e : quoteS s = quoteS ⟨s.cps.toList.toArray⟩ := by simp
  unfold unqD
  rw [e, quoteS_toL, head_q, if_neg Bool.false_ne_true, rst_q, unqP_escL]
  show (if L.labelB ⟨s.cps.toList.toArray⟩ = true then _ else _) = _
  have e2 : (⟨s.cps.toList.toArray⟩ : Str) = s := by simp
  rw [e2, if_pos h]
end Kf

set_option maxHeartbeats 1000000
namespace Kf
open PySem
theorem sjoin_sing : ∀ l : List Nat, Str.join "" (l.map fun c => (⟨#[c]⟩ : Str)) = ⟨l.toArray⟩
  | [] => rfl
  | [a] => rfl
  | a :: b :: l => by
    have ih := sjoin_sing (b :: l)
    apply str_ext
    have e : Str.join "" ((a :: b :: l).map fun c => (⟨#[c]⟩ : Str)) = (⟨#[a]⟩ : Str) ++ "" ++ Str.join "" ((b :: l).map fun c => (⟨#[c]⟩ : Str)) := rfl
    rw [e, ih, app_toL, app_toL]
    rfl
theorem join_sing (l : List Nat) : Txt.join "" (l.map fun c => (⟨#[c]⟩ : Str)) = ⟨l.toArray⟩ := by
  rw [← sjoin_sing]
  exact StrLaws.glued_eq_join _ _
end Kf

set_option maxHeartbeats 1000000
namespace Kf
open PySem L2
section
variable {X : Cx} {T : List Addr} {d : D} {ds : List D} {a b : Bool}
/-- d in [..] -/
theorem Room.u65 {k : Nat} {A : Around} (r : Room k A) : A.units + 65 < cLine := by have := r.un; omega
theorem o_inD (h1 : cmpD d = true) (h2 : cmpD (.lst ds) = true) (hu : X.A.units + 65 < cLine) : Op X T (compareOp .In) d (.lst ds) (.im (.bl ((pys ds).any fun z => PyData.eqv z (py d)))) := op_of (op_inD hu) fun A H v u s rv ru Q k => by
  obtain ⟨a1, a2⟩ := (Bool.and_eq_true _ _).mp h1
  obtain ⟨b1, b2⟩ := (Bool.and_eq_true _ _).mp h2
  have e : py (.lst ds) = .list (pys ds) := by rw [py]
  have q := ru.dp s.s b1
  rw [e] at q b2
  exact ⟨_, _, rv.dp s.s a1, q, a2, b2, k.now s (.bl _)⟩
theorem o_nisB : Op X T (compareOp .IsNot) (.bl a) (.bl b) (.im (.bl (!decide (a = b)))) := op_of op_isnot_bl fun A H v u s rv ru Q k => by
  cases rv; cases ru
  exact ⟨_, _, rfl, rfl, k.now s (.bl _)⟩
/-- a text repeated -/
theorem op_mulS : OpR X (binaryOp .Mult) (fun x y H Q => ∃ z n, x = .str z ∧ y = .int n ∧ MulOk z n ∧ Q (.str (Txt.mul z n)) H) := by
  intro pins s σ H x y v u Q I rx ry h
  obtain ⟨z, n, rfl, rfl, hz, q⟩ := h
  obtain ⟨t, rfl⟩ := rx
  obtain ⟨t', rfl⟩ := ry
  exact PySem.SB.mul hz (fun t' tk => ⟨.str _, H, I.tok _, ⟨_, rfl⟩, q⟩)
theorem o_mulS {z : Str} {n : Int} (h : MulOk z n) : Op X T (binaryOp .Mult) (.str z) (.int n) (.im (.str (Txt.mul z n))) := op_of op_mulS fun A H v u s rv ru Q k => by
  cases rv; cases ru
  exact ⟨_, _, rfl, rfl, h, k.now s (.str _)⟩
end
end Kf

set_option maxHeartbeats 1000000
namespace Kf
open PySem L2
/-! Kb1: the tables of defs with generator expressions, out of the head's facts. -/
section
variable {K : PySem.W.Frag} {h base : Heap} {mg : Str → Option Value} {fd : FuncData} {x qual : Str} {a : Arguments} {b : List Stmt} {sc : Scope} {tf : List He.Defn} {p : He.Defn}
theorem tab_of (F : FunD K x qual a b sc [] [] (He.fAd K p) fd) (hp : p ∈ tf) (hT : ∀ q ∈ tf.map (He.cT K), LamX.TabB base mg q.1 q.2) :
    ∃ c P, fd.code = .ref c ∧ GxR.TabB base mg c P ∧ P ∈ (tf.map (He.cT K)).map (·.2) := by
  obtain ⟨oc, od, dV, kV, doc, pm, an, cdv, ct, osl, rfl, lk, hcd, _⟩ := F.ex
  obtain ⟨c, rfl⟩ := He.codeIn_ref hcd
  have e : He.codeOf K p = c := He.codeOf_eq lk rfl
  have t := hT (He.cT K p) (List.mem_map.mpr ⟨p, hp, rfl⟩)
  refine ⟨c, (He.cT K p).2, rfl, ?_, List.mem_map.mpr ⟨He.cT K p, List.mem_map.mpr ⟨p, hp, rfl⟩, rfl⟩⟩
  have t1 : LamX.TabB base mg c (He.cT K p).2 := by
    have : (He.cT K p).1 = c := e
    rw [← this]; exact t
  exact ⟨t1.code, t1.bm, t1.gP⟩
variable {file : Str} {fa : List He.Fa} {fn : List He.DefD} {xs : List XD} {ex : PySem.W.Frag → Bool}
theorem SaysK.cs1 (c : SaysK file fa fn xs tf ex h K) : ∀ p ∈ tf.map (He.cT K), h.get? p.2 = some { cls := .none, data := .fields #[] } := fun p hp => by
  obtain ⟨q, hq, rfl⟩ := List.mem_map.mp hp
  exact c.empty q hq
theorem SaysK.cs2 (c : SaysK file fa fn xs tf ex h K) : ∀ p ∈ tf.map (He.cT K), K.lookup p.2 = none := fun p hp => by
  obtain ⟨q, hq, rfl⟩ := List.mem_map.mp hp
  exact c.out q hq
theorem SaysK.cs3 (c : SaysK file fa fn xs tf ex h K) (X : K.In h) : ∀ p ∈ tf.map (He.cT K), PySem.W.CodeHd h p.1 p.2 := fun p hp => by
  obtain ⟨q, hq, rfl⟩ := List.mem_map.mp hp
  exact PySem.W.codeHd_of_K X (c.hd q hq)
end
end Kf

set_option maxHeartbeats 1000000
namespace Kf
open PySem L2
/-! Kb2: the module's own tuples of texts; upper, lower; find of one sign. -/
structure GT (K : PySem.W.Frag) (mg : Str → Option Value) (x : Str) (xs : List Str) : Prop where
  g : mg x = some (.ref (He.ga K x))
  t : He.tupB K x (xs.map He.Dv.str) = true
section
variable {X : Cx} {T : List Addr} {ρ : Rho} {d : D} {x y : Str} {pos apos : Pos} {o : Expr} {xs : List Str}
theorem rpL_strs {K : PySem.W.Frag} {A : Hp} : ∀ xs : List Str, RpL K A (xs.map V.str) (xs.map D.str)
  | [] => .nil
  | x :: xs => .cons (.str x) (rpL_strs xs)
theorem ie_gT (G : GT X.K X.mg x xs) (hg : Gl X x := by rfl) (hd : (x == ("__debug__" : Str)) = false := by decide) : Ie X T (.Name x pos) ρ (.tup (xs.map D.str)) := by
  refine ie_c (v := .ref (He.ga X.K x)) (pe_glob hg G.g (v := .ref (He.ga X.K x)) rfl hd) fun A => ?_
  have h := He.tupB_ok G.t A
  have e : (xs.map He.Dv.str).map (He.Dv.v X.K) = xs.map V.str := by rw [List.map_map]; rfl
  rw [e] at h
  exact .tup h (rpL_strs xs)
theorem ie_upper (h : Ie X T o ρ (.str x)) (hz : x.length ≤ 5592405) (hbase : attributeBase o "upper" X.env (eval o X.env) = eval o X.env := by rfl) (hline : (apos.endLine == pos.line) = true := by rfl) : Ie X T (.Call (.Attribute o "upper" apos) [] [] pos) ρ (.str (Txt.upper x)) :=
  ie_of (pe_upper pe_tw hbase hline) fun A H σ s l Q q => h A H σ s l _ fun v A1 H1 x1 r1 => by
    cases r1
    exact ⟨⟨_, rfl⟩, _, rfl, rfl, hz, q _ A1 H1 x1 (.str _)⟩
theorem ie_lower (h : Ie X T o ρ (.str x)) (hz : x.length ≤ 5592405) (hbase : attributeBase o "lower" X.env (eval o X.env) = eval o X.env := by rfl) (hline : (apos.endLine == pos.line) = true := by rfl) : Ie X T (.Call (.Attribute o "lower" apos) [] [] pos) ρ (.str (Txt.lower x)) :=
  ie_of (pe_lower pe_tw hbase hline) fun A H σ s l Q q => h A H σ s l _ fun v A1 H1 x1 r1 => by
    cases r1
    exact ⟨⟨_, rfl⟩, _, rfl, rfl, hz, q _ A1 H1 x1 (.str _)⟩
end
/-! ### one sign is found -/
theorem find_none {x : Str} {c : Nat} (h : c ∉ x.cps.toList) : Txt.find x ⟨#[c]⟩ = -1 := by
  rcases PyProof.Rows.find_whole x ⟨#[c]⟩ with ⟨h0, _⟩ | ⟨i, _, hi, _⟩
  · exact h0
  · exact absurd (List.mem_of_getElem? ((StrLaws.subAt_one x c i).mp hi)) h
theorem find_at {x : Str} {c : Nat} {w r : List Nat} (h : x.cps.toList = w ++ c :: r) (hw : c ∉ w) : Txt.find x ⟨#[c]⟩ = (w.length : Int) := by
  have hat : StrLaws.At x ⟨#[c]⟩ x.length w.length := (StrLaws.subAt_one x c w.length).mpr (by rw [h]; simp)
  rcases PyProof.Rows.find_whole x ⟨#[c]⟩ with ⟨_, hn⟩ | ⟨i, h0, hi, hn⟩
  · exact absurd hat (hn _)
  · rw [h0]
    have e := (StrLaws.subAt_one x c i).mp hi
    rw [h] at e
    by_cases q : i < w.length
    · rw [List.getElem?_append_left q] at e
      exact absurd (List.mem_of_getElem? e) hw
    · by_cases q2 : w.length < i
      · exact absurd hat (hn _ q2)
      · have : i = w.length := by omega
        rw [this]
theorem first_at {c : Nat} : ∀ {l : List Nat}, c ∈ l → ∃ w r, l = w ++ c :: r ∧ c ∉ w
  | a :: l, h => by
    by_cases q : a = c
    · exact ⟨[], l, by rw [q]; rfl, by simp⟩
    · rcases List.mem_cons.mp h with z | z
      · exact absurd z.symm q
      · obtain ⟨w, r, e, hw⟩ := first_at z
        exact ⟨a :: w, r, by rw [e]; rfl, by simp [hw, Ne.symm q]⟩
theorem find_cases (x : Str) (c : Nat) : (c ∉ x.cps.toList ∧ Txt.find x ⟨#[c]⟩ = -1) ∨ ∃ w r, x.cps.toList = w ++ c :: r ∧ c ∉ w ∧ Txt.find x ⟨#[c]⟩ = (w.length : Int) := by
  by_cases h : c ∈ x.cps.toList
  · obtain ⟨w, r, e, hw⟩ := first_at h
    exact .inr ⟨w, r, e, hw, find_at e hw⟩
  · exact .inl ⟨h, find_none h⟩
/-! ### capitals -/
theorem upper_L {x : Str} (h : ∀ c ∈ x.cps.toList, c < 128) : Txt.upper x = ⟨(x.cps.toList.map PyProof.Rows.up1).toArray⟩ := by
  rw [PyProof.Rows.upper_ascii h]
  refine str_ext ?_
  simp
theorem lower_L {x : Str} (h : ∀ c ∈ x.cps.toList, c < 128) : Txt.lower x = ⟨(x.cps.toList.map PyProof.Rows.lo1).toArray⟩ := by
  rw [PyProof.Rows.lower_ascii h]
  refine str_ext ?_
  simp
end Kf

set_option maxHeartbeats 1000000
namespace Kf
open PySem L2
/-! Kb3: data that may be compared, part by part. -/
structure CmpK (k : Nat) (d : D) : Prop where
  b : pyb d = true
  l : PyData.canLay0 (py d) = true
  d : PyData.depth (py d) ≤ k
theorem CmpK.cmp {k : Nat} {d : D} (h : CmpK k d) (hk : k ≤ 64 := by decide) : cmpD d = true := by
  unfold cmpD SeqAt.shaped
  rw [h.b, h.l, decide_eq_true (Nat.le_trans h.d hk)]
  rfl
theorem CmpK.mono {j k : Nat} {d : D} (h : CmpK j d) (hk : j ≤ k) : CmpK k d := ⟨h.b, h.l, Nat.le_trans h.d hk⟩
theorem cmpk_str {k : Nat} {x : Str} (h : PyData.strOk x = true) : CmpK k (.str x) := ⟨rfl, by rw [py, PyData.canLay0, h], by rw [py, PyData.depth] <;> simp⟩
theorem cmpk_int {k : Nat} {i : Int} : CmpK k (.int i) := ⟨rfl, by rw [py, PyData.canLay0], by rw [py, PyData.depth] <;> simp⟩
theorem cmpk_bl {k : Nat} {i : Bool} : CmpK k (.bl i) := ⟨rfl, by rw [py, PyData.canLay0], by rw [py, PyData.depth] <;> simp⟩
theorem cmpk_non {k : Nat} : CmpK k .non := ⟨rfl, by rw [py, PyData.canLay0], by rw [py, PyData.depth] <;> simp⟩
theorem cmpk_all {k : Nat} : ∀ {ds : List D}, (∀ d ∈ ds, CmpK k d) → pybs ds = true ∧ PyData.canLayAll0 (pys ds) = true ∧ PyData.depthAll (pys ds) ≤ k
  | [], _ => ⟨rfl, rfl, by rw [pys, PyData.depthAll]; omega⟩
  | d :: ds, h => by
    obtain ⟨h1, h2, h3⟩ := h d (.head _)
    obtain ⟨g1, g2, g3⟩ := cmpk_all fun x hx => h x (.tail _ hx)
    refine ⟨by rw [pybs, h1, g1]; rfl, by rw [pys, PyData.canLayAll0, h2, g2]; rfl, by rw [pys, PyData.depthAll]; omega⟩
theorem cmpk_tup {k : Nat} {ds : List D} (h : ∀ d ∈ ds, CmpK k d) : CmpK (k + 1) (.tup ds) := by
  obtain ⟨g1, g2, g3⟩ := cmpk_all h
  exact ⟨by rw [pyb, g1], by rw [py, PyData.canLay0, g2], by rw [py, PyData.depth]; omega⟩
theorem cmpk_lst {k : Nat} {ds : List D} (h : ∀ d ∈ ds, CmpK k d) : CmpK (k + 1) (.lst ds) := by
  obtain ⟨g1, g2, g3⟩ := cmpk_all h
  exact ⟨by rw [pyb, g1], by rw [py, PyData.canLay0, g2], by rw [py, PyData.depth]; omega⟩
theorem all_nil {p : D → Prop} : ∀ d ∈ ([] : List D), p d := fun _ z => nomatch z
theorem all_cons {p : D → Prop} {d : D} {ds : List D} (h : p d) (r : ∀ x ∈ ds, p x) : ∀ x ∈ d :: ds, p x := List.forall_mem_cons.mpr ⟨h, r⟩
theorem cmpk_strs {k : Nat} {xs : List Str} (h : ∀ x ∈ xs, PyData.strOk x = true) : ∀ d ∈ xs.map D.str, CmpK k d := fun d hd => by
  obtain ⟨x, hx, rfl⟩ := List.mem_map.mp hd
  exact cmpk_str (h x hx)
end Kf

set_option maxHeartbeats 1000000
namespace Kf
open PySem L2 GxR PyProof.Rows
/-! Kb4: f.count(x) > 1 in a generator expression over a tuple of texts, f a list of texts that the def holds. -/
def genSF (scope : Scope) (x : Str) : Bool :=
  (match scope.kind with | .function => true | _ => false) && !scope.isCoroutine && scope.names.all (fun y => !decide (y.2 = .cell)) && decide (scope.names.lookup (".0" : Str) = some NameKind.local) && decide (scope.names.lookup x = some .local)
theorem genS_f {env : Env} {scope : Scope} {x : Str} (h : genSF scope x = true) (hf : ∀ y ∈ scope.names, y.2 = .free → ∃ c, env.cells.lookup y.1 = some c) : GenS env scope x := by
  unfold genSF at h
  simp only [Bool.and_eq_true, List.all_eq_true, decide_eq_true_eq, Bool.not_eq_true', decide_eq_false_iff_not] at h
  obtain ⟨⟨⟨⟨h1, h2⟩, h3⟩, h4⟩, h5⟩ := h
  refine ⟨?_, h2, fun y hy => h3 y hy, h4, h5, hf⟩
  revert h1
  cases scope.kind <;> simp
theorem itb_tuple {P : Program} {w : World} {l : Addr} {items : Array Value} {s : Shared} (hl : s.heap.IsTuple l items) : Itb P w (.ref l) items.size (fun i v => items[i]? = some v) s := fun A E Q _ q => by
  obtain ⟨o, ho, hc, n, hdt⟩ := id hl
  have hlt : l < s.heap.objs.size := Heap.lt_size ho
  have hne : l ≠ s.heap.objs.size := Nat.ne_of_lt hlt
  refine wpAny_pyIter_tuple hl (q _ [s.heap.objs.size, l] _ (fun b hb => ?_) (fun b hb ne => ?_) (fun A' hA => Walks.tuple hA _ l hne items) ⟨?_, ?_⟩)
  · rcases List.mem_cons.mp hb with z | z
    · rw [z]; exact Nat.lt_succ_self _
    · rw [List.mem_singleton] at z
      rw [z]
      exact Nat.lt_succ_of_lt hlt
  · rcases List.mem_cons.mp hb with z | z
    · exact absurd z ne
    · rw [List.mem_singleton] at z
      rw [z]
      exact ⟨o, ho, fun v z => by rw [hdt] at z; cases z⟩
  · exact ⟨_, Heap.get?_push_size _ rfl, rfl, rfl⟩
  · exact hl.at fun o e => Heap.get?_push_of_some _ e
theorem vals_strs : ∀ {xs : List Str} {its : List Value}, Vals (xs.map V.str) its → StrsAre its xs
  | [], _, .nil => .nil
  | x :: xs, _, .cons r rs => by
    obtain ⟨t, rfl⟩ := (show ∃ t, _ = Value.str x t from r)
    exact .cons x t (vals_strs rs)
theorem strs_at : ∀ {its : List Value} {xs : List Str}, StrsAre its xs → ∀ {i : Nat} {v : Value}, its[i]? = some v → ∃ x t, xs[i]? = some x ∧ v = .str x t
  | _, _, .cons y t r, 0, v, h => by
    cases h
    exact ⟨y, t, rfl, rfl⟩
  | _, _, .cons y t r, i + 1, v, h => strs_at r (by simpa using h)
def cntT (xs ws : List Str) (i : Nat) : Bool := match ws[i]? with
  | some x => decide (1 < xs.count x)
  | none => false
theorem countIn_strs (x : Str) : ∀ xs : List Str, PySem.Spec.countIn (.str x) (xs.map PyData.str) = (xs.count x : Nat)
  | [] => rfl
  | y :: xs => by
    rw [List.map_cons, PySem.Spec.countIn, countIn_strs x xs, List.count_cons]
    have e : PySem.Spec.same (.str y) (.str x) = (y == x) := rfl
    rw [e]
    split <;> omega
section
variable {X : Cx} {T : List Addr} {ρ : Rho} {P : Addr} {scope : Scope} {x f : Str} {xs ws : List Str} {j : Nat}
theorem gen_cnt {p1 p2 p3 p4 p5 p6 : Pos} {j1 : Nat} (hPT : P ∈ T) (hr : ρ[j]? = some (some (.im (.lst (xs.map D.str))))) (hN : X.N[j]? = some f) (hv : X.env.kindOf f = some .cell) (hk : scope.kind = .function) (hl : scope.names.lookup x = some .local) (hf : scope.names.lookup f = some .free)
    (hcl : (cloFrom X.env.cells scope.names []).lookup f = some ((X.env.cells.lookup f).getD 0)) (hd : (x == ("__debug__" : Str)) = false := by decide) (hd2 : (f == ("__debug__" : Str)) = false := by decide) (hd3 : (f == ("__classdict__" : Str)) = false := by decide) (hline : (p2.endLine == p4.line) = true := by rfl) :
    Gen X T P scope x (.Compare (.Call (.Attribute (.Name f p1) "count" p2) [.Name x p3] [] p4) [.Gt] [.Constant (.int 1) j1 p5] p6) ρ (.tup (ws.map D.str)) ws.length (cntT xs ws) := fun pins σ A H s1 v u I ok l r rv => by
  obtain ⟨v0, fp, e0, r0⟩ := l j _ hr
  cases r0 with
  | im r0 =>
  cases r0 with
  | @lst a ys _ e1 rl =>
  have ey := rpl_strs rl
  subst ey
  obtain ⟨its, rv0, pl, _⟩ := I.list (SqL.of (ok.s _ _ e1))
  obtain ⟨m, hns, hlk⟩ := I.loc
  obtain ⟨u0, ru0, hlook⟩ := hlk j f (.ref a) hN e0 (.inr (.inl hv))
  have eu0 : u0 = .ref a := ru0
  subst eu0
  have hcell : ∃ c, X.env.cells.lookup f = some c ∧ s1.heap.IsCell c (some (.ref a)) := by
    rcases hlook with ⟨z, _⟩ | ⟨_, z⟩
    · rw [hv] at z; cases z
    · exact z
  obtain ⟨c, hc1, hc2⟩ := hcell
  have hPh : ∃ ps, s1.heap.get? P = some { cls := .none, data := .fields ps } := by
    obtain ⟨ps, hP, _⟩ := ok.tb P hPT
    exact ⟨ps, I.hok P _ hP⟩
  obtain ⟨ps, hPh⟩ := hPh
  cases r with
  | @tup t zs _ e2 rz =>
  have ez := rpl_strs rz
  subst ez
  have eu : u = .ref t := rv
  subst eu
  obtain ⟨wts, rw0, tl, _⟩ := I.tuple (seqT_mono ok.s e2)
  have hw := vals_strs rw0
  have hlen : wts.length = ws.length := by
    have := rw0.length
    rw [List.length_map] at this
    omega
  have htl : s1.heap.IsTuple t wts.toArray := by
    obtain ⟨o, h1, h2, n, h3⟩ := tl
    exact ⟨o, h1, h2, n, h3⟩
  refine ⟨fun i v => wts.toArray[i]? = some v, ?_, fun cenv A' E' i v s2 m2 hs hgl hcs hA hU hP2 hn hm hkp => ?_⟩
  · have := itb_tuple (P := X.prog) (w := X.w) htl
    rw [show wts.toArray.size = ws.length by simpa using hlen] at this
    exact this
  obtain ⟨y, ty, hy, rfl⟩ := strs_at hw (i := i) (v := v) (by simpa using hP2)
  have hck : ∃ o, s2.heap.get? c = some o ∧ o.data = .cell (some (.ref a)) := by
    obtain ⟨o, ho, hd⟩ := hc2
    exact ⟨o, hkp c o (fun z => by rw [z, hPh] at ho; cases ho; cases hd) ho, hd⟩
  have hlk2 : s2.heap.IsList a its.toArray := by
    obtain ⟨o, n, ho, h1, h2, h3⟩ := pl
    exact ⟨o, hkp a o (fun z => by rw [z, hPh] at ho; cases ho; cases h3) ho, h1, n, h3⟩
  refine wpAny_Compare1 (PySem.Call_method1 (by rfl) (by rfl) hline ?_)
  refine wpAny_Name (wpAny_loadName_free (by rw [hs]; exact hk) (show cenv.scope.names.lookup f = some .free by rw [hs]; exact hf) (c := c) (by rw [hcs, hcl, hc1]; rfl) hck ?_ hd3) hd2
  refine ⟨"list", _, PySem.F.plainAttrs_list, PySem.F.slot_list_count, PySem.F.type_list_count, ?_, ?_, ?_⟩
  · obtain ⟨o, ho, h1, _⟩ := hlk2
    exact ⟨o, ho, h1⟩
  · intro b e
    cases e
    obtain ⟨o, n, ho, h1, h2, h3⟩ := pl
    exact ⟨o, hkp a o (fun z => by rw [z, hPh] at ho; cases ho; cases h3) ho, h2⟩
  refine Calls.callWith_builtin rfl (Calls.evalArgs_plain (Calls.spliced_cons ?_))
  refine wpAny_Name (wpAny_loadName_local (by rw [hs]; exact hk) (show cenv.scope.names.lookup x = some .local by rw [hs]; exact hl) hn hm ?_) hd
  refine Calls.spliced_nil ?_
  refine count_list_strs hlk2 (vals_strs rv0) ?_
  refine wpAny_Constant_int (PySem.P.gt_int ⟨?_, ⟨s2.heap, _, rfl, fun _ _ e => e⟩⟩)
  rw [countIn_strs]
  unfold cntT
  rw [hy]
  show Value.bool _ = Value.bool _
  congr 1
  refine decide_eq_decide.mpr ?_
  omega
end
end Kf

set_option maxHeartbeats 1000000
namespace Kf
open PySem L2 PyProof.Rows
/-! Kb5: split, <= of texts, count, [::-1], calls without arguments, None in a list. -/
theorem RpL.reverse {K : PySem.W.Frag} {A : Hp} : ∀ {vs : List V} {ds : List D}, RpL K A vs ds → RpL K A vs.reverse ds.reverse
  | _, _, .nil => .nil
  | _, _, .cons r rs => by
    rw [List.reverse_cons, List.reverse_cons]
    exact rs.reverse.append (.cons r .nil)
section
variable {X : Cx} {T : List Addr} {ρ : Rho} {d : D} {x y : Str} {pos apos p1 p2 p3 : Pos} {o e : Expr} {xs : List Str} {ds : List D} {m : M} {k : Nat} {rel : List D → M → Prop}
theorem me_split (h1 : Ie X T o ρ (.str x)) (h2 : Ie X T e ρ (.str y)) (hy : (y.length == 0) = false) (hz : x.length + 2 ≤ sizeLine) (hs : starEach [e] X.env = [(false, eval e X.env)] := by rfl) (hbase : attributeBase o "split" X.env (eval o X.env) = eval o X.env := by rfl) (hline : (apos.endLine == pos.line) = true := by rfl) : Me X T (.Call (.Attribute o "split" apos) [e] [] pos) ρ (.ls ((Txt.split x y).map D.str)) :=
  me_of (pe_split pe_tw pe_tw hs hbase hline) fun A H σ s l Q q => h1 A H σ s l _ fun v A1 H1 x1 r1 => by
    cases r1
    exact ⟨⟨_, rfl⟩, h2 A1 H1 σ (x1.ok s) (l.step x1) _ fun u A2 H2 x2 r2 => by
      cases r2
      exact ⟨_, _, rfl, rfl, hy, hz, fun p hp => (q.back (x1.tr0 x2)).ls (x2.ok (x1.ok s)) hp (rpL_strs _)⟩⟩
theorem o_leS : Op X T (compareOp .LtE) (.str x) (.str y) (.im (.bl (!decide (y.cps.toList < x.cps.toList)))) := op_of op_le_str fun A H v u s rv ru Q k => by
  cases rv
  cases ru
  exact ⟨_, _, rfl, rfl, k.now s (.bl _)⟩
theorem me_rev {j1 : Nat} (h : Ie X T e ρ (.lst ds)) : Me X T (.Subscript e (.Slice none none (some (.UnaryOp .USub (.Constant (.int 1) j1 p1) p2)) p3) pos) ρ (.ls ds.reverse) :=
  me_of (pe_revL pe_tw) fun A H σ s l Q q => h A H σ s l _ fun v A1 H1 x1 r1 => by
    cases r1 with
    | @lst a vs _ e1 r1 =>
    exact ⟨a, vs, rfl, SqL.of ((x1.ok s).s _ _ e1), fun p hp => (q.back x1).ls (x1.ok s) hp r1.reverse⟩
def rCntS (K : PySem.W.Frag) : V → List V → Hp → VK → Prop := fun x xs H Q => ∃ (p : Addr) (ys : List Str) (k : Str), x = .ref p ∧ xs = [.str k] ∧ SqL K H p (ys.map V.str) ∧ Q (.int (ys.count k : Nat)) H
theorem mt_lcountS : MtR X "list.count" (rCntS X.K) := by
  intro pins s σ H x xs v us Q I rx rxs h
  obtain ⟨p, ys, k, rfl, rfl, hs, q⟩ := h
  cases rx
  obtain ⟨u, rfl, ru⟩ := rxs.one
  obtain ⟨t, rfl⟩ := ru
  obtain ⟨its, rv, pl, hlen⟩ := I.list hs
  refine count_list_strs (by
    obtain ⟨o, n, ho, h1, h2, h3⟩ := pl
    exact ⟨o, ho, h1, n, h3⟩) (vals_strs rv) ?_
  rw [countIn_strs]
  exact ⟨.int (ys.count k : Nat), H, I.tok _, ⟨s.toks, rfl⟩, q⟩
theorem ie_count (h1 : Ie X T o ρ (.lst (xs.map D.str))) (h2 : Ie X T e ρ (.str y)) (hbase : attributeBase o "count" X.env (eval o X.env) = eval o X.env := by rfl)
    (hfew : ((backTo pos (starEach [e] X.env)).all (fun x => !x.1) && (backToKw pos (keywordEach [] X.env)).all (fun x => x.1.isSome)
      && decide (([e]).length + ([] : List Keyword).length + (if ([] : List Keyword).isEmpty then 0 else 1) < 30)) = true := by rfl)
    (hline : (apos.endLine == pos.line) = true := by rfl) (hs : starEach [e] X.env = (false, eval e X.env) :: starEach [] X.env := by rfl) (hplain : (backTo pos (starEach [] X.env)).any (·.1) = false := by rfl) : Ie X T (.Call (.Attribute o "count" apos) [e] [] pos) ρ (.int (xs.count y : Nat)) :=
  ie_of (pe_bm PySem.F.plainAttrs_list PySem.F.slot_list_count PySem.F.type_list_count mt_lcountS pe_tw pa_tw hbase hfew hline hs hplain) fun A H σ s l Q q => h1 A H σ s l _ fun v A1 H1 x1 r1 => by
    cases r1 with
    | @lst a vs _ e1 r1 =>
    have ev := rpl_strs r1
    subst ev
    refine ⟨.inl ⟨rfl, xs.map V.str, SqL.of ((x1.ok s).s _ _ e1)⟩, as_cons h2 as_nil hs A1 H1 σ (x1.ok s) (l.step x1) _ fun us A2 H2 x2 r2 => ?_⟩
    obtain ⟨u, rfl, r3⟩ := r2.one
    cases r3
    exact ⟨a, xs, y, rfl, rfl, SqL.of ((x2.ok (x1.ok s)).s _ _ (x2.aa _ _ e1)), q _ A2 H2 (x1.tr0 x2) (.int _)⟩
/-- f() -/
theorem me_call0 {p : Pos} (G : Fn X.prog X.w X.K X.mg X.base T x k rel) (h : rel [] m) (hr : Room k X.A) (hg : Gl X x := by rfl) (hd : (x == ("__debug__" : Str)) = false := by decide) : Me X T (.Call (.Name x p) [] [] pos) ρ m := by
  obtain ⟨f, fd, ps, F, hm, hk, hb⟩ := G.ex
  exact me_of (pe_call0 F hr hg hm hk hb .nil pass0 hd) fun A H σ s l Q q => ⟨A, [], m, s, .nil, h, q⟩
end
/-! ### split, join by one sign -/
theorem pre_uniq {c : Nat} : ∀ {a a' b b' : List Nat}, c ∉ a → c ∉ a' → a ++ c :: b = a' ++ c :: b' → a = a' ∧ b = b'
  | [], [], _, _, _, _, h => ⟨rfl, (List.cons.inj h).2⟩
  | [], x :: a', _, _, _, h2, h => absurd (List.cons.inj h).1 (fun z => h2 (by rw [z]; exact .head _))
  | x :: a, [], _, _, h1, _, h => absurd (List.cons.inj h).1 (fun z => h1 (by rw [← z]; exact .head _))
  | x :: a, y :: a', _, _, h1, h2, h => by
    obtain ⟨e1, e2⟩ := List.cons.inj h
    obtain ⟨e3, e4⟩ := pre_uniq (fun z => h1 (.tail _ z)) (fun z => h2 (.tail _ z)) e2
    exact ⟨by rw [e1, e3], e4⟩
theorem join_cons2 (c : Nat) (p q : Str) (r : List Str) : (Str.join ⟨#[c]⟩ (p :: q :: r)).cps.toList = p.cps.toList ++ c :: (Str.join ⟨#[c]⟩ (q :: r)).cps.toList := by
  show (p ++ ⟨#[c]⟩ ++ Str.join ⟨#[c]⟩ (q :: r)).cps.toList = _
  rw [app_toL, app_toL, List.append_assoc]
  rfl
theorem join_uniq (c : Nat) : ∀ {ps qs : List Str}, ps ≠ [] → qs ≠ [] → (∀ p ∈ ps, c ∉ p.cps.toList) → (∀ p ∈ qs, c ∉ p.cps.toList) → Str.join ⟨#[c]⟩ ps = Str.join ⟨#[c]⟩ qs → ps = qs
  | [], _, h, _, _, _, _ => absurd rfl h
  | _ :: _, [], _, h, _, _, _ => absurd rfl h
  | [p], [q], _, _, _, _, h => by rw [show p = q from h]
  | [p], q :: q' :: r, _, _, h1, _, h => by
    have e : p.cps.toList = q.cps.toList ++ c :: (Str.join ⟨#[c]⟩ (q' :: r)).cps.toList := by
      rw [← join_cons2, ← h]
      rfl
    exact absurd (by rw [e]; simp) (h1 p (.head _))
  | p :: p' :: r, [q], _, _, _, h2, h => by
    have e : q.cps.toList = p.cps.toList ++ c :: (Str.join ⟨#[c]⟩ (p' :: r)).cps.toList := by
      rw [← join_cons2, h]
      rfl
    exact absurd (by rw [e]; simp) (h2 q (.head _))
  | p :: p' :: r, q :: q' :: r', _, _, h1, h2, h => by
    have e : (Str.join ⟨#[c]⟩ (p :: p' :: r)).cps.toList = (Str.join ⟨#[c]⟩ (q :: q' :: r')).cps.toList := by rw [h]
    rw [join_cons2, join_cons2] at e
    obtain ⟨e1, e2⟩ := pre_uniq (h1 p (.head _)) (h2 q (.head _)) e
    rw [str_ext e1, join_uniq c (List.cons_ne_nil _ _) (List.cons_ne_nil _ _) (fun z hz => h1 z (.tail _ hz)) (fun z hz => h2 z (.tail _ hz)) (str_ext e2)]
theorem split_ne (x y : Str) : Txt.split x y ≠ [] := fun h => by
  have := PyProof.Rows.split_pos x y
  rw [h] at this
  exact absurd this (by decide)
/-- what was joined is split again -/
theorem split_join1 {c : Nat} {ps : List Str} (h : ps ≠ []) (hc : ∀ p ∈ ps, c ∉ p.cps.toList) : Txt.split (Txt.join ⟨#[c]⟩ ps) ⟨#[c]⟩ = ps := by
  refine join_uniq c (split_ne _ _) h (StrLaws.split_free _ _) hc ?_
  rw [StrLaws.join_split]
  exact StrLaws.glued_eq_join _ _
/-! ### None in a list of texts and None -/
def optD : Option Str → D
  | none => .non
  | some x => .str x
theorem cmpk_opt {k : Nat} {o : Option Str} (h : ∀ x, o = some x → PyData.strOk x = true) : CmpK k (optD o) := by
  cases o with
  | none => exact cmpk_non
  | some x => exact cmpk_str (h x rfl)
theorem any_none : ∀ os : List (Option Str), ((pys (os.map optD)).any fun z => PyData.eqv z (py .non)) = decide (none ∈ os)
  | [] => rfl
  | none :: os => by
    rw [List.map_cons, pys, List.any_cons]
    have e : PyData.eqv (py (optD none)) (py .non) = true := rfl
    rw [e]
    simp
  | some x :: os => by
    rw [List.map_cons, pys, List.any_cons, any_none os]
    have e : PyData.eqv (py (optD (some x))) (py .non) = false := rfl
    rw [e]
    simp
theorem o_inO {X : Cx} {T : List Addr} {os : List (Option Str)} (h : ∀ x, some x ∈ os → PyData.strOk x = true) (hu : X.A.units + 65 < cLine) : Op X T (compareOp .In) .non (.lst (os.map optD)) (.im (.bl (decide (none ∈ os)))) := by
  have e := o_inD (X := X) (T := T) (d := .non) (ds := os.map optD) (CmpK.cmp (k := 0) cmpk_non) (CmpK.cmp (k := 1) (cmpk_lst fun d hd => by
    obtain ⟨o, ho, rfl⟩ := List.mem_map.mp hd
    exact cmpk_opt fun x e => h x (e ▸ ho))) hu
  rw [any_none] at e
  exact e
end Kf

set_option maxHeartbeats 1000000
namespace Kf
open PySem L2
/-! Kb6: comprehensions over range(a, b), and over range(n) with a test. -/
section
variable {X : Cx} {T : List Addr} {ρ : Rho} {m : M} {d : D} {ds : List D} {i : Nat} {scope : Scope} {elt l u t : Expr} {e : Expr} {te : TE}
/-- a comprehension's reading as an expression -/
theorem me_dln (hpe : PE X e te) (h : Dln T X.K i te ρ m) (hi : i < X.N.length) : Me X T e ρ m := fun A H σ s l Q k => ⟨fun pins st I => hpe.run pins st σ H Q I (h A H σ s l (by rw [I.len]; exact hi) Q k)⟩
/-- [elt for x in range(a, b)] -/
theorem den_lcR2 {a b : Int} (hl : As X T [l, u] ρ [.int a, .int b]) (f : Nat → D) (hn : -(2 ^ 61) ≤ a ∧ a ≤ 2 ^ 61 ∧ -(2 ^ 61) ≤ b ∧ b < a + sizeLine ∧ b ≤ 2 ^ 61)
    (he : ∀ j : Nat, a + (j : Int) < b → Be X T scope elt ((ρ.set i none).set i (some (.im (.int (a + (j : Int)))))) (f j)) : Dln T X.K i (tLc (iRng2 (twA X [l, u])) (gName i) tYes (twB X scope elt) [i]) ρ (.ls ((List.range (b - a).toNat).map f)) := by
  intro A H σ s l0 hσ Q k
  refine (hl A H σ s l0 _ fun vs A1 H1 x1 r1 => ?_)
  cases r1 with
  | cons r1 r2 =>
  cases r2 with
  | cons r2 r3 =>
  cases r3
  cases r1
  cases r2
  refine ⟨a, b, rfl, ⟨by omega, by omega, by omega, by omega⟩, fun Dl hD => lc_range (lo := a) (n := (b - a).toNat) (fun j H => Acc X.K T A1 H1 Dl ((List.range j).map f) H) (Acc.first (x1.ok s) hD) ?_ ?_⟩
  · rintro j H hj ⟨A2, acc, ok, x, n2, ha, ra⟩
    refine ⟨?_, ?_⟩
    · show ((σ.set i none).set i (some (V.int (a + (j : Int))))).set i none = σ.set i none
      rw [List.set_set, List.set_set]
    · refine tyes ?_
      rw [if_pos rfl]
      refine (he j (by omega)).did A2 H _ ok (((l0.step x1).step x).blk (.int _) hσ) _ fun v2 A4 H4 x4 r4 => ?_
      refine ⟨acc, x4.same _ _ ha (fun _ z => nomatch z), ?_, ?_⟩
      · rw [ra.len, List.length_map, List.length_range]
        omega
      · have q := Acc.more hD x n2 ha ra x4 (x4.ok ok) r4
        rw [List.range_succ, List.map_append]
        exact q
  · intro H h
    exact h.out hD (k.back x1)
/-- [elt for x in range(n) if t] -/
theorem den_lcRf {n : Int} (hl : As X T [l] ρ [.int n]) (f : Nat → D) (g : Nat → Bool) (hn : 0 ≤ n ∧ n < sizeLine)
    (ht : ∀ j : Nat, (j : Int) < n → Bt X T scope t ((ρ.set i none).set i (some (.im (.int (j : Int))))) (g j))
    (he : ∀ j : Nat, (j : Int) < n → g j = true → Be X T scope elt ((ρ.set i none).set i (some (.im (.int (j : Int))))) (f j)) : Dln T X.K i (tLc (iRng1 (twA X [l])) (gName i) (twBT X scope t) (twB X scope elt) [i]) ρ (.ls (((List.range n.toNat).filter g).map f)) := by
  intro A H σ s l0 hσ Q k
  refine (hl A H σ s l0 _ fun vs A1 H1 x1 r1 => ?_)
  obtain ⟨v, rfl, r0⟩ := r1.one
  cases r0
  have hb : (sizeLine : Int) < 2 ^ 62 := by rw [show (sizeLine : Nat) = 16777216 from by rw [sizeLine_eq]]; decide
  refine ⟨n, rfl, by omega, by omega, fun Dl hD => lc_range (lo := 0) (n := n.toNat) (fun j H => Acc X.K T A1 H1 Dl (((List.range j).filter g).map f) H) (Acc.first (x1.ok s) hD) ?_ ?_⟩
  · rintro j H hj ⟨A2, acc, ok, x, n2, ha, ra⟩
    refine ⟨?_, ?_⟩
    · show ((σ.set i none).set i (some (V.int (0 + (j : Int))))).set i none = σ.set i none
      rw [List.set_set, List.set_set]
    · have rj : Rp X.K A2 (V.int (0 + (j : Int))) (.int (j : Int)) := by rw [Int.zero_add]; exact .int _
      refine (ht j (by omega)).dit A2 H _ ok (((l0.step x1).step x).blk rj hσ) _ fun A3 H3 x3 => ?_
      cases hg : g j with
      | false =>
        rw [if_neg Bool.false_ne_true]
        refine ⟨A3, acc, x3.ok ok, x.tr0 x3, (x3.nw Dl (by rw [ha]; simp)).trans n2, x3.same _ _ ha (fun _ z => nomatch z), ?_⟩
        rw [List.range_succ, List.filter_append, List.filter_cons, if_neg (by rw [hg]; exact Bool.false_ne_true), List.filter_nil, List.append_nil]
        exact ra.mono x3.aa
      | true =>
        rw [if_pos rfl]
        refine (he j (by omega) hg).did A3 H3 _ (x3.ok ok) ((((l0.step x1).step x).step x3).blk (rj.mono x3.aa) hσ) _ fun v2 A4 H4 x4 r4 => ?_
        have ha3 := x3.same _ _ ha (fun _ z => nomatch z)
        refine ⟨acc, x4.same _ _ ha3 (fun _ z => nomatch z), ?_, ?_⟩
        · rw [ra.len, List.length_map]
          have h9 := List.length_filter_le g (List.range j)
          rw [List.length_range] at h9
          omega
        · have q := Acc.more hD (x.tr0 x3) ((x3.nw Dl (by rw [ha]; simp)).trans n2) ha3 (ra.mono x3.aa) x4 (x4.ok (x3.ok ok)) r4
          rw [List.range_succ, List.filter_append, List.filter_cons, if_pos hg, List.filter_nil, List.map_append]
          exact q
  · intro H h
    exact h.out hD (k.back x1)
end
end Kf

set_option maxHeartbeats 1000000
namespace Kf
open PySem L2
/-! Kb7: for a, b in e; join of a tuple; None in a tuple; == of tuples of texts; words of a text. -/
section
variable {c : Fc} {D : Ends} {ρ : Rhm} {e l : Expr} {m : M} {d : Kf.D} {ds : List Kf.D} {is : List Nat} {st : Stmt} {n : Nat} {body : List Stmt}
/-- for a, b, .. in e, e data of a list of tuples -/
theorem ss_forU (hps : PS c.X st (tFor (iList c.X.K (tw c.X l)) (gTup c.X.K n (gNames is)) (twss c.X body))) (h : Me c.X c.T l ρ (.im (.lst ds))) (hn : is.length = n)
    (W : Nat → Rhm → Prop) (w0 : W 0 ρ) (wl : ∀ j ρ', W j ρ' → ∀ i ∈ is, i < ρ'.length ∧ (c.S0 = none ∨ i ≠ 0))
    (turn : ∀ B j d ρ', ds[j]? = some d → W j ρ' → ∀ N : L2.St → Hp → Prop, (∀ ρ2, W (j + 1) ρ2 → Nx (c.pin B) N ρ2) → ∃ es, d = .tup es ∧ es.length = n ∧ Gs (c.pin B) body { D with nx := N, ct := N, bk := D.nx } (setAll ρ' is es))
    (hd : ∀ ρ', W ds.length ρ' → Nx c D.nx ρ') : Ss c st D ρ :=
  ss_of hps fun A H σ fp es => es.ask (ask_h h) fun v A2 H2 p xx ok r f nd => by
    have es2 := es.step0 xx
    cases r with
    | im r =>
    cases r with
    | @lst a xs _ e1 r1 =>
    refine ⟨a, rfl, ⟨xs, SqL.of (ok.s _ _ e1)⟩, for_list (xs := xs) (fun j σ H => ∃ ρ' A fp, W j ρ' ∧ Es (c.pin A2) A H σ ρ' fp) ⟨ρ, A2, fp, w0, es2.pinned⟩ ?_ ?_ ?_⟩
    · rintro j σ H _ ⟨ρ', A3, fp, _, es⟩
      exact SqL.of (es.ok.s _ _ (es.pn A2 (List.mem_cons_self ..) _ _ e1))
    · rintro j y σ H hj ⟨ρ', A3, fp, w, es⟩
      obtain ⟨d, hd', rd⟩ := r1.of hj
      have rd2 := rd.mono (es.pn A2 (List.mem_cons_self ..))
      obtain ⟨us, rfl, hl, g⟩ := turn A2 j d ρ' hd' w (fun σ' H' => ∃ ρ' A fp, W (j + 1) ρ' ∧ Es (c.pin A2) A H' σ' ρ' fp) (fun ρ2 w2 A4 H4 σ4 fp4 es4 => ⟨ρ2, A4, fp4, w2, es4⟩)
      cases rd2 with
      | @tup b zs _ e2 r2 =>
      exact ⟨b, zs, rfl, seqT_mono es.ok.s e2, by rw [r2.len]; exact hl, es_setAll (K := c.X.K) is us zs es r2 (by rw [hl, hn]) (wl j ρ' w) fun σ' fp' es' => g A3 H σ' fp' es'⟩
    · rintro σ H ⟨ρ', A3, fp, w, es⟩
      rw [r1.len] at w
      exact hd ρ' w A3 H σ fp es.unpin
end
section
variable {X : Cx} {T : List Addr} {ρ : Rho} {d : D} {x y : Str} {pos apos : Pos} {o e : Expr} {xs ys : List Str}
theorem ie_joinT (h1 : Ie X T o ρ (.str x)) (h2 : Ie X T e ρ (.tup (xs.map D.str))) (hz : (xs.map (·.length)).sum + xs.length * x.length ≤ 16777216) (hs : starEach [e] X.env = [(false, eval e X.env)] := by rfl) (hbase : attributeBase o "join" X.env (eval o X.env) = eval o X.env := by rfl) (hline : (apos.endLine == pos.line) = true := by rfl) : Ie X T (.Call (.Attribute o "join" apos) [e] [] pos) ρ (.str (Txt.join x xs)) :=
  ie_of (pe_join pe_tw pe_tw hs hbase hline) fun A H σ s l Q q => h1 A H σ s l _ fun v A1 H1 x1 r1 => by
    cases r1
    exact ⟨⟨_, rfl⟩, h2 A1 H1 σ (x1.ok s) (l.step x1) _ fun u A2 H2 x2 r2 => by
      have ok2 := x2.ok (x1.ok s)
      cases r2 with
      | @tup p vs _ e1 r1 =>
      have ev : vs = xs.map V.str := rpl_strs r1
      subst ev
      exact ⟨_, p, xs, rfl, rfl, .inr (seqT_mono ok2.s e1), hz, q _ A2 H2 (x1.tr0 x2) (.str _)⟩⟩
theorem inV_opts : ∀ {K : PySem.W.Frag} {A : Hp} {vs : List V} {os : List (Option Str)}, RpL K A vs (os.map optD) → vs.all flatV = true ∧ inV .non vs = decide (none ∈ os)
  | _, _, _, [], .nil => ⟨rfl, by simp [inV]⟩
  | _, _, _, none :: os, .cons r rs => by
    cases r
    obtain ⟨h1, h2⟩ := inV_opts rs
    refine ⟨by rw [List.all_cons, h1]; rfl, ?_⟩
    unfold inV at h2 ⊢
    rw [List.any_cons]
    have e : eqV .non .non = true := by decide
    rw [e]
    simp
  | _, _, _, some x :: os, .cons r rs => by
    cases r
    obtain ⟨h1, h2⟩ := inV_opts rs
    refine ⟨by rw [List.all_cons, h1]; rfl, ?_⟩
    unfold inV at h2 ⊢
    rw [List.any_cons, h2]
    have e : eqV (.str x) .non = false := rfl
    rw [e]
    simp
theorem o_inTO {os : List (Option Str)} : Op X T (compareOp .In) .non (.tup (os.map optD)) (.im (.bl (decide (none ∈ os)))) := op_of op_in_seq fun A H v u s rv ru Q k => by
  cases rv
  cases ru with
  | @tup p vs _ e1 r1 =>
  obtain ⟨i1, i2⟩ := inV_opts r1
  exact ⟨p, vs, rfl, .inr (seqT_mono s.s e1), rfl, i1, by rw [if_neg Bool.false_ne_true, i2]; exact k.now s (.bl _)⟩
theorem eqD_tstrs (xs ys : List Str) : eqD (.tup (xs.map D.str)) (.tup (ys.map D.str)) = decide (xs = ys) := by
  unfold eqD
  rw [py, py, pys_str, pys_str, PyData.eqv]
  exact eqv_strs xs ys
theorem cmp_tstrs {xs : List Str} (h : ∀ x ∈ xs, PyData.strOk x = true) : cmpD (.tup (xs.map D.str)) = true := (cmpk_tup (k := 0) (cmpk_strs h)).cmp
theorem o_eqTS (h1 : ∀ x ∈ xs, PyData.strOk x = true) (h2 : ∀ x ∈ ys, PyData.strOk x = true) (hu : X.A.units + 64 < cLine) : Op X T (compareOp .Eq) (.tup (xs.map D.str)) (.tup (ys.map D.str)) (.im (.bl (decide (xs = ys)))) := by
  have e := o_eqD (X := X) (T := T) (cmp_tstrs h1) (cmp_tstrs h2) hu
  rw [eqD_tstrs] at e
  exact e
theorem o_neTS (h1 : ∀ x ∈ xs, PyData.strOk x = true) (h2 : ∀ x ∈ ys, PyData.strOk x = true) (hu : X.A.units + 64 < cLine) : Op X T (compareOp .NotEq) (.tup (xs.map D.str)) (.tup (ys.map D.str)) (.im (.bl (!decide (xs = ys)))) := by
  have e := o_neD (X := X) (T := T) (cmp_tstrs h1) (cmp_tstrs h2) hu
  rw [eqD_tstrs] at e
  exact e
end
/-! ### the words of a text -/
theorem join_app (c : Nat) : ∀ {ps qs : List Str}, ps ≠ [] → qs ≠ [] → Str.join ⟨#[c]⟩ (ps ++ qs) = Str.join ⟨#[c]⟩ ps ++ ⟨#[c]⟩ ++ Str.join ⟨#[c]⟩ qs
  | [], _, h, _ => absurd rfl h
  | _ :: _, [], _, h => absurd rfl h
  | [p], q :: qs, _, _ => rfl
  | p :: p' :: ps, q :: qs, _, h => by
    have ih := join_app c (List.cons_ne_nil p' ps) h
    show p ++ ⟨#[c]⟩ ++ Str.join ⟨#[c]⟩ (p' :: ps ++ q :: qs) = p ++ ⟨#[c]⟩ ++ Str.join ⟨#[c]⟩ (p' :: ps) ++ ⟨#[c]⟩ ++ Str.join ⟨#[c]⟩ (q :: qs)
    rw [ih]
    refine str_ext ?_
    simp only [app_toL, List.append_assoc]
theorem split_app (a b : Str) (c : Nat) : Txt.split (a ++ ⟨#[c]⟩ ++ b) ⟨#[c]⟩ = Txt.split a ⟨#[c]⟩ ++ Txt.split b ⟨#[c]⟩ := by
  refine join_uniq c (split_ne _ _) (by simp [split_ne]) (StrLaws.split_free _ _) (fun p hp => ?_) ?_
  · rcases List.mem_append.mp hp with h | h
    · exact StrLaws.split_free _ _ p h
    · exact StrLaws.split_free _ _ p h
  · rw [StrLaws.join_split, join_app c (split_ne _ _) (split_ne _ _), StrLaws.join_split, StrLaws.join_split]
theorem split_one {w : Str} {c : Nat} (h : c ∉ w.cps.toList) : Txt.split w ⟨#[c]⟩ = [w] := by
  refine join_uniq c (split_ne _ _) (by simp) (StrLaws.split_free _ _) (fun p hp => by rw [List.mem_singleton.mp hp]; exact h) ?_
  rw [StrLaws.join_split]
  rfl
/-- more behind the last part -/
theorem split_last (t u : Str) (c : Nat) (h : c ∉ u.cps.toList) : ∃ ps p, Txt.split t ⟨#[c]⟩ = ps ++ [p] ∧ Txt.split (t ++ u) ⟨#[c]⟩ = ps ++ [p ++ u] := by
  have hne := split_ne t ⟨#[c]⟩
  have hfree := StrLaws.split_free t c
  have hj := StrLaws.join_split t ⟨#[c]⟩
  obtain ⟨ps, p, e⟩ : ∃ ps p, Txt.split t ⟨#[c]⟩ = ps ++ [p] := ⟨_, _, (List.dropLast_concat_getLast hne).symm⟩
  refine ⟨ps, p, e, ?_⟩
  rw [e] at hfree hj
  refine join_uniq c (split_ne _ _) (by simp) (StrLaws.split_free _ _) (fun q hq => ?_) ?_
  · rcases List.mem_append.mp hq with z | z
    · exact hfree q (List.mem_append_left _ z)
    · rw [List.mem_singleton.mp z, app_toL]
      intro z2
      rcases List.mem_append.mp z2 with z2 | z2
      · exact hfree p (List.mem_append_right _ (.head _)) z2
      · exact h z2
  · rw [StrLaws.join_split]
    cases ps with
    | nil =>
      have e2 : p = t := hj
      rw [← e2]
      rfl
    | cons a ps =>
      rw [join_app c (List.cons_ne_nil _ _) (by simp)] at hj ⊢
      rw [show Str.join ⟨#[c]⟩ [p ++ u] = p ++ u from rfl, ← hj, show Str.join ⟨#[c]⟩ [p] = p from rfl]
      refine str_ext ?_
      simp only [app_toL, List.append_assoc]
/-- the parts of a text that are not empty -/
def wordsS (t : Str) : List Str := (Txt.split t " ").filter fun p => !decide (p = "")
theorem words_app (a b : Str) : wordsS (a ++ " " ++ b) = wordsS a ++ wordsS b := by
  unfold wordsS
  rw [show (" " : Str) = ⟨#[32]⟩ from rfl, split_app, List.filter_append]
theorem words_one {w : Str} (h : 32 ∉ w.cps.toList) (hn : w ≠ "") : wordsS w = [w] := by
  unfold wordsS
  rw [show (" " : Str) = ⟨#[32]⟩ from rfl, split_one h]
  simp [hn]
theorem words_nil : wordsS "" = [] := by
  unfold wordsS
  rw [show (" " : Str) = ⟨#[32]⟩ from rfl, split_one (by decide)]
  simp
theorem words_last (t u : Str) (h : 32 ∉ u.cps.toList) (hn : u ≠ "") : ∃ p, p ++ u ∈ wordsS (t ++ u) := by
  obtain ⟨ps, p, _, e⟩ := split_last t u 32 h
  refine ⟨p, ?_⟩
  unfold wordsS
  rw [show (" " : Str) = ⟨#[32]⟩ from rfl, e]
  refine List.mem_filter.mpr ⟨by simp, ?_⟩
  have : p ++ u ≠ "" := fun z => hn (by
    have e2 := congrArg (fun s : Str => s.cps.toList) z
    simp only [app_toL] at e2
    exact str_ext (List.append_eq_nil_iff.mp e2).2)
  simp [this]
theorem join_mem {c : Nat} : ∀ {ps : List Str} {x : Nat}, x ∈ (Str.join ⟨#[c]⟩ ps).cps.toList → x = c ∨ ∃ p ∈ ps, x ∈ p.cps.toList
  | [], x, h => by simp [Str.join, Str.empty] at h
  | [p], x, h => .inr ⟨p, .head _, h⟩
  | p :: q :: r, x, h => by
    rw [join_cons2] at h
    rcases List.mem_append.mp h with h | h
    · exact .inr ⟨p, .head _, h⟩
    · rcases List.mem_cons.mp h with h | h
      · exact .inl h
      · rcases join_mem h with h | ⟨z, hz, h⟩
        · exact .inl h
        · exact .inr ⟨z, .tail _ hz, h⟩
theorem mem_join {c : Nat} : ∀ {ps : List Str} {x : Nat} {p : Str}, p ∈ ps → x ∈ p.cps.toList → x ∈ (Str.join ⟨#[c]⟩ ps).cps.toList
  | [q], x, p, hp, h => by rw [List.mem_singleton.mp hp] at h; exact h
  | q :: q' :: r, x, p, hp, h => by
    rw [join_cons2]
    rcases List.mem_cons.mp hp with z | z
    · rw [z] at h; exact List.mem_append_left _ h
    · exact List.mem_append_right _ (.tail _ (mem_join z h))
end Kf

set_option maxHeartbeats 1000000
namespace Kf
open PySem L2 PySem.W PySem.Calls PyProof.Rows PySem.Spec
/-! Kb8: isinstance of a caught error that has fields. -/
section
variable {prog : Program} {w : World} {A : Around} {E : Value → Shared → Prop} {s : Shared} {K : Frag} {a C : Addr} {oe : Obj} {od : Option Obj}
/-- __class__ is a data descriptor: what the error's own dict holds does not matter -/
theorem class_found (n : (clsIn K C).isSome = true) {z g : Value} (f : findIn K (.ref C) "__class__" = some (some z)) (sp : specialIn K z "__get__" = some (some g)) (tk : takesIn K z = some true) : findObj K C od "__class__" = some (.bind g z) := by
  unfold findObj
  obtain ⟨cd, n⟩ := Option.isSome_iff_exists.mp n
  rw [n, Option.bind_some, f, Option.bind_some]
  simp [sp, tk]
theorem exc_class {Q : Option Value → Shared → Prop} (c : ExcC K C) (kin : K.In s.heap) (J : InstAt s.heap a oe C od) (q : Q (some (.ref C)) { s with toks := s.toks + 1 }) : wpAny (model prog w) A (getAttr? (.ref a) "__class__") Q E s := by
  obtain ⟨hh, gg, dd, tt, os⟩ := s
  obtain ⟨cd, hcd, _⟩ := any_some c.hd
  have fnd := class_found (od := od) (by rw [hcd]; rfl) c.ha c.hn c.ht
  have ty := J.type (M := model prog w)
  have lg := looks_findIn (M := model prog w) kin c.hg
  have lk := looks_findIn (M := model prog w) kin c.hk
  have lf := looks_find (M := model prog w) kin J fnd
  have sb : Looks (model prog w) hh (isInstance (.ref a) (.type "BaseException")) true := ty.andThen (looks_subIn kin c.hs)
  have n2 : (Value.builtin "BaseException.__getattribute__" == Value.builtin "object.__getattribute__") = false := by decide +kernel
  have n1 : (onTheHeap (Value.ref C) && (Value.builtin "BaseException.__getattribute__" == Value.builtin "object.__getattribute__")) = false := by simp [n2]
  have n0 : (false && onTheHeap (Value.builtin "BaseException.__getattribute__")) = false := Bool.false_and _
  have hp : onTheHeap (Value.ref C) = true := rfl
  unfold getAttr? getAttrBy? getAttrBy
  refine wpAny_bind (wpAny_mkText ?_)
  refine wpAny_bind (wpAny_attempt ?_)
  refine wpAny_holding ?_
  refine wpAny_bind (ty.at ?_)
  refine wpAny_bind (lg.at ?_)
  show wpAny _ _ (if (onTheHeap (Value.ref C) && (Value.builtin "BaseException.__getattribute__" == Value.builtin "object.__getattribute__")) = true then _ else _) _ _ _
  rw [n1]
  rw [if_neg Bool.false_ne_true]
  unfold getAttrByItsOwn hookBefore
  refine wpAny_bind ?_
  rw [if_pos hp]
  refine lk.at ?_
  refine wpAny_bind (wpAny_attempt ?_)
  refine wpAny_holding ?_
  unfold callGetattribute
  rw [n0]
  rw [if_neg Bool.false_ne_true]
  unfold boundAndCalled
  rw [PySem.F.excAttr_ValueError.ga.bind (.ref a)]
  refine wpAny_bind ?_
  refine wpAny_pure ?_
  have args := PySem.F.args_bexc_ga (.ref a) (.str "__class__" tt)
  show wpAny _ _ (call (.builtin "BaseException.__getattribute__") [.ref a, .str "__class__" tt]) _ _ _
  refine wpAny_call ?_
  refine codeAny_call_builtin PySem.F.excAttr_ValueError.ga.plain PySem.F.entry_bexc_ga ?_
  refine check_slot (s := ⟨hh, gg, dd, tt + 1, os⟩) (i := "BaseException.__getattribute__") (owner := "BaseException") (n := "__getattribute__") (self := .ref a) (rest := [.str "__class__" tt]) (kw := []) (by decide +kernel) (by decide +kernel) sb args ?_
  unfold Builtin.«object.__getattribute__»
  refine wpAny_bind ?_
  refine wpAny_of_eq (a := ((Value.ref a : Value), [Value.str "__class__" tt])) (by first | rfl | (simp only [slotArgs]; rfl)) ?_
  refine wpAny_bind ?_
  refine wpAny_pure ?_
  refine wpAny_bind (ty.at ?_)
  refine wpAny_bind (lf.at ?_)
  show wpAny _ _ (holding [Value.builtin "object.__class__"] (call (.builtin "getset_descriptor.__get__") [.builtin "object.__class__", .ref a, .ref C]) >>= ret) _ _ _
  refine wpAny_bind ?_
  refine wpAny_holding ?_
  refine wpAny_call ?_
  refine class_get (s := ⟨hh, gg, dd, tt + 1, os⟩) (ox := oe) (od := od) kin J c.hm ?_
  refine wpAny_pure ?_
  show wpAny _ _ (handedOut (.ref C)) _ _ _
  rw [handedOut_of (rfl : handedIn (.ref C) = true)]
  first
    | exact wpAny_pure q
    | exact wpAny_pure (wpAny_pure q)
    | exact wpAny_pure (wpAny_bind (wpAny_pure (wpAny_pure q)))
theorem kitx_exc (c : ExcC K C) : KitX K (.ref a) (.ref C) (fun h => InstAt h a oe C od) where
  ty := fun _ _ _ J => J.type
  it := fun M h kin _ => by
    obtain ⟨cd, hcd, _⟩ := any_some c.hd
    unfold clsIn at hcd
    split at hcd
    · rename_i ho
      intro A' Q' E' s' k q
      unfold isType loadHead
      refine wpAny_bind (wpAny_loadPart (k _ _ (kin _ _ ho)) ?_)
      exact wpAny_pure q
    · cases hcd
  ne := fun h tp dd its n sl kin ht => by
    obtain ⟨cd, hcd, _⟩ := any_some c.hd
    unfold clsIn at hcd
    split at hcd
    · rename_i ho
      refine Bool.eq_false_iff.mpr fun z => ?_
      have e : C = tp := Value.ref.inj (beq_iff_eq.mp z)
      rw [← e] at ht
      exact nomatch (kin _ _ ho).symm.trans ht
    · cases hcd
  ca := fun kin J q => exc_class c kin J q
end
section
variable {X : Cx} {a C dx : Addr} {oe : Obj} {pn : List (Addr × Obj)}
/-- isinstance(e, c), e the error that the suite holds, its fields at dx -/
def rIsF (K : PySem.W.Frag) (C a dx : Addr) : List V → Hp → VK → Prop := fun xs H Q => ∃ (c : V) (cv : Value) (b : Bool) (fs : List (Str × V)), xs = [.ref a, c] ∧ (∀ u, RelV c u → u = cv) ∧ PySem.W.kitOne K (.ref C) cv = some b ∧ H dx = some (.xd fs) ∧ Q (.bl b) H
theorem call_isF (c : ExcC X.K C) (hz : Zc (.ref C) (some dx) oe) (hf : ∃ vs, oe.data = .fields vs) : CallR (X.suite a ((a, oe) :: pn)) (.builtin "isinstance") (rIsF X.K C a dx) := by
  intro pins s σ H xs us Q I r h
  obtain ⟨y, cv, b, fs, rfl, hcv, e, ex, q⟩ := h
  cases r with
  | cons rx rr =>
  cases rr with
  | cons rt rr =>
  cases rr
  cases rx
  have ec := hcv _ rt
  subst ec
  obtain ⟨hget, _⟩ := I.pin (a, oe) (List.mem_append_left _ (.head _))
  have hx : ObjOk X.prog X.w H s.heap dx (.xd fs) := I.hok dx _ ex
  obtain ⟨mA, hns, hr⟩ := hx
  obtain ⟨od, ho, hl⟩ := lookIn_ns hns
  have J : PySem.W.InstAt s.heap a oe C (some od) := by
    obtain ⟨oc, odi, oda, osl⟩ := oe
    obtain ⟨h1, h2⟩ := hz
    obtain ⟨vs, hv⟩ := hf
    dsimp only at h1 h2 hv
    subst h1 h2 hv
    exact ⟨hget, rfl, rfl, ho⟩
  exact PySem.W.kia_one (kitx_exc c) I.kIn J e (fun z => nomatch z) fun tk => ⟨.bl b, H, I.kept (t' := tk) fun _ _ z => z, rfl, q⟩
end
/-- what the head asks of a class of errors -/
def excB (K : PySem.W.Frag) (C : Addr) : Bool :=
  decide (findIn K (.ref C) "__getattribute__" = some (some (.builtin "BaseException.__getattribute__"))) && (decide (findIn K (.ref C) "__getattr__" = some none) && (decide (subIn K (.ref C) (.type "BaseException") = some true) && (hasDictIn K C && (decide (findIn K (.ref C) "__class__" = some (some (.builtin "object.__class__"))) && (decide (specialIn K (.builtin "object.__class__") "__get__" = some (some (.builtin "getset_descriptor.__get__"))) && (decide (takesIn K (.builtin "object.__class__") = some true) && decide (mroIn K C (.type "object") = some true)))))))
theorem excB_ok {K : PySem.W.Frag} {C : Addr} (h : excB K C = true) : ExcC K C := by
  obtain ⟨h1, h⟩ := He.ba h
  obtain ⟨h2, h⟩ := He.ba h
  obtain ⟨h3, h⟩ := He.ba h
  obtain ⟨h4, h⟩ := He.ba h
  obtain ⟨h5, h⟩ := He.ba h
  obtain ⟨h6, h⟩ := He.ba h
  obtain ⟨h7, h8⟩ := He.ba h
  exact ⟨of_decide_eq_true h1, of_decide_eq_true h2, of_decide_eq_true h3, h4, of_decide_eq_true h5, of_decide_eq_true h6, of_decide_eq_true h7, of_decide_eq_true h8⟩
end Kf

set_option maxHeartbeats 1000000
namespace Kf
open PySem L2
/-! Kb9: comprehensions over tuples of names; what is owned moves from a name into a field or another name. -/
def wipR (ρ : Rhm) : List Nat → Rhm
  | [] => ρ
  | v :: vs => (wipR ρ vs).set v none
theorem wipe_get (σ : L2.St) : ∀ (is : List Nat) (j : Nat), (wipe σ is)[j]? = if j ∈ is ∧ j < σ.length then some none else σ[j]?
  | [], j => by simp [wipe]
  | i :: is, j => by
    show ((wipe σ is).set i none)[j]? = _
    rw [List.getElem?_set, wipe_get σ is j, L2.wipe_length]
    by_cases h : i = j
    · subst h
      by_cases h2 : i < σ.length
      · simp [h2]
      · simp [h2]
    · rw [if_neg h]
      by_cases h3 : j ∈ is <;> simp [h3, Ne.symm h]
theorem wipe_set {σ : L2.St} {is : List Nat} {i : Nat} {x : Option V} (h : i ∈ is) : wipe (σ.set i x) is = wipe σ is := by
  refine List.ext_getElem? fun j => ?_
  rw [wipe_get, wipe_get, List.length_set, List.getElem?_set]
  by_cases e : i = j
  · subst e
    by_cases h2 : i < σ.length
    · simp [h, h2]
    · simp [h2]
  · rw [if_neg e]
theorem wipe_wipe (σ : L2.St) (is : List Nat) : wipe (wipe σ is) is = wipe σ is := by
  refine List.ext_getElem? fun j => ?_
  rw [wipe_get, L2.wipe_length]
  by_cases h : j ∈ is ∧ j < σ.length
  · rw [if_pos h, wipe_get, if_pos h]
  · rw [if_neg h]
theorem sl_set0 {K : PySem.W.Frag} {A H : Hp} {σ : L2.St} {ρ : Rhm} (l : Sl K A H σ ρ) (i : Nat) : Sl K A H (σ.set i none) (ρ.set i none) := fun j m' h => by
  rw [List.getElem?_set] at h ⊢
  by_cases e : i = j
  · subst e
    rw [if_pos rfl] at h
    split at h <;> cases h
  · rw [if_neg e] at h ⊢
    exact l j m' h
theorem sl_wipe {K : PySem.W.Frag} {A H : Hp} {σ : L2.St} {ρ : Rhm} (l : Sl K A H σ ρ) : ∀ is : List Nat, Sl K A H (wipe σ is) (wipR ρ is)
  | [] => l
  | i :: is => sl_set0 (sl_wipe l is) i
theorem sl_put {K : PySem.W.Frag} {A H : Hp} {σ : L2.St} {ρ : Rhm} {v : V} {d : D} {i : Nat} (l : Sl K A H σ ρ) (r : Rp K A v d) (hi : i < σ.length) : Sl K A H (σ.set i (some v)) (ρ.set i (some (.im d))) := fun j m' h => by
  rw [List.getElem?_set] at h ⊢
  by_cases e : i = j
  · subst e
    rw [if_pos rfl] at h ⊢
    rw [if_pos hi]
    split at h
    · cases h
      exact ⟨v, [], rfl, .im r⟩
    · cases h
  · rw [if_neg e] at h ⊢
    exact l j m' h
theorem sl_setAll {K : PySem.W.Frag} {A H : Hp} (js : List Nat) : ∀ (is : List Nat) (ds : List D) (vs : List V) {σ : L2.St} {ρ : Rhm}, Sl K A H σ ρ → RpL K A vs ds → is.length = ds.length → (∀ i ∈ is, i < σ.length ∧ i ∈ js) → ∀ {Q : L2.St → Hp → Prop}, (∀ σ', Sl K A H σ' (setAll ρ is ds) → wipe σ' js = wipe σ js → Q σ' H) → gNames is vs σ H Q
  | [], [], _, _, _, l, .nil, _, _, _, q => ⟨rfl, q _ l rfl⟩
  | i :: is, d :: ds, _, σ, ρ, l, .cons (v := v) r rs, hl, b, Q, q =>
    ⟨v, _, rfl, sl_setAll js is ds _ (sl_put l r (b i (.head _)).1) rs (by simpa using hl) (fun j hj => ⟨by rw [List.length_set]; exact (b j (.tail _ hj)).1, (b j (.tail _ hj)).2⟩) fun σ' l' w => q σ' l' (w.trans (wipe_set (b i (.head _)).2))⟩
section
variable {X : Cx} {T : List Addr} {ρ : Rho} {m : M} {d : D} {ds : List D} {is : List Nat} {n : Nat} {scope : Scope} {elt l t : Expr} {e : Expr}
/-- [elt for a, b, .. in l if t], l data of a list of tuples -/
theorem me_lcfU (hpe : PE X e (tLc (iList X.K (tw X l)) (gTup X.K n (gNames is)) (twBT X scope t) (twB X scope elt) is)) (hl : Ie X T l ρ (.lst ds)) (f : D → D) (g : D → Bool) (hz : ds.length < sizeLine) (hn : is.length = n) (hi : ∀ i ∈ is, i < X.N.length) (hu : ∀ d ∈ ds, ∃ es, d = .tup es ∧ es.length = n)
    (ht : ∀ es, D.tup es ∈ ds → Bt X T scope t (setAll (wipR ρ is) is es) (g (.tup es))) (he : ∀ es, D.tup es ∈ ds → g (.tup es) = true → Be X T scope elt (setAll (wipR ρ is) is es) (f (.tup es))) : Me X T e ρ (.ls ((ds.filter g).map f)) := by
  intro A H σ s l0 Q k
  refine ⟨fun pins st I => ?_⟩
  have hσ : ∀ i ∈ is, i < σ.length := fun i h => by rw [I.len]; exact hi i h
  refine hpe.run pins st σ H Q I (hl A H σ s l0 _ fun v A1 H1 x1 r1 => ?_)
  cases r1 with
  | @lst a xs _ e1 r1 =>
  refine ⟨a, rfl, ⟨xs, SqL.of ((x1.ok s).s _ _ e1)⟩, fun Dl hD => lc_list (xs := xs) (fun j H => Acc X.K T A1 H1 Dl (((ds.take j).filter g).map f) H) (Acc.first (x1.ok s) hD) ?_ ?_ ?_⟩
  · rintro j H _ ⟨A2, acc, ok, x, _⟩
    exact SqL.of (ok.s _ _ (x.aa _ _ e1))
  · rintro j y H hj ⟨A2, acc, ok, x, nn, ha, ra⟩
    obtain ⟨d, hd, rd⟩ := r1.of hj
    have e2 : ds.take (j + 1) = ds.take j ++ [d] := by rw [List.take_add_one, hd]; rfl
    have hmem := List.mem_of_getElem? hd
    obtain ⟨es, rfl, hes⟩ := hu d hmem
    have rd2 := rd.mono x.aa
    cases rd2 with
    | @tup b zs _ e3 r3 =>
    refine ⟨b, zs, rfl, seqT_mono ok.s e3, by rw [r3.len]; exact hes, sl_setAll is is es zs (sl_wipe ((l0.step x1).step x) is) r3 (by rw [hn, hes]) (fun i h => ⟨by rw [L2.wipe_length]; exact hσ i h, h⟩) fun σ2 l2 w2 => ⟨w2.trans (wipe_wipe σ is), ?_⟩⟩
    refine (ht es hmem).dit A2 H _ ok l2 _ fun A3 H3 x3 => ?_
    cases hg : g (.tup es) with
    | false =>
      rw [if_neg Bool.false_ne_true]
      refine ⟨A3, acc, x3.ok ok, x.tr0 x3, (x3.nw Dl (by rw [ha]; simp)).trans nn, x3.same _ _ ha (fun _ z => nomatch z), ?_⟩
      rw [e2, List.filter_append, List.filter_cons, if_neg (by rw [hg]; exact Bool.false_ne_true), List.filter_nil, List.append_nil]
      exact ra.mono x3.aa
    | true =>
      rw [if_pos rfl]
      refine (he es hmem hg).did A3 H3 _ (x3.ok ok) (l2.step x3) _ fun v2 A4 H4 x4 r4 => ?_
      have ha3 := x3.same _ _ ha (fun _ z => nomatch z)
      refine ⟨acc, x4.same _ _ ha3 (fun _ z => nomatch z), ?_, ?_⟩
      · rw [ra.len, List.length_map]
        have h9 := List.length_filter_le g (ds.take j)
        rw [List.length_take] at h9
        omega
      · have q := Acc.more hD (x.tr0 x3) ((x3.nw Dl (by rw [ha]; simp)).trans nn) ha3 (ra.mono x3.aa) x4 (x4.ok (x3.ok ok)) r4
        rw [e2, List.filter_append, List.filter_cons, if_pos hg, List.filter_nil, List.map_append]
        exact q
  · intro H h
    rw [r1.len, List.take_length] at h
    exact h.out hD (k.back x1)
/-- .. without a test -/
theorem me_lcU (hpe : PE X e (tLc (iList X.K (tw X l)) (gTup X.K n (gNames is)) tYes (twB X scope elt) is)) (hl : Ie X T l ρ (.lst ds)) (f : D → D) (hz : ds.length < sizeLine) (hn : is.length = n) (hi : ∀ i ∈ is, i < X.N.length) (hu : ∀ d ∈ ds, ∃ es, d = .tup es ∧ es.length = n)
    (he : ∀ es, D.tup es ∈ ds → Be X T scope elt (setAll (wipR ρ is) is es) (f (.tup es))) : Me X T e ρ (.ls (ds.map f)) := by
  intro A H σ s l0 Q k
  refine ⟨fun pins st I => ?_⟩
  have hσ : ∀ i ∈ is, i < σ.length := fun i h => by rw [I.len]; exact hi i h
  refine hpe.run pins st σ H Q I (hl A H σ s l0 _ fun v A1 H1 x1 r1 => ?_)
  cases r1 with
  | @lst a xs _ e1 r1 =>
  refine ⟨a, rfl, ⟨xs, SqL.of ((x1.ok s).s _ _ e1)⟩, fun Dl hD => lc_list (xs := xs) (fun j H => Acc X.K T A1 H1 Dl ((ds.take j).map f) H) (Acc.first (x1.ok s) hD) ?_ ?_ ?_⟩
  · rintro j H _ ⟨A2, acc, ok, x, _⟩
    exact SqL.of (ok.s _ _ (x.aa _ _ e1))
  · rintro j y H hj ⟨A2, acc, ok, x, nn, ha, ra⟩
    obtain ⟨d, hd, rd⟩ := r1.of hj
    have e2 : ds.take (j + 1) = ds.take j ++ [d] := by rw [List.take_add_one, hd]; rfl
    have hmem := List.mem_of_getElem? hd
    obtain ⟨es, rfl, hes⟩ := hu d hmem
    have rd2 := rd.mono x.aa
    cases rd2 with
    | @tup b zs _ e3 r3 =>
    refine ⟨b, zs, rfl, seqT_mono ok.s e3, by rw [r3.len]; exact hes, sl_setAll is is es zs (sl_wipe ((l0.step x1).step x) is) r3 (by rw [hn, hes]) (fun i h => ⟨by rw [L2.wipe_length]; exact hσ i h, h⟩) fun σ2 l2 w2 => ⟨w2.trans (wipe_wipe σ is), tyes ?_⟩⟩
    rw [if_pos rfl]
    refine (he es hmem).did A2 H _ ok l2 _ fun v2 A4 H4 x4 r4 => ?_
    refine ⟨acc, x4.same _ _ ha (fun _ z => nomatch z), ?_, ?_⟩
    · rw [ra.len, List.length_map, List.length_take]
      omega
    · have q := Acc.more hD x nn ha ra x4 (x4.ok ok) r4
      rw [e2, List.map_append]
      exact q
  · intro H h
    rw [r1.len, List.take_length] at h
    exact h.out hD (k.back x1)
end
/-! ### what is owned moves -/
theorem Sls.take1 {K : PySem.W.Frag} {A H : Hp} {m : M} : ∀ {σ : L2.St} {ρ : Rhm} {fp : List Addr} (j : Nat), Sls K A H σ ρ fp → ρ[j]? = some (some m) → fp.Nodup →
    ∃ v p fp', σ[j]? = some (some v) ∧ RM K A H v m p ∧ p.Nodup ∧ Sls K A H σ (ρ.set j none) fp' ∧ fp'.Nodup ∧ (∀ a ∈ fp', a ∈ fp ∧ a ∉ p) ∧ ∀ a ∈ p, a ∈ fp
  | _, _, _, j, .nil, h, _ => by simp at h
  | _, _, _, 0, .any r, h, _ => by simp at h
  | _, _, _, j + 1, .any r, h, n => by
    obtain ⟨v, p, fp', h1, h2, h3, h4, h5, h6, h7⟩ := Sls.take1 j r (by simpa using h) n
    exact ⟨v, p, fp', by simpa using h1, h2, h3, .any h4, h5, h6, h7⟩
  | _, _, _, 0, .val (v := v) (m := m0) (p := p0) (fp := fp) h0 r, h, n => by
    have e0 : m0 = m := by simpa using h
    subst e0
    obtain ⟨n1, n2, n3⟩ := List.nodup_append.mp n
    exact ⟨v, p0, fp, rfl, h0, n1, .any r, n2, fun a z => ⟨List.mem_append_right _ z, fun w => n3 a w a z rfl⟩, fun a z => List.mem_append_left _ z⟩
  | _, _, _, j + 1, .val (v := v0) (m := m0) (p := p0) (fp := fp) h0 r, h, n => by
    obtain ⟨n1, n2, n3⟩ := List.nodup_append.mp n
    obtain ⟨v, p, fp', h1, h2, h3, h4, h5, h6, h7⟩ := Sls.take1 j r (by simpa using h) n2
    refine ⟨v, p, p0 ++ fp', by simpa using h1, h2, h3, .val h0 h4, List.nodup_append.mpr ⟨n1, h5, fun a ha b hb q => n3 a ha b (h6 b hb).1 q⟩, fun a z => ?_, fun a z => List.mem_append_right _ (h7 a z)⟩
    rcases List.mem_append.mp z with z | z
    · exact ⟨List.mem_append_left _ z, fun w => n3 a z a (h7 a w) rfl⟩
    · exact ⟨List.mem_append_right _ (h6 a z).1, (h6 a z).2⟩
section
variable {c : Fc} {D : Ends} {ρ : Rhm} {m : M} {i j : Nat} {st : Stmt} {f : Str} {C : Addr} {ms : List (Str × M)} {R : VK} {W : WX} {B : Hp} {d : Kf.D}
/-- x = y, y's own thing moves to x -/
theorem ss_mv (hps : PS c.X st (tAsg (tVar j) (gName i))) (hj : ρ[j]? = some (some m)) (hi : i < ρ.length) (h0 : c.S0 = none ∨ i ≠ 0 := by first | exact .inl rfl | exact .inr (by decide)) (q : Nx c D.nx ((ρ.set j none).set i (some m))) : Ss c st D ρ :=
  ss_of hps fun A H σ fp es => by
    obtain ⟨y, p, fp1, k1, k2, k3, k4, k5, k6, k7⟩ := Sls.take1 j es.sl hj es.nd
    obtain ⟨fp2, h1, h2, h3⟩ := Sls.set k2 i k4 (by rw [List.length_set]; exact hi)
    refine ⟨y, k1, q A H _ fp2 ⟨es.ok, es.x, h1, h3 k3 k5 fun a z w => (k6 a w).2 z, fun a z => ?_, es.pn, fix_set h0 es.fix⟩⟩
    rcases h2 a z with w | w
    · exact es.own a (k7 a w)
    · exact es.own a (k6 a w).1
/-- x.f = y, y's own thing moves into the field -/
theorem ss_fldMv (hps : PS c.X st (sFld c.X.K (tVar i) (tVar j) f)) (hj : ρ[j]? = some (some m)) (hi : ρ[i]? = some (some (.ob C ms))) (hij : j ≠ i) (hc : Cls c.X.K C) (hn : NoAttr c.X.K C f) (hl : ms.length < 1000) (q : Nx c D.nx ((ρ.set j none).set i (some (.ob C (putM f m ms))))) : Ss c st D ρ :=
  ss_of hps fun A H σ fp es => by
    obtain ⟨y, p, fp1, k1, k2, k3, k4, k5, k6, k7⟩ := Sls.take1 j es.sl hj es.nd
    have hi1 : (ρ.set j none)[i]? = some (some (.ob C ms)) := by rw [List.getElem?_set_ne hij]; exact hi
    obtain ⟨v0, p0, g1, g2, g3, g4, g5⟩ := k4.alter i hi1 k5
    cases g2 with
    | @ob a _ dx fs _ fp0 e1 n1 r1 =>
    obtain ⟨n3, n4⟩ := List.nodup_cons.mp g4
    have dis : ∀ b ∈ p, b ∉ a :: fp0 := fun b hb z => (k6 b (g3 b z)).2 hb
    obtain ⟨fp', r2, n2, f2⟩ := RMs.put (f := f) k2 r1 k3 n4 fun b hb z => dis b hb (List.mem_cons_of_mem _ z)
    have na' : ∀ b ∈ fp', b ≠ a := fun b hb z => by
      subst z
      rcases f2 b hb with w | w
      · exact dis b w (List.mem_cons_self ..)
      · exact n3 w
    have mx := ext_mut (o' := .ins C dx (putF f y fs)) es.ok e1 trivial n1
    have r3 : RMs c.X.K A (upd H a (.ins C dx (putF f y fs))) Str (putF f y fs) (putM f m ms) fp' := RMs.mono (Same.refl _) r2 (fun b hb => upd_ne (na' b hb)) fun b hb => (RMs.there r2 b hb).1
    have ina : a ∈ fp := (k6 a (g3 a (List.mem_cons_self ..))).1
    obtain ⟨fp2, q1, q2, q3⟩ := g5 A (upd H a (.ins C dx (putF f y fs))) (.ob C (putM f m ms)) (a :: fp') (Same.refl _) (fun b z w => ⟨upd_ne fun u => w (u ▸ List.mem_cons_self ..), (es.sl.there b (k6 b z).1).1⟩) (.ob upd_same n1 r3) (List.nodup_cons.mpr ⟨fun z => na' a z rfl, n2⟩) fun b hb => by
      rcases List.mem_cons.mp hb with w | w
      · exact .inl (w ▸ List.mem_cons_self ..)
      · rcases f2 b w with u | u
        · exact .inr fun z => (k6 b z).2 u
        · exact .inl (List.mem_cons_of_mem _ u)
    refine ⟨y, k1, _, g1, a, C, dx, fs, rfl, e1, hc, hn, by rw [r1.length]; exact hl, q A _ σ fp2 ⟨mx.ok es.ok, es.x.trans mx fun b hb => ?_, q1, q2, fun b hb => ?_, es.pn, es.fix⟩⟩
    · rcases List.mem_cons.mp hb with w | w
      · rw [w]; exact es.own a ina
      · cases w
    · rcases q3 b hb with w | w
      · rcases List.mem_cons.mp w with u | u
        · rw [u]; exact es.own a ina
        · rcases f2 b u with z | z
          · exact es.own b (k7 b z)
          · exact es.own b (k6 b (g3 b (List.mem_cons_of_mem _ z))).1
      · exact es.own b (k6 b w.1).1
theorem Xx.pin (q : Xx c W C f d ρ) : Xx (c.pin B) W C f d ρ := fun A H σ fp e v es he r => q A H σ fp e v es.unpin he r
theorem Rh.pin (q : Rh c R m ρ) : Rh (c.pin B) R m ρ := fun v A H σ p fp es r n f => q v A H σ p fp es.unpin r n f
end
end Kf

set_option maxHeartbeats 1000000
namespace Kf
open PySem L2 GxR PyProof.Rows PySem.Spec
/-! Kb10: row[:2] == (a, b) in a generator expression, a and b captured. -/
mutual
theorem reads_keep {h h' : Heap} (hk : ∀ b o, h.get? b = some o → o.cls ≠ .none → h'.get? b = some o) : ∀ {v : Value} {d : PyData} {as : List Addr}, Reads h v d as → Reads h' v d as
  | _, _, _, .none => .none
  | _, _, _, .bool b => .bool b
  | _, _, _, .int i t => .int i t
  | _, _, _, .str x t => .str x t
  | _, _, _, .list e c d r => .list (hk _ _ e (by rw [c]; exact fun z => nomatch z)) c d (readsAll_keep hk r)
  | _, _, _, .tuple e c d r => .tuple (hk _ _ e (by rw [c]; exact fun z => nomatch z)) c d (readsAll_keep hk r)
  | _, _, _, .dict e c d r1 r2 => .dict (hk _ _ e (by rw [c]; exact fun z => nomatch z)) c d (readsAll_keep hk r1) (readsAll_keep hk r2)
theorem readsAll_keep {h h' : Heap} (hk : ∀ b o, h.get? b = some o → o.cls ≠ .none → h'.get? b = some o) : ∀ {vs : List Value} {ds : List PyData} {as : List Addr}, ReadsAll h vs ds as → ReadsAll h' vs ds as
  | _, _, _, .nil => .nil
  | _, _, _, .cons r rs => .cons (reads_keep hk r) (readsAll_keep hk rs)
end
/-- a row of bindings: a name, texts, a text -/
abbrev Row3 := Str × List Str × Str
def rowD (r : Row3) : D := .tup [.str r.1, .tup (r.2.1.map D.str), .str r.2.2]
def okRow (r : Row3) : Prop := PyData.strOk r.1 = true ∧ (∀ x ∈ r.2.1, PyData.strOk x = true) ∧ PyData.strOk r.2.2 = true
def rowT (rws : List Row3) (nd : Str) (ss : List Str) (i : Nat) : Bool := match rws[i]? with
  | some r => decide (r.1 = nd) && decide (r.2.1 = ss)
  | none => false
theorem shaped2 {n : Str} {ss : List Str} (h1 : PyData.strOk n = true) (h2 : ∀ x ∈ ss, PyData.strOk x = true) : SeqAt.shaped (.tuple [.str n, .tuple (ss.map PyData.str)]) = true := by
  have h := (cmpk_tup (k := 1) (all_cons (cmpk_str h1) (all_cons (cmpk_tup (k := 0) (cmpk_strs h2)) all_nil))).cmp
  have e : py (.tup [.str n, .tup (ss.map D.str)]) = .tuple [.str n, .tuple (ss.map PyData.str)] := by rw [py, pys, pys, pys, py, py, pys_str]
  unfold cmpD at h
  rw [e] at h
  exact (Bool.and_eq_true_iff.mp h).2
theorem eqv2 (n m : Str) (xs ys : List Str) : PyData.eqv (.tuple [.str n, .tuple (xs.map PyData.str)]) (.tuple [.str m, .tuple (ys.map PyData.str)]) = (decide (n = m) && decide (xs = ys)) := by
  rw [PyData.eqv, PyData.eqvAll, PyData.eqvAll, PyData.eqvAll, PyData.eqv, PyData.eqv, eqv_strs, Bool.and_true]
  by_cases h : n = m <;> simp [h]
section
variable {X : Cx} {T : List Addr} {ρ : Rho} {P : Addr} {scope : Scope} {x f g nd : Str} {ss : List Str} {rws : List Row3} {i1 i2 : Nat}
theorem gen_row {p1 p2 p3 p4 p5 p6 p7 p8 : Pos} {k1 k2 : Nat} (hPT : P ∈ T) (hr1 : ρ[i1]? = some (some (.im (.str nd)))) (hN1 : X.N[i1]? = some f) (hv1 : X.env.kindOf f = some .cell) (hr2 : ρ[i2]? = some (some (.im (.tup (ss.map D.str))))) (hN2 : X.N[i2]? = some g) (hv2 : X.env.kindOf g = some .cell)
    (hrw : ∀ r ∈ rws, okRow r) (hnd : PyData.strOk nd = true) (hss : ∀ y ∈ ss, PyData.strOk y = true) (hun : X.A.units + 80 < cLine) (hk : scope.kind = .function) (hl : scope.names.lookup x = some .local) (hf : scope.names.lookup f = some .free) (hg : scope.names.lookup g = some .free)
    (hc1 : (cloFrom X.env.cells scope.names []).lookup f = some ((X.env.cells.lookup f).getD 0)) (hc2 : (cloFrom X.env.cells scope.names []).lookup g = some ((X.env.cells.lookup g).getD 0))
    (hd : (x == ("__debug__" : Str)) = false := by decide) (hd1 : (f == ("__debug__" : Str)) = false := by decide) (hd2 : (f == ("__classdict__" : Str)) = false := by decide) (hd3 : (g == ("__debug__" : Str)) = false := by decide) (hd4 : (g == ("__classdict__" : Str)) = false := by decide) :
    Gen X T P scope x (.Compare (.Subscript (.Name x p1) (.Slice none (some (.Constant (.int 2) k1 p2)) none p3) p4) [.Eq] [.Tuple [.Name f p5, .Name g p6] k2 p7] p8) ρ (.lst (rws.map rowD)) rws.length (rowT rws nd ss) := fun pins σ A H s1 v u I ok l r rv => by
  obtain ⟨m, hns, hlk⟩ := I.loc
  have cellOf : ∀ {j : Nat} {y : Str} {w : V}, σ[j]? = some (some w) → X.N[j]? = some y → X.env.kindOf y = some .cell → ∃ u c, RelV w u ∧ X.env.cells.lookup y = some c ∧ s1.heap.IsCell c (some u) := fun {j y w} e0 hN hv => by
    obtain ⟨u0, ru0, hlook⟩ := hlk j y w hN e0 (.inr (.inl hv))
    rcases hlook with ⟨z, _⟩ | ⟨_, c, z1, z2⟩
    · rw [hv] at z; cases z
    · exact ⟨u0, c, ru0, z1, z2⟩
  obtain ⟨v1, fp1, e1, q1⟩ := l i1 _ hr1
  cases q1 with
  | im q1 =>
  cases q1
  obtain ⟨v2, fp2, e2, q2⟩ := l i2 _ hr2
  cases q2 with
  | im q2 =>
  have hb2 := q2
  cases q2 with
  | @tup b zs _ z1 z2 =>
  obtain ⟨w1, c1, rw1, lc1, ic1⟩ := cellOf e1 hN1 hv1
  obtain ⟨w2, c2, rw2, lc2, ic2⟩ := cellOf e2 hN2 hv2
  obtain ⟨t1, rfl⟩ := (show ∃ t, w1 = .str nd t from rw1)
  have ew2 : w2 = .ref b := rw2
  subst ew2
  have py2 : py (.tup (ss.map D.str)) = .tuple (ss.map PyData.str) := by rw [py, pys_str]
  obtain ⟨bs, rd2⟩ := Dp.reads I (.tuple (ss.map PyData.str)) (.ref b) (.ref b) (by rw [← py2]; exact hb2.dp ok.s (by rw [pyb, pybs_str])) rfl
  cases r with
  | @lst a ys _ ha hys =>
  have eu : u = .ref a := rv
  subst eu
  obtain ⟨its, rvs, pl, _⟩ := I.list (SqL.of (ok.s _ _ ha))
  have hil : s1.heap.IsList a its.toArray := by
    obtain ⟨o, n, ho, h1, h2, h3⟩ := pl
    exact ⟨o, ho, h1, n, h3⟩
  have hlen : its.length = rws.length := by
    have h1 := rvs.length
    have h2 := hys.len
    rw [List.length_map] at h2
    omega
  obtain ⟨ps, hPh⟩ : ∃ ps, s1.heap.get? P = some { cls := .none, data := .fields ps } := by
    obtain ⟨ps, hP, _⟩ := ok.tb P hPT
    exact ⟨ps, I.hok P _ hP⟩
  refine ⟨fun i v => its.toArray[i]? = some v, ?_, fun cenv A' E' i v s2 m2 hs hgl hcs hA hU hP2 hn hm hkp => ?_⟩
  · have := itb_list (P := X.prog) (w := X.w) hil
    rw [show its.toArray.size = rws.length by simpa using hlen] at this
    exact this
  have keep : ∀ b o, s1.heap.get? b = some o → o.cls ≠ .none → s2.heap.get? b = some o := fun b o e ne => hkp b o (fun z => ne (by rw [z, hPh] at e; cases e; rfl)) e
  have hiv : its[i]? = some v := by simpa using hP2
  have hi : i < rws.length := by
    by_cases q : i < its.length
    · omega
    · rw [List.getElem?_eq_none (by omega)] at hiv; cases hiv
  have hri : rws[i]? = some rws[i] := List.getElem?_eq_getElem hi
  have hrr := hrw _ (List.getElem_mem hi)
  generalize rws[i] = r at hri hrr
  obtain ⟨y, hy, ry⟩ := hys.get (n := i) (d := rowD r) (by rw [List.getElem?_map, hri]; rfl)
  have rvy : RelV y v := by
    obtain ⟨u1, hu1, r1⟩ := Vals.get rvs hy
    rw [hiv] at hu1
    cases hu1
    exact r1
  cases ry with
  | @tup t zs2 _ ht rz =>
  have ev : v = .ref t := rvy
  subst ev
  cases rz with
  | @cons y0 _ _ _ s0 rz =>
  cases rz with
  | @cons y1 _ _ _ sy1 rz =>
  cases rz with
  | @cons y2 _ _ _ sy2 rz =>
  cases rz
  cases s0
  cases sy2
  cases sy1 with
  | @tup q zs3 _ hq rq =>
  have hq2 : Rp X.K A (.ref q) (.tup (r.2.1.map D.str)) := .tup hq rq
  have py1 : py (.tup (r.2.1.map D.str)) = .tuple (r.2.1.map PyData.str) := by rw [py, pys_str]
  obtain ⟨as, rd1⟩ := Dp.reads I (.tuple (r.2.1.map PyData.str)) (.ref q) (.ref q) (by rw [← py1]; exact hq2.dp ok.s (by rw [pyb, pybs_str])) rfl
  obtain ⟨wts, rw0, tl, _⟩ := I.tuple (seqT_mono ok.s ht)
  -- the row's three parts
  obtain ⟨u0, hu0, ru0⟩ := Vals.get rw0 (i := 0) (x := .str r.1) rfl
  obtain ⟨u1, hu1, ru1⟩ := Vals.get rw0 (i := 1) (x := .ref q) rfl
  have hwl := rw0.length
  obtain ⟨t0, rfl⟩ := (show ∃ t, u0 = .str r.1 t from ru0)
  have eu1 : u1 = .ref q := ru1
  subst eu1
  have htake : wts.take 2 = [.str r.1 t0, .ref q] := by
    have hl3 : wts.length = 3 := by rw [← hwl]; rfl
    refine List.ext_getElem? fun j => ?_
    rw [List.getElem?_take]
    match j with
    | 0 => exact hu0
    | 1 => exact hu1
    | j + 2 => rw [if_neg (by omega)]; rfl
  have hl3 : wts.length = 3 := by rw [← hwl]; rfl
  have tl2 : IsTup s2.heap t wts.toArray := by
    obtain ⟨o, h1, h2, h3⟩ := tl
    exact ⟨o, keep t o h1 (by rw [h2]; exact fun z => nomatch z), h2, h3⟩
  have cell2 : ∀ {c : Addr} {u : Value}, s1.heap.IsCell c (some u) → s2.heap.IsCell c (some u) := fun {c u} ⟨o, ho, hd⟩ => ⟨o, hkp c o (fun z => by rw [z, hPh] at ho; cases ho; cases hd) ho, hd⟩
  have g1 : cenv.cells.lookup f = some c1 := by rw [hcs, hc1, lc1]; rfl
  have g2 : cenv.cells.lookup g = some c2 := by rw [hcs, hc2, lc2]; rfl
  have kf : cenv.kindOf f = some .free := by show cenv.scope.names.lookup f = _; rw [hs]; exact hf
  have kg : cenv.kindOf g = some .free := by show cenv.scope.names.lookup g = _; rw [hs]; exact hg
  have kfun : cenv.scope.kind = .function := by rw [hs]; exact hk
  refine wpAny_Compare1 (Subscript_Slice ?_)
  refine wpAny_Name (wpAny_loadName_local kfun (show cenv.scope.names.lookup x = some .local by rw [hs]; exact hl) hn hm ?_) hd
  refine wpAny_Slice (evalPart_none_step (evalPart_some_step (wpAny_Constant_int (evalPart_none_step ?_))))
  refine ⟨"tuple", _, PyProof.Rows.slot_tuple_getitem.lookup, ?_, ?_⟩
  · obtain ⟨o, h1, h2, h3⟩ := tl2
    exact ⟨o, Heap.get?_push_of_some _ h1, h2⟩
  refine HT.getItem_tuple_cut (items := wts.toArray) (lo := none) (hi := some 2) (by
    obtain ⟨o, h1, h2, h3⟩ := tl2
    exact ⟨o, Heap.get?_push_of_some _ h1, h2, h3⟩) (Heap.IsSliceOf.new ..) .none (.int 2 _) (by
    rw [List.size_toArray, hl3]
    exact fun z => absurd z.2 (by decide)) ?_ (by rw [List.size_toArray, hl3, sizeLine_eq]; decide)
  have ecut : ((wts.toArray.toList.drop (HT.sIx wts.toArray.size 0 none)).take (HT.sIx wts.toArray.size wts.toArray.size (some 2) - HT.sIx wts.toArray.size 0 none)) = [.str r.1 t0, .ref q] := by
    rw [List.size_toArray, hl3, ← htake]
    rfl
  rw [ecut]
  have keep3 : ∀ (o1 o2 : Obj) (b : Addr) (o : Obj), s2.heap.get? b = some o → ((s2.heap.push o1).push o2).get? b = some o := fun o1 o2 b o e => Heap.get?_push_of_some _ (Heap.get?_push_of_some _ e)
  refine wpAny_Tuple_spliced (Calls.spliced_cons ?_)
  refine wpAny_Name (wpAny_loadName_free kfun kf g1 ((cell2 ic1).keeps (keep3 _ _)) ?_ hd2) hd1
  refine Calls.spliced_cons ?_
  refine wpAny_Name (wpAny_loadName_free kfun kg g2 ((cell2 ic2).keeps (keep3 _ _)) ?_ hd4) hd3
  refine Calls.spliced_nil ?_
  refine ⟨by rw [sizeLine_eq]; show 2 ≤ 16777216; omega, ?_⟩
  have rA : ∀ (o1 o3 : Obj), Reads (((s2.heap.push o1).push { cls := .type "tuple", data := .seq [Value.str r.1 t0, .ref q].toArray }).push o3) (.ref (s2.heap.push o1).objs.size) (.tuple [.str r.1, .tuple (r.2.1.map PyData.str)]) ([] ++ (as ++ [])) := fun o1 o3 =>
    .tuple (Heap.get?_push_of_some _ (Heap.get?_push_size _ rfl)) rfl rfl (.cons (.str _ _) (.cons (reads_keep (fun b o e ne => Heap.get?_push_of_some _ (keep3 _ _ b o (keep b o e ne))) rd1) .nil))
  have rB : ∀ (o1 o2 : Obj), Reads (((s2.heap.push o1).push o2).push { cls := .type "tuple", data := .seq [Value.str nd t1, .ref b].toArray }) (.ref ((s2.heap.push o1).push o2).objs.size) (.tuple [.str nd, .tuple (ss.map PyData.str)]) ([] ++ (bs ++ [])) := fun o1 o2 =>
    .tuple (Heap.get?_push_size _ rfl) rfl rfl (.cons (.str _ _) (.cons (reads_keep (fun b o e ne => Heap.get?_push_of_some _ (keep3 _ _ b o (keep b o e ne))) rd2) .nil))
  refine SeqAt.compareEq_shaped (rA _ _) (rB _ _) (shaped2 hrr.1 hrr.2.1) (shaped2 hnd hss) (by omega) ⟨?_, ?_⟩
  · rw [eqv2]
    unfold rowT
    rw [hri]
  · exact ⟨_, _, rfl, fun b o e => Heap.get?_push_of_some _ (keep3 _ _ b o e)⟩
end
end Kf

set_option maxHeartbeats 1000000
namespace Kf
open PySem L2
/-! Kb11: a loop over the list that the def was given and may change later: its slot is set aside for the loop's time. -/
abbrev Fc.aside (c : Fc) (F : List Addr) (A H : Hp) : Fc := { c with F := F, A0 := A, H0 := H }
section
variable {c : Fc} {D : Ends} {ρ1 : Rhm} {m : M} {v0 : V} {A H : Hp} {σ : L2.St} {fp : List Addr}
theorem es_aside (es : Es c A H σ (some m :: ρ1) fp) (hS : c.S0 = some v0) : ∃ p fp1, RM c.X.K A H v0 m p ∧ p.Nodup ∧ (∀ a ∈ p, a ∉ fp1) ∧ (∀ a ∈ p, a ∈ fp) ∧ (∀ a ∈ fp1, a ∈ fp) ∧ Es (c.aside fp1 A H) A H σ (none :: ρ1) fp1 := by
  have hf := es.fix v0 hS
  have hsl := es.sl
  have hnd := es.nd
  have hown := es.own
  cases hsl with
  | @val v m p σ' _ fp1 h r =>
  have e : v = v0 := by simpa using hf
  subst e
  obtain ⟨n1, n2, n3⟩ := List.nodup_append.mp hnd
  exact ⟨p, fp1, h, n1, fun a z w => n3 a z a w rfl, fun a z => List.mem_append_left _ z, fun a z => List.mem_append_right _ z, es.ok, Ext.refl es.ok, .any r, n2, fun a z => .inl z, es.pn, es.fix⟩
theorem es_back {p fp1 : List Addr} {A2 H2 : Hp} {σ2 : L2.St} {ρ2 : Rhm} {fp2 : List Addr} (es : Es c A H σ (some m :: ρ1) fp) (hS : c.S0 = some v0) (h : RM c.X.K A H v0 m p) (hn : p.Nodup) (hd : ∀ a ∈ p, a ∉ fp1) (hp : ∀ a ∈ p, a ∈ fp) (hf : ∀ a ∈ fp1, a ∈ fp)
    (e2 : Es (c.aside fp1 A H) A2 H2 σ2 (none :: ρ2) fp2) : Es c A2 H2 σ2 (some m :: ρ2) (p ++ fp2) := by
  have hfix := e2.fix v0 hS
  have hsl := e2.sl
  cases hsl with
  | @any o σ' _ _ r =>
  have eo : o = some v0 := by simpa using hfix
  subst eo
  have lv := es.live
  have h2 : RM c.X.K A2 H2 v0 m p := h.step e2.x hd
  refine ⟨e2.ok, es.x.trans e2.x fun a z => es.own a (hf a z), .val h2 r, List.nodup_append.mpr ⟨hn, e2.nd, fun a ha b hb q => ?_⟩, fun a z => ?_, e2.pn, e2.fix⟩
  · subst q
    rcases e2.own a hb with w | w
    · exact hd a ha w
    · exact lv a (hp a ha) w
  · rcases List.mem_append.mp z with z | z
    · exact es.own a (hp a z)
    · rcases e2.own a z with w | w
      · exact es.own a (hf a w)
      · exact .inr (fresh_back (p := [a]) es.x (fun b hb => by
          rcases List.mem_cons.mp hb with e | e
          · rw [e]; exact w
          · cases e) a (List.mem_cons_self ..))
/-- for a, b, .. in x, x the list that the def was given first -/
theorem ss_forU0 {n : Nat} {is : List Nat} {ds : List Kf.D} {st : Stmt} {body : List Stmt} (hps : PS c.X st (tFor (iList c.X.K (tVar 0)) (gTup c.X.K n (gNames is)) (twss c.X body))) (hS : c.S0 = some v0) (hn : is.length = n)
    (W : Nat → Rhm → Prop) (w0 : W 0 ρ1) (wl : ∀ j ρ', W j ρ' → ∀ i ∈ is, i < ρ'.length + 1 ∧ i ≠ 0)
    (turn : ∀ (F1 : List Addr) (A1 H1 : Hp), (∀ R m' ρ', Rh c R m' (some (.ls ds) :: ρ') → Rh (c.aside F1 A1 H1) R m' (none :: ρ')) → ∀ j d ρ', ds[j]? = some d → W j ρ' → ∀ N : L2.St → Hp → Prop, (∀ ρ2, W (j + 1) ρ2 → Nx (c.aside F1 A1 H1) N (none :: ρ2)) → ∃ es, d = .tup es ∧ es.length = n ∧ Gs (c.aside F1 A1 H1) body { D with nx := N, ct := N, bk := D.nx } (setAll (none :: ρ') is es))
    (hd : ∀ ρ', W ds.length ρ' → Nx c D.nx (some (.ls ds) :: ρ')) : Ss c st D (some (.ls ds) :: ρ1) :=
  ss_of hps fun A H σ fp es => by
    obtain ⟨p, fp1, h, hn1, hd1, hp, hf, ea⟩ := es_aside es hS
    have hfix := es.fix v0 hS
    have h' := h
    cases h with
    | @ls a xs _ e1 n1 r1 =>
    have back : ∀ {A2 H2 : Hp} {σ2 : L2.St} {ρ2 : Rhm} {fp2 : List Addr}, Es (c.aside fp1 A H) A2 H2 σ2 (none :: ρ2) fp2 → Es c A2 H2 σ2 (some (.ls ds) :: ρ2) ([a] ++ fp2) := fun e2 => es_back es hS h' hn1 hd1 hp hf e2
    have lst : ∀ {A2 H2 : Hp} {σ2 : L2.St} {ρ2 : Rhm} {fp2 : List Addr}, Es (c.aside fp1 A H) A2 H2 σ2 ρ2 fp2 → H2 a = some (.lst xs) := fun e2 => e2.x.hh a _ e1 (mut_noTab trivial) (hd1 a (.head _))
    refine ⟨.ref a, hfix, a, rfl, ⟨xs, SqL.of e1⟩, for_list (xs := xs) (fun j σ H2 => ∃ ρ' A2 fp2, W j ρ' ∧ Es (c.aside fp1 A H) A2 H2 σ (none :: ρ') fp2) ⟨ρ1, A, fp1, w0, ea⟩ ?_ ?_ ?_⟩
    · rintro j σ2 H2 _ ⟨ρ', A2, fp2, _, e2⟩
      exact SqL.of (lst e2)
    · rintro j y σ2 H2 hj ⟨ρ', A2, fp2, w, e2⟩
      obtain ⟨d, hd', rd⟩ := r1.of hj
      have rd2 := rd.mono e2.x.aa
      obtain ⟨us, rfl, hl, g⟩ := turn fp1 A H (fun R m' ρ' q v A3 H3 σ3 q3 fp3 e3 r3 n3 f3 => q v A3 H3 σ3 q3 _ (back e3) r3 n3 fun b hb => ⟨fun z => by
        rcases List.mem_append.mp z with z | z
        · rw [List.mem_singleton.mp z] at hb
          have := (f3 a hb).2
          exact nomatch this.symm.trans e1
        · exact (f3 b hb).1 z, fresh_back es.x (fun b' hb' => (f3 b' hb').2) b hb⟩) j d ρ' hd' w (fun σ' H' => ∃ ρ' A2 fp2, W (j + 1) ρ' ∧ Es (c.aside fp1 A H) A2 H' σ' (none :: ρ') fp2) (fun ρ2 w2 A4 H4 σ4 fp4 es4 => ⟨ρ2, A4, fp4, w2, es4⟩)
      cases rd2 with
      | @tup b zs _ z2 r2 =>
      exact ⟨b, zs, rfl, seqT_mono e2.ok.s z2, by rw [r2.len]; exact hl, es_setAll (c := c.aside fp1 A H) (K := c.X.K) is us zs e2 r2 (by rw [hl, hn]) (fun i hi => ⟨(wl j ρ' w i hi).1, .inr (wl j ρ' w i hi).2⟩) fun σ' fp' es' => g A2 H2 σ' fp' es'⟩
    · rintro σ2 H2 ⟨ρ', A2, fp2, w, e2⟩
      rw [r1.len] at w
      exact hd ρ' w A2 H2 σ2 _ (back e2)
end
end Kf

set_option maxHeartbeats 1000000
namespace Kf.L
open PySem L2
def top (i : Nat) : Stmt := PySem.Challenge.pw_keyfocus_k40_bindings.main.body.getD i (.Pass ⟨0, 0, 0, 0⟩)
abbrev s_Refused_init : Stmt := inClass (top 2) 0
abbrev n_Refused_init : List Str := ["self", "what"]
abbrev p_Refused_init : List Str := ["self", "what"]
abbrev s_is_prefix : Stmt := top 4
abbrev n_is_prefix : List Str := ["one", "two"]
abbrev p_is_prefix : List Str := ["one", "two"]
theorem sc_is_prefix : FnScope n_is_prefix p_is_prefix (defScope s_is_prefix) := ⟨rfl, rfl, rfl, by decide +kernel, rfl, by decide +kernel, by decide +kernel⟩
abbrev s_shown : Stmt := top 5
abbrev n_shown : List Str := ["sequence"]
abbrev p_shown : List Str := ["sequence"]
theorem sc_shown : FnScope n_shown p_shown (defScope s_shown) := ⟨rfl, rfl, rfl, by decide +kernel, rfl, by decide +kernel, by decide +kernel⟩
abbrev s_Bindings_init : Stmt := inClass (top 8) 0
abbrev n_Bindings_init : List Str := ["self"]
abbrev p_Bindings_init : List Str := ["self"]
theorem sc_Bindings_init : FnScope n_Bindings_init p_Bindings_init (defScope s_Bindings_init) := ⟨rfl, rfl, rfl, by decide +kernel, rfl, by decide +kernel, by decide +kernel⟩
abbrev s_Bindings_count : Stmt := inClass (top 8) 1
abbrev n_Bindings_count : List Str := ["self"]
abbrev p_Bindings_count : List Str := ["self"]
theorem sc_Bindings_count : FnScope n_Bindings_count p_Bindings_count (defScope s_Bindings_count) := ⟨rfl, rfl, rfl, by decide +kernel, rfl, by decide +kernel, by decide +kernel⟩
abbrev s_Bindings_of_node : Stmt := inClass (top 8) 2
abbrev n_Bindings_of_node : List Str := ["self", "node", "other", "strokes", "command"]
abbrev p_Bindings_of_node : List Str := ["self", "node"]
theorem sc_Bindings_of_node : FnScope n_Bindings_of_node p_Bindings_of_node (defScope s_Bindings_of_node) := ⟨rfl, rfl, rfl, by decide +kernel, rfl, by decide +kernel, by decide +kernel⟩
abbrev s_Bindings_bind : Stmt := inClass (top 8) 3
abbrev n_Bindings_bind : List Str := ["self", "node", "strokes", "command", "other", "command_there"]
abbrev p_Bindings_bind : List Str := ["self", "node", "strokes", "command"]
theorem sc_Bindings_bind : FnScope n_Bindings_bind p_Bindings_bind (defScope s_Bindings_bind) := ⟨rfl, rfl, rfl, by decide +kernel, rfl, by decide +kernel, by decide +kernel⟩
abbrev s_Bindings_unbind : Stmt := inClass (top 8) 4
abbrev n_Bindings_unbind : List Str := ["self", "node", "strokes", "row", "kept", "is_there"]
abbrev p_Bindings_unbind : List Str := ["self", "node", "strokes"]
theorem sc_Bindings_unbind : FnScope n_Bindings_unbind p_Bindings_unbind (defScope s_Bindings_unbind) := ⟨rfl, rfl, rfl, by decide +kernel, rfl, by decide +kernel, by decide +kernel⟩
abbrev s_Bindings_of : Stmt := inClass (top 8) 5
abbrev n_Bindings_of : List Str := ["self", "node", "strokes", "command"]
abbrev p_Bindings_of : List Str := ["self", "node"]
theorem sc_Bindings_of : FnScope n_Bindings_of p_Bindings_of (defScope s_Bindings_of) := ⟨rfl, rfl, rfl, by decide +kernel, rfl, by decide +kernel, by decide +kernel⟩
abbrev s_Bindings_is_bound : Stmt := inClass (top 8) 6
abbrev n_Bindings_is_bound : List Str := ["self", "node", "strokes"]
abbrev p_Bindings_is_bound : List Str := ["self", "node", "strokes"]
theorem sc_Bindings_is_bound : FnScope n_Bindings_is_bound p_Bindings_is_bound (defScope s_Bindings_is_bound) := ⟨rfl, rfl, rfl, by decide +kernel, rfl, by decide +kernel, by decide +kernel⟩
abbrev s_Bindings_drop : Stmt := inClass (top 8) 7
abbrev n_Bindings_drop : List Str := ["self", "names", "row"]
abbrev p_Bindings_drop : List Str := ["self", "names"]
theorem sc_Bindings_drop : FnScope n_Bindings_drop p_Bindings_drop (defScope s_Bindings_drop) := ⟨rfl, rfl, rfl, by decide +kernel, rfl, by decide +kernel, by decide +kernel⟩
abbrev s_Bindings_match : Stmt := inClass (top 8) 8
abbrev n_Bindings_match : List Str := ["self", "node", "strokes", "other", "command"]
abbrev p_Bindings_match : List Str := ["self", "node", "strokes"]
theorem sc_Bindings_match : FnScope n_Bindings_match p_Bindings_match (defScope s_Bindings_match) := ⟨rfl, rfl, rfl, by decide +kernel, rfl, by decide +kernel, by decide +kernel⟩
abbrev s_law_cell : Stmt := top 10
abbrev n_law_cell : List Str := ["_law_script", "_law_k"]
abbrev p_law_cell : List Str := ["_law_script", "_law_k"]
theorem sc_law_cell : FnScope n_law_cell p_law_cell (defScope s_law_cell) := ⟨rfl, rfl, rfl, by decide +kernel, rfl, by decide +kernel, by decide +kernel⟩
abbrev s_law_draws : Stmt := top 11
abbrev n_law_draws : List Str := ["_law_cell_here", "_law_count", "_law_found", "_law_is_wide", "_law_k", "_law_mixed"]
abbrev p_law_draws : List Str := ["_law_cell_here", "_law_count"]
theorem sc_law_draws : FnScope n_law_draws p_law_draws (defScope s_law_draws) := ⟨rfl, rfl, rfl, by decide +kernel, rfl, by decide +kernel, by decide +kernel⟩
abbrev s_law_strokes : Stmt := top 12
abbrev n_law_strokes : List Str := ["_law_draws_here", "_law_at", "_law_rows", "_law_k"]
abbrev p_law_strokes : List Str := ["_law_draws_here", "_law_at"]
theorem sc_law_strokes : FnScope n_law_strokes p_law_strokes (defScope s_law_strokes) := ⟨rfl, rfl, rfl, by decide +kernel, rfl, by decide +kernel, by decide +kernel⟩
abbrev s_law_begins : Stmt := top 13
abbrev n_law_begins : List Str := ["_law_one", "_law_two"]
abbrev p_law_begins : List Str := ["_law_one", "_law_two"]
theorem sc_law_begins : FnScope n_law_begins p_law_begins (defScope s_law_begins) := ⟨rfl, rfl, rfl, by decide +kernel, rfl, by decide +kernel, by decide +kernel⟩
abbrev s_law_match : Stmt := top 14
abbrev n_law_match : List Str := ["_law_rows", "_law_node", "_law_strokes_here", "_law_other", "_law_bound_here", "_law_command"]
abbrev p_law_match : List Str := ["_law_rows", "_law_node", "_law_strokes_here"]
theorem sc_law_match : FnScope n_law_match p_law_match (defScope s_law_match) := ⟨rfl, rfl, rfl, by decide +kernel, rfl, by decide +kernel, by decide +kernel⟩
abbrev s_law_told : Stmt := top 15
abbrev n_law_told : List Str := ["_law_keys", "_law_node", "_law_strokes_here", "_law_command", "e"]
abbrev p_law_told : List Str := ["_law_keys", "_law_node", "_law_strokes_here", "_law_command"]
theorem sc_law_told : FnScope n_law_told p_law_told (defScope s_law_told) := ⟨rfl, rfl, rfl, by decide +kernel, rfl, by decide +kernel, by decide +kernel⟩
abbrev s_law_bound : Stmt := top 16
abbrev n_law_bound : List Str := ["_law_rows", "_law_node", "_law_strokes_here", "_law_command", "_law_other", "_law_bound_here", "_law_known"]
abbrev p_law_bound : List Str := ["_law_rows", "_law_node", "_law_strokes_here", "_law_command"]
theorem sc_law_bound : FnScope n_law_bound p_law_bound (defScope s_law_bound) := ⟨rfl, rfl, rfl, by decide +kernel, rfl, by decide +kernel, by decide +kernel⟩
abbrev s_law_is_it : Stmt := top 17
abbrev n_law_is_it : List Str := ["_law_keys", "_law_rows", "_law_probe", "_law_node", "_law_row"]
abbrev p_law_is_it : List Str := ["_law_keys", "_law_rows", "_law_probe"]
theorem sc_law_is_it : FnScope n_law_is_it p_law_is_it (defScope s_law_is_it) := ⟨rfl, rfl, rfl, by decide +kernel, rfl, by decide +kernel, by decide +kernel⟩
abbrev s_law : Stmt := top 18
abbrev n_law : List Str := ["_law_script", "_law_keys", "_law_rows", "_law_k", "_law_due", "_law_draws_here", "_law_node", "_law_strokes_here", "_law_kind", "_law_command", "_law_row", "_law_kept", "_law_told_here", "_law_names"]
abbrev p_law : List Str := ["_law_script"]
theorem sc_law : FnScope n_law p_law (defScope s_law) := ⟨rfl, rfl, rfl, by decide +kernel, rfl, by decide +kernel, by decide +kernel⟩

abbrev FD (K : PySem.W.Frag) (x qual : Str) (st : Stmt) (f : Addr) (fd : FuncData) : Prop := FunD K x qual (defArgs st) (defBody st) (defScope st) [] [] f fd
section
variable {P : Program} {w : World} {K : PySem.W.Frag} {mg : Str → Option Value} {base : Heap} {T : List Addr} {f : Addr} {fd : FuncData}
theorem ok_cell (F : FD K "_law_cell" "_law_cell" s_law_cell f fd) (hlen : mg "len" = none) : FnOk P w K mg base CX0 1 f fd p_law_cell (spP K T r_cell) := by
  refine fn_ok F sc_law_cell (fun ds m ⟨ns, k, h, _⟩ => by rw [h]; rfl) fun cdv A outer s H A0 E hr hcd ds m h Z hrt hnx => ?_
  obtain ⟨ns, k, rfl, rfl⟩ := h
  show Gs _ _ _ [some (.im (.fls (ns.map D.int))), some (.im (.int k))]
  refine gs_cons (ss_if (te_cmp (ie_var (pv 1) rfl) (ie_im (me_bi (as_cons (ie_var (pv 0) rfl) as_nil) cl_lenF hlen boot_len)) o_lt) (fun q => ?_) (fun q => ?_))
  · have hk : k < ns.length := by simpa using q
    refine gs_one (ss_ret (ask_h (me_ix (ie_var (pv 0) rfl) (ie_var (pv 1) rfl) (ix_f (cell_at hk)))) hrt)
  · have hk : ns.length ≤ k := by simpa using q
    rw [cell_no hk] at hrt
    exact gs_nil (gs_one (ss_ret (ask_h (me_ie ie_int)) hrt))
theorem ok_draws (F : FD K "_law_draws" "_law_draws" s_law_draws f fd) (hint : mg "int" = none) (hran : mg "range" = none) : FnOk P w K mg base CX0 1 f fd p_law_draws (spP K T r_draws) := by
  refine fn_ok F sc_law_draws (fun ds m ⟨z, n, h, _⟩ => by rw [h]; rfl) fun cdv A outer s H A0 E hr hcd ds m h Z hrt hnx => ?_
  obtain ⟨z, n, rfl, hn, rfl⟩ := h
  show Gs _ _ _ [some (.im (.int z)), some (.im (.int n)), none, none, none, none]
  refine gs_cons (ss_set (i := 2) (ask_h (me_lst as_nil)) sc_law_draws.nd rfl (.inl rfl) ?_)
  refine gs_cons (ss_set (i := 3) (ask_h (me_cmp (ie_var (pv 0) rfl) (ie_im (me_bin ie_int ie_int (o_pow ⟨by decide, by decide, by decide⟩))) o_ge)) sc_law_draws.nd rfl (.inl rfl) ?_)
  refine gs_cons (ss_range (i := 4) (n := n) (ps_for PassesOwn.never rfl (pi_range1 rfl hran pa_tw) (pg_name (i := 4) sc_law_draws.nd rfl (.inl rfl)) pss_tw) (as_cons (ie_var (pv 1) rfl) as_nil) ⟨by omega, by omega⟩
    (fun j ρ => ρ = [some (.im (.int (drawZ z j))), some (.im (.int n)), some (.ls ((draws z j).map D.int)), some (.im (.bl (wideZ z))), none, none]) rfl (fun j ρ h => by rw [h]; exact of_decide_eq_true rfl) ?_ ?_)
  · rintro j ρ hj rfl N hN
    refine gs_one (ss_if (te_val (ie_var (pv 3) rfl)) (fun q => ?_) (fun q => ?_))
    · refine gs_cons (ss_app (i := 2) (ps_expr (pe_bm PySem.F.plainAttrs_list PySem.F.slot_list_append PySem.F.type_list_append mt_append (pv 2) (pa_cons pe_tw pa_nil))) rfl (ask_h (me_bin (ie_im (me_ty (as_cons (ie_var (pv 0) rfl) as_nil) cl_int hint bt_int)) ie_int (o_mod (by decide)))) (by rw [List.length_map, draws_len]; exact small1000 (by omega)) ?_)
      refine gs_one (ss_set (i := 0) (ask_h (me_bin (ie_var (pv 0) rfl) ie_int (o_fdiv ⟨by decide, by decide⟩))) sc_law_draws.nd rfl (.inl rfl) ?_)
      refine nx_weak (.keep (.keep (.keep (.keep (.drop (.keep .nil)))))) (hN _ ?_)
      rw [drawZ_wide q, draws_wide q, List.map_append]
      rfl
    · refine gs_cons (ss_set (i := 5) (ask_h (me_bin (ie_im (me_ty (as_cons (ie_im (me_bin (ie_im (me_bin (ie_var (pv 0) rfl) ie_int (o_mul (.inr ⟨by decide, by decide⟩)))) (ie_im (me_bin (ie_var (pv 4) rfl) ie_int (o_mul (.inr ⟨by decide, by decide⟩)))) o_add)) as_nil) cl_int hint bt_int)) ie_int (o_mod (by decide)))) sc_law_draws.nd rfl (.inl rfl) ?_)
      refine gs_one (ss_app (i := 2) (ps_expr (pe_bm PySem.F.plainAttrs_list PySem.F.slot_list_append PySem.F.type_list_append mt_append (pv 2) (pa_cons pe_tw pa_nil))) rfl
        (ask_h (me_bin (ie_im (me_ty (as_cons (ie_im (me_bin (ie_im (me_bin (ie_im (me_bin (ie_var (pv 5) rfl) (ie_var (pv 5) rfl) (o_mul (.inl (mix_small _))))) (ie_im (me_bin (ie_var (pv 0) rfl) ie_int (o_mul (.inr ⟨by decide, by decide⟩)))) o_add)) (ie_var (pv 4) rfl) o_add)) as_nil) cl_int hint bt_int)) ie_int (o_mod (by decide))))
        (by rw [List.length_map, draws_len]; exact small1000 (by omega)) ?_)
      refine nx_weak (.keep (.keep (.keep (.keep (.drop (.drop .nil)))))) (hN _ ?_)
      rw [drawZ_thin q, draws_thin q, List.map_append]
      rfl
  · rintro ρ rfl
    exact gs_one (ss_retO (i := 2) (ps_ret (pv 2)) rfl rfl hrt)
end
end Kf.L

set_option maxHeartbeats 1000000
namespace Kf.L
open PySem L2
/-! ### bindings: the package -/
theorem cut_to {α : Type} (xs : List α) (j : Nat) : cutD xs none (some (j : Int)) = xs.take j := by
  unfold cutD
  rw [HT.sIx_nat]
  have e4 : HT.sIx xs.length 0 none = 0 := rfl
  rw [e4, List.drop_zero, Nat.sub_zero]
  by_cases h : j ≤ xs.length
  · rw [Nat.min_eq_left h]
  · rw [Nat.min_eq_right (by omega), List.take_of_length_le (Nat.le_refl _), List.take_of_length_le (by omega)]
theorem sum_le {xs : List Str} {n : Nat} (h : ∀ x ∈ xs, x.length ≤ n) : (xs.map (·.length)).sum ≤ xs.length * n := by
  induction xs with
  | nil => simp
  | cons a xs ih =>
    have h1 := h a (.head _)
    have h2 := ih fun x hx => h x (.tail _ hx)
    rw [List.map_cons, List.sum_cons, List.length_cons, Nat.add_mul]
    omega
def r_isp : List Kf.D → M → Prop := fun ds m => ∃ xs ys : List Str, ds = [.tup (xs.map Kf.D.str), .tup (ys.map Kf.D.str)] ∧ (∀ x ∈ xs, PyData.strOk x = true) ∧ (∀ x ∈ ys, PyData.strOk x = true) ∧ m = .im (.bl (decide (ys.take xs.length = xs)))
def r_shown : List Kf.D → M → Prop := fun ds m => ∃ xs : List Str, ds = [.tup (xs.map Kf.D.str)] ∧ (∀ x ∈ xs, x.length ≤ 1000) ∧ xs.length ≤ 100 ∧ m = .im (.str (Txt.join " " xs))
abbrev Row2 := List Str × Str
def pairD (p : Row2) : Kf.D := .tup [.tup (p.1.map Kf.D.str), .str p.2]
/-- a row of the bindings of the law: short texts -/
def fitR (r : Row3) : Prop := okRow r ∧ (∀ x ∈ r.2.1, x.length ≤ 1000) ∧ r.2.1.length ≤ 100
def okRs (rws : List Row3) : Prop := (∀ r ∈ rws, fitR r) ∧ rws.length ≤ 100
def ofN (rws : List Row3) (nd : Str) : List Row2 := (rws.filter fun r => decide (r.1 = nd)).map (·.2)
def bM (CB : Addr) (rws : List Row3) : M := .ob CB [("rows", .ls (rws.map rowD))]
def bD (CB : Addr) (rws : List Row3) : Kf.D := .ins CB [("rows", .lst (rws.map rowD))]
def okS (ss : List Str) : Prop := (∀ x ∈ ss, PyData.strOk x = true ∧ x.length ≤ 1000) ∧ ss.length ≤ 100
def r_count (CB : Addr) : List Kf.D → M → Prop := fun ds m => ∃ rws, ds = [bD CB rws] ∧ m = .im (.int (rws.length : Int))
def r_ofn (CB : Addr) : List Kf.D → M → Prop := fun ds m => ∃ rws nd, ds = [bD CB rws, .str nd] ∧ okRs rws ∧ m = .ls ((ofN rws nd).map pairD)
def showD (p : Row2) : Kf.D := .tup [.str (Txt.join " " p.1), .str p.2]
def r_of (CB : Addr) : List Kf.D → M → Prop := fun ds m => ∃ rws nd, ds = [bD CB rws, .str nd] ∧ okRs rws ∧ m = .ls ((ofN rws nd).map showD)
def r_isb (CB : Addr) : List Kf.D → M → Prop := fun ds m => ∃ rws nd ss, ds = [bD CB rws, .str nd, .tup (ss.map Kf.D.str)] ∧ okRs rws ∧ PyData.strOk nd = true ∧ okS ss ∧ m = .im (.bl (rws.any fun r => decide (r.1 = nd) && decide (r.2.1 = ss)))
def matchP (ss : List Str) : List Row2 → Kf.D
  | [] => .non
  | p :: ps => if p.1 = ss then .tup [.str "exact", .str p.2] else if p.1.take ss.length = ss then .tup [.str "partial", .str ""] else matchP ss ps
def r_match (CB : Addr) : List Kf.D → M → Prop := fun ds m => ∃ rws nd ss, ds = [bD CB rws, .str nd, .tup (ss.map Kf.D.str)] ∧ okRs rws ∧ okS ss ∧ m = .im (matchP ss (ofN rws nd))
theorem ofn_ok {rws : List Row3} {nd : Str} (h : okRs rws) {p : Row2} (hp : p ∈ ofN rws nd) : (∀ x ∈ p.1, PyData.strOk x = true ∧ x.length ≤ 1000) ∧ p.1.length ≤ 100 := by
  unfold ofN at hp
  obtain ⟨r, hr, rfl⟩ := List.mem_map.mp hp
  obtain ⟨h1, h2, h3⟩ := h.1 r (List.mem_filter.mp hr).1
  exact ⟨fun x hx => ⟨h1.2.1 x hx, h2 x hx⟩, h3⟩
theorem ofn_len (rws : List Row3) (nd : Str) : (ofN rws nd).length ≤ rws.length := by
  unfold ofN
  rw [List.length_map]
  exact List.length_filter_le _ _
structure K40 (K : PySem.W.Frag) (mg : Str → Option Value) (CB : Addr) : Prop where
  cls : Cls K CB
  rows : NoAttr K CB "rows"
  len : mg "len" = none
  any : mg "any" = none
  most : ∃ t, mg "BINDINGS_MOST" = some (.int 40 t)
def nodeB (nd : Str) : Kf.D → Bool
  | .tup (.str n :: _) => decide (n = nd)
  | _ => false
def tailD : Kf.D → Kf.D
  | .tup [_, a, b] => .tup [a, b]
  | _ => .non
section
variable {P : Program} {w : World} {K : PySem.W.Frag} {mg : Str → Option Value} {base : Heap} {T : List Addr} {f CB c Pt : Addr} {fd : FuncData}
theorem ok_isp (F : FD K "is_prefix" "is_prefix" s_is_prefix f fd) (hlen : mg "len" = none) : FnOk P w K mg base CX0 1 f fd p_is_prefix (spP K T r_isp) := by
  refine fn_ok F sc_is_prefix (fun ds m ⟨xs, ys, h, _⟩ => by rw [h]; rfl) fun cdv A outer s H A0 E hr hcd ds m h Z hrt hnx => ?_
  obtain ⟨xs, ys, rfl, hx, hy, rfl⟩ := h
  show Gs _ _ _ [some (.im (.tup (xs.map D.str))), some (.im (.tup (ys.map D.str)))]
  have e : cutD (ys.map D.str) none (some (xs.length : Int)) = (ys.take xs.length).map D.str := by rw [cut_to, List.map_take]
  refine gs_one (ss_ret (ask_h (me_cmp (d1 := .tup ((ys.take xs.length).map D.str)) (ie_im (Me.to (me_sl (l := none) (u := some (xs.length : Int)) (ie_var (pv 1) rfl) trivial (show Po _ _ (some _) _ (some _) from ie_im (Me.to (me_bi (as_cons (ie_var (pv 0) rfl) as_nil) cl_lenT hlen boot_len) (by rw [List.length_map]))) sc_t) (by rw [e]))) (ie_var (pv 0) rfl) (o_eqTS (fun x h => hy x (List.mem_of_mem_take h)) hx hr.units))) hrt)
theorem ok_shown (F : FD K "shown" "shown" s_shown f fd) : FnOk P w K mg base CX0 1 f fd p_shown (spP K T r_shown) := by
  refine fn_ok F sc_shown (fun ds m ⟨xs, h, _⟩ => by rw [h]; rfl) fun cdv A outer s H A0 E hr hcd ds m h Z hrt hnx => ?_
  obtain ⟨xs, rfl, h1, h2, rfl⟩ := h
  show Gs _ _ _ [some (.im (.tup (xs.map D.str)))]
  refine gs_one (ss_ret (ask_h (me_ie (ie_joinT ie_str (ie_var (pv 0) rfl) ?_))) hrt)
  have e1 : (" " : Str).length = 1 := rfl
  have h5 := sum_le (xs := xs) (n := 1000) h1
  rw [e1]
  omega
theorem ok_count (F : FD K "count" "Bindings.count" s_Bindings_count f fd) (G : K40 K mg CB) : FnOk P w K mg base CX0 1 f fd p_Bindings_count (spP K T (r_count CB)) := by
  refine fn_ok F sc_Bindings_count (fun ds m ⟨rws, h, _⟩ => by rw [h]; rfl) fun cdv A outer s H A0 E hr hcd ds m h Z hrt hnx => ?_
  obtain ⟨rws, rfl, rfl⟩ := h
  show Gs _ _ _ [some (.im (bD CB rws))]
  exact gs_one (ss_ret (ask_h (Me.to (me_bi (as_cons (ie_fld (ie_var (pv 0) rfl) rfl G.cls G.rows) as_nil) cl_lenL G.len boot_len) (by rw [List.length_map]))) hrt)
theorem ok_ofn (F : FD K "of_node" "Bindings.of_node" s_Bindings_of_node f fd) (G : K40 K mg CB) : FnOk P w K mg base CX0 1 f fd p_Bindings_of_node (spP K T (r_ofn CB)) := by
  refine fn_ok F sc_Bindings_of_node (fun ds m ⟨rws, nd, h, _⟩ => by rw [h]; rfl) fun cdv A outer s H A0 E hr hcd ds m h Z hrt hnx => ?_
  obtain ⟨rws, n0, rfl, ⟨hok, hl⟩, rfl⟩ := h
  show Gs _ _ _ [some (.im (bD CB rws)), some (.im (.str n0)), none, none, none]
  have nd := sc_Bindings_of_node.nd
  have z1 : sizeLine = 16777216 := rfl
  have e : ((rws.map rowD).filter (nodeB n0)).map tailD = (ofN rws n0).map pairD := by
    unfold ofN
    rw [List.filter_map, List.map_map, List.map_map]
    rfl
  have hu : ∀ d ∈ rws.map rowD, ∃ es, d = .tup es ∧ es.length = 3 := fun d hd => by
    obtain ⟨r, _, rfl⟩ := List.mem_map.mp hd
    exact ⟨_, rfl, rfl⟩
  refine gs_one (ss_ret (ask_h (Me.to (me_lcfU (is := [2, 3, 4]) (n := 3) (pe_lc (own := [("other", 2), ("strokes", 3), ("command", 4)]) rfl nd (pi_list pe_tw) (blk (by rfl)) (fun _ _ _ _ _ => pg_tup rfl (pgs_cons (pg_name (i := 2) nd rfl (.inl rfl)) (pgs_cons (pg_name (i := 3) nd rfl (.inl rfl)) (pgs_cons (pg_name (i := 4) nd rfl (.inl rfl)) pgs_nil)))) (fun _ _ _ _ _ => pts_one (pt_twB _ _ _ _ _)) (fun _ _ _ _ _ => pe_twB _ _ _ _ _)) (ie_fld (ie_var (pv 0) rfl) rfl G.cls G.rows) tailD (nodeB n0) (by rw [List.length_map]; omega) rfl (fun i hi => ?_) hu (fun es hes s' H' C cl fp => ?_) (fun es hes hg s' H' C cl fp => ?_)) (by rw [e]))) hrt)
  · simp only [List.mem_cons, List.not_mem_nil, or_false] at hi
    rcases hi with rfl | rfl | rfl <;> exact of_decide_eq_true rfl
  · obtain ⟨r, hr, e⟩ := List.mem_map.mp hes
    cases e
    exact te_cmp (ie_var (pv 2) rfl) (ie_var (pv 1) rfl) o_eqS
  · obtain ⟨r, hr, e⟩ := List.mem_map.mp hes
    cases e
    exact ie_tup (as_cons (ie_var (pv 3) rfl) (as_cons (ie_var (pv 4) rfl) as_nil))
end
end Kf.L

set_option maxHeartbeats 1000000
namespace Kf.L
open PySem L2
theorem all_ofn {rws : List Row3} {nd : Str} : ∀ d ∈ (ofN rws nd).map pairD, ∃ es, d = .tup es ∧ es.length = 2 := fun d hd => by
  obtain ⟨r, _, rfl⟩ := List.mem_map.mp hd
  exact ⟨_, rfl, rfl⟩
def shD : Kf.D → Kf.D
  | .tup [.tup xs, c] => .tup [.str (Txt.join " " (xs.map fun d => match d with | .str x => x | _ => "")), c]
  | _ => .non
theorem shD_pair (p : Row2) : shD (pairD p) = showD p := by
  unfold shD pairD showD
  dsimp only
  rw [List.map_map]
  have e : (p.1.map ((fun d => match d with | Kf.D.str x => x | _ => "") ∘ Kf.D.str)) = p.1 := List.map_id'' (fun _ => rfl) p.1
  rw [e]
theorem any_rowT (rws : List Row3) (nd : Str) (ss : List Str) : (List.range rws.length).any (rowT rws nd ss) = rws.any fun r => decide (r.1 = nd) && decide (r.2.1 = ss) := by
  rw [Bool.eq_iff_iff, List.any_eq_true, List.any_eq_true]
  constructor
  · rintro ⟨i, hi, h⟩
    have hi2 := List.mem_range.mp hi
    unfold rowT at h
    rw [List.getElem?_eq_getElem hi2] at h
    exact ⟨_, List.getElem_mem hi2, h⟩
  · rintro ⟨r, hr, h⟩
    obtain ⟨i, hi, e⟩ := List.mem_iff_getElem.mp hr
    refine ⟨i, List.mem_range.mpr hi, ?_⟩
    unfold rowT
    rw [List.getElem?_eq_getElem hi, e]
    exact h
theorem Room.u80 {k : Nat} {A : Around} (r : Room k A) : A.units + 80 < cLine := by have := r.un; omega
section
variable {P : Program} {w : World} {K : PySem.W.Frag} {mg : Str → Option Value} {base : Heap} {T : List Addr} {f CB c Pt : Addr} {fd : FuncData}
theorem ok_of (F : FD K "of" "Bindings.of" s_Bindings_of f fd) (G : K40 K mg CB) (GN : Mt P w K mg base T CB "of_node" 1 (r_ofn CB)) (GS : Fn P w K mg base T "shown" 1 r_shown) : FnOk P w K mg base CX0 2 f fd p_Bindings_of (spP K T (r_of CB)) := by
  refine fn_ok F sc_Bindings_of (fun ds m ⟨rws, nd, h, _⟩ => by rw [h]; rfl) fun cdv A outer s H A0 E hr hcd ds m h Z hrt hnx => ?_
  obtain ⟨rws, n0, rfl, hok, rfl⟩ := h
  show Gs _ _ _ [some (.im (bD CB rws)), some (.im (.str n0)), none, none]
  have nd := sc_Bindings_of.nd
  have z1 : sizeLine = 16777216 := rfl
  have hl := ofn_len rws n0
  have hl2 := hok.2
  refine gs_one (ss_ret (ask_h (Me.to (me_lcU (is := [2, 3]) (n := 2) (pe_lc (own := [("strokes", 2), ("command", 3)]) rfl nd (pi_list pe_tw) (blk (by rfl)) (fun _ _ _ _ _ => pg_tup rfl (pgs_cons (pg_name (i := 2) nd rfl (.inl rfl)) (pgs_cons (pg_name (i := 3) nd rfl (.inl rfl)) pgs_nil))) (fun _ _ _ _ _ => pts_nil) (fun _ _ _ _ _ => pe_twB _ _ _ _ _)) (ie_ls (me_meth GN (ie_var (pv 0) rfl) (of_decide_eq_true rfl) (as_cons (ie_var (pv 1) rfl) as_nil) ⟨rws, n0, rfl, hok, rfl⟩ hr)) shD (by rw [List.length_map]; omega) rfl (fun i hi => ?_) all_ofn (fun es hes s' H' C cl fp => ?_)) (by rw [List.map_map]; exact congrArg M.ls (List.map_congr_left fun p _ => shD_pair p)))) hrt)
  · simp only [List.mem_cons, List.not_mem_nil, or_false] at hi
    rcases hi with rfl | rfl <;> exact of_decide_eq_true rfl
  · obtain ⟨p, hp, e⟩ := List.mem_map.mp hes
    rw [← e, shD_pair]
    cases e
    obtain ⟨h1, h2⟩ := ofn_ok hok hp
    exact ie_tup (as_cons (ie_im (me_call GS (as_cons (ie_var (pv 2) rfl) as_nil) ⟨p.1, rfl, fun x hx => (h1 x hx).2, h2, rfl⟩ hr)) (as_cons (ie_var (pv 3) rfl) as_nil))
theorem ok_isb (F : FD K "is_bound" "Bindings.is_bound" s_Bindings_is_bound f fd) (G : K40 K mg CB) (hc : fd.code = .ref c) (TB : GxR.TabB base mg c Pt) (hP : Pt ∈ T) : FnOk P w K mg base CX0 1 f fd p_Bindings_is_bound (spP K T (r_isb CB)) := by
  refine fn_okC F sc_Bindings_is_bound (fun ds m ⟨rws, nd, ss, h, _⟩ => by rw [h]; rfl) fun cdv A outer s H A0 E hcd2 hr hcd ds m h Z hrt hnx => ?_
  obtain ⟨rws, n0, ss, rfl, hok, hn0, hss, rfl⟩ := h
  have ec : cdv = .ref c := hcd2.symm.trans hc
  subst ec
  show Gs _ _ _ [some (.im (bD CB rws)), some (.im (.str n0)), some (.im (.tup (ss.map D.str)))]
  refine gs_one (ss_ret (ask_h (me_ie (Ie.to (ie_any (P := Pt) (n := rws.length) (tr := rowT rws n0 ss) (ie_fld (ie_var (pv 0) rfl) rfl G.cls G.rows) (gen_row (i1 := 1) (i2 := 2) hP rfl rfl rfl rfl rfl rfl (fun r h => (hok.1 r h).1) hn0 (fun y h => (hss.1 y h).1) (Room.u80 hr) rfl rfl rfl rfl rfl rfl) hP hr TB rfl (genS_f (by rfl) fun y hy e => ?_) G.any) (congrArg D.bl (any_rowT rws n0 ss))))) hrt)
  simp only [List.mem_cons, List.not_mem_nil, or_false] at hy
  rcases hy with rfl | rfl | rfl | rfl
  · cases e
  · cases e
  · exact ⟨_, rfl⟩
  · exact ⟨_, rfl⟩
theorem matchP_at {ss : List Str} : ∀ {ps : List Row2} {j : Nat} {p : Row2}, ps[j]? = some p → (∀ q ∈ ps.take j, q.1 ≠ ss ∧ q.1.take ss.length ≠ ss) → matchP ss ps = if p.1 = ss then .tup [.str "exact", .str p.2] else if p.1.take ss.length = ss then .tup [.str "partial", .str ""] else matchP ss (ps.drop (j + 1))
  | p :: ps, 0, q, h, _ => by
    cases h
    rfl
  | p :: ps, j + 1, q, h, hno => by
    obtain ⟨h1, h2⟩ := hno p (by rw [List.take_succ_cons]; exact .head _)
    have e : matchP ss (p :: ps) = matchP ss ps := by
      show (if p.1 = ss then _ else if p.1.take ss.length = ss then _ else _) = _
      rw [if_neg h1, if_neg h2]
    rw [e, matchP_at (by simpa using h) fun q hq => hno q (by rw [List.take_succ_cons]; exact .tail _ hq)]
    rfl
theorem matchP_no {ss : List Str} : ∀ {ps : List Row2}, (∀ q ∈ ps, q.1 ≠ ss ∧ q.1.take ss.length ≠ ss) → matchP ss ps = .non
  | [], _ => rfl
  | p :: ps, h => by
    obtain ⟨h1, h2⟩ := h p (.head _)
    show (if p.1 = ss then _ else if p.1.take ss.length = ss then _ else _) = _
    rw [if_neg h1, if_neg h2]
    exact matchP_no fun q hq => h q (.tail _ hq)
theorem ok_match (F : FD K "match" "Bindings.match" s_Bindings_match f fd) (GN : Mt P w K mg base T CB "of_node" 1 (r_ofn CB)) (GP : Fn P w K mg base T "is_prefix" 1 r_isp) : FnOk P w K mg base CX0 2 f fd p_Bindings_match (spP K T (r_match CB)) := by
  refine fn_ok F sc_Bindings_match (fun ds m ⟨rws, nd, ss, h, _⟩ => by rw [h]; rfl) fun cdv A outer s H A0 E hr hcd ds m h Z hrt hnx => ?_
  obtain ⟨rws, n0, ss, rfl, hok, hss, rfl⟩ := h
  show Gs _ _ _ [some (.im (bD CB rws)), some (.im (.str n0)), some (.im (.tup (ss.map D.str))), none, none]
  have nd := sc_Bindings_match.nd
  have hps := fun p (hp : p ∈ ofN rws n0) => ofn_ok hok hp
  have hal := all_ofn (rws := rws) (nd := n0)
  have hmn : r_ofn CB [bD CB rws, .str n0] (.ls ((ofN rws n0).map pairD)) := ⟨rws, n0, rfl, hok, rfl⟩
  generalize ofN rws n0 = ps at *
  refine gs_cons (ss_forU (is := [3, 4]) (n := 2) (ds := ps.map pairD) (ps_for PassesOwn.never rfl (pi_list pe_tw) (pg_tup rfl (pgs_cons (pg_name (i := 3) nd rfl (.inl rfl)) (pgs_cons (pg_name (i := 4) nd rfl (.inl rfl)) pgs_nil))) pss_tw) (me_ie (ie_ls (me_meth GN (ie_var (pv 0) rfl) (of_decide_eq_true rfl) (as_cons (ie_var (pv 1) rfl) as_nil) hmn hr))) rfl
    (fun j ρ => (∀ q ∈ ps.take j, q.1 ≠ ss ∧ q.1.take ss.length ≠ ss) ∧ ∃ o3 o4, ρ = [some (.im (bD CB rws)), some (.im (.str n0)), some (.im (.tup (ss.map D.str))), o3, o4]) ⟨by simp, none, none, rfl⟩ (fun j ρ ⟨_, _, _, h⟩ i hi => by
      rw [h]
      simp only [List.mem_cons, List.not_mem_nil, or_false] at hi
      rcases hi with rfl | rfl <;> exact ⟨of_decide_eq_true rfl, .inl rfl⟩) ?_ ?_)
  · rintro B j d ρ hj ⟨hno, _, _, rfl⟩ N hN
    obtain ⟨p, hp, rfl⟩ : ∃ p, ps[j]? = some p ∧ d = pairD p := by
      rw [List.getElem?_map] at hj
      cases q : ps[j]? with
      | none => rw [q] at hj; cases hj
      | some x => rw [q] at hj; cases hj; exact ⟨x, rfl, rfl⟩
    obtain ⟨g1, g2⟩ := hps p (List.mem_of_getElem? hp)
    have hm := matchP_at hp hno
    refine ⟨_, rfl, rfl, ?_⟩
    show Gs _ _ _ [some (.im (bD CB rws)), some (.im (.str n0)), some (.im (.tup (ss.map D.str))), some (.im (.tup (p.1.map D.str))), some (.im (.str p.2))]
    refine gs_cons (ss_if (k := decide (p.1 = ss)) (te_cmp (ie_var (pv 3) rfl) (ie_var (pv 2) rfl) (o_eqTS (fun x h => (g1 x h).1) (fun x h => (hss.1 x h).1) hr.units)) (fun q => ?_) fun q => gs_nil ?_)
    · rw [hm, if_pos (of_decide_eq_true q)] at hrt
      exact gs_one (ss_ret (ask_h (me_ie (ie_tup (as_cons ie_str (as_cons (ie_var (pv 4) rfl) as_nil))))) hrt)
    have q := of_decide_eq_false q
    refine gs_one (ss_if (k := decide (p.1.take ss.length = ss)) (te_val (ie_im (me_call GP (as_cons (ie_var (pv 2) rfl) (as_cons (ie_var (pv 3) rfl) as_nil)) ⟨ss, p.1, rfl, fun x h => (hss.1 x h).1, fun x h => (g1 x h).1, rfl⟩ hr))) (fun q2 => ?_) fun q2 => gs_nil ?_)
    · rw [hm, if_neg q, if_pos (of_decide_eq_true q2)] at hrt
      exact gs_one (ss_ret (ask_h (me_ie (ie_tup (as_cons ie_str (as_cons ie_str as_nil))))) hrt)
    · have q2 := of_decide_eq_false q2
      refine hN _ ⟨?_, _, _, rfl⟩
      rw [List.take_add_one, hp]
      intro x hx
      rcases List.mem_append.mp hx with z | z
      · exact hno x z
      · simp at z; rw [z]; exact ⟨q, q2⟩
  · rintro ρ ⟨hno, _, _, rfl⟩
    rw [List.length_map, List.take_length] at hno
    rw [matchP_no hno] at hrt
    exact gs_one (ss_ret (ask_h (me_ie ie_non)) hrt)
end
end Kf.L

set_option maxHeartbeats 1000000
namespace Kf.L
open PySem L2
def mConf : Str := "conflicting key sequence"
def mMany : Str := "too many bindings"
/-- a sequence begins another one -/
def hits (ss : List Str) (p : Row2) : Prop := ss.take p.1.length = p.1 ∨ p.1.take ss.length = ss
instance (ss : List Str) (p : Row2) : Decidable (hits ss p) := inferInstanceAs (Decidable (_ ∨ _))
def conf (rws : List Row3) (nd : Str) (ss : List Str) : Prop := ∃ p ∈ ofN rws nd, hits ss p
instance (rws : List Row3) (nd : Str) (ss : List Str) : Decidable (conf rws nd ss) := inferInstanceAs (Decidable (∃ p ∈ _, _))
def bindO (CB CR : Addr) (rws : List Row3) (r : Row3) : Om :=
  if conf rws r.1 r.2.1 then .exc CR "what" (.str mConf) (bM CB rws) else if rws.length = 40 then .exc CR "what" (.str mMany) (bM CB rws) else .ret (.im .non) (bM CB (rws ++ [r]))
def r_init (CB : Addr) : M → List Kf.D → Om → Prop := fun m ds o => m = .ob CB [] ∧ ds = [] ∧ o = .ret (.im .non) (bM CB [])
def r_bind (CB CR : Addr) : M → List Kf.D → Om → Prop := fun m ds o => ∃ (rws : List Row3) (r : Row3), m = bM CB rws ∧ ds = [.str r.1, .tup (r.2.1.map Kf.D.str), .str r.2.2] ∧ okRs rws ∧ fitR r ∧ o = bindO CB CR rws r
def keepR (rws : List Row3) (nd : Str) (ss : List Str) : List Row3 := rws.filter fun r => !(decide (r.1 = nd) && decide (r.2.1 = ss))
def r_unb (CB : Addr) : M → List Kf.D → Om → Prop := fun m ds o => ∃ (rws : List Row3) (nd : Str) (ss : List Str), m = bM CB rws ∧ ds = [.str nd, .tup (ss.map Kf.D.str)] ∧ okRs rws ∧ PyData.strOk nd = true ∧ okS ss ∧ o = .ret (.im (.bl (decide ((keepR rws nd ss).length < rws.length)))) (bM CB (keepR rws nd ss))
def dropR (rws : List Row3) (ns : List Str) : List Row3 := rws.filter fun r => !decide (r.1 ∈ ns)
def r_drop (CB : Addr) : M → List Kf.D → Om → Prop := fun m ds o => ∃ (rws : List Row3) (ns : List Str), m = bM CB rws ∧ ds = [.lst (ns.map Kf.D.str)] ∧ okRs rws ∧ o = .ret (.im .non) (bM CB (dropR rws ns))
def keepB (nd : Str) (ss : List Str) : Kf.D → Bool
  | .tup [a, b, _] => !eqD (.tup [a, b]) (.tup [.str nd, .tup (ss.map Kf.D.str)])
  | _ => false
def dropB (ns : List Str) : Kf.D → Bool
  | .tup [.str a, _, _] => !decide (a ∈ ns)
  | _ => false
theorem eqD2 (n m : Str) (xs ys : List Str) : eqD (.tup [.str n, .tup (xs.map Kf.D.str)]) (.tup [.str m, .tup (ys.map Kf.D.str)]) = (decide (n = m) && decide (xs = ys)) := by
  unfold eqD
  rw [py, py, pys, pys, pys, pys, pys, pys, py, py, py, py, pys_str, pys_str]
  exact eqv2 n m xs ys
theorem keep_map (rws : List Row3) (nd : Str) (ss : List Str) : ((rws.map rowD).filter (keepB nd ss)) = (keepR rws nd ss).map rowD := by
  unfold keepR
  rw [List.filter_map]
  congr 1
  refine List.filter_congr fun r _ => ?_
  show (!eqD _ _) = _
  rw [eqD2]
theorem drop_map (rws : List Row3) (ns : List Str) : ((rws.map rowD).filter (dropB ns)) = (dropR rws ns).map rowD := by
  unfold dropR
  rw [List.filter_map]
  rfl
theorem safe_rows (rws : List Row3) : safe (.ls (rws.map rowD)) = true := by
  rw [safe]
  induction rws with
  | nil => rfl
  | cons r rws ih =>
    rw [List.map_cons, flatDs, ih, Bool.and_true]
    have hs : ∀ x : Str, flatD (.str x) = true := fun x => rfl
    have ht : flatD (.tup (r.2.1.map Kf.D.str)) = true := by rw [flatD, flatDs_str]
    show flatD (.tup [.str r.1, .tup (r.2.1.map Kf.D.str), .str r.2.2]) = true
    rw [flatD, flatDs, flatDs, flatDs, flatDs, hs, hs, ht]
    rfl
section
variable {P : Program} {w : World} {K : PySem.W.Frag} {mg : Str → Option Value} {base : Heap} {T : List Addr} {f CB CR c Pt : Addr} {fd : FuncData}
theorem ok_init (F : FD K "__init__" "Bindings.__init__" s_Bindings_init f fd) (G : K40 K mg CB) : FnOk P w K mg base (L2.CX P w) 1 f fd p_Bindings_init (spM K T (r_init CB)) := by
  refine fn_okM F sc_Bindings_init (fun m ds o ⟨_, h, _⟩ => by rw [h]; rfl) fun cdv A outer s H A0 E v0 p hr hcd m ds o h Z tk pa hend => ?_
  obtain ⟨rfl, rfl, rfl⟩ := h
  show Gs _ _ _ [some (.ob CB [])]
  refine gs_one (ss_fld (ps_fld (pv 0) pe_tw rfl) (ask_h (me_lst as_nil)) rfl G.cls G.rows (of_decide_eq_true rfl) ?_)
  exact hend.2 rfl _ rfl
theorem ok_drop (F : FD K "drop" "Bindings.drop" s_Bindings_drop f fd) (G : K40 K mg CB) : FnOk P w K mg base (L2.CX P w) 1 f fd p_Bindings_drop (spM K T (r_drop CB)) := by
  refine fn_okM F sc_Bindings_drop (fun m ds o ⟨_, _, _, h, _⟩ => by rw [h]; rfl) fun cdv A outer s H A0 E v0 p hr hcd m ds o h Z tk pa hend => ?_
  obtain ⟨rws, ns, rfl, rfl, hok, rfl⟩ := h
  show Gs _ _ _ [some (bM CB rws), some (.im (.lst (ns.map D.str))), none]
  have nd := sc_Bindings_drop.nd
  have z1 : sizeLine = 16777216 := rfl
  have hl2 := hok.2
  refine gs_one (ss_fld (ps_fld (pv 0) pe_tw rfl) (m := .ls ((dropR rws ns).map rowD)) (ask_f (Me.to (me_lcf (i := 2) (pe_lc (own := [("row", 2)]) rfl nd (pi_list pe_tw) (blk (by rfl)) (fun _ _ _ _ _ => pg_name (i := 2) nd rfl (.inl rfl)) (fun _ _ _ _ _ => pts_one (pt_twB _ _ _ _ _)) (fun _ _ _ _ _ => pe_twB _ _ _ _ _)) (ie_fld (ie_var (pv 0) rfl) rfl G.cls G.rows) id (dropB ns) (by rw [List.length_map]; omega) (of_decide_eq_true rfl) (fun d hd s' H' C cl fp => ?_) (fun d hd hg s' H' C cl fp => ie_var (pv 2) rfl)) (by rw [List.map_id, drop_map])) (safe_rows _)) rfl G.cls G.rows (of_decide_eq_true rfl) ?_)
  · obtain ⟨r, hr, rfl⟩ := List.mem_map.mp hd
    exact te_cmp (ie_im (me_ix (ie_var (pv 2) rfl) ie_int (ix_t rfl))) (ie_var (pv 1) rfl) o_notInL
  · exact hend.2 rfl _ rfl
theorem ok_unb (F : FD K "unbind" "Bindings.unbind" s_Bindings_unbind f fd) (G : K40 K mg CB) : FnOk P w K mg base (L2.CX P w) 1 f fd p_Bindings_unbind (spM K T (r_unb CB)) := by
  refine fn_okM F sc_Bindings_unbind (fun m ds o ⟨_, _, _, _, h, _⟩ => by rw [h]; rfl) fun cdv A outer s H A0 E v0 p hr hcd m ds o h Z tk pa hend => ?_
  obtain ⟨rws, n0, ss, rfl, rfl, hok, hn0, hss, rfl⟩ := h
  show Gs _ _ _ [some (bM CB rws), some (.im (.str n0)), some (.im (.tup (ss.map D.str))), none, none, none]
  have nd := sc_Bindings_unbind.nd
  have z1 : sizeLine = 16777216 := rfl
  have hl2 := hok.2
  refine gs_cons (ss_setL (i := 4) (j := 3) (m := .ls ((keepR rws n0 ss).map rowD)) (ps_setLc (own := [("row", 3)]) rfl nd rfl rfl (sw_true rfl rfl rfl rfl) (pi_list pe_tw) (blk (by rfl)) (fun _ _ _ _ _ => pg_name (i := 3) nd rfl (.inl rfl)) (fun _ _ _ _ _ => pts_one (pt_twB _ _ _ _ _)) (fun _ _ _ _ _ => pe_twB _ _ _ _ _)) (dln_fz ?_ (safe_rows _)) (of_decide_eq_true rfl) (of_decide_eq_true rfl) ?_)
  · have e2 : (keepR rws n0 ss).map rowD = ((rws.map rowD).filter (keepB n0 ss)).map id := by rw [keep_map, List.map_id]
    rw [e2]
    refine den_lcf (ds := rws.map rowD) (ie_fld (ie_var (pv 0) rfl) rfl G.cls G.rows) id (keepB n0 ss) (by rw [List.length_map]; omega) (fun d hd s' H' C cl fp => ?_) (fun d hd hg s' H' C cl fp => ie_var (pv 3) rfl)
    obtain ⟨r, hr2, rfl⟩ := List.mem_map.mp hd
    obtain ⟨h1, h2, h3⟩ := hok.1 r hr2
    have c1 : cmpD (.tup [.str r.1, .tup (r.2.1.map D.str)]) = true := (cmpk_tup (k := 1) (all_cons (cmpk_str h1.1) (all_cons (cmpk_tup (k := 0) (cmpk_strs h1.2.1)) all_nil))).cmp
    have c2 : cmpD (.tup [.str n0, .tup (ss.map D.str)]) = true := (cmpk_tup (k := 1) (all_cons (cmpk_str hn0) (all_cons (cmpk_tup (k := 0) (cmpk_strs fun x hx => (hss.1 x hx).1)) all_nil))).cmp
    exact te_cmp (ie_im (Me.to (me_sl (l := none) (u := some ((2 : Nat) : Int)) (ie_var (pv 3) rfl) (by exact trivial) (show Po _ _ (some _) _ (some ((2 : Nat) : Int)) from ie_int) sc_t) (by rw [cut_to]; rfl))) (ie_tup (as_cons (ie_var (pv 1) rfl) (as_cons (ie_var (pv 2) rfl) as_nil))) (o_neD c1 c2 hr.units)
  have e0 : (keepR rws n0 ss).length ≤ rws.length := List.length_filter_le _ _
  generalize keepR rws n0 ss = ks at *
  refine gs_cons (ss_set (i := 5) (m := .im (.bl (decide (ks.length < rws.length)))) (ask_f (Me.to (me_cmp (d1 := .int (ks.length : Int)) (d2 := .int (rws.length : Int)) (Ie.to (ie_im (me_bi (as_cons (ie_var (pv 4) rfl) as_nil) cl_lenL G.len boot_len)) (by rw [List.length_map])) (Ie.to (ie_im (me_bi (as_cons (ie_fld (ie_var (pv 0) rfl) rfl G.cls G.rows) as_nil) cl_lenL G.len boot_len)) (by rw [List.length_map])) o_lt) (congrArg (fun b => M.im (.bl b)) (decide_eq_decide.mpr (by omega)))) rfl) nd rfl (.inl rfl) ?_)
  refine gs_cons (ss_fldMv (i := 0) (j := 4) (ps_fld (pv 0) (pv 4) rfl) rfl rfl (by decide) G.cls G.rows (of_decide_eq_true rfl) ?_)
  exact gs_one (ss_reth (ask_h (me_ie (ie_var (pv 5) rfl))) (hend.1 _ rfl))
end
end Kf.L

set_option maxHeartbeats 1000000
namespace Kf.L
open PySem L2
theorem safe_pairs (ps : List Row2) : safe (.ls (ps.map pairD)) = true := by
  rw [safe]
  induction ps with
  | nil => rfl
  | cons p ps ih =>
    rw [List.map_cons, flatDs, ih, Bool.and_true]
    have hs : ∀ x : Str, flatD (.str x) = true := fun x => rfl
    have ht : flatD (.tup (p.1.map Kf.D.str)) = true := by rw [flatD, flatDs_str]
    show flatD (.tup [.tup (p.1.map Kf.D.str), .str p.2]) = true
    rw [flatD, flatDs, flatDs, flatDs, hs, ht]
    rfl
structure X40 (K : PySem.W.Frag) (mg : Str → Option Value) (CR : Addr) : Prop where
  xr : XfC K CR
  what : PySem.W.findIn K (.ref CR) "what" = some none
  exm : PySem.W.exmOne K (.ref CR) (.ref CR) = some true
  ref : mg "Refused" = some (.ref CR)
section
variable {P : Program} {w : World} {K : PySem.W.Frag} {mg : Str → Option Value} {base : Heap} {T : List Addr} {f CB CR c Pt : Addr} {fd : FuncData}
theorem ok_bind (F : FD K "bind" "Bindings.bind" s_Bindings_bind f fd) (G : K40 K mg CB) (GR : XcM P w K mg base "Refused" CR "what" (fun v => ∃ x, v = .str x)) (GN : Mt P w K mg base T CB "of_node" 1 (r_ofn CB)) (GP : Fn P w K mg base T "is_prefix" 1 r_isp) : FnOk P w K mg base (L2.CX P w) 3 f fd p_Bindings_bind (spM K T (r_bind CB CR)) := by
  refine fn_okM F sc_Bindings_bind (fun m ds o ⟨_, _, _, h, _⟩ => by rw [h]; rfl) fun cdv A outer s H A0 E v0 p hr hcd m ds o h Z tk pa hend => ?_
  obtain ⟨rws, ⟨n0, ss, cm⟩, rfl, rfl, hok, hfit, rfl⟩ := h
  show Gs _ _ _ [some (bM CB rws), some (.im (.str n0)), some (.im (.tup (ss.map D.str))), some (.im (.str cm)), none, none]
  have nd := sc_Bindings_bind.nd
  have hr1 := hr.mono (show 1 ≤ 2 by decide)
  have hps := fun q (hq : q ∈ ofN rws n0) => ofn_ok hok hq
  have hal := all_ofn (rws := rws) (nd := n0)
  have hss : ∀ x ∈ ss, PyData.strOk x = true := hfit.1.2.1
  have hmn : r_ofn CB [bD CB rws, .str n0] (.ls ((ofN rws n0).map pairD)) := ⟨rws, n0, rfl, hok, rfl⟩
  have hcf : conf rws n0 ss ↔ ∃ q ∈ ofN rws n0, hits ss q := Iff.rfl
  unfold bindO at hend
  generalize ofN rws n0 = ps at *
  refine gs_cons (ss_forU (is := [4, 5]) (n := 2) (ds := ps.map pairD) (ps_for pa rfl (pi_list pe_tw) (pg_tup rfl (pgs_cons (pg_name (i := 4) nd rfl (.inl rfl)) (pgs_cons (pg_name (i := 5) nd rfl (.inl rfl)) pgs_nil))) pss_tw) (me_ie (ie_ls (me_fz (me_meth GN (ie_var (pv 0) rfl) (of_decide_eq_true rfl) (as_cons (ie_var (pv 1) rfl) as_nil) hmn hr1) (safe_pairs ps)))) rfl
    (fun j ρ => (∀ q ∈ ps.take j, ¬ hits ss q) ∧ ∃ o3 o4, ρ = [some (bM CB rws), some (.im (.str n0)), some (.im (.tup (ss.map D.str))), some (.im (.str cm)), o3, o4]) ⟨by simp, none, none, rfl⟩ (fun j ρ ⟨_, _, _, h⟩ i hi => by
      rw [h]
      simp only [List.mem_cons, List.not_mem_nil, or_false] at hi
      rcases hi with rfl | rfl <;> exact ⟨of_decide_eq_true rfl, .inr (by decide)⟩) ?_ ?_)
  · rintro B j d ρ hj ⟨hno, _, _, rfl⟩ N hN
    obtain ⟨q, hq, rfl⟩ : ∃ q, ps[j]? = some q ∧ d = pairD q := by
      rw [List.getElem?_map] at hj
      cases z : ps[j]? with
      | none => rw [z] at hj; cases hj
      | some x => rw [z] at hj; cases hj; exact ⟨x, rfl, rfl⟩
    have hqm := List.mem_of_getElem? hq
    obtain ⟨g1, g2⟩ := hps q hqm
    refine ⟨_, rfl, rfl, ?_⟩
    show Gs _ _ _ [some (bM CB rws), some (.im (.str n0)), some (.im (.tup (ss.map D.str))), some (.im (.str cm)), some (.im (.tup (q.1.map D.str))), some (.im (.str q.2))]
    refine gs_one (ss_if (k := decide (ss.take q.1.length = q.1) || decide (q.1.take ss.length = ss)) (te_w (we_or (k1 := decide (ss.take q.1.length = q.1)) (k2 := decide (q.1.take ss.length = ss)) (te_val (ie_im (me_call GP (as_cons (ie_var (pv 4) rfl) (as_cons (ie_var (pv 2) rfl) as_nil)) ⟨q.1, ss, rfl, fun x h => (g1 x h).1, hss, rfl⟩ hr1))) fun _ => we_or1 (te_val (ie_im (me_call GP (as_cons (ie_var (pv 2) rfl) (as_cons (ie_var (pv 4) rfl) as_nil)) ⟨ss, q.1, rfl, hss, fun x h => (g1 x h).1, rfl⟩ hr1))))) (fun z => ?_) fun z => gs_nil ?_)
    · have hc : conf rws n0 ss := hcf.mpr ⟨q, hqm, by simpa [hits] using z⟩
      rw [if_pos hc] at hend
      exact gs_one (ss_raise GR rfl tk (aska_h (as_cons ie_str as_nil)) (fun A v r => by cases r; exact ⟨_, rfl⟩) (Xx.pin (hend _ rfl)) (hr.mono (by decide)))
    · refine hN _ ⟨?_, _, _, rfl⟩
      rw [List.take_add_one, hq]
      intro x hx
      rcases List.mem_append.mp hx with y | y
      · exact hno x y
      · simp at y; rw [y]; simpa [hits] using z
  · rintro ρ ⟨hno, _, _, rfl⟩
    rw [List.length_map, List.take_length] at hno
    have hc : ¬ conf rws n0 ss := fun z => by
      obtain ⟨q, hq, h⟩ := hcf.mp z
      exact hno q hq h
    rw [if_neg hc] at hend
    refine gs_cons (ss_if (k := decide (rws.length = 40)) ((te_fz (te_cmp (Ie.to (d2 := .int (rws.length : Int)) (ie_im (me_bi (as_cons (ie_fld (ie_var (pv 0) rfl) rfl G.cls G.rows) as_nil) cl_lenL G.len boot_len)) (by rw [List.length_map])) (ie_gI G.most) o_eqI)).to (decide_eq_decide.mpr (by omega))) (fun z => ?_) fun z => gs_nil ?_)
    · rw [if_pos (of_decide_eq_true z)] at hend
      exact gs_one (ss_raise GR rfl tk (aska_h (as_cons ie_str as_nil)) (fun A v r => by cases r; exact ⟨_, rfl⟩) (hend _ rfl) (hr.mono (by decide)))
    · rw [if_neg (of_decide_eq_false z)] at hend
      have hl2 := hok.2
      refine gs_one (ss_appF (i := 0) (f := "rows") (ds := rws.map rowD) (d := rowD (n0, ss, cm)) (ps_expr (pe_bm PySem.F.plainAttrs_list PySem.F.slot_list_append PySem.F.type_list_append mt_append (pe_fld (pv 0) rfl) (pa_cons pe_tw pa_nil))) rfl rfl G.cls G.rows (ask_h (me_ie (ie_tup (as_cons (ie_var (pv 1) rfl) (as_cons (ie_var (pv 2) rfl) (as_cons (ie_var (pv 3) rfl) as_nil)))))) (by rw [List.length_map, sizeLine_eq]; omega) ?_)
      have e : rws.map rowD ++ [rowD (n0, ss, cm)] = (rws ++ [(n0, ss, cm)]).map rowD := by rw [List.map_append]; rfl
      show Nx _ _ [some (.ob CB [("rows", .ls (rws.map rowD ++ [rowD (n0, ss, cm)]))]), _, _, _, _, _]
      rw [e]
      exact hend.2 rfl _ rfl
end
end Kf.L

set_option maxHeartbeats 1000000
namespace Kf.L
open PySem L2
/-! ### the law's own defs -/
theorem at_nat {α : Type} {xs : List α} {j : Nat} {z : α} (h : xs[j]? = some z) : atI xs (j : Int) = some z := by
  have hj : j < xs.length := by
    by_cases q : j < xs.length
    · exact q
    · rw [List.getElem?_eq_none (by omega)] at h; cases h
  exact atI_bind (ixN_nat' hj) h
section
variable {X : Cx} {T : List Addr} {ρ : Rho} {e a : Expr} {z : Int} {n j : Nat} {i : Int} {p p2 p3 p4 : Pos}
/-- int(d[e]), d the draws of a cell -/
theorem ie_drawE (h : Ie X T e ρ (.lst ((draws z n).map D.int))) (h2 : Ie X T a ρ (.int i)) (hij : i = (j : Int)) (hint : X.mg "int" = none) (hj : j < n) (hg : Gl X "int" := by rfl) (hs : PlainIx a := by exact fun _ _ => rfl) : Ie X T (.Call (.Name "int" p) [.Subscript e a p3] [] p4) ρ (.int (drawn z j)) :=
  ie_im (me_ty (as_cons (ie_im (me_ix h h2 (ix_l (by rw [hij]; exact draws_at hj)) hs)) as_nil) cl_int hint bt_int hg)
end
theorem at_getD {α : Type} (xs : List α) (x n : Int) (d : α) (hn : n = (xs.length : Int)) (h0 : 0 < n) : atI xs (x % n) = some (xs.getD (x % n).toNat d) := by
  have h1 : 0 ≤ x % n := Int.emod_nonneg _ (by omega)
  have h2 : x % n < n := Int.emod_lt_of_pos _ h0
  have e : x % n = (((x % n).toNat : Nat) : Int) := by omega
  have hl : (x % n).toNat < xs.length := by omega
  rw [e]
  refine at_nat ?_
  rw [Int.toNat_natCast, List.getD_eq_getElem?_getD, List.getElem?_eq_getElem hl]
  rfl
theorem at_getS (xs : List Str) (x n : Int) (d : Str) (hn : n = (xs.length : Int)) (h0 : 0 < n) : atI (xs.map Kf.D.str) (x % n) = some (.str (xs.getD (x % n).toNat d)) := by
  rw [at_getD (xs.map Kf.D.str) x n (.str d) (by rw [List.length_map]; exact hn) h0, List.getD_eq_getElem?_getD, List.getElem?_map, List.getD_eq_getElem?_getD]
  cases xs[(x % n).toNat]? <;> rfl
def rowsK : List Str := ["Ctrl+K", "O", "Tab", "F5", "Ctrl+S", "Right"]
def strokesZ (z : Int) (a : Nat) : List Str := (List.range (1 + drawn z (a + 3) % 3).toNat).map fun k => rowsK.getD (drawn z (a + k) % 6).toNat ""
def r_lstr : List Kf.D → M → Prop := fun ds m => ∃ (z : Int) (a : Nat), ds = [.lst ((draws z 10).map Kf.D.int), .int (a : Int)] ∧ a ≤ 6 ∧ m = .im (.tup ((strokesZ z a).map Kf.D.str))
def r_lmatch : List Kf.D → M → Prop := fun ds m => ∃ (rws : List Row3) (nd : Str) (ss : List Str), ds = [.lst (rws.map rowD), .str nd, .tup (ss.map Kf.D.str)] ∧ okRs rws ∧ okS ss ∧ m = .im (matchP ss (ofN rws nd))
def toldO (CB CR : Addr) (rws : List Row3) (r : Row3) : Om :=
  if conf rws r.1 r.2.1 then .ret (.im (.str mConf)) (bM CB rws) else if rws.length = 40 then .ret (.im (.str mMany)) (bM CB rws) else .ret (.im .non) (bM CB (rws ++ [r]))
def r_told (CB CR : Addr) : M → List Kf.D → Om → Prop := fun m ds o => ∃ (rws : List Row3) (r : Row3), m = bM CB rws ∧ ds = [.str r.1, .tup (r.2.1.map Kf.D.str), .str r.2.2] ∧ okRs rws ∧ fitR r ∧ o = toldO CB CR rws r
def boundO (rws : List Row3) (r : Row3) : Om :=
  if conf rws r.1 r.2.1 then .ret (.im (.str mConf)) (.ls (rws.map rowD)) else if rws.length = 40 then .ret (.im (.str mMany)) (.ls (rws.map rowD)) else .ret (.im .non) (.ls ((rws ++ [r]).map rowD))
def r_bound : M → List Kf.D → Om → Prop := fun m ds o => ∃ (rws : List Row3) (r : Row3), m = .ls (rws.map rowD) ∧ ds = [.str r.1, .tup (r.2.1.map Kf.D.str), .str r.2.2] ∧ okRs rws ∧ fitR r ∧ o = boundO rws r
theorem ofn_cons (r : Row3) (rs : List Row3) (nd : Str) : ofN (r :: rs) nd = if r.1 = nd then r.2 :: ofN rs nd else ofN rs nd := by
  unfold ofN
  rw [List.filter_cons]
  by_cases h : r.1 = nd
  · rw [if_pos (by simpa using h), if_pos h, List.map_cons]
  · rw [if_neg (by simpa using h), if_neg h]
theorem match_skip {nd : Str} {ss : List Str} : ∀ (j : Nat) (rws : List Row3), (∀ r ∈ rws.take j, r.1 = nd → r.2.1 ≠ ss ∧ r.2.1.take ss.length ≠ ss) → matchP ss (ofN rws nd) = matchP ss (ofN (rws.drop j) nd)
  | 0, _, _ => rfl
  | j + 1, [], _ => rfl
  | j + 1, r :: rs, h => by
    rw [List.drop_succ_cons, ← match_skip j rs fun x hx => h x (by rw [List.take_succ_cons]; exact .tail _ hx), ofn_cons]
    split
    · rename_i q
      obtain ⟨h1, h2⟩ := h r (by rw [List.take_succ_cons]; exact .head _) q
      show (if r.2.1 = ss then _ else if r.2.1.take ss.length = ss then _ else _) = _
      rw [if_neg h1, if_neg h2]
    · rfl
theorem all_rows (rws : List Row3) : ∀ d ∈ rws.map rowD, ∃ es, d = .tup es ∧ es.length = 3 := fun d hd => by
  obtain ⟨r, _, rfl⟩ := List.mem_map.mp hd
  exact ⟨_, rfl, rfl⟩
theorem row_at {rws : List Row3} {j : Nat} {d : Kf.D} (hj : (rws.map rowD)[j]? = some d) : ∃ r, rws[j]? = some r ∧ d = rowD r := by
  rw [List.getElem?_map] at hj
  cases q : rws[j]? with
  | none => rw [q] at hj; cases hj
  | some x => rw [q] at hj; cases hj; exact ⟨x, rfl, rfl⟩
theorem rh_rt {c : Fc} {R : VK} {m : M} {ρ : Rhm} (q : Rt c R m) : Rh c R m ρ := fun v A H σ q' fp es r n f => q v A H q' es.ok es.x r n fun a z => (f a z).2
section
variable {P : Program} {w : World} {K : PySem.W.Frag} {mg : Str → Option Value} {base : Heap} {T : List Addr} {f CB CR c Pt : Addr} {fd : FuncData}
theorem ok_lstr (F : FD K "_law_strokes" "_law_strokes" s_law_strokes f fd) (hint : mg "int" = none) (hran : mg "range" = none) (htup : mg "tuple" = none) : FnOk P w K mg base CX0 1 f fd p_law_strokes (spP K T r_lstr) := by
  refine fn_ok F sc_law_strokes (fun ds m ⟨z, a, h, _⟩ => by rw [h]; rfl) fun cdv A outer s H A0 E hr hcd ds m h Z hrt hnx => ?_
  obtain ⟨z, a, rfl, ha, rfl⟩ := h
  show Gs _ _ _ [some (.im (.lst ((draws z 10).map D.int))), some (.im (.int (a : Int))), none, none]
  have nd := sc_law_strokes.nd
  have z1 : sizeLine = 16777216 := rfl
  refine gs_cons (ss_set (i := 2) (m := .im (.lst (rowsK.map D.str))) (ask_h (me_ie (ie_ls (me_lst (as_cons ie_str (as_cons ie_str (as_cons ie_str (as_cons ie_str (as_cons ie_str (as_cons ie_str as_nil)))))))))) nd rfl (.inr rfl) ?_)
  refine gs_one (ss_ret (ask_h (me_ty (as_cons (Ie.to (ie_ls (me_lcR (i := 3) (n := 1 + drawn z (a + 3) % 3) (pe_lc (own := [("_law_k", 3)]) (by rfl) nd (pi_range1 (by rfl) hran pa_tw) (blk (by rfl)) (fun _ _ _ _ _ => pg_name (i := 3) nd rfl (.inl rfl)) (fun _ _ _ _ _ => pts_nil) (fun _ _ _ _ _ => pe_twB _ _ _ _ _)) (ie_im (me_bin ie_int (ie_im (me_bin (ie_drawE (j := a + 3) (ie_var (pv 0) rfl) (ie_im (me_bin (ie_var (pv 1) rfl) ie_int o_add)) rfl hint (by omega)) ie_int (o_mod (by decide)))) o_add)) (fun k => .str (rowsK.getD (drawn z (a + k) % 6).toNat "")) ⟨by omega, by omega⟩ (of_decide_eq_true rfl) fun k hk s' H' C cl fp => ?_)) ?_) as_nil) cl_tup htup bt_tuple)) hrt)
  · exact ie_im (me_ix (ie_var (pv 2) rfl) (ie_im (me_bin (ie_drawE (j := a + k) (ie_var (pv 0) rfl) (ie_im (me_bin (ie_var (pv 1) rfl) (ie_var (pv 3) rfl) o_add)) (by omega) hint (by omega) (by rfl)) ie_int (o_mod (by decide)))) (ix_l (at_getS rowsK _ 6 "" rfl (by decide))))
  · unfold strokesZ
    rw [List.map_map]
    rfl
theorem ok_lmatch (F : FD K "_law_match" "_law_match" s_law_match f fd) (GP : Fn P w K mg base T "_law_begins" 1 r_isp) : FnOk P w K mg base CX0 2 f fd p_law_match (spP K T r_lmatch) := by
  refine fn_ok F sc_law_match (fun ds m ⟨rws, nd, ss, h, _⟩ => by rw [h]; rfl) fun cdv A outer s H A0 E hr hcd ds m h Z hrt hnx => ?_
  obtain ⟨rws, n0, ss, rfl, hok, hss, rfl⟩ := h
  show Gs _ _ _ [some (.im (.lst (rws.map rowD))), some (.im (.str n0)), some (.im (.tup (ss.map D.str))), none, none, none]
  have nd := sc_law_match.nd
  refine gs_cons (ss_forU (is := [3, 4, 5]) (n := 3) (ds := rws.map rowD) (ps_for PassesOwn.never rfl (pi_list pe_tw) (pg_tup rfl (pgs_cons (pg_name (i := 3) nd rfl (.inl rfl)) (pgs_cons (pg_name (i := 4) nd rfl (.inl rfl)) (pgs_cons (pg_name (i := 5) nd rfl (.inl rfl)) pgs_nil)))) pss_tw) (me_ie (ie_var (pv 0) rfl)) rfl
    (fun j ρ => (∀ r ∈ rws.take j, r.1 = n0 → r.2.1 ≠ ss ∧ r.2.1.take ss.length ≠ ss) ∧ ∃ o3 o4 o5, ρ = [some (.im (.lst (rws.map rowD))), some (.im (.str n0)), some (.im (.tup (ss.map D.str))), o3, o4, o5]) ⟨by simp, none, none, none, rfl⟩ (fun j ρ ⟨_, _, _, _, h⟩ i hi => by
      rw [h]
      simp only [List.mem_cons, List.not_mem_nil, or_false] at hi
      rcases hi with rfl | rfl | rfl <;> exact ⟨of_decide_eq_true rfl, .inl rfl⟩) ?_ ?_)
  · rintro B j d ρ hj ⟨hno, _, _, _, rfl⟩ N hN
    obtain ⟨r, hr2, rfl⟩ := row_at hj
    obtain ⟨g1, g2, g3⟩ := hok.1 r (List.mem_of_getElem? hr2)
    have hjl : j < rws.length := by
      by_cases q : j < rws.length
      · exact q
      · rw [List.getElem?_eq_none (by omega)] at hr2; cases hr2
    have hm := match_skip j rws hno
    have hdr : rws.drop j = r :: rws.drop (j + 1) := by
      rw [List.drop_eq_getElem_cons hjl]
      rw [List.getElem?_eq_getElem hjl] at hr2
      rw [Option.some.inj hr2]
    rw [hdr, ofn_cons] at hm
    refine ⟨_, rfl, rfl, ?_⟩
    show Gs _ _ _ [some (.im (.lst (rws.map rowD))), some (.im (.str n0)), some (.im (.tup (ss.map D.str))), some (.im (.str r.1)), some (.im (.tup (r.2.1.map D.str))), some (.im (.str r.2.2))]
    refine gs_cons (ss_if (k := decide (r.1 = n0) && decide (r.2.1 = ss)) (te_w (we_and (k1 := decide (r.1 = n0)) (k2 := decide (r.2.1 = ss)) (te_cmp (ie_var (pv 3) rfl) (ie_var (pv 1) rfl) o_eqS) fun _ => we_and1 (te_cmp (ie_var (pv 4) rfl) (ie_var (pv 2) rfl) (o_eqTS g1.2.1 (fun x h => (hss.1 x h).1) hr.units)))) (fun q => ?_) fun q => gs_nil ?_)
    · obtain ⟨q1, q2⟩ : r.1 = n0 ∧ r.2.1 = ss := by simpa using q
      rw [hm, if_pos q1] at hrt
      have e : matchP ss (r.2 :: ofN (rws.drop (j + 1)) n0) = .tup [.str "exact", .str r.2.2] := by
        show (if r.2.1 = ss then _ else _) = _
        rw [if_pos q2]
      rw [e] at hrt
      exact gs_one (ss_ret (ask_h (me_ie (ie_tup (as_cons ie_str (as_cons (ie_var (pv 5) rfl) as_nil))))) hrt)
    refine gs_one (ss_if (k := decide (r.1 = n0) && decide (r.2.1.take ss.length = ss)) (te_w (we_and (k1 := decide (r.1 = n0)) (k2 := decide (r.2.1.take ss.length = ss)) (te_cmp (ie_var (pv 3) rfl) (ie_var (pv 1) rfl) o_eqS) fun _ => we_and1 (te_val (ie_im (me_call GP (as_cons (ie_var (pv 2) rfl) (as_cons (ie_var (pv 4) rfl) as_nil)) ⟨ss, r.2.1, rfl, fun x h => (hss.1 x h).1, g1.2.1, rfl⟩ hr))))) (fun q2 => ?_) fun q2 => gs_nil ?_)
    · obtain ⟨q1, q3⟩ : r.1 = n0 ∧ r.2.1.take ss.length = ss := by simpa using q2
      have q4 : ¬ r.2.1 = ss := fun z => by simp [q1, z] at q
      rw [hm, if_pos q1] at hrt
      have e : matchP ss (r.2 :: ofN (rws.drop (j + 1)) n0) = .tup [.str "partial", .str ""] := by
        show (if r.2.1 = ss then _ else if r.2.1.take ss.length = ss then _ else _) = _
        rw [if_neg q4, if_pos q3]
      rw [e] at hrt
      exact gs_one (ss_ret (ask_h (me_ie (ie_tup (as_cons ie_str (as_cons ie_str as_nil))))) hrt)
    · refine hN _ ⟨?_, _, _, _, rfl⟩
      rw [List.take_add_one, hr2]
      intro x hx
      rcases List.mem_append.mp hx with y | y
      · exact hno x y
      · simp at y
        rw [y]
        intro q1
        exact ⟨fun z => by simp [q1, z] at q, fun z => by simp [q1, z] at q2⟩
  · rintro ρ ⟨hno, _, _, _, rfl⟩
    rw [List.length_map] at hno
    rw [match_skip rws.length rws hno, List.drop_length] at hrt
    exact gs_one (ss_ret (ask_h (me_ie ie_non)) hrt)
theorem ok_ltold (F : FD K "_law_told" "_law_told" s_law_told f fd) (G : X40 K mg CR) (GB : MtM P w K mg base T CB "bind" 3 (r_bind CB CR)) : FnOk P w K mg base (L2.CX P w) 4 f fd p_law_told (spM K T (r_told CB CR)) := by
  refine fn_okM F sc_law_told (fun m ds o ⟨_, _, _, h, _⟩ => by rw [h]; rfl) fun cdv A outer s H A0 E v0 p hr hcd m ds o h Z tk pa hend => ?_
  obtain ⟨rws, r, rfl, rfl, hok, hfit, rfl⟩ := h
  show Gs _ _ _ [some (bM CB rws), some (.im (.str r.1)), some (.im (.tup (r.2.1.map D.str))), some (.im (.str r.2.2)), none]
  have nd := sc_law_told.nd
  have ap : r_bind CB CR (bM CB rws) [.str r.1, .tup (r.2.1.map D.str), .str r.2.2] (bindO CB CR rws r) := ⟨rws, r, rfl, rfl, hok, hfit, rfl⟩
  unfold bindO at ap
  unfold toldO at hend
  have bad : ∀ x : Str, r_bind CB CR (bM CB rws) [.str r.1, .tup (r.2.1.map D.str), .str r.2.2] (.exc CR "what" (.str x) (bM CB rws)) → EndM ⟨cxM P w K mg base n_law_told "_law_told" (defScope s_law_told) f cdv A outer s H E, T, p, A0, H, [], some v0⟩ (fun cls d _ H => E cls d H) Z (.ret (.im (.str x)) (bM CB rws)) → Gs ⟨cxM P w K mg base n_law_told "_law_told" (defScope s_law_told) f cdv A outer s H E, T, p, A0, H, [], some v0⟩ (defBody s_law_told) Z [some (bM CB rws), some (.im (.str r.1)), some (.im (.tup (r.2.1.map D.str))), some (.im (.str r.2.2)), none] := fun x ap hend => by
    refine gs_one (ss_tryAs (W := wNo) (i := 4) (fun C f d ρ => C = CR ∧ f = "what" ∧ d = .str x ∧ ρ = [some (bM CB rws), some (.im (.str r.1)), some (.im (.tup (r.2.1.map D.str))), some (.im (.str r.2.2)), none]) rfl rfl nd rfl rfl ⟨rfl, rfl, .inl G.ref⟩ takes_no (fun W' pn xe tk' pa' hx => ?_) fun C f d ρ' hh => ?_)
    · exact gs_one (ss_retE (eo_meth GB tk' (pv 0) rfl rfl (of_decide_eq_true rfl) (aska_h (as_cons (ie_var (pv 1) rfl) (as_cons (ie_var (pv 2) rfl) (as_cons (ie_var (pv 3) rfl) as_nil)))) ap (hr.mono (by decide))) (hx _ _ _ _ ⟨rfl, rfl, rfl, rfl⟩))
    · obtain ⟨rfl, rfl, rfl, rfl⟩ := hh
      exact .inl ⟨G.exm, cau_ret G.xr G.what rfl (.inl rfl) (by decide) (by decide) (of_decide_eq_true rfl) (hend.1 _ rfl)⟩
  by_cases hc : conf rws r.1 r.2.1
  · rw [if_pos hc] at hend ap
    exact bad _ ap hend
  · rw [if_neg hc] at hend ap
    by_cases h40 : rws.length = 40
    · rw [if_pos h40] at hend ap
      exact bad _ ap hend
    · rw [if_neg h40] at hend ap
      refine gs_one (ss_tryAs (W := wNo) (i := 4) (fun C f d ρ => False) rfl rfl nd rfl rfl ⟨rfl, rfl, .inl G.ref⟩ takes_no (fun W' pn xe tk' pa' hx => ?_) fun C f d ρ' hh => hh.elim)
      exact gs_one (ss_retE (eo_meth GB tk' (pv 0) rfl rfl (of_decide_eq_true rfl) (aska_h (as_cons (ie_var (pv 1) rfl) (as_cons (ie_var (pv 2) rfl) (as_cons (ie_var (pv 3) rfl) as_nil)))) ap (hr.mono (by decide))) fun v A2 H2 σ q fp es r1 n f1 => hend.1 _ rfl v A2 H2 σ q fp es.fro r1 n f1)
end
end Kf.L

set_option maxHeartbeats 1000000
namespace Kf.L
open PySem L2
section
variable {P : Program} {w : World} {K : PySem.W.Frag} {mg : Str → Option Value} {base : Heap} {T : List Addr} {f CB CR c Pt : Addr} {fd : FuncData}
theorem ok_lbegins (F : FD K "_law_begins" "_law_begins" s_law_begins f fd) (hlen : mg "len" = none) : FnOk P w K mg base CX0 1 f fd p_law_begins (spP K T r_isp) := by
  refine fn_ok F sc_law_begins (fun ds m ⟨xs, ys, h, _⟩ => by rw [h]; rfl) fun cdv A outer s H A0 E hr hcd ds m h Z hrt hnx => ?_
  obtain ⟨xs, ys, rfl, hx, hy, rfl⟩ := h
  show Gs _ _ _ [some (.im (.tup (xs.map D.str))), some (.im (.tup (ys.map D.str)))]
  have e : cutD (ys.map D.str) none (some (xs.length : Int)) = (ys.take xs.length).map D.str := by rw [cut_to, List.map_take]
  refine gs_one (ss_ret (ask_h (me_cmp (d1 := .tup ((ys.take xs.length).map D.str)) (ie_im (Me.to (me_sl (l := none) (u := some (xs.length : Int)) (ie_var (pv 1) rfl) trivial (show Po _ _ (some _) _ (some _) from ie_im (Me.to (me_bi (as_cons (ie_var (pv 0) rfl) as_nil) cl_lenT hlen boot_len) (by rw [List.length_map]))) sc_t) (by rw [e]))) (ie_var (pv 0) rfl) (o_eqTS (fun x h => hy x (List.mem_of_mem_take h)) hx hr.units))) hrt)
theorem conf_iff {rws : List Row3} {nd : Str} {ss : List Str} : conf rws nd ss ↔ ∃ r ∈ rws, r.1 = nd ∧ hits ss r.2 := by
  unfold conf ofN
  constructor
  · rintro ⟨p, hp, h⟩
    obtain ⟨r, hr, rfl⟩ := List.mem_map.mp hp
    obtain ⟨h1, h2⟩ := List.mem_filter.mp hr
    exact ⟨r, h1, of_decide_eq_true h2, h⟩
  · rintro ⟨r, hr, h1, h2⟩
    exact ⟨r.2, List.mem_map.mpr ⟨r, List.mem_filter.mpr ⟨hr, decide_eq_true h1⟩, rfl⟩, h2⟩
theorem ok_lbound (F : FD K "_law_bound" "_law_bound" s_law_bound f fd) (hlen : mg "len" = none) (GP : Fn P w K mg base T "_law_begins" 1 r_isp) : FnOk P w K mg base (L2.CX P w) 2 f fd p_law_bound (spM K T r_bound) := by
  refine fn_okM F sc_law_bound (fun m ds o ⟨_, _, _, h, _⟩ => by rw [h]; rfl) fun cdv A outer s H A0 E v0 p hr hcd m ds o h Z tk pa hend => ?_
  obtain ⟨rws, ⟨n0, ss, cm⟩, rfl, rfl, hok, hfit, rfl⟩ := h
  show Gs _ _ _ [some (.ls (rws.map rowD)), some (.im (.str n0)), some (.im (.tup (ss.map D.str))), some (.im (.str cm)), none, none, none]
  have nd := sc_law_bound.nd
  have hss : ∀ x ∈ ss, PyData.strOk x = true := hfit.1.2.1
  unfold boundO at hend
  refine gs_cons (ss_forU0 (is := [4, 5, 6]) (n := 3) (ds := rws.map rowD) (ps_for pa rfl (pi_list (pv 0)) (pg_tup rfl (pgs_cons (pg_name (i := 4) nd rfl (.inl rfl)) (pgs_cons (pg_name (i := 5) nd rfl (.inl rfl)) (pgs_cons (pg_name (i := 6) nd rfl (.inl rfl)) pgs_nil)))) pss_tw) rfl rfl
    (fun j ρ => (∀ r ∈ rws.take j, ¬ (r.1 = n0 ∧ hits ss r.2)) ∧ ∃ o3 o4 o5, ρ = [some (.im (.str n0)), some (.im (.tup (ss.map D.str))), some (.im (.str cm)), o3, o4, o5]) ⟨by simp, none, none, none, rfl⟩ (fun j ρ ⟨_, _, _, _, h⟩ i hi => by
      rw [h]
      simp only [List.mem_cons, List.not_mem_nil, or_false] at hi
      rcases hi with rfl | rfl | rfl <;> exact ⟨of_decide_eq_true rfl, by decide⟩) ?_ ?_)
  · rintro F1 A1 H1 hret j d ρ hj ⟨hno, _, _, _, rfl⟩ N hN
    obtain ⟨r, hr2, rfl⟩ := row_at hj
    have hrm := List.mem_of_getElem? hr2
    obtain ⟨g1, g2, g3⟩ := hok.1 r hrm
    refine ⟨_, rfl, rfl, ?_⟩
    show Gs _ _ _ [none, some (.im (.str n0)), some (.im (.tup (ss.map D.str))), some (.im (.str cm)), some (.im (.str r.1)), some (.im (.tup (r.2.1.map D.str))), some (.im (.str r.2.2))]
    refine gs_one (ss_if (k := decide (r.1 = n0) && (decide (ss.take r.2.1.length = r.2.1) || decide (r.2.1.take ss.length = ss))) (te_w (we_and (k1 := decide (r.1 = n0)) (k2 := decide (ss.take r.2.1.length = r.2.1) || decide (r.2.1.take ss.length = ss)) (te_cmp (ie_var (pv 4) rfl) (ie_var (pv 1) rfl) o_eqS) fun _ => we_and1 (te_w (we_or (k1 := decide (ss.take r.2.1.length = r.2.1)) (k2 := decide (r.2.1.take ss.length = ss)) (te_val (ie_im (me_call GP (as_cons (ie_var (pv 5) rfl) (as_cons (ie_var (pv 2) rfl) as_nil)) ⟨r.2.1, ss, rfl, g1.2.1, hss, rfl⟩ hr))) fun _ => we_or1 (te_val (ie_im (me_call GP (as_cons (ie_var (pv 2) rfl) (as_cons (ie_var (pv 5) rfl) as_nil)) ⟨ss, r.2.1, rfl, hss, g1.2.1, rfl⟩ hr))))))) (fun z => ?_) fun z => gs_nil ?_)
    · have hc : conf rws n0 ss := conf_iff.mpr ⟨r, hrm, by simpa [hits] using z⟩
      rw [if_pos hc] at hend
      exact gs_one (ss_reth (ask_h (me_ie ie_str)) (hret _ _ _ (hend.1 _ rfl)))
    · refine hN _ ⟨?_, _, _, _, rfl⟩
      rw [List.take_add_one, hr2]
      intro x hx
      rcases List.mem_append.mp hx with y | y
      · exact hno x y
      · simp at y; rw [y]; simpa [hits] using z
  · rintro ρ ⟨hno, _, _, _, rfl⟩
    rw [List.length_map, List.take_length] at hno
    have hc : ¬ conf rws n0 ss := fun z => by
      obtain ⟨r, hr3, h⟩ := conf_iff.mp z
      exact hno r hr3 h
    rw [if_neg hc] at hend
    refine gs_cons (ss_if (k := decide (rws.length = 40)) ((te_fz (te_cmp (Ie.to (d2 := .int (rws.length : Int)) (ie_im (me_bi (as_cons (ie_var (pv 0) rfl) as_nil) cl_lenL hlen boot_len)) (by rw [List.length_map])) ie_int o_eqI)).to (decide_eq_decide.mpr (by omega))) (fun z => ?_) fun z => gs_nil ?_)
    · rw [if_pos (of_decide_eq_true z)] at hend
      exact gs_one (ss_reth (ask_h (me_ie ie_str)) (hend.1 _ rfl))
    · rw [if_neg (of_decide_eq_false z)] at hend
      have hl2 := hok.2
      have e : rws.map rowD ++ [rowD (n0, ss, cm)] = (rws ++ [(n0, ss, cm)]).map rowD := by rw [List.map_append]; rfl
      refine gs_cons (ss_app (i := 0) (d := rowD (n0, ss, cm)) (ps_expr (pe_bm PySem.F.plainAttrs_list PySem.F.slot_list_append PySem.F.type_list_append mt_append (pv 0) (pa_cons pe_tw pa_nil))) rfl (ask_h (me_ie (ie_tup (as_cons (ie_var (pv 1) rfl) (as_cons (ie_var (pv 2) rfl) (as_cons (ie_var (pv 3) rfl) as_nil)))))) (by rw [List.length_map, sizeLine_eq]; omega) ?_)
      rw [e]
      exact gs_one (ss_reth (ask_h (me_ie ie_non)) (hend.1 _ rfl))
end
end Kf.L

set_option maxHeartbeats 1000000
namespace Kf.L
open PySem L2
theorem strOk_join {sep : Str} (hs : PyData.strOk sep = true) : ∀ {xs : List Str}, (∀ x ∈ xs, PyData.strOk x = true) → PyData.strOk (Str.join sep xs) = true
  | [], _ => by
    show PyData.strOk Str.empty = true
    decide +kernel
  | [x], h => h x (.head _)
  | x :: y :: r, h => by
    show PyData.strOk (x ++ sep ++ Str.join sep (y :: r)) = true
    exact strOk_app (strOk_app (h x (.head _)) hs) (strOk_join hs fun z hz => h z (.tail _ hz))
theorem sp_ok : PyData.strOk " " = true := by decide +kernel
theorem cmp_show {rws : List Row3} (h : okRs rws) (nd : Str) : cmpD (.lst ((ofN rws nd).map showD)) = true := by
  refine (cmpk_lst (k := 1) fun d hd => ?_).cmp
  obtain ⟨p, hp, rfl⟩ := List.mem_map.mp hd
  unfold ofN at hp
  obtain ⟨r, hr, rfl⟩ := List.mem_map.mp hp
  obtain ⟨h1, _⟩ := h.1 r (List.mem_filter.mp hr).1
  refine cmpk_tup (k := 0) (all_cons (cmpk_str ?_) (all_cons (cmpk_str h1.2.2) all_nil))
  rw [show Txt.join " " r.2.1 = Str.join " " r.2.1 from StrLaws.glued_eq_join _ _]
  exact strOk_join sp_ok h1.2.1
theorem cmp_match {rws : List Row3} (h : okRs rws) (nd : Str) (ss : List Str) : cmpD (matchP ss (ofN rws nd)) = true := by
  have key : ∀ ps : List Row2, (∀ p ∈ ps, PyData.strOk p.2 = true) → cmpD (matchP ss ps) = true := by
    intro ps
    induction ps with
    | nil => intro _; rfl
    | cons p ps ih =>
      intro hp
      show cmpD (if p.1 = ss then .tup [.str "exact", .str p.2] else if p.1.take ss.length = ss then .tup [.str "partial", .str ""] else matchP ss ps) = true
      split
      · exact (cmpk_tup (k := 0) (all_cons (cmpk_str (by decide +kernel)) (all_cons (cmpk_str (hp p (.head _))) all_nil))).cmp
      · split
        · exact (cmpk_tup (k := 0) (all_cons (cmpk_str (by decide +kernel)) (all_cons (cmpk_str (by decide +kernel)) all_nil))).cmp
        · exact ih fun x hx => hp x (.tail _ hx)
  refine key _ fun p hp => ?_
  unfold ofN at hp
  obtain ⟨r, hr, rfl⟩ := List.mem_map.mp hp
  exact (h.1 r (List.mem_filter.mp hr).1).1.2.2
def shR : Kf.D → Kf.D
  | .tup [_, .tup xs, c] => .tup [.str (Txt.join " " (xs.map fun d => match d with | .str x => x | _ => "")), c]
  | _ => .non
theorem shR_row (r : Row3) : shR (rowD r) = showD r.2 := by
  unfold shR rowD showD
  dsimp only
  rw [List.map_map]
  have e : (r.2.1.map ((fun d => match d with | Kf.D.str x => x | _ => "") ∘ Kf.D.str)) = r.2.1 := List.map_id'' (fun _ => rfl) r.2.1
  rw [e]
def hdD : Kf.D → Kf.D
  | .tup [a, b, _] => .tup [a, b]
  | _ => .non
theorem any_hd (rws : List Row3) (nd : Str) (ss : List Str) : ((pys ((rws.map rowD).map hdD)).any fun z => PyData.eqv z (py (.tup [.str nd, .tup (ss.map Kf.D.str)]))) = rws.any fun r => decide (r.1 = nd) && decide (r.2.1 = ss) := by
  induction rws with
  | nil => rfl
  | cons r rws ih =>
    rw [List.map_cons, List.map_cons, pys, List.any_cons, ih, List.any_cons]
    have e := eqD2 r.1 nd r.2.1 ss
    unfold eqD at e
    have e2 : hdD (rowD r) = .tup [.str r.1, .tup (r.2.1.map Kf.D.str)] := rfl
    rw [e2, e]
def r_isit (CB : Addr) : List Kf.D → M → Prop := fun ds m => ∃ (rws : List Row3) (ss : List Str), ds = [bD CB rws, .lst (rws.map rowD), .tup (ss.map Kf.D.str)] ∧ okRs rws ∧ okS ss ∧ m = .im (.bl true)
structure M40 (P : Program) (w : World) (K : PySem.W.Frag) (mg : Str → Option Value) (base : Heap) (T : List Addr) (CB CR : Addr) : Prop where
  count : Mt P w K mg base T CB "count" 1 (r_count CB)
  of : Mt P w K mg base T CB "of" 2 (r_of CB)
  mat : Mt P w K mg base T CB "match" 2 (r_match CB)
  isb : Mt P w K mg base T CB "is_bound" 1 (r_isb CB)
  lmat : Fn P w K mg base T "_law_match" 2 r_lmatch
def abr : List Str := ["a", "b", "root"]
section
variable {P : Program} {w : World} {K : PySem.W.Frag} {mg : Str → Option Value} {base : Heap} {T : List Addr} {f CB CR c Pt : Addr} {fd : FuncData}
theorem ok_isit (F : FD K "_law_is_it" "_law_is_it" s_law_is_it f fd) (hlen : mg "len" = none) (C : M40 P w K mg base T CB CR) : FnOk P w K mg base CX0 3 f fd p_law_is_it (spP K T (r_isit CB)) := by
  refine fn_ok F sc_law_is_it (fun ds m ⟨rws, ss, h, _⟩ => by rw [h]; rfl) fun cdv A outer s H A0 E hr hcd ds m h Z hrt hnx => ?_
  obtain ⟨rws, ss, rfl, hok, hss, rfl⟩ := h
  show Gs _ _ _ [some (.im (bD CB rws)), some (.im (.lst (rws.map rowD))), some (.im (.tup (ss.map D.str))), none, none]
  have nd := sc_law_is_it.nd
  have z1 : sizeLine = 16777216 := rfl
  have hl2 := hok.2
  have hr1 := hr.mono (show 1 ≤ 2 by decide)
  refine gs_cons (ss_if (k := false) ((te_cmp (ie_im (me_meth0 C.count (ie_var (pv 0) rfl) (of_decide_eq_true rfl) ⟨rws, rfl, rfl⟩ hr1)) (Ie.to (d2 := .int (rws.length : Int)) (ie_im (me_bi (as_cons (ie_var (pv 1) rfl) as_nil) cl_lenL hlen boot_len)) (by rw [List.length_map])) o_neI).to (by simp)) (fun z => nomatch z) fun _ => gs_nil ?_)
  refine gs_cons (ss_for (i := 3) (ds := abr.map D.str) (ps_for PassesOwn.never rfl (pi_list pe_tw) (pg_name (i := 3) nd rfl (.inr rfl)) pss_tw) (me_ie (ie_ls (me_lst (as_cons ie_str (as_cons ie_str (as_cons ie_str as_nil))))))
    (fun j ρ => ∃ o3 o4, ρ = [some (.im (bD CB rws)), some (.im (.lst (rws.map rowD))), some (.im (.tup (ss.map D.str))), o3, o4]) ⟨none, none, rfl⟩ (fun j ρ ⟨_, _, h⟩ => by rw [h]; exact of_decide_eq_true rfl) ?_ ?_)
  · rintro B j d ρ hj ⟨_, _, rfl⟩ N hN
    obtain ⟨n0, hn0, rfl⟩ := List.mem_map.mp (List.mem_of_getElem? hj)
    have hn1 : PyData.strOk n0 = true := (by decide +kernel : ∀ x ∈ abr, PyData.strOk x = true) n0 hn0
    have hsl := ofn_len rws n0
    have c2 : cmpD (.tup [.str n0, .tup (ss.map D.str)]) = true := (cmpk_tup (k := 1) (all_cons (cmpk_str hn1) (all_cons (cmpk_tup (k := 0) (cmpk_strs fun x hx => (hss.1 x hx).1)) all_nil))).cmp
    have e1 : ((rws.map rowD).filter (nodeB n0)).map shR = (ofN rws n0).map showD := by
      unfold ofN
      rw [List.filter_map, List.map_map, List.map_map]
      refine List.map_congr_left fun r _ => ?_
      exact shR_row r
    refine gs_cons (ss_if (k := false) (te_cmp (ie_ls (me_meth C.of (ie_var (pv 0) rfl) (of_decide_eq_true rfl) (as_cons (ie_var (pv 3) rfl) as_nil) ⟨rws, n0, rfl, hok, rfl⟩ hr)) (Ie.to (ie_ls (me_lcf (i := 4) (pe_lc (own := [("_law_row", 4)]) rfl nd (pi_list pe_tw) (blk (by rfl)) (fun _ _ _ _ _ => pg_name (i := 4) nd rfl (.inl rfl)) (fun _ _ _ _ _ => pts_one (pt_twB _ _ _ _ _)) (fun _ _ _ _ _ => pe_twB _ _ _ _ _)) (ie_var (pv 1) rfl) shR (nodeB n0) (by rw [List.length_map]; omega) (of_decide_eq_true rfl) (fun d hd s' H' C' cl fp => ?_) (fun d hd hg s' H' C' cl fp => ?_))) (congrArg D.lst e1)) (o_neR (cmp_show hok n0) hr.units)) (fun z => nomatch z) fun _ => gs_nil ?_)
    · obtain ⟨r, hr2, rfl⟩ := List.mem_map.mp hd
      exact te_cmp (ie_im (me_ix (ie_var (pv 4) rfl) ie_int (ix_t rfl))) (ie_var (pv 3) rfl) o_eqS
    · obtain ⟨r, hr2, rfl⟩ := List.mem_map.mp hd
      obtain ⟨g1, g2, g3⟩ := hok.1 r hr2
      rw [shR_row]
      refine ie_tup (as_cons (ie_joinT ie_str (ie_im (me_ix (ie_var (pv 4) rfl) ie_int (ix_t rfl))) ?_) (as_cons (ie_im (me_ix (ie_var (pv 4) rfl) ie_int (ix_t rfl))) as_nil))
      have e1 : (" " : Str).length = 1 := rfl
      have h5 := sum_le (xs := r.2.1) (n := 1000) g2
      rw [e1]
      omega
    refine gs_cons (ss_if (k := false) (te_cmp (ie_im (me_meth C.mat (ie_var (pv 0) rfl) (of_decide_eq_true rfl) (as_cons (ie_var (pv 3) rfl) (as_cons (ie_var (pv 2) rfl) as_nil)) ⟨rws, n0, ss, rfl, hok, hss, rfl⟩ hr)) (ie_im (me_call C.lmat (as_cons (ie_var (pv 1) rfl) (as_cons (ie_var (pv 3) rfl) (as_cons (ie_var (pv 2) rfl) as_nil))) ⟨rws, n0, ss, rfl, hok, hss, rfl⟩ hr)) (o_neR (cmp_match hok n0 ss) hr.units)) (fun z => nomatch z) fun _ => gs_nil ?_)
    have c3 : cmpD (.lst ((rws.map rowD).map hdD)) = true := by
      refine (cmpk_lst (k := 2) fun d hd => ?_).cmp
      obtain ⟨d', hd', rfl⟩ := List.mem_map.mp hd
      obtain ⟨r, hr2, rfl⟩ := List.mem_map.mp hd'
      obtain ⟨g1, _⟩ := hok.1 r hr2
      exact cmpk_tup (k := 1) (all_cons (cmpk_str g1.1) (all_cons (cmpk_tup (k := 0) (cmpk_strs g1.2.1)) all_nil))
    have oin := fun X T (hu : X.A.units + 65 < cLine) => o_inD (X := X) (T := T) (d := .tup [.str n0, .tup (ss.map D.str)]) (ds := (rws.map rowD).map hdD) c2 c3 hu
    refine gs_one (ss_if (k := false) (te_cmp (ie_im (me_meth C.isb (ie_var (pv 0) rfl) (of_decide_eq_true rfl) (as_cons (ie_var (pv 3) rfl) (as_cons (ie_var (pv 2) rfl) as_nil)) ⟨rws, n0, ss, rfl, hok, hn1, hss, rfl⟩ hr1)) (Ie.to (ie_im (me_cmp (ie_tup (as_cons (ie_var (pv 3) rfl) (as_cons (ie_var (pv 2) rfl) as_nil))) (ie_ls (me_lc (i := 4) (pe_lc (own := [("_law_row", 4)]) rfl nd (pi_list pe_tw) (blk (by rfl)) (fun _ _ _ _ _ => pg_name (i := 4) nd rfl (.inl rfl)) (fun _ _ _ _ _ => pts_nil) (fun _ _ _ _ _ => pe_twB _ _ _ _ _)) (ie_var (pv 1) rfl) hdD (by rw [List.length_map]; omega) (of_decide_eq_true rfl) (fun d hd s' H' C' cl fp => ?_))) (oin _ _ (Room.u65 hr)) (by rfl))) (congrArg D.bl (any_hd rws n0 ss))) (o_neR rfl hr.units)) (fun z => nomatch z) fun _ => gs_nil ?_)
    · obtain ⟨r, hr2, rfl⟩ := List.mem_map.mp hd
      exact ie_im (Me.to (me_sl (l := none) (u := some ((2 : Nat) : Int)) (ie_var (pv 4) rfl) (by exact trivial) (show Po _ _ (some _) _ (some ((2 : Nat) : Int)) from ie_int) sc_t) (by rw [cut_to]; rfl))
    · exact hN _ ⟨_, _, rfl⟩
  · rintro ρ ⟨_, _, rfl⟩
    exact gs_one (ss_ret (ask_h (me_ie ie_bl)) hrt)
end
end Kf.L

set_option maxHeartbeats 1000000
namespace Kf.L
open PySem L2
/-! ### the law -/
def stepR (rws : List Row3) (r : Row3) : List Row3 := if conf rws r.1 r.2.1 then rws else if rws.length = 40 then rws else rws ++ [r]
def stepD (rws : List Row3) (r : Row3) : Kf.D := if conf rws r.1 r.2.1 then .str mConf else if rws.length = 40 then .str mMany else .non
theorem toldO_eq (CB CR : Addr) (rws : List Row3) (r : Row3) : toldO CB CR rws r = .ret (.im (stepD rws r)) (bM CB (stepR rws r)) := by
  unfold toldO stepD stepR
  split
  · rfl
  · split <;> rfl
theorem boundO_eq (rws : List Row3) (r : Row3) : boundO rws r = .ret (.im (stepD rws r)) (.ls ((stepR rws r).map rowD)) := by
  unfold boundO stepD stepR
  split
  · rfl
  · split <;> rfl
theorem stepD_cmp (rws : List Row3) (r : Row3) : cmpD (stepD rws r) = true := by
  unfold stepD
  split
  · exact cmp_str (by decide +kernel)
  · split
    · exact cmp_str (by decide +kernel)
    · rfl
def Gd (rws : List Row3) : Prop := (∀ r ∈ rws, fitR r) ∧ rws.length ≤ 40
theorem Gd.ok {rws : List Row3} (h : Gd rws) : okRs rws := ⟨h.1, by have := h.2; omega⟩
theorem Gd.step {rws : List Row3} {r : Row3} (h : Gd rws) (hr : fitR r) : Gd (stepR rws r) := by
  unfold stepR
  split
  · exact h
  · split
    · exact h
    · rename_i h2
      refine ⟨fun x hx => ?_, by rw [List.length_append]; have := h.2; show _ + 1 ≤ 40; omega⟩
      rcases List.mem_append.mp hx with z | z
      · exact h.1 x z
      · rw [List.mem_singleton.mp z]; exact hr
theorem Gd.sub {rws : List Row3} {p : Row3 → Bool} (h : Gd rws) : Gd (rws.filter p) := ⟨fun r hr => h.1 r (List.mem_filter.mp hr).1, Nat.le_trans (List.length_filter_le _ _) h.2⟩
def nodeK (k : Nat) : Str := "n" ++ Str.ofString (toString (k : Int))
def r1K (k : Nat) : Row3 := (nodeK k, ["F1", "A"], "activate")
theorem r1_fit (k : Nat) : fitR (r1K k) :=
  ⟨⟨strOk_app (by decide +kernel) (strOk_of _), (by decide +kernel : ∀ x ∈ (["F1", "A"] : List Str), PyData.strOk x = true), (by decide +kernel : PyData.strOk "activate" = true)⟩, (by decide +kernel : ∀ x ∈ (["F1", "A"] : List Str), x.length ≤ 1000), (by decide +kernel : (["F1", "A"] : List Str).length ≤ 100)⟩
theorem rows_mem : ∀ x ∈ rowsK, PyData.strOk x = true ∧ x.length ≤ 1000 := by decide +kernel
theorem strokes_okS (z : Int) (a : Nat) : okS (strokesZ z a) := by
  unfold strokesZ
  refine ⟨fun x hx => ?_, by rw [List.length_map, List.length_range]; omega⟩
  obtain ⟨k, _, rfl⟩ := List.mem_map.mp hx
  have h : (drawn z (a + k) % 6).toNat < rowsK.length := by show _ < 6; omega
  rw [List.getD_eq_getElem?_getD, List.getElem?_eq_getElem h]
  exact rows_mem _ (List.getElem_mem h)
def cmdsK : List Str := ["activate", "focus a", "run x"]
theorem at_getM (xs : List Str) (x n : Int) (hn : n = (xs.length : Int)) (h0 : 0 < n) : ∃ d ∈ xs, atI (xs.map Kf.D.str) (x % n) = some (.str d) := by
  have h1 : 0 ≤ x % n := Int.emod_nonneg _ (by omega)
  have h2 : x % n < n := Int.emod_lt_of_pos _ h0
  have hl : (x % n).toNat < xs.length := by omega
  refine ⟨_, List.getElem_mem hl, ?_⟩
  rw [at_getS xs x n "" hn h0, List.getD_eq_getElem?_getD, List.getElem?_eq_getElem hl]
  rfl
def namesK : List (List Str) := [["b"], ["a", "n3"], [], ["root", "zz"]]
theorem at_names (x : Int) : ∃ ns ∈ namesK, atI (namesK.map fun ns => Kf.D.lst (ns.map Kf.D.str)) (x % 4) = some (.lst (ns.map Kf.D.str)) := by
  have h : x % 4 = 0 ∨ x % 4 = 1 ∨ x % 4 = 2 ∨ x % 4 = 3 := by omega
  rcases h with h | h | h | h <;> rw [h]
  · exact ⟨["b"], by decide +kernel, rfl⟩
  · exact ⟨["a", "n3"], by decide +kernel, rfl⟩
  · exact ⟨[], by decide +kernel, rfl⟩
  · exact ⟨["root", "zz"], by decide +kernel, rfl⟩
structure G40 (P : Program) (w : World) (K : PySem.W.Frag) (mg : Str → Option Value) (base : Heap) (T : List Addr) (CB CR : Addr) : Prop where
  cell : Fn P w K mg base T "_law_cell" 1 r_cell
  draws : Fn P w K mg base T "_law_draws" 1 r_draws
  lstr : Fn P w K mg base T "_law_strokes" 1 r_lstr
  mkB : MkM P w K mg base T "Bindings" CB 1 (r_init CB)
  told : FnM P w K mg base T "_law_told" 4 (r_told CB CR)
  bound : FnM P w K mg base T "_law_bound" 2 r_bound
  unb : MtM P w K mg base T CB "unbind" 1 (r_unb CB)
  drop : MtM P w K mg base T CB "drop" 1 (r_drop CB)
  isit : Fn P w K mg base T "_law_is_it" 3 (r_isit CB)
structure N40 (mg : Str → Option Value) : Prop where
  ran : mg "range" = none
  int : mg "int" = none
  len : mg "len" = none
  str : mg "str" = none
  isi : mg "isinstance" = none
  bool : mg "bool" = none
section
variable {P : Program} {w : World} {K : PySem.W.Frag} {mg : Str → Option Value} {base : Heap} {T : List Addr} {f CB CR c Pt : Addr} {fd : FuncData}
theorem ok_law (F : FD K "law" "law" s_law f fd) (C : G40 P w K mg base T CB CR) (M : N40 mg) : FnOk P w K mg base CX0 6 f fd p_law (spP K T rLaw) := by
  refine fn_ok F sc_law (fun ds m ⟨zs, _, _, h, _⟩ => by rw [h]; rfl) fun cdv A outer s H A0 E hr hcd ds m h Z hrt hnx => ?_
  obtain ⟨zs, hzl, hzb, rfl, rfl⟩ := h
  show Gs _ _ _ [some (.im (.fls (zs.map D.int))), none, none, none, none, none, none, none, none, none, none, none, none, none]
  have nd := sc_law.nd
  have z1 : sizeLine = 16777216 := rfl
  have hr1 := hr.mono (show 1 ≤ 5 by decide)
  have hr2 := hr.mono (show 2 ≤ 5 by decide)
  have hr3 := hr.mono (show 3 ≤ 5 by decide)
  have hr4 := hr.mono (show 4 ≤ 5 by decide)
  refine gs_cons (ss_set (i := 1) (m := bM CB []) (ask_h (me_make0 C.mkB ⟨rfl, rfl, rfl⟩ hr2)) nd rfl (.inl rfl) ?_)
  refine gs_cons (ss_set (i := 2) (m := .ls (([] : List Row3).map rowD)) (ask_h (me_lst as_nil)) nd rfl (.inl rfl) ?_)
  have g0 : Gd [] := ⟨fun r z => absurd z (List.not_mem_nil), (by decide)⟩
  generalize hc1 : cellZ zs 1 = c1
  generalize hc0 : cellZ zs 0 = c0
  have ec1 : r_cell [.fls (zs.map D.int), .int 1] (.im (.int c1)) := ⟨zs, 1, rfl, by rw [← hc1]⟩
  have ec0 : r_cell [.fls (zs.map D.int), .int 0] (.im (.int c0)) := ⟨zs, 0, rfl, by rw [← hc0]⟩
  refine gs_cons (ss_then (fun ρ' => ∃ rws o3 o4, Gd rws ∧ ρ' = [some (.im (.fls (zs.map D.int))), some (bM CB rws), some (.ls (rws.map rowD)), o3, o4, none, none, none, none, none, none, none, none, none]) ?_ fun hq => ss_if (k := decide (c1 % 4 = 0)) (te_cmp (ie_im (me_bin (ie_im (me_call C.cell (as_cons (ie_var (pv 0) rfl) (as_cons ie_int as_nil)) ec1 hr1)) ie_int (o_mod (by decide)))) ie_int o_eqI) (fun _ => ?_) fun _ => gs_nil (hq _ ⟨[], none, none, g0, rfl⟩))
  · rintro ρ0 ⟨rws0, o3, o4, hg0, rfl⟩
    refine gs_cons (ss_range (i := 3) (n := c0 % 61) (ps_for PassesOwn.never rfl (pi_range1 rfl M.ran pa_tw) (pg_name (i := 3) nd rfl (.inl rfl)) pss_tw) (as_cons (ie_im (me_bin (ie_im (me_call C.cell (as_cons (ie_var (pv 0) rfl) (as_cons ie_int as_nil)) ec0 hr1)) ie_int (o_mod (by decide)))) as_nil) ⟨by omega, by omega⟩
      (fun j ρ' => ∃ rws o3 o4 o5 o6 o7 o8 o9 o10 o11 o12 o13, Gd rws ∧ ρ' = [some (.im (.fls (zs.map D.int))), some (bM CB rws), some (.ls (rws.map rowD)), o3, o4, o5, o6, o7, o8, o9, o10, o11, o12, o13]) ⟨rws0, o3, o4, none, none, none, none, none, none, none, none, none, hg0, rfl⟩ (fun j ρ ⟨_, _, _, _, _, _, _, _, _, _, _, _, _, h⟩ => by rw [h]; exact of_decide_eq_true rfl) ?_ ?_)
    · rintro k ρ hk ⟨rws, _, o4, _, _, _, _, o9, o10, o11, o12, o13, hg, rfl⟩ N hN
      generalize hz : cellZ zs (2 + k) = z
      refine gs_cons (ss_set (i := 5) (m := .im (.lst ((draws z 10).map D.int))) (ask_h (me_ie (ie_ls (me_call C.draws (as_cons (ie_im (me_call C.cell (as_cons (ie_var (pv 0) rfl) (as_cons ((ie_im (me_bin ie_int (ie_var (pv 3) rfl) o_add)).to (d2 := .int ((2 + k : Nat) : Int)) (by simp)) as_nil)) ⟨zs, 2 + k, rfl, rfl⟩ hr1)) (as_cons ie_int as_nil)) ⟨z, 10, by rw [hz], ⟨by decide, by decide⟩, rfl⟩ hr1)))) nd rfl (.inl rfl) ?_)
      obtain ⟨n0, hn0, en0⟩ := at_getM abr (drawn z 0) 3 rfl (by decide)
      have hn1 : PyData.strOk n0 = true := (by decide +kernel : ∀ x ∈ abr, PyData.strOk x = true) n0 hn0
      refine gs_cons (ss_set (i := 6) (m := .im (.str n0)) (ask_h (me_ix (ie_ls (me_lst (as_cons ie_str (as_cons ie_str (as_cons ie_str as_nil))))) (ie_im (me_bin (ie_drawE (j := 0) (ie_var (pv 5) rfl) ie_int rfl M.int (by decide)) ie_int (o_mod (by decide)))) (ix_l en0))) nd rfl (.inr rfl) ?_)
      have hss := strokes_okS z 1
      refine gs_cons (ss_set (i := 7) (m := .im (.tup ((strokesZ z 1).map D.str))) (ask_h (me_call C.lstr (as_cons (ie_var (pv 5) rfl) (as_cons ie_int as_nil)) ⟨z, 1, rfl, by decide, rfl⟩ hr1)) nd rfl (.inr rfl) ?_)
      generalize strokesZ z 1 = ss at *
      refine gs_cons (ss_set (i := 8) (m := .im (.int (drawn z 5 % 8))) (ask_h (me_bin (ie_drawE (j := 5) (ie_var (pv 5) rfl) ie_int rfl M.int (by decide)) ie_int (o_mod (by decide)))) nd rfl (.inl rfl) ?_)
      refine gs_cons (ss_then (fun ρ' => ∃ rws o3 o4 o6 o7 o8 o9 o10 o11 o12 o13, Gd rws ∧ ρ' = [some (.im (.fls (zs.map D.int))), some (bM CB rws), some (.ls (rws.map rowD)), o3, o4, some (.im (.lst ((draws z 10).map D.int))), o6, o7, o8, o9, o10, o11, o12, o13]) ?_ fun hq => ss_if (k := decide (drawn z 5 % 8 < 5)) (te_cmp (ie_var (pv 8) rfl) ie_int o_lt) (fun q => ?_) fun q => ?_)
      · rintro ρ' ⟨rws2, p3, p4, p6, p7, p8, p9, p10, p11, p12, p13, hg2, rfl⟩
        refine gs_one (ss_if (k := false) ((te_fz (te_not (te_val (ie_im (me_call C.isit (as_cons (ie_var (d := bD CB rws2) (pv 1) rfl) (as_cons (ie_var (pv 2) rfl) (as_cons (ie_im (me_call C.lstr (as_cons (ie_var (pv 5) rfl) (as_cons ie_int as_nil)) ⟨z, 6, rfl, by decide, rfl⟩ hr1)) as_nil))) ⟨rws2, strokesZ z 6, rfl, hg2.ok, strokes_okS z 6, rfl⟩ hr3))))).to rfl) (fun z => nomatch z) fun _ => gs_nil ?_)
        exact hN _ ⟨rws2, _, _, _, _, _, _, _, _, _, _, _, hg2, rfl⟩
      · obtain ⟨cm, hcm, ecm⟩ := at_getM cmdsK (drawn z 6) 3 rfl (by decide)
        have hcm1 : PyData.strOk cm = true := (by decide +kernel : ∀ x ∈ cmdsK, PyData.strOk x = true) cm hcm
        have hfit : fitR (n0, ss, cm) := ⟨⟨hn1, fun x hx => (hss.1 x hx).1, hcm1⟩, fun x hx => (hss.1 x hx).2, hss.2⟩
        have ab : r_bound (.ls (rws.map rowD)) [.str n0, .tup (ss.map D.str), .str cm] (.ret (.im (stepD rws (n0, ss, cm))) (.ls ((stepR rws (n0, ss, cm)).map rowD))) := ⟨rws, (n0, ss, cm), rfl, rfl, hg.ok, hfit, (boundO_eq _ _).symm⟩
        have at_ : r_told CB CR (bM CB rws) [.str n0, .tup (ss.map D.str), .str cm] (.ret (.im (stepD rws (n0, ss, cm))) (bM CB (stepR rws (n0, ss, cm)))) := ⟨rws, (n0, ss, cm), rfl, rfl, hg.ok, hfit, (toldO_eq _ _ _ _).symm⟩
        refine gs_cons (ss_set (i := 9) (m := .im (.str cm)) (ask_h (me_ix (ie_ls (me_lst (as_cons ie_str (as_cons ie_str (as_cons ie_str as_nil))))) (ie_im (me_bin (ie_drawE (j := 6) (ie_var (pv 5) rfl) ie_int rfl M.int (by decide)) ie_int (o_mod (by decide)))) (ix_l ecm))) nd rfl (.inl rfl) ?_)
        refine gs_one (ss_ifE (k := false) (et_cmp (eo_call C.told takes_no (pv 1) rfl (aska_h (as_cons (ie_var (pv 6) rfl) (as_cons (ie_var (pv 7) rfl) (as_cons (ie_var (pv 9) rfl) as_nil)))) at_ hr4) (eo_call C.bound takes_no (pv 2) rfl (aska_h (as_cons (ie_var (pv 6) rfl) (as_cons (ie_var (pv 7) rfl) (as_cons (ie_var (pv 9) rfl) as_nil)))) ab hr2) (o_neR (stepD_cmp _ _) hr.units)) (fun z => nomatch z) fun _ => gs_nil ?_)
        exact hq _ ⟨stepR rws (n0, ss, cm), _, _, _, _, _, _, _, _, _, _, hg.step hfit, rfl⟩
      · refine gs_one (ss_if (k := decide (drawn z 5 % 8 < 7)) (te_cmp (ie_var (pv 8) rfl) ie_int o_lt) (fun q2 => ?_) fun q2 => ?_)
        · have au : r_unb CB (bM CB rws) [.str n0, .tup (ss.map D.str)] (.ret (.im (.bl (decide ((keepR rws n0 ss).length < rws.length)))) (bM CB (keepR rws n0 ss))) := ⟨rws, n0, ss, rfl, rfl, hg.ok, hn1, hss, rfl⟩
          have hgk : Gd (keepR rws n0 ss) := hg.sub
          have hl2 := hg.2
          refine gs_cons (ss_setL (i := 11) (j := 10) (m := .ls ((keepR rws n0 ss).map rowD)) (ps_setLc (own := [("_law_row", 10)]) rfl nd rfl rfl (sw_true rfl rfl rfl rfl) (pi_list pe_tw) (blk (by rfl)) (fun _ _ _ _ _ => pg_name (i := 10) nd rfl (.inl rfl)) (fun _ _ _ _ _ => pts_one (pt_twB _ _ _ _ _)) (fun _ _ _ _ _ => pe_twB _ _ _ _ _)) (dln_fz ?_ (safe_rows _)) (of_decide_eq_true rfl) (of_decide_eq_true rfl) ?_)
          · have e2 : (keepR rws n0 ss).map rowD = ((rws.map rowD).filter (keepB n0 ss)).map id := by rw [keep_map, List.map_id]
            rw [e2]
            refine den_lcf (ds := rws.map rowD) (ie_var (pv 2) rfl) id (keepB n0 ss) (by rw [List.length_map]; omega) (fun d hd s' H' C' cl fp => ?_) (fun d hd hg s' H' C' cl fp => ie_var (pv 10) rfl)
            obtain ⟨r, hr2', rfl⟩ := List.mem_map.mp hd
            obtain ⟨h1, h2, h3⟩ := hg.1 r hr2'
            have c1 : cmpD (.tup [.str r.1, .tup (r.2.1.map D.str)]) = true := (cmpk_tup (k := 1) (all_cons (cmpk_str h1.1) (all_cons (cmpk_tup (k := 0) (cmpk_strs h1.2.1)) all_nil))).cmp
            have c2 : cmpD (.tup [.str n0, .tup (ss.map D.str)]) = true := (cmpk_tup (k := 1) (all_cons (cmpk_str hn1) (all_cons (cmpk_tup (k := 0) (cmpk_strs fun x hx => (hss.1 x hx).1)) all_nil))).cmp
            exact te_cmp (ie_im (Me.to (me_sl (l := none) (u := some ((2 : Nat) : Int)) (ie_var (pv 10) rfl) (by exact trivial) (show Po _ _ (some _) _ (some ((2 : Nat) : Int)) from ie_int) sc_t) (by rw [cut_to]; rfl))) (ie_tup (as_cons (ie_var (pv 6) rfl) (as_cons (ie_var (pv 7) rfl) as_nil))) (o_neD c1 c2 hr.units)
          have hkl : (keepR rws n0 ss).length ≤ rws.length := List.length_filter_le _ _
          generalize keepR rws n0 ss = ks at *
          refine gs_cons (ss_setE (i := 12) (eo_meth C.unb takes_no (pv 1) rfl rfl (of_decide_eq_true rfl) (aska_h (as_cons (ie_var (pv 6) rfl) (as_cons (ie_var (pv 7) rfl) as_nil))) au hr1) nd rfl (.inl rfl) ⟨of_decide_eq_true rfl, ?_⟩)
          refine gs_cons (ss_if (k := false) (te_fz (te_w ((we_or (k1 := false) (k2 := false) ((te_not (te_val (ie_isiT (k := true) (ie_var (pv 12) rfl) M.bool (by rfl) (kit_ty (by decide +kernel)) M.isi (by intro C fs z; cases z)))).to rfl) fun _ => we_or1 (te_cmp (ie_var (pv 12) rfl) (Ie.to (d2 := .bl (decide (ks.length < rws.length))) (ie_im (me_cmp (d1 := .int (ks.length : Int)) (d2 := .int (rws.length : Int)) (Ie.to (ie_im (me_bi (as_cons (ie_var (pv 11) rfl) as_nil) cl_lenL M.len boot_len)) (by rw [List.length_map])) (Ie.to (ie_im (me_bi (as_cons (ie_var (pv 2) rfl) as_nil) cl_lenL M.len boot_len)) (by rw [List.length_map])) o_lt)) (congrArg D.bl (decide_eq_decide.mpr (by omega)))) (o_neR rfl hr.units))).to rfl))) (fun z => nomatch z) fun _ => gs_nil ?_)
          refine gs_one (ss_mv (i := 2) (j := 11) (L2.ps_set nd rfl (.inl rfl) (pv 11) rfl (by first | exact .inl rfl | exact .inr rfl)) rfl (of_decide_eq_true rfl) (.inl rfl) ?_)
          exact hq _ ⟨ks, _, _, _, _, _, _, _, _, _, _, hgk, rfl⟩
        · obtain ⟨ns, hns, ens⟩ := at_names (drawn z 7)
          have ad : r_drop CB (bM CB rws) [.lst (ns.map D.str)] (.ret (.im .non) (bM CB (dropR rws ns))) := ⟨rws, ns, rfl, rfl, hg.ok, rfl⟩
          have hgd : Gd (dropR rws ns) := hg.sub
          have hl2 := hg.2
          refine gs_cons (ss_set (i := 13) (m := .im (.lst (ns.map D.str))) (ask_h (me_ix (ie_ls (me_lst (ds := namesK.map fun ns => D.lst (ns.map D.str)) (as_cons (ie_ls (me_lst (as_cons ie_str as_nil))) (as_cons (ie_ls (me_lst (as_cons ie_str (as_cons ie_str as_nil)))) (as_cons (ie_ls (me_lst as_nil)) (as_cons (ie_ls (me_lst (as_cons ie_str (as_cons ie_str as_nil)))) as_nil)))))) (ie_im (me_bin (ie_drawE (j := 7) (ie_var (pv 5) rfl) ie_int rfl M.int (by decide)) ie_int (o_mod (by decide)))) (ix_l ens))) nd rfl (.inr rfl) ?_)
          refine gs_cons (ss_dropE (W := wNo) (eo_meth C.drop takes_no (pv 1) rfl rfl (of_decide_eq_true rfl) (aska_h (as_cons (ie_var (pv 13) rfl) as_nil)) ad hr1) ?_)
          refine gs_one (ss_setL (i := 2) (j := 10) (m := .ls ((dropR rws ns).map rowD)) (ps_setLc (own := [("_law_row", 10)]) rfl nd rfl rfl (sw_true rfl rfl rfl rfl) (pi_list pe_tw) (blk (by rfl)) (fun _ _ _ _ _ => pg_name (i := 10) nd rfl (.inl rfl)) (fun _ _ _ _ _ => pts_one (pt_twB _ _ _ _ _)) (fun _ _ _ _ _ => pe_twB _ _ _ _ _)) (dln_fz ?_ (safe_rows _)) (of_decide_eq_true rfl) (of_decide_eq_true rfl) (hq _ ⟨dropR rws ns, _, _, _, _, _, _, _, _, _, _, hgd, rfl⟩))
          have e2 : (dropR rws ns).map rowD = ((rws.map rowD).filter (dropB ns)).map id := by rw [drop_map, List.map_id]
          rw [e2]
          refine den_lcf (ds := rws.map rowD) (ie_var (pv 2) rfl) id (dropB ns) (by rw [List.length_map]; omega) (fun d hd s' H' C' cl fp => ?_) (fun d hd hg s' H' C' cl fp => ie_var (pv 10) rfl)
          obtain ⟨r, hr2', rfl⟩ := List.mem_map.mp hd
          exact te_cmp (ie_im (me_ix (ie_var (pv 10) rfl) ie_int (ix_t rfl))) (ie_var (pv 13) rfl) o_notInL
    · rintro ρ ⟨_, _, _, _, _, _, _, _, _, _, _, _, _, rfl⟩
      exact gs_one (ss_ret (ask_h (me_ie ie_bl)) hrt)
  · refine gs_one (ss_range (i := 3) (n := 37 + c1 / 4 % 4) (ps_for PassesOwn.never rfl (pi_range1 rfl M.ran pa_tw) (pg_name (i := 3) nd rfl (.inl rfl)) pss_tw) (as_cons (ie_im (me_bin ie_int (ie_im (me_bin (ie_im (me_bin (ie_im (me_call C.cell (as_cons (ie_var (pv 0) rfl) (as_cons ie_int as_nil)) ec1 hr1)) ie_int (o_fdiv ⟨by decide, by decide⟩))) ie_int (o_mod (by decide)))) o_add)) as_nil) ⟨by omega, by omega⟩
      (fun j ρ' => ∃ rws o3 o4, Gd rws ∧ ρ' = [some (.im (.fls (zs.map D.int))), some (bM CB rws), some (.ls (rws.map rowD)), o3, o4, none, none, none, none, none, none, none, none, none]) ⟨[], none, none, g0, rfl⟩ (fun j ρ ⟨_, _, _, _, h⟩ => by rw [h]; exact of_decide_eq_true rfl) ?_ fun ρ h => hq _ h)
    rintro k ρ hk ⟨rws, _, _, hg, rfl⟩ N hN
    have hk40 : k < 100 := by omega
    have sm : ("n" : Str).length + (Str.ofString (toString (k : Int))).length ≤ sizeLine := by
      have := (by decide +kernel : ∀ k : Fin 100, (Str.ofString (toString ((k.val : Nat) : Int))).length ≤ 10) ⟨k, hk40⟩
      show 1 + _ ≤ _
      dsimp only at this
      omega
    have lg : ((k : Int)).natAbs.log2 < 1920 := Nat.lt_of_le_of_lt (Nat.log2_le_self _) (by omega)
    have ab : r_bound (.ls (rws.map rowD)) [.str (r1K k).1, .tup ((r1K k).2.1.map D.str), .str (r1K k).2.2] (.ret (.im (stepD rws (r1K k))) (.ls ((stepR rws (r1K k)).map rowD))) := ⟨rws, r1K k, rfl, rfl, hg.ok, r1_fit k, (boundO_eq _ _).symm⟩
    have at_ : r_told CB CR (bM CB rws) [.str (r1K k).1, .tup ((r1K k).2.1.map D.str), .str (r1K k).2.2] (.ret (.im (stepD rws (r1K k))) (bM CB (stepR rws (r1K k)))) := ⟨rws, r1K k, rfl, rfl, hg.ok, r1_fit k, (toldO_eq _ _ _ _).symm⟩
    refine gs_cons (ss_setE (i := 4) (eo_call C.bound takes_no (pv 2) rfl (aska_h (as_cons (ie_im (me_bin ie_str (ie_im (me_ty (as_cons (ie_var (pv 3) rfl) as_nil) (cl_str lg) M.str bt_str)) (o_addS sm))) (as_cons (ie_tup (as_cons ie_str (as_cons ie_str as_nil))) (as_cons ie_str as_nil)))) ab hr2) nd rfl (.inl rfl) ⟨of_decide_eq_true rfl, ?_⟩)
    refine gs_one (ss_ifE (k := false) (et_cmp (eo_call C.told takes_no (pv 1) rfl (aska_h (as_cons (ie_im (me_bin ie_str (ie_im (me_ty (as_cons (ie_var (pv 3) rfl) as_nil) (cl_str lg) M.str bt_str)) (o_addS sm))) (as_cons (ie_tup (as_cons ie_str (as_cons ie_str as_nil))) (as_cons ie_str as_nil)))) at_ hr4) (eo_of (ask_h (me_ie (ie_var (pv 4) rfl)))) (o_neR (stepD_cmp _ _) hr.units)) (fun z => nomatch z) fun _ => gs_nil ?_)
    exact hN _ ⟨_, _, _, hg.step (r1_fit k), rfl⟩
end
end Kf.L

set_option maxHeartbeats 0
namespace Kf.L
open PySem L2
open He (ga ma fAd)
/-! ### the head -/
def d_is_prefix : He.DefD := ⟨("is_prefix", none), "is_prefix", "is_prefix", defArgs s_is_prefix, defBody s_is_prefix, defScope s_is_prefix, [], []⟩
def d_shown : He.DefD := ⟨("shown", none), "shown", "shown", defArgs s_shown, defBody s_shown, defScope s_shown, [], []⟩
def d_Bindings_init : He.DefD := ⟨("Bindings", some "__init__"), "__init__", "Bindings.__init__", defArgs s_Bindings_init, defBody s_Bindings_init, defScope s_Bindings_init, [], []⟩
def d_Bindings_count : He.DefD := ⟨("Bindings", some "count"), "count", "Bindings.count", defArgs s_Bindings_count, defBody s_Bindings_count, defScope s_Bindings_count, [], []⟩
def d_Bindings_of_node : He.DefD := ⟨("Bindings", some "of_node"), "of_node", "Bindings.of_node", defArgs s_Bindings_of_node, defBody s_Bindings_of_node, defScope s_Bindings_of_node, [], []⟩
def d_Bindings_bind : He.DefD := ⟨("Bindings", some "bind"), "bind", "Bindings.bind", defArgs s_Bindings_bind, defBody s_Bindings_bind, defScope s_Bindings_bind, [], []⟩
def d_Bindings_unbind : He.DefD := ⟨("Bindings", some "unbind"), "unbind", "Bindings.unbind", defArgs s_Bindings_unbind, defBody s_Bindings_unbind, defScope s_Bindings_unbind, [], []⟩
def d_Bindings_of : He.DefD := ⟨("Bindings", some "of"), "of", "Bindings.of", defArgs s_Bindings_of, defBody s_Bindings_of, defScope s_Bindings_of, [], []⟩
def d_Bindings_is_bound : He.DefD := ⟨("Bindings", some "is_bound"), "is_bound", "Bindings.is_bound", defArgs s_Bindings_is_bound, defBody s_Bindings_is_bound, defScope s_Bindings_is_bound, [], []⟩
def d_Bindings_drop : He.DefD := ⟨("Bindings", some "drop"), "drop", "Bindings.drop", defArgs s_Bindings_drop, defBody s_Bindings_drop, defScope s_Bindings_drop, [], []⟩
def d_Bindings_match : He.DefD := ⟨("Bindings", some "match"), "match", "Bindings.match", defArgs s_Bindings_match, defBody s_Bindings_match, defScope s_Bindings_match, [], []⟩
def d_law_cell : He.DefD := ⟨("_law_cell", none), "_law_cell", "_law_cell", defArgs s_law_cell, defBody s_law_cell, defScope s_law_cell, [], []⟩
def d_law_draws : He.DefD := ⟨("_law_draws", none), "_law_draws", "_law_draws", defArgs s_law_draws, defBody s_law_draws, defScope s_law_draws, [], []⟩
def d_law_strokes : He.DefD := ⟨("_law_strokes", none), "_law_strokes", "_law_strokes", defArgs s_law_strokes, defBody s_law_strokes, defScope s_law_strokes, [], []⟩
def d_law_begins : He.DefD := ⟨("_law_begins", none), "_law_begins", "_law_begins", defArgs s_law_begins, defBody s_law_begins, defScope s_law_begins, [], []⟩
def d_law_match : He.DefD := ⟨("_law_match", none), "_law_match", "_law_match", defArgs s_law_match, defBody s_law_match, defScope s_law_match, [], []⟩
def d_law_told : He.DefD := ⟨("_law_told", none), "_law_told", "_law_told", defArgs s_law_told, defBody s_law_told, defScope s_law_told, [], []⟩
def d_law_bound : He.DefD := ⟨("_law_bound", none), "_law_bound", "_law_bound", defArgs s_law_bound, defBody s_law_bound, defScope s_law_bound, [], []⟩
def d_law_is_it : He.DefD := ⟨("_law_is_it", none), "_law_is_it", "_law_is_it", defArgs s_law_is_it, defBody s_law_is_it, defScope s_law_is_it, [], []⟩
def d_law : He.DefD := ⟨("law", none), "law", "law", defArgs s_law, defBody s_law, defScope s_law, [], []⟩
def fnL : List He.DefD := [d_is_prefix, d_shown, d_Bindings_init, d_Bindings_count, d_Bindings_of_node, d_Bindings_bind, d_Bindings_unbind, d_Bindings_of, d_Bindings_is_bound, d_Bindings_drop, d_Bindings_match, d_law_cell, d_law_draws, d_law_strokes, d_law_begins, d_law_match, d_law_told, d_law_bound, d_law_is_it, d_law]
def xsL : List XD := [⟨"Refused", "Refused.__init__", defArgs s_Refused_init, defBody s_Refused_init, defScope s_Refused_init, "what"⟩]
def faL : List He.Fa := [.glo "law", .glo "_law_cell", .glo "_law_draws", .glo "_law_strokes", .glo "_law_begins", .glo "_law_match", .glo "_law_told", .glo "_law_bound", .glo "_law_is_it", .glo "is_prefix", .glo "shown", .glo "Bindings", .glo "Refused", .int "BINDINGS_MOST" 40, .free "isinstance", .free "str", .free "len", .free "any", .free "tuple", .free "int", .free "range", .free "bool", .free "super", .cls "Bindings", .noat "Bindings" "rows", .meth "Bindings" "count", .meth "Bindings" "of_node", .meth "Bindings" "bind", .meth "Bindings" "unbind", .meth "Bindings" "of", .meth "Bindings" "is_bound", .meth "Bindings" "drop", .meth "Bindings" "match", .mkr "Bindings", .exm "Refused" "Refused" true]
def tfL : List He.Defn := [("Bindings", some "is_bound")]
def exL : PySem.W.Frag → Bool := fun _ => true
abbrev pwL : Program := PySem.Challenge.pw_keyfocus_k40_bindings
abbrev rwL : PySem.W.OpenLaw := PySem.Challenge.rw_keyfocus_k40_bindings
abbrev RL : PySem.W.OpenRow := PySem.W.OpenLaw.row rwL
abbrev hkL : PySem.W.Hook := hookK 5 pwL.main.file faL fnL xsL tfL exL
def obL (s : PySem.W.SharedT) : AlK := obsK 5 pwL.main.file faL fnL xsL tfL exL (HandSHeadRun.getT s)
theorem obL_eq (s : PySem.W.SharedT) : obL s = hkL.obs s.abs := obsK_eq (HandSHeadRun.getT_eq s)
def looL0 : List Str := ["FocusError", "Refused", "is_prefix", "shown", "BINDINGS_MOST", "Bindings", "_law_cell", "_law_draws", "_law_strokes", "_law_begins", "_law_match", "_law_told", "_law_bound", "_law_is_it"]
def looL : List Str := looL0
abbrev stL : Nat := 2000
abbrev qL : Program := PySem.W.view RL.prog [18]
theorem runL (w : World) : HandSHeadRun.RunEq RL qL hkL obL stL looL w := by
  intro os
  kernel_rfl
abbrev TLL (K : PySem.W.Frag) : List Addr := (tfL.map (He.cT K)).map (·.2)
theorem xs_Refused : XcS n_Refused_init (defScope s_Refused_init) "what" := ⟨rfl, rfl, rfl, rfl, by decide +kernel, rfl, rfl, rfl, rfl, by decide +kernel, by decide +kernel⟩
theorem ok_Refused {P : Program} {w : World} {K : PySem.W.Frag} {mg : Str → Option Value} {base : Heap} {C f cda cc : Addr} {fd : FuncData} (F : XcF P K mg "Refused.__init__" (defArgs s_Refused_init) (defBody s_Refused_init) (defScope s_Refused_init) C f cda cc fd) (hno : PySem.W.findIn K (.ref C) "what" = some none) :
    FnOk P w K mg base CX0 1 f fd n_Refused_init (spXI (fun v => ∃ x, v = .str x) C "what") :=
  xinit_ok xs_Refused F hno ⟨_, rfl, rfl⟩ (fun A outer s H v _ _ => ⟨_, pa_cons (pv 1) pa_nil, fun e H' Q q => ⟨v, rfl, q v⟩⟩) (fun _ _ => rfl) (fun _ _ => rfl) (fun _ _ => ⟨_, rfl⟩) (fun _ => rfl) (by decide) (by decide)
theorem facts {w : World} {K : PySem.W.Frag} {h : Heap} {mg : Str → Option Value} {f : Addr} (X : K.In h) (G : h.Ns mainGlobals mg) (hfa : mg ("law" : Str) = some (.ref f)) (c : SaysK pwL.main.file faL fnL xsL tfL exL h K) :
    ∃ (fd : FuncData) (cs : List (Addr × Addr)), (∀ p ∈ cs, h.get? p.2 = some { cls := .none, data := .fields #[] }) ∧ (∀ p ∈ cs, K.lookup p.2 = none) ∧ (∀ p ∈ cs, PySem.W.CodeHd h p.1 p.2) ∧ (∀ (s : Shared) (u : Value), BindsTo s fd ⟨[u], []⟩ [("_law_script", u)]) ∧
      ∀ base : Heap, K.In base → base.Ns mainGlobals mg → (∀ p ∈ cs, LamX.TabB base mg p.1 p.2) → FnOk pwL w K mg base CX0 6 f fd ["_law_script"] (spP K (cs.map (·.2)) rLaw) := by
  obtain ⟨fd_is_prefix, F_is_prefix⟩ := c.d.def_ 0 (d := d_is_prefix) rfl
  have b_is_prefix : Binds K fd_is_prefix p_is_prefix [] := FunD.bindsN (ps := p_is_prefix) F_is_prefix fun _ _ _ _ _ _ us hl => match us, hl with | [_, _], _ => rfl
  obtain ⟨fd_shown, F_shown⟩ := c.d.def_ 1 (d := d_shown) rfl
  have b_shown : Binds K fd_shown p_shown [] := FunD.bindsN (ps := p_shown) F_shown fun _ _ _ _ _ _ us hl => match us, hl with | [_], _ => rfl
  obtain ⟨fd_Bindings_init, F_Bindings_init⟩ := c.d.def_ 2 (d := d_Bindings_init) rfl
  have b_Bindings_init : Binds K fd_Bindings_init p_Bindings_init [] := FunD.bindsN (ps := p_Bindings_init) F_Bindings_init fun _ _ _ _ _ _ us hl => match us, hl with | [_], _ => rfl
  obtain ⟨fd_Bindings_count, F_Bindings_count⟩ := c.d.def_ 3 (d := d_Bindings_count) rfl
  have b_Bindings_count : Binds K fd_Bindings_count p_Bindings_count [] := FunD.bindsN (ps := p_Bindings_count) F_Bindings_count fun _ _ _ _ _ _ us hl => match us, hl with | [_], _ => rfl
  obtain ⟨fd_Bindings_of_node, F_Bindings_of_node⟩ := c.d.def_ 4 (d := d_Bindings_of_node) rfl
  have b_Bindings_of_node : Binds K fd_Bindings_of_node p_Bindings_of_node [] := FunD.bindsN (ps := p_Bindings_of_node) F_Bindings_of_node fun _ _ _ _ _ _ us hl => match us, hl with | [_, _], _ => rfl
  obtain ⟨fd_Bindings_bind, F_Bindings_bind⟩ := c.d.def_ 5 (d := d_Bindings_bind) rfl
  have b_Bindings_bind : Binds K fd_Bindings_bind p_Bindings_bind [] := FunD.bindsN (ps := p_Bindings_bind) F_Bindings_bind fun _ _ _ _ _ _ us hl => match us, hl with | [_, _, _, _], _ => rfl
  obtain ⟨fd_Bindings_unbind, F_Bindings_unbind⟩ := c.d.def_ 6 (d := d_Bindings_unbind) rfl
  have b_Bindings_unbind : Binds K fd_Bindings_unbind p_Bindings_unbind [] := FunD.bindsN (ps := p_Bindings_unbind) F_Bindings_unbind fun _ _ _ _ _ _ us hl => match us, hl with | [_, _, _], _ => rfl
  obtain ⟨fd_Bindings_of, F_Bindings_of⟩ := c.d.def_ 7 (d := d_Bindings_of) rfl
  have b_Bindings_of : Binds K fd_Bindings_of p_Bindings_of [] := FunD.bindsN (ps := p_Bindings_of) F_Bindings_of fun _ _ _ _ _ _ us hl => match us, hl with | [_, _], _ => rfl
  obtain ⟨fd_Bindings_is_bound, F_Bindings_is_bound⟩ := c.d.def_ 8 (d := d_Bindings_is_bound) rfl
  have b_Bindings_is_bound : Binds K fd_Bindings_is_bound p_Bindings_is_bound [] := FunD.bindsN (ps := p_Bindings_is_bound) F_Bindings_is_bound fun _ _ _ _ _ _ us hl => match us, hl with | [_, _, _], _ => rfl
  obtain ⟨fd_Bindings_drop, F_Bindings_drop⟩ := c.d.def_ 9 (d := d_Bindings_drop) rfl
  have b_Bindings_drop : Binds K fd_Bindings_drop p_Bindings_drop [] := FunD.bindsN (ps := p_Bindings_drop) F_Bindings_drop fun _ _ _ _ _ _ us hl => match us, hl with | [_, _], _ => rfl
  obtain ⟨fd_Bindings_match, F_Bindings_match⟩ := c.d.def_ 10 (d := d_Bindings_match) rfl
  have b_Bindings_match : Binds K fd_Bindings_match p_Bindings_match [] := FunD.bindsN (ps := p_Bindings_match) F_Bindings_match fun _ _ _ _ _ _ us hl => match us, hl with | [_, _, _], _ => rfl
  obtain ⟨fd_law_cell, F_law_cell⟩ := c.d.def_ 11 (d := d_law_cell) rfl
  have b_law_cell : Binds K fd_law_cell p_law_cell [] := FunD.bindsN (ps := p_law_cell) F_law_cell fun _ _ _ _ _ _ us hl => match us, hl with | [_, _], _ => rfl
  obtain ⟨fd_law_draws, F_law_draws⟩ := c.d.def_ 12 (d := d_law_draws) rfl
  have b_law_draws : Binds K fd_law_draws p_law_draws [] := FunD.bindsN (ps := p_law_draws) F_law_draws fun _ _ _ _ _ _ us hl => match us, hl with | [_, _], _ => rfl
  obtain ⟨fd_law_strokes, F_law_strokes⟩ := c.d.def_ 13 (d := d_law_strokes) rfl
  have b_law_strokes : Binds K fd_law_strokes p_law_strokes [] := FunD.bindsN (ps := p_law_strokes) F_law_strokes fun _ _ _ _ _ _ us hl => match us, hl with | [_, _], _ => rfl
  obtain ⟨fd_law_begins, F_law_begins⟩ := c.d.def_ 14 (d := d_law_begins) rfl
  have b_law_begins : Binds K fd_law_begins p_law_begins [] := FunD.bindsN (ps := p_law_begins) F_law_begins fun _ _ _ _ _ _ us hl => match us, hl with | [_, _], _ => rfl
  obtain ⟨fd_law_match, F_law_match⟩ := c.d.def_ 15 (d := d_law_match) rfl
  have b_law_match : Binds K fd_law_match p_law_match [] := FunD.bindsN (ps := p_law_match) F_law_match fun _ _ _ _ _ _ us hl => match us, hl with | [_, _, _], _ => rfl
  obtain ⟨fd_law_told, F_law_told⟩ := c.d.def_ 16 (d := d_law_told) rfl
  have b_law_told : Binds K fd_law_told p_law_told [] := FunD.bindsN (ps := p_law_told) F_law_told fun _ _ _ _ _ _ us hl => match us, hl with | [_, _, _, _], _ => rfl
  obtain ⟨fd_law_bound, F_law_bound⟩ := c.d.def_ 17 (d := d_law_bound) rfl
  have b_law_bound : Binds K fd_law_bound p_law_bound [] := FunD.bindsN (ps := p_law_bound) F_law_bound fun _ _ _ _ _ _ us hl => match us, hl with | [_, _, _, _], _ => rfl
  obtain ⟨fd_law_is_it, F_law_is_it⟩ := c.d.def_ 18 (d := d_law_is_it) rfl
  have b_law_is_it : Binds K fd_law_is_it p_law_is_it [] := FunD.bindsN (ps := p_law_is_it) F_law_is_it fun _ _ _ _ _ _ us hl => match us, hl with | [_, _, _], _ => rfl
  obtain ⟨fd_law, F_law⟩ := c.d.def_ 19 (d := d_law) rfl
  have b_law : Binds K fd_law p_law [] := FunD.bindsN (ps := p_law) F_law fun _ _ _ _ _ _ us hl => match us, hl with | [_], _ => rfl
  have g_law := He.glo_ok X G (c.d.fact 0 (f := .glo "law") rfl)
  have g__law_cell := He.glo_ok X G (c.d.fact 1 (f := .glo "_law_cell") rfl)
  have g__law_draws := He.glo_ok X G (c.d.fact 2 (f := .glo "_law_draws") rfl)
  have g__law_strokes := He.glo_ok X G (c.d.fact 3 (f := .glo "_law_strokes") rfl)
  have g__law_begins := He.glo_ok X G (c.d.fact 4 (f := .glo "_law_begins") rfl)
  have g__law_match := He.glo_ok X G (c.d.fact 5 (f := .glo "_law_match") rfl)
  have g__law_told := He.glo_ok X G (c.d.fact 6 (f := .glo "_law_told") rfl)
  have g__law_bound := He.glo_ok X G (c.d.fact 7 (f := .glo "_law_bound") rfl)
  have g__law_is_it := He.glo_ok X G (c.d.fact 8 (f := .glo "_law_is_it") rfl)
  have g_is_prefix := He.glo_ok X G (c.d.fact 9 (f := .glo "is_prefix") rfl)
  have g_shown := He.glo_ok X G (c.d.fact 10 (f := .glo "shown") rfl)
  have g_Bindings := He.glo_ok X G (c.d.fact 11 (f := .glo "Bindings") rfl)
  have g_Refused := He.glo_ok X G (c.d.fact 12 (f := .glo "Refused") rfl)
  have i_BINDINGS_MOST := He.int_ok X G (c.d.fact 13 (f := .int "BINDINGS_MOST" 40) rfl)
  have n_isinstance := He.free_ok X G (c.d.fact 14 (f := .free "isinstance") rfl)
  have n_str := He.free_ok X G (c.d.fact 15 (f := .free "str") rfl)
  have n_len := He.free_ok X G (c.d.fact 16 (f := .free "len") rfl)
  have n_any := He.free_ok X G (c.d.fact 17 (f := .free "any") rfl)
  have n_tuple := He.free_ok X G (c.d.fact 18 (f := .free "tuple") rfl)
  have n_int := He.free_ok X G (c.d.fact 19 (f := .free "int") rfl)
  have n_range := He.free_ok X G (c.d.fact 20 (f := .free "range") rfl)
  have n_bool := He.free_ok X G (c.d.fact 21 (f := .free "bool") rfl)
  have n_super := He.free_ok X G (c.d.fact 22 (f := .free "super") rfl)
  have c_Bindings := He.cls_ok (c.d.fact 23 (f := .cls "Bindings") rfl)
  have a_Bindings_rows := He.noat_ok (c.d.fact 24 (f := .noat "Bindings" "rows") rfl)
  have m_Bindings_count := He.meth_ok (c.d.fact 25 (f := .meth "Bindings" "count") rfl)
  have m_Bindings_of_node := He.meth_ok (c.d.fact 26 (f := .meth "Bindings" "of_node") rfl)
  have m_Bindings_bind := He.meth_ok (c.d.fact 27 (f := .meth "Bindings" "bind") rfl)
  have m_Bindings_unbind := He.meth_ok (c.d.fact 28 (f := .meth "Bindings" "unbind") rfl)
  have m_Bindings_of := He.meth_ok (c.d.fact 29 (f := .meth "Bindings" "of") rfl)
  have m_Bindings_is_bound := He.meth_ok (c.d.fact 30 (f := .meth "Bindings" "is_bound") rfl)
  have m_Bindings_drop := He.meth_ok (c.d.fact 31 (f := .meth "Bindings" "drop") rfl)
  have m_Bindings_match := He.meth_ok (c.d.fact 32 (f := .meth "Bindings" "match") rfl)
  have k_Bindings := He.mkr_ok (c.d.fact 33 (f := .mkr "Bindings") rfl)
  have x_Refused_Refused := He.exm_ok (c.d.fact 34 (f := .exm "Refused" "Refused" true) rfl)
  have e := hfa.symm.trans g_law
  cases e
  have hx_Refused := c.x ⟨"Refused", "Refused.__init__", defArgs s_Refused_init, defBody s_Refused_init, defScope s_Refused_init, "what"⟩ (by unfold xsL; simp)
  obtain ⟨fx_Refused, fdx_Refused, A_Refused⟩ := xc_all (P := pwL) hx_Refused.1 hx_Refused.2 n_super (by kernel_rfl)
  have S : K40 K mg (ga K "Bindings") := { cls := c_Bindings, rows := a_Bindings_rows, len := n_len, any := n_any, most := i_BINDINGS_MOST }
  have S2 : X40 K mg (ga K "Refused") := { xr := A_Refused.xf, what := A_Refused.fld, exm := x_Refused_Refused, ref := g_Refused }
  refine ⟨fd_law, tfL.map (He.cT K), c.cs1, c.cs2, c.cs3 X, fun s u => FunD.bindsA (ps := p_law) F_law (fun _ _ _ _ _ _ us hl => match us, hl with | [_], _ => rfl) s [u] rfl, fun base _ _ hT => ?_⟩
  obtain ⟨c_t0, P_t0, hc_Bindings_is_bound, TB_Bindings_is_bound, hP_Bindings_is_bound⟩ := tab_of (p := ("Bindings", some "is_bound")) F_Bindings_is_bound (.head _) hT
  obtain ⟨cda, cc, XF⟩ := A_Refused.F
  have GR : XcM pwL w K mg base "Refused" (ga K "Refused") "what" (fun v => ∃ x, v = .str x) := xcM_of A_Refused g_Refused (ok_Refused XF A_Refused.fld) fun _ _ _ _ _ _ _ us hl => match us, hl with | [_, _], _ => rfl
  have G_is_prefix : Fn pwL w K mg base (TLL K) "is_prefix" 1 r_isp := ⟨_, _, _, ok_isp F_is_prefix n_len, g_is_prefix, F_is_prefix.kp, b_is_prefix⟩
  have G_shown : Fn pwL w K mg base (TLL K) "shown" 1 r_shown := ⟨_, _, _, ok_shown F_shown, g_shown, F_shown.kp, b_shown⟩
  have M_count : Mt pwL w K mg base (TLL K) (ga K "Bindings") "count" 1 (r_count (ga K "Bindings")) := ⟨_, _, _, ok_count F_Bindings_count S, c_Bindings, m_Bindings_count, b_Bindings_count⟩
  have M_of_node : Mt pwL w K mg base (TLL K) (ga K "Bindings") "of_node" 1 (r_ofn (ga K "Bindings")) := ⟨_, _, _, ok_ofn F_Bindings_of_node S, c_Bindings, m_Bindings_of_node, b_Bindings_of_node⟩
  have M_of : Mt pwL w K mg base (TLL K) (ga K "Bindings") "of" 2 (r_of (ga K "Bindings")) := ⟨_, _, _, ok_of F_Bindings_of S M_of_node G_shown, c_Bindings, m_Bindings_of, b_Bindings_of⟩
  have M_is_bound : Mt pwL w K mg base (TLL K) (ga K "Bindings") "is_bound" 1 (r_isb (ga K "Bindings")) := ⟨_, _, _, ok_isb F_Bindings_is_bound S hc_Bindings_is_bound TB_Bindings_is_bound hP_Bindings_is_bound, c_Bindings, m_Bindings_is_bound, b_Bindings_is_bound⟩
  have M_match : Mt pwL w K mg base (TLL K) (ga K "Bindings") "match" 2 (r_match (ga K "Bindings")) := ⟨_, _, _, ok_match F_Bindings_match M_of_node G_is_prefix, c_Bindings, m_Bindings_match, b_Bindings_match⟩
  have M_bind : MtM pwL w K mg base (TLL K) (ga K "Bindings") "bind" 3 (r_bind (ga K "Bindings") (ga K "Refused")) := ⟨_, _, _, ok_bind F_Bindings_bind S GR M_of_node G_is_prefix, c_Bindings, m_Bindings_bind, b_Bindings_bind⟩
  have M_unbind : MtM pwL w K mg base (TLL K) (ga K "Bindings") "unbind" 1 (r_unb (ga K "Bindings")) := ⟨_, _, _, ok_unb F_Bindings_unbind S, c_Bindings, m_Bindings_unbind, b_Bindings_unbind⟩
  have M_drop : MtM pwL w K mg base (TLL K) (ga K "Bindings") "drop" 1 (r_drop (ga K "Bindings")) := ⟨_, _, _, ok_drop F_Bindings_drop S, c_Bindings, m_Bindings_drop, b_Bindings_drop⟩
  have G_law_cell : Fn pwL w K mg base (TLL K) "_law_cell" 1 r_cell := ⟨_, _, _, ok_cell F_law_cell n_len, g__law_cell, F_law_cell.kp, b_law_cell⟩
  have G_law_draws : Fn pwL w K mg base (TLL K) "_law_draws" 1 r_draws := ⟨_, _, _, ok_draws F_law_draws n_int n_range, g__law_draws, F_law_draws.kp, b_law_draws⟩
  have G_law_strokes : Fn pwL w K mg base (TLL K) "_law_strokes" 1 r_lstr := ⟨_, _, _, ok_lstr F_law_strokes n_int n_range n_tuple, g__law_strokes, F_law_strokes.kp, b_law_strokes⟩
  have G_law_begins : Fn pwL w K mg base (TLL K) "_law_begins" 1 r_isp := ⟨_, _, _, ok_lbegins F_law_begins n_len, g__law_begins, F_law_begins.kp, b_law_begins⟩
  have G_law_match : Fn pwL w K mg base (TLL K) "_law_match" 2 r_lmatch := ⟨_, _, _, ok_lmatch F_law_match G_law_begins, g__law_match, F_law_match.kp, b_law_match⟩
  have G_law_told : FnM pwL w K mg base (TLL K) "_law_told" 4 (r_told (ga K "Bindings") (ga K "Refused")) := ⟨_, _, _, ok_ltold F_law_told S2 M_bind, g__law_told, F_law_told.kp, b_law_told⟩
  have G_law_bound : FnM pwL w K mg base (TLL K) "_law_bound" 2 r_bound := ⟨_, _, _, ok_lbound F_law_bound n_len G_law_begins, g__law_bound, F_law_bound.kp, b_law_bound⟩
  have G_law_is_it : Fn pwL w K mg base (TLL K) "_law_is_it" 3 (r_isit (ga K "Bindings")) := ⟨_, _, _, ok_isit (CR := ga K "Refused") F_law_is_it n_len { count := M_count, of := M_of, mat := M_match, isb := M_is_bound, lmat := G_law_match }, g__law_is_it, F_law_is_it.kp, b_law_is_it⟩
  have G_mk : MkM pwL w K mg base (TLL K) "Bindings" (ga K "Bindings") 1 (r_init (ga K "Bindings")) := ⟨_, _, _, ok_init F_Bindings_init S, g_Bindings, k_Bindings, b_Bindings_init⟩
  exact ok_law F_law { cell := G_law_cell, draws := G_law_draws, lstr := G_law_strokes, mkB := G_mk, told := G_law_told, bound := G_law_bound, unb := M_unbind, drop := M_drop, isit := G_law_is_it } { ran := n_range, int := n_int, len := n_len, str := n_str, isi := n_isinstance, bool := n_bool }
end Kf.L
open PySem PySem.W PySem.Calls PyProof.Rows
theorem PySem.Challenge.cw_keyfocus_k40_bindings_holds : PySem.Challenge.rw_keyfocus_k40_bindings.Holds := by
  w_on; o_law
  refine HandSHeadRun.head_any (r := OpenLaw.row PySem.Challenge.rw_keyfocus_k40_bindings) (q := Kf.L.qL) (H := Kf.L.hkL) (ob := Kf.L.obL) (M := Kf.L.stL) (loose := Kf.L.looL) (d := HandSHeadRun.topDef (OpenLaw.row PySem.Challenge.rw_keyfocus_k40_bindings).prog 18) (kwd := []) Kf.L.obL_eq
    (by kernel_rfl) (fun s => by kernel_rfl) Kf.L.runL (by kernel_rfl) (by kernel_rfl) (by kernel_rfl) (by rfl) (by first | assumption | decide +kernel) (by decide +kernel) ⟨rfl, rfl, rfl, rfl, rfl, by decide +kernel⟩ ?hw ?hc
  case hw => w_witness2
  case hc =>
    refine Kf.end_law (l := PySem.Challenge.rw_keyfocus_k40_bindings) (k := 6) (x := "_law_script") rfl (by kernel_rfl) ⟨rfl, by decide, by decide⟩ ?F
    intro w mg fa h Y G hmg0
    obtain ⟨K, KX, c⟩ := Y
    have hmg : mg ("law" : PySem.Str) = some (.ref fa) := by
      have e : (HandSHeadRun.topDef (OpenLaw.row PySem.Challenge.rw_keyfocus_k40_bindings).prog 18).name = ("law" : PySem.Str) := by kernel_rfl
      rw [← e]
      exact hmg0
    exact ⟨K, KX, Kf.L.facts KX G hmg c⟩
